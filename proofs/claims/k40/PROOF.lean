import PyProof.Rows.All
import Wide.All
import OpenK.AllK
import Wide.FinOn
import HandS.ForMost
import HandS.ForExc
import HandS.Evl
import HandS.AnyAll
import HandS.TupAny
import HandS.TupMul
import HandS.IsInst
import HandS.Style
import HandS.Conv
import HandS.StrMore
import HandS.Codes
import HandS.Deep
import HandS.SortInts
import HandS.Wide
import HandS.Zip
import HandS.Rev
import PyProof.P3In
import HandS.Text
import PyProof.WalksMore
import HandS.More
import HandS.Walk
import HandS.TryOnly
import HandS.Flow
import HandS.GenList
import HandS.Lambda
import HandS.RevTup
import HandS.Defaults
import HandS.HeadWalk
import HandS.HeadHook4
import HandS.SortRule
import HandS.Star
import KE.GoesMore
import KE.DataFind
import PyProof.Draws
import PyProof.EnumMake
import HandS.Sort
import PyProof.ZipIter
import PyProof.CollectIter
import PyProof.TupleOfSeq
import PyProof.TupleIter
import HandS.ExcValue
import HandS.Head2
import PySem.Challenge.RW_lostastold_k40_whole_towers_and_what_the
set_option Elab.async false
set_option linter.all false
set_option maxRecDepth 100000
/-! The value layer: data, store, what stands for what, results, judgements. -/
namespace M
open PySem PySem.Spec PyProof.Rows L2

/-- data: immutable values (lst: a list that nobody changes; fro: one that is locked from outside, as the script), and loc n: the n-th mutable object of the store -/
inductive D where
  | non | bl (b : Bool) | int (i : Int) | str (x : Str) | tup (xs : List D) | lst (xs : List D) | fro (xs : List D) | loc (n : Nat) | ref (a : Addr) | ty (n : String) | rng (lo hi : Int)
  deriving Inhabited
/-- a mutable object -/
inductive OB where
  | lst (xs : List D)
abbrev Store := List OB
abbrev Env := List (Option D)
/-- where the objects of the store stand; what is hidden: lists that are being made -/
structure Rh where
  l : List Addr
  h : List Addr
/-- the tables of code objects of the defs -/
class Tabs where
  t : List Addr
variable [Tabs]

/-- a list of the head's -/
def KL (K : PySem.W.Frag) (a : Addr) (xs : List V) : Prop := ∃ (o : Obj) (its : Array Value) (n : Nat), K.lookup a = some o ∧ o.cls = .type "list" ∧ o.dict = none ∧ o.data = .seq its n ∧ its.size ≤ sizeLine ∧ Vals xs its.toList
mutual
inductive RepD (K : PySem.W.Frag) (ρ : Rh) (H : Hp) : D → V → Prop
  | non : RepD K ρ H .non .non
  | bl (b : Bool) : RepD K ρ H (.bl b) (.bl b)
  | int (i : Int) : RepD K ρ H (.int i) (.int i)
  | str (x : Str) : RepD K ρ H (.str x) (.str x)
  | tup {a : Addr} {vs : List V} {ds : List D} : SqT K H a vs → RepDs K ρ H ds vs → RepD K ρ H (.tup ds) (.ref a)
  | lst {a : Addr} {vs : List V} {ds : List D} : H a = some (.lst vs) → a ∉ ρ.l → a ∉ ρ.h → RepDs K ρ H ds vs → RepD K ρ H (.lst ds) (.ref a)
  | fro {a : Addr} {vs : List V} {ds : List D} : Rd H a (.lst vs) → a ∉ ρ.l → a ∉ ρ.h → RepDs K ρ H ds vs → RepD K ρ H (.fro ds) (.ref a)
  | frk {a : Addr} {vs : List V} {ds : List D} : KL K a vs → RepDs K ρ H ds vs → RepD K ρ H (.fro ds) (.ref a)
  | loc {n : Nat} {a : Addr} : ρ.l[n]? = some a → RepD K ρ H (.loc n) (.ref a)
  | ref (a : Addr) : RepD K ρ H (.ref a) (.ref a)
  | ty (n : String) : RepD K ρ H (.ty n) (.ty n)
  | rng {a : Addr} {lo hi : Int} : H a = some (.rng lo hi) → RepD K ρ H (.rng lo hi) (.ref a)
inductive RepDs (K : PySem.W.Frag) (ρ : Rh) (H : Hp) : List D → List V → Prop
  | nil : RepDs K ρ H [] []
  | cons {d : D} {ds : List D} {v : V} {vs : List V} : RepD K ρ H d v → RepDs K ρ H ds vs → RepDs K ρ H (d :: ds) (v :: vs)
end

/-- an object of the store stands at a -/
def ObRel (K : PySem.W.Frag) (ρ : Rh) (H : Hp) (a : Addr) : OB → Prop
  | .lst ds => ∃ vs, H a = some (.lst vs) ∧ RepDs K ρ H ds vs
/-- the object at c is a code object whose table stands at P -/
def CodeX (c P : Addr) : HO := .ext fun h => PySem.W.CodeHd h c P
/-- a table of code objects, each with its own table -/
def TabN (H : Hp) (P : Addr) : Prop := ∃ ps : Array Value, H P = some (.tbl ps) ∧ TriplesOk ps.toList ∧ ∀ (pos : Pos) (cv : Value), codeAmong pos ps.toList = some cv → ∃ c P' qs, cv = .ref c ∧ H c = some (CodeX c P') ∧ H P' = some (.tbl qs) ∧ TriplesOk qs.toList
theorem tabN_upd {H : Hp} {a p : Addr} {o : HO} (t : TabN H a) (hp : ∀ o', H p = some o' → ∃ vs, o' = .lst vs) : TabN (upd H p o) a := by
  obtain ⟨ps, e, k, d⟩ := t
  have ne : ∀ b u, H b = some u → (∀ vs, u ≠ .lst vs) → b ≠ p := fun b u e n z => by
    rw [z] at e
    obtain ⟨vs, q⟩ := hp u e
    exact n vs q
  refine ⟨ps, by rw [upd_ne (ne a _ e fun _ z => by cases z)]; exact e, k, fun pos cv hc => ?_⟩
  obtain ⟨c, P', qs, h1, h2, h3, h4⟩ := d pos cv hc
  exact ⟨c, P', qs, h1, by rw [upd_ne (ne c _ h2 fun _ z => by cases z)]; exact h2, by rw [upd_ne (ne P' _ h3 fun _ z => by cases z)]; exact h3, h4⟩
/-- H' b is no table -/
abbrev NT (o : HO) : Prop := ∀ ps, o ≠ .tbl ps
structure Rel (K : PySem.W.Frag) (ρ : Rh) (H : Hp) (S : Store) : Prop where
  len : ρ.l.length = S.length
  nd : ρ.l.Nodup
  at_ : ∀ (n : Nat) (o : OB) (a : Addr), S[n]? = some o → ρ.l[n]? = some a → ObRel K ρ H a o
  hid : ∀ a ∈ ρ.h, ∃ vs, H a = some (.lst vs)
  tab : ∀ a ∈ Tabs.t, TabN H a
/-- the heap has grown; only what ρ tells of may have changed -/
structure Fr (ρ : Rh) (H : Hp) (ρ' : Rh) (H' : Hp) : Prop where
  new : ∃ l, ρ' = ⟨ρ.l ++ l, ρ.h⟩ ∧ ∀ a ∈ l, H a = none
  keep : ∀ a o, H a = some o → a ∉ ρ.l → NT o → H' a = some o
  live : ∀ a o, H a = some o → ∃ o', H' a = some o'
def EnvRel (K : PySem.W.Frag) (ρ : Rh) (H : Hp) (σ : L2.St) (e : Env) : Prop :=
  σ.length = e.length ∧ ∀ (i : Nat) (d : D), e[i]? = some (some d) → ∃ v, σ[i]? = some (some v) ∧ RepD K ρ H d v

theorem Fr.refl (ρ : Rh) (H : Hp) : Fr ρ H ρ H := ⟨⟨[], by simp, by simp⟩, fun _ _ h _ _ => h, fun a o h => ⟨o, h⟩⟩
theorem Fr.trans {ρ ρ1 ρ2 : Rh} {H H1 H2 : Hp} (f : Fr ρ H ρ1 H1) (g : Fr ρ1 H1 ρ2 H2) : Fr ρ H ρ2 H2 := by
  obtain ⟨l, rfl, hl⟩ := f.new
  obtain ⟨k, rfl, hk⟩ := g.new
  refine ⟨⟨l ++ k, by simp, fun a m => ?_⟩, fun a o h n nt => g.keep a o (f.keep a o h n nt) (fun m => ?_) nt, fun a o h => ?_⟩
  · rcases List.mem_append.mp m with m | m
    · exact hl a m
    · cases q : H a with
      | none => rfl
      | some o =>
        obtain ⟨o', z⟩ := f.live a o q
        rw [hk a m] at z; cases z
  · rcases List.mem_append.mp m with m | m
    · exact n m
    · rw [hl a m] at h; cases h
  · obtain ⟨o', z⟩ := f.live a o h
    exact g.live a o' z
/-- a new object that the store does not tell of -/
theorem Fr.laid {ρ : Rh} {H : Hp} {p : Addr} {o : HO} (h : H p = none) : Fr ρ H ρ (upd H p o) :=
  ⟨⟨[], by simp, by simp⟩, fun a u e _ _ => by rw [upd_ne (ne_of_none e h)]; exact e, fun a u e => ⟨u, by rw [upd_ne (ne_of_none e h)]; exact e⟩⟩
/-- .. that it tells of from now on -/
theorem Fr.laidL {ρ : Rh} {H : Hp} {p : Addr} {o : HO} (h : H p = none) : Fr ρ H ⟨ρ.l ++ [p], ρ.h⟩ (upd H p o) :=
  ⟨⟨[p], rfl, by simpa using h⟩, fun a u e _ _ => by rw [upd_ne (ne_of_none e h)]; exact e, fun a u e => ⟨u, by rw [upd_ne (ne_of_none e h)]; exact e⟩⟩
/-- an object of the store is changed -/
theorem Fr.put {ρ : Rh} {H : Hp} {p : Addr} {o : HO} (h : p ∈ ρ.l) : Fr ρ H ρ (upd H p o) :=
  ⟨⟨[], by simp, by simp⟩, fun a u e n _ => by
    have z : a ≠ p := fun z => n (by rw [z]; exact h)
    rw [upd_ne z]; exact e, fun a u e => by
    by_cases z : a = p
    · exact ⟨o, by rw [z, upd_same]⟩
    · exact ⟨u, by rw [upd_ne z]; exact e⟩⟩
theorem Fr.at_ {ρ ρ' : Rh} {H H' : Hp} (f : Fr ρ H ρ' H') {n : Nat} {a : Addr} (h : ρ.l[n]? = some a) : ρ'.l[n]? = some a := by
  obtain ⟨l, rfl, _⟩ := f.new
  show (ρ.l ++ l)[n]? = some a
  rw [List.getElem?_append_left (List.getElem?_eq_some_iff.mp h).1]; exact h

theorem Fr.hid {ρ ρ' : Rh} {H H' : Hp} (f : Fr ρ H ρ' H') : ρ'.h = ρ.h := by obtain ⟨l, rfl, _⟩ := f.new; rfl
/-- what ρ tells of is no tuple -/
def Free (ρ : Rh) (H : Hp) : Prop := ∀ a ∈ ρ.l, ∃ vs, H a = some (.lst vs)
theorem Rel.free {K : PySem.W.Frag} {ρ : Rh} {H : Hp} {S : Store} (r : Rel K ρ H S) : Free ρ H := fun a m => by
  obtain ⟨n, hn, e⟩ := List.mem_iff_getElem.mp m
  have e1 : ρ.l[n]? = some a := List.getElem?_eq_some_iff.mpr ⟨hn, e⟩
  have hs : n < S.length := by rw [← r.len]; exact hn
  have q := r.at_ n S[n] a (List.getElem?_eq_getElem hs) e1
  cases h : S[n] with
  | lst ds => rw [h] at q; obtain ⟨vs, z, _⟩ := q; exact ⟨vs, z⟩
theorem sqt_fr {K : PySem.W.Frag} {ρ ρ' : Rh} {H H' : Hp} (F : Free ρ H) (f : Fr ρ H ρ' H') {a : Addr} {vs : List V} (h : SqT K H a vs) : SqT K H' a vs := by
  have key : ∀ o, H a = some o → (∀ ws, o ≠ .lst ws) → NT o → H' a = some o := fun o e ne nt => f.keep a o e (fun m => by
    obtain ⟨ws, z⟩ := F a m
    rw [e] at z
    exact ne ws (Option.some.inj z)) nt
  rcases h with (h | ⟨o, h⟩) | h
  · exact .inl (.inl (key _ h (fun ws z => by cases z) fun ps z => by cases z))
  · exact .inl (.inr ⟨o, key _ h (fun ws z => by cases z) fun ps z => by cases z⟩)
  · exact .inr h
theorem rd_fr {ρ ρ' : Rh} {H H' : Hp} (f : Fr ρ H ρ' H') {a : Addr} {ws : List V} (h : Rd H a (.lst ws)) (n : a ∉ ρ.l) : Rd H' a (.lst ws) ∧ a ∉ ρ'.l := by
  obtain ⟨l, rfl, hl⟩ := f.new
  have nn : ∀ o, H a = some o → a ∉ ρ.l ++ l := fun o e m => by
    rcases List.mem_append.mp m with m | m
    · exact n m
    · rw [hl a m] at e; cases e
  rcases h with h | ⟨o, h⟩
  · exact ⟨.inl (f.keep a _ h n fun ps z => by cases z), nn _ h⟩
  · exact ⟨.inr ⟨o, f.keep a _ h n fun ps z => by cases z⟩, nn _ h⟩
mutual
theorem RepD.fr {K : PySem.W.Frag} {ρ ρ' : Rh} {H H' : Hp} (F : Free ρ H) (f : Fr ρ H ρ' H') : ∀ (d : D) (v : V), RepD K ρ H d v → RepD K ρ' H' d v
  | .non, _, h => by cases h; exact .non
  | .bl b, _, h => by cases h; exact .bl b
  | .int i, _, h => by cases h; exact .int i
  | .str x, _, h => by cases h; exact .str x
  | .tup ds, _, h => by
    cases h with
    | tup hs hd => exact .tup (sqt_fr F f hs) (RepDs.fr F f ds _ hd)
  | .lst ds, _, h => by
    cases h with
    | lst hs hn hh hd =>
      obtain ⟨_, b⟩ := rd_fr f (Rd.of hs) hn
      exact .lst (f.keep _ _ hs hn fun ps z => by cases z) b (by rw [f.hid]; exact hh) (RepDs.fr F f ds _ hd)
  | .fro ds, _, h => by
    cases h with
    | fro hs hn hh hd =>
      obtain ⟨a, b⟩ := rd_fr f hs hn
      exact .fro a b (by rw [f.hid]; exact hh) (RepDs.fr F f ds _ hd)
    | frk hk hd => exact .frk hk (RepDs.fr F f ds _ hd)
  | .loc n, _, h => by
    cases h with
    | loc e => exact .loc (f.at_ e)
  | .ref a, _, h => by cases h; exact .ref a
  | .ty n, _, h => by cases h; exact .ty n
  | .rng lo hi, _, h => by
    cases h with
    | rng hs => exact .rng (f.keep _ _ hs (fun m => by
        obtain ⟨ws, z⟩ := F _ m
        rw [hs] at z
        cases z) fun ps z => by cases z)
theorem RepDs.fr {K : PySem.W.Frag} {ρ ρ' : Rh} {H H' : Hp} (F : Free ρ H) (f : Fr ρ H ρ' H') : ∀ (ds : List D) (vs : List V), RepDs K ρ H ds vs → RepDs K ρ' H' ds vs
  | [], _, h => by cases h; exact .nil
  | d :: ds, _, h => by
    cases h with
    | cons h1 h2 => exact .cons (RepD.fr F f d _ h1) (RepDs.fr F f ds _ h2)
end
theorem EnvRel.fr {K : PySem.W.Frag} {ρ ρ' : Rh} {H H' : Hp} {σ : L2.St} {e : Env} (F : Free ρ H) (f : Fr ρ H ρ' H') (h : EnvRel K ρ H σ e) : EnvRel K ρ' H' σ e :=
  ⟨h.1, fun i d q => let ⟨v, a, b⟩ := h.2 i d q; ⟨v, a, RepD.fr F f d v b⟩⟩
section
variable {K : PySem.W.Frag} {ρ : Rh} {H : Hp} {ds es : List D} {vs ws : List V}
theorem RepDs.length : ∀ {ds : List D} {vs : List V}, RepDs K ρ H ds vs → ds.length = vs.length
  | [], _, h => by cases h; rfl
  | _ :: ds, _, h => by
    cases h with
    | cons h1 h2 => simp [RepDs.length h2]
theorem RepDs.get : ∀ {ds : List D} {vs : List V} {i : Nat} {d : D}, RepDs K ρ H ds vs → ds[i]? = some d → ∃ v, vs[i]? = some v ∧ RepD K ρ H d v
  | [], _, _, _, h, e => by simp at e
  | d :: ds, _, 0, _, h, e => by
    cases h with
    | cons h1 h2 => simp at e; subst e; exact ⟨_, rfl, h1⟩
  | d :: ds, _, i + 1, _, h, e => by
    cases h with
    | cons h1 h2 =>
      obtain ⟨v, a, b⟩ := RepDs.get (i := i) h2 (by simpa using e)
      exact ⟨v, by simpa using a, b⟩
theorem RepDs.getV : ∀ {ds : List D} {vs : List V} {i : Nat} {v : V}, RepDs K ρ H ds vs → vs[i]? = some v → ∃ d, ds[i]? = some d ∧ RepD K ρ H d v := fun {ds vs i v} h e => by
  have hl := h.length
  have hi : i < ds.length := by rw [hl]; exact (List.getElem?_eq_some_iff.mp e).1
  obtain ⟨w, a, b⟩ := h.get (List.getElem?_eq_getElem hi)
  rw [e] at a; cases a
  exact ⟨_, List.getElem?_eq_getElem hi, b⟩
theorem RepDs.append : ∀ {ds es : List D} {vs ws : List V}, RepDs K ρ H ds vs → RepDs K ρ H es ws → RepDs K ρ H (ds ++ es) (vs ++ ws)
  | [], _, _, _, h, g => by cases h; exact g
  | _ :: _, _, _, _, h, g => by
    cases h with
    | cons h1 h2 => exact .cons h1 (RepDs.append h2 g)
theorem RepDs.take : ∀ {ds : List D} {vs : List V} (n : Nat), RepDs K ρ H ds vs → RepDs K ρ H (ds.take n) (vs.take n)
  | _, _, 0, _ => by simp; exact .nil
  | [], _, n + 1, h => by cases h; exact .nil
  | _ :: _, _, n + 1, h => by
    cases h with
    | cons h1 h2 => exact .cons h1 (RepDs.take n h2)
theorem RepDs.drop : ∀ {ds : List D} {vs : List V} (n : Nat), RepDs K ρ H ds vs → RepDs K ρ H (ds.drop n) (vs.drop n)
  | _, _, 0, h => by simpa using h
  | [], _, n + 1, h => by cases h; exact .nil
  | _ :: _, _, n + 1, h => by
    cases h with
    | cons h1 h2 => exact RepDs.drop n h2
theorem RepDs.set {d : D} {v : V} (r : RepD K ρ H d v) : ∀ {ds : List D} {vs : List V} (i : Nat), RepDs K ρ H ds vs → RepDs K ρ H (ds.set i d) (vs.set i v)
  | [], _, _, h => by cases h; exact .nil
  | _ :: _, _, 0, h => by
    cases h with
    | cons h1 h2 => exact .cons r h2
  | _ :: _, _, i + 1, h => by
    cases h with
    | cons h1 h2 => exact .cons h1 (RepDs.set r i h2)
theorem RepDs.of_get : ∀ {ds : List D} {vs : List V}, ds.length = vs.length → (∀ (i : Nat) (d : D) (v : V), ds[i]? = some d → vs[i]? = some v → RepD K ρ H d v) → RepDs K ρ H ds vs
  | [], [], _, _ => .nil
  | [], _ :: _, h, _ => by simp at h
  | _ :: _, [], h, _ => by simp at h
  | d :: ds, v :: vs, h, q => .cons (q 0 d v rfl rfl) (RepDs.of_get (by simpa using h) fun i e w a b => q (i + 1) e w (by simpa using a) (by simpa using b))
theorem RepDs.reverse (h : RepDs K ρ H ds vs) : RepDs K ρ H ds.reverse vs.reverse := by
  have hl := h.length
  refine .of_get (by simp [hl]) fun i d v a b => ?_
  have hi : i < ds.length := by have := (List.getElem?_eq_some_iff.mp a).1; simpa using this
  rw [List.getElem?_reverse hi] at a
  rw [List.getElem?_reverse (by omega)] at b
  obtain ⟨w, c, r⟩ := h.get a
  rw [hl, b] at c; cases c
  exact r
theorem RepD.inj_int {i : Int} {v : V} (h : RepD K ρ H (.int i) v) : v = .int i := by cases h; rfl
theorem RepD.inj_str {x : Str} {v : V} (h : RepD K ρ H (.str x) v) : v = .str x := by cases h; rfl
theorem RepD.inj_bl {b : Bool} {v : V} (h : RepD K ρ H (.bl b) v) : v = .bl b := by cases h; rfl
theorem RepD.inj_non {v : V} (h : RepD K ρ H .non v) : v = .non := by cases h; rfl
theorem RepDs.ints : ∀ {ns : List Int} {vs : List V}, RepDs K ρ H (ns.map D.int) vs → vs = ns.map V.int
  | [], _, h => by cases h; rfl
  | n :: ns, _, h => by
    cases h with
    | cons h1 h2 => rw [h1.inj_int, RepDs.ints h2]; rfl
theorem RepDs.strs : ∀ {ns : List Str} {vs : List V}, RepDs K ρ H (ns.map D.str) vs → vs = ns.map V.str
  | [], _, h => by cases h; rfl
  | n :: ns, _, h => by
    cases h with
    | cons h1 h2 => rw [h1.inj_str, RepDs.strs h2]; rfl
theorem RepDs.of_ints : ∀ (ns : List Int), RepDs K ρ H (ns.map D.int) (ns.map V.int)
  | [] => .nil
  | n :: ns => .cons (.int n) (RepDs.of_ints ns)
theorem RepDs.of_strs : ∀ (ns : List Str), RepDs K ρ H (ns.map D.str) (ns.map V.str)
  | [] => .nil
  | n :: ns => .cons (.str n) (RepDs.of_strs ns)
end

/-! ### the relation under the heap's steps -/
section
variable {K : PySem.W.Frag} {ρ : Rh} {H : Hp} {S : Store}
theorem ObRel.fr {ρ' : Rh} {H' : Hp} {a : Addr} {o : OB} (F : Free ρ H) (f : Fr ρ H ρ' H') (h : ObRel K ρ H a o) (k : ∀ u, H a = some u → H' a = some u) : ObRel K ρ' H' a o := by
  cases o with
  | lst ds => obtain ⟨vs, e, r⟩ := h; exact ⟨vs, k _ e, RepDs.fr F f ds vs r⟩
theorem tabG_laid {a p : Addr} {o : HO} (t : TabN H a) (h : H p = none) : TabN (upd H p o) a := tabN_upd t fun o' e => by rw [h] at e; cases e
theorem Rel.laid (r : Rel K ρ H S) {p : Addr} {o : HO} (h : H p = none) : Rel K ρ (upd H p o) S :=
  ⟨r.len, r.nd, fun n u a e1 e2 => (r.at_ n u a e1 e2).fr r.free (Fr.laid h) fun w q => by rw [upd_ne (ne_of_none q h)]; exact q, fun a m => let ⟨vs, z⟩ := r.hid a m; ⟨vs, by rw [upd_ne (ne_of_none z h)]; exact z⟩, fun a m => tabG_laid (r.tab a m) h⟩
theorem Rel.lt (r : Rel K ρ H S) {n : Nat} {o : OB} (e : S[n]? = some o) : ∃ a, ρ.l[n]? = some a ∧ a ∈ ρ.l ∧ ObRel K ρ H a o := by
  have hn : n < ρ.l.length := by rw [r.len]; exact (List.getElem?_eq_some_iff.mp e).1
  exact ⟨ρ.l[n], List.getElem?_eq_getElem hn, List.getElem_mem hn, r.at_ n o _ e (List.getElem?_eq_getElem hn)⟩
theorem Rel.laidL (r : Rel K ρ H S) {p : Addr} {vs : List V} {ds : List D} (h : H p = none) (q : RepDs K ρ H ds vs) : Rel K ⟨ρ.l ++ [p], ρ.h⟩ (upd H p (.lst vs)) (S ++ [.lst ds]) := by
  have np : p ∉ ρ.l := fun m => by obtain ⟨ws, z⟩ := r.free p m; rw [h] at z; cases z
  have f : Fr ρ H ⟨ρ.l ++ [p], ρ.h⟩ (upd H p (.lst vs)) := Fr.laidL h
  refine ⟨by simp [r.len], ?_, fun n u a e1 e2 => ?_, fun a m => let ⟨vs, z⟩ := r.hid a m; ⟨vs, by rw [upd_ne (ne_of_none z h)]; exact z⟩, fun a m => tabG_laid (r.tab a m) h⟩
  · show (ρ.l ++ [p]).Nodup
    rw [List.nodup_append]
    exact ⟨r.nd, by simp, fun a ha b hb => by simp at hb; subst hb; rintro rfl; exact np ha⟩
  · have e2 : (ρ.l ++ [p])[n]? = some a := e2
    by_cases hn : n < S.length
    · rw [List.getElem?_append_left hn] at e1
      rw [List.getElem?_append_left (by rw [r.len]; exact hn)] at e2
      exact (r.at_ n u a e1 e2).fr r.free f fun w q => by rw [upd_ne (ne_of_none q h)]; exact q
    · rw [List.getElem?_append_right (by omega)] at e1
      rw [List.getElem?_append_right (by rw [r.len]; omega)] at e2
      rw [r.len] at e2
      have h0 : n - S.length = 0 := by
        rcases Nat.eq_zero_or_pos (n - S.length) with z | z
        · exact z
        · rw [List.getElem?_eq_none (by simp; omega)] at e1; cases e1
      rw [h0] at e1 e2
      simp at e1 e2
      subst e1 e2
      exact ⟨vs, upd_same, RepDs.fr r.free f ds vs q⟩
theorem Rel.put (r : Rel K ρ H S) {n : Nat} {p : Addr} {vs : List V} {ds : List D} (hp : ρ.l[n]? = some p) (q : RepDs K ρ H ds vs) : Rel K ρ (upd H p (.lst vs)) (S.set n (.lst ds)) := by
  have hn : n < ρ.l.length := (List.getElem?_eq_some_iff.mp hp).1
  have mp : p ∈ ρ.l := List.mem_of_getElem? hp
  have f : Fr ρ H ρ (upd H p (.lst vs)) := Fr.put mp
  refine ⟨by simp [r.len], r.nd, fun m u a e1 e2 => ?_, fun a m => let ⟨ws, z⟩ := r.hid a m; by
    by_cases e : a = p
    · exact ⟨vs, by rw [e, upd_same]⟩
    · exact ⟨ws, by rw [upd_ne e]; exact z⟩, fun a m => by
    refine tabN_upd (r.tab a m) fun o' e => ?_
    obtain ⟨ws, q⟩ := r.free p mp
    rw [q] at e
    exact ⟨ws, (Option.some.inj e).symm⟩⟩
  by_cases hm : m = n
  · subst hm
    rw [hp] at e2; cases e2
    rw [List.getElem?_set_self (by rw [← r.len]; exact hn)] at e1
    cases e1
    exact ⟨vs, upd_same, RepDs.fr r.free f ds vs q⟩
  · rw [List.getElem?_set_ne (Ne.symm hm)] at e1
    have na : a ≠ p := fun z => hm (by
      subst z
      obtain ⟨h1, z1⟩ := List.getElem?_eq_some_iff.mp e2
      obtain ⟨h2, z2⟩ := List.getElem?_eq_some_iff.mp hp
      exact (List.getElem_inj r.nd).mp (z1.trans z2.symm))
    exact (r.at_ m u a e1 e2).fr r.free f fun w q => by rw [upd_ne na]; exact q
end

/-- with one more hidden -/
abbrev Rh.hide (ρ : Rh) (p : Addr) : Rh := ⟨ρ.l, p :: ρ.h⟩
/-! ### hidden lists -/
/-- what ρ' sees too -/
structure Sees (H : Hp) (ρ ρ' : Rh) : Prop where
  loc : ∀ (n : Nat) (a : Addr), ρ.l[n]? = some a → ρ'.l[n]? = some a
  out : ∀ (a : Addr) (vs : List V), Rd H a (.lst vs) → a ∉ ρ.l → a ∉ ρ.h → a ∉ ρ'.l ∧ a ∉ ρ'.h
mutual
theorem RepD.sees {K : PySem.W.Frag} {ρ ρ' : Rh} {H : Hp} (s : Sees H ρ ρ') : ∀ (d : D) (v : V), RepD K ρ H d v → RepD K ρ' H d v
  | .non, _, h => by cases h; exact .non
  | .bl b, _, h => by cases h; exact .bl b
  | .int i, _, h => by cases h; exact .int i
  | .str x, _, h => by cases h; exact .str x
  | .tup ds, _, h => by
    cases h with
    | tup hs hd => exact .tup hs (RepDs.sees s ds _ hd)
  | .lst ds, _, h => by
    cases h with
    | lst hs hn hh hd =>
      obtain ⟨a, b⟩ := s.out _ _ (Rd.of hs) hn hh
      exact .lst hs a b (RepDs.sees s ds _ hd)
  | .fro ds, _, h => by
    cases h with
    | fro hs hn hh hd =>
      obtain ⟨a, b⟩ := s.out _ _ hs hn hh
      exact .fro hs a b (RepDs.sees s ds _ hd)
    | frk hk hd => exact .frk hk (RepDs.sees s ds _ hd)
  | .loc n, _, h => by
    cases h with
    | loc e => exact .loc (s.loc _ _ e)
  | .ref a, _, h => by cases h; exact .ref a
  | .ty n, _, h => by cases h; exact .ty n
  | .rng lo hi, _, h => by
    cases h with
    | rng hs => exact .rng hs
theorem RepDs.sees {K : PySem.W.Frag} {ρ ρ' : Rh} {H : Hp} (s : Sees H ρ ρ') : ∀ (ds : List D) (vs : List V), RepDs K ρ H ds vs → RepDs K ρ' H ds vs
  | [], _, h => by cases h; exact .nil
  | d :: ds, _, h => by
    cases h with
    | cons h1 h2 => exact .cons (RepD.sees s d _ h1) (RepDs.sees s ds _ h2)
end
theorem EnvRel.sees {K : PySem.W.Frag} {ρ ρ' : Rh} {H : Hp} {σ : L2.St} {e : Env} (s : Sees H ρ ρ') (h : EnvRel K ρ H σ e) : EnvRel K ρ' H σ e :=
  ⟨h.1, fun i d q => let ⟨v, a, b⟩ := h.2 i d q; ⟨v, a, RepD.sees s d v b⟩⟩
theorem ObRel.sees {K : PySem.W.Frag} {ρ ρ' : Rh} {H : Hp} {a : Addr} {o : OB} (s : Sees H ρ ρ') (h : ObRel K ρ H a o) : ObRel K ρ' H a o := by
  cases o with
  | lst ds => obtain ⟨vs, e, r⟩ := h; exact ⟨vs, e, RepDs.sees s ds vs r⟩
section
variable {K : PySem.W.Frag} {ρ : Rh} {H : Hp} {S : Store} {p : Addr}
theorem rd_some {a : Addr} {u : HO} (h : Rd H a u) : H a ≠ none := by
  rcases h with h | ⟨o, h⟩ <;> (rw [h]; exact fun z => nomatch z)
theorem Sees.hide (h : H p = none) : Sees H ρ (ρ.hide p) := ⟨fun _ _ e => e, fun a vs r n m => ⟨n, fun z => by
  rcases List.mem_cons.mp z with z | z
  · rw [z] at r; exact rd_some r h
  · exact m z⟩⟩
theorem Sees.unhide : Sees H (ρ.hide p) ρ := ⟨fun _ _ e => e, fun a vs r n m => ⟨n, fun z => m (List.mem_cons_of_mem _ z)⟩⟩
theorem Sees.shown : Sees H (ρ.hide p) ⟨ρ.l ++ [p], ρ.h⟩ := ⟨fun n a e => by
    show (ρ.l ++ [p])[n]? = some a
    rw [List.getElem?_append_left (List.getElem?_eq_some_iff.mp e).1]; exact e,
  fun a vs r n m => ⟨fun z => by
    rcases List.mem_append.mp z with z | z
    · exact n z
    · rw [List.mem_singleton] at z
      exact m (by rw [z]; exact List.mem_cons_self), fun z => m (List.mem_cons_of_mem _ z)⟩⟩
/-- a new list is laid, hidden -/
theorem Rel.laidH (r : Rel K ρ H S) (h : H p = none) {vs : List V} : Rel K (ρ.hide p) (upd H p (.lst vs)) S := by
  have r2 := r.laid (o := .lst vs) h
  have np : p ∉ ρ.l := fun m => by obtain ⟨ws, z⟩ := r.free p m; rw [h] at z; cases z
  refine ⟨r.len, r.nd, fun n o a e1 e2 => ?_, fun a m => ?_, r2.tab⟩
  · have q := (r.at_ n o a e1 e2).sees (Sees.hide (p := p) h)
    have F : Free (ρ.hide p) H := r.free
    exact q.fr F (Fr.laid h) fun w q => by rw [upd_ne (ne_of_none q h)]; exact q
  · rcases List.mem_cons.mp m with m | m
    · exact ⟨vs, by rw [m, upd_same]⟩
    · exact r2.hid a m
theorem RepDs.laidH (r : Rel K ρ H S) (h : H p = none) {vs ws : List V} {ds : List D} (q : RepDs K ρ H ds ws) : RepDs K (ρ.hide p) (upd H p (.lst vs)) ds ws :=
  RepDs.fr (ρ := ρ.hide p) (show Free (ρ.hide p) H from r.free) (Fr.laid h) _ _ (RepDs.sees (Sees.hide h) _ _ q)
theorem EnvRel.laidH (r : Rel K ρ H S) (h : H p = none) {vs : List V} {σ : L2.St} {e : Env} (q : EnvRel K ρ H σ e) : EnvRel K (ρ.hide p) (upd H p (.lst vs)) σ e :=
  EnvRel.fr (ρ := ρ.hide p) (show Free (ρ.hide p) H from r.free) (Fr.laid h) (q.sees (Sees.hide h))
theorem Rel.unhide (r : Rel K (ρ.hide p) H S) : Rel K ρ H S := ⟨r.len, r.nd, fun n o a e1 e2 => (r.at_ n o a e1 e2).sees Sees.unhide, fun a m => r.hid a (List.mem_cons_of_mem _ m), r.tab⟩
theorem Rel.newh (r : Rel K ρ H S) (h : H p = none) : p ∉ ρ.l ∧ p ∉ ρ.h := by
  refine ⟨fun m => ?_, fun m => ?_⟩
  · obtain ⟨ws, z⟩ := r.free p m
    rw [h] at z; cases z
  · obtain ⟨ws, z⟩ := r.hid p m
    rw [h] at z; cases z
/-- a hidden list is shown: an object of the store from now on -/
theorem Rel.shown (r : Rel K (ρ.hide p) H S) (hp : p ∉ ρ.l) {vs : List V} {ds : List D} (e : H p = some (.lst vs)) (q : RepDs K (ρ.hide p) H ds vs) : Rel K ⟨ρ.l ++ [p], ρ.h⟩ H (S ++ [.lst ds]) := by
  refine ⟨by simpa using r.len, ?_, fun n u a e1 e2 => ?_, fun a m => r.hid a (List.mem_cons_of_mem _ m), r.tab⟩
  · show (ρ.l ++ [p]).Nodup
    rw [List.nodup_append]
    exact ⟨r.nd, by simp, fun a ha b hb => by simp at hb; subst hb; rintro rfl; exact hp ha⟩
  · have e2 : (ρ.l ++ [p])[n]? = some a := e2
    have hl : ρ.l.length = S.length := r.len
    by_cases hn : n < S.length
    · rw [List.getElem?_append_left hn] at e1
      rw [List.getElem?_append_left (by rw [hl]; exact hn)] at e2
      exact (r.at_ n u a e1 e2).sees Sees.shown
    · rw [List.getElem?_append_right (by omega)] at e1
      rw [List.getElem?_append_right (by rw [hl]; omega), hl] at e2
      have h0 : n - S.length = 0 := by
        rcases Nat.eq_zero_or_pos (n - S.length) with z | z
        · exact z
        · rw [List.getElem?_eq_none (by simp; omega)] at e1; cases e1
      rw [h0] at e1 e2
      simp at e1 e2
      subst e1 e2
      exact ⟨vs, e, RepDs.sees Sees.shown ds vs q⟩
theorem Fr.shown {ρ' : Rh} {H' : Hp} (f : Fr ρ H ρ' H') (h : H p = none) : Fr ρ H ⟨ρ'.l ++ [p], ρ'.h⟩ H' := by
  obtain ⟨l, rfl, hl⟩ := f.new
  refine ⟨⟨l ++ [p], by simp, fun a m => ?_⟩, f.keep, f.live⟩
  rcases List.mem_append.mp m with m | m
  · exact hl a m
  · rw [List.mem_singleton.mp m]; exact h
end

/-! ### results -/
inductive Res (α : Type) where
  | ok (a : α) (S : Store) | ex (c : Str) (S : Store) | bad
def Res.bind {α β : Type} (r : Res α) (f : α → Store → Res β) : Res β := match r with
  | .ok a S => f a S
  | .ex c S => .ex c S
  | .bad => .bad
@[simp] theorem Res.bind_ok {α β : Type} (a : α) (S : Store) (f : α → Store → Res β) : (Res.ok a S).bind f = f a S := rfl
@[simp] theorem Res.bind_ex {α β : Type} (c : Str) (S : Store) (f : α → Store → Res β) : (Res.ex c S : Res α).bind f = .ex c S := rfl
@[simp] theorem Res.bind_bad {α β : Type} (f : α → Store → Res β) : (Res.bad : Res α).bind f = .bad := rfl
abbrev ME := Env → Store → Res D
abbrev MT := Env → Store → Res Bool
abbrev MA := Env → Store → Res (List D)
inductive Fl where
  | nx | rt (d : D) | bk | ct | ex (c : Str)
/-- a statement: how it ends, the slots, the store; none: nothing is known -/
abbrev MS := Env → Store → Option (Fl × Env × Store)

/-! ### readings -/
section
variable (K : PySem.W.Frag) (mg : Str → Option Value) (W : WX)
/-- what a result must lead to: P of the value, the store, what ρ tells and the heap -/
def Post {α : Type} (P : α → Store → Rh → Hp → Prop) (ρ : Rh) (H : Hp) (σ : L2.St) : Res α → Prop
  | .ok a S' => ∀ ρ' H', Fr ρ H ρ' H' → Rel K ρ' H' S' → P a S' ρ' H'
  | .ex c S' => ∀ ρ' H' C, Fr ρ H ρ' H' → Rel K ρ' H' S' → mg c = some (.ref C) → W (.ref C) none σ H'
  | .bad => False
abbrev PostE (ρ : Rh) (H : Hp) (σ : L2.St) (Q : VK) : Res D → Prop := Post K mg W (fun d _ ρ' H' => ∀ v, RepD K ρ' H' d v → Q v H') ρ H σ
abbrev PostT (ρ : Rh) (H : Hp) (σ : L2.St) (Q : Bool → Hp → Prop) : Res Bool → Prop := Post K mg W (fun b _ _ H' => Q b H') ρ H σ
abbrev PostA (ρ : Rh) (H : Hp) (σ : L2.St) (Q : List V → Hp → Prop) : Res (List D) → Prop := Post K mg W (fun ds _ ρ' H' => ∀ vs, RepDs K ρ' H' ds vs → Q vs H') ρ H σ
def PostN (ρ : Rh) (H : Hp) (σ : L2.St) (Q : VK) : Res (List D) → Prop
  | .ok ds S' => ∀ ρ' H' p vs, Fr ρ H ρ' H' → Rel K (ρ'.hide p) H' S' → H p = none → p ∉ ρ'.l → H' p = some (.lst vs) → RepDs K (ρ'.hide p) H' ds vs → Q (.ref p) H'
  | .ex c S' => ∀ ρ' H' C, Fr ρ H ρ' H' → Rel K ρ' H' S' → mg c = some (.ref C) → W (.ref C) none σ H'
  | .bad => False
def PostS (ρ : Rh) (H : Hp) (Dn : Ends) : Option (Fl × Env × Store) → Prop
  | none => False
  | some (.nx, e', S') => ∀ ρ' H' σ', Fr ρ H ρ' H' → Rel K ρ' H' S' → EnvRel K ρ' H' σ' e' → Dn.nx σ' H'
  | some (.rt d, _, S') => ∀ ρ' H' v, Fr ρ H ρ' H' → Rel K ρ' H' S' → RepD K ρ' H' d v → Dn.rt v H'
  | some (.bk, e', S') => ∀ ρ' H' σ', Fr ρ H ρ' H' → Rel K ρ' H' S' → EnvRel K ρ' H' σ' e' → Dn.bk σ' H'
  | some (.ct, e', S') => ∀ ρ' H' σ', Fr ρ H ρ' H' → Rel K ρ' H' S' → EnvRel K ρ' H' σ' e' → Dn.ct σ' H'
  | some (.ex c, e', S') => ∀ ρ' H' σ' C, Fr ρ H ρ' H' → Rel K ρ' H' S' → EnvRel K ρ' H' σ' e' → mg c = some (.ref C) → W (.ref C) none σ' H'
def tE (m : ME) : TE := fun σ H Q => ∃ ρ e S, EnvRel K ρ H σ e ∧ Rel K ρ H S ∧ PostE K mg W ρ H σ Q (m e S)
def tN (m : MA) : TE := fun σ H Q => ∃ ρ e S, EnvRel K ρ H σ e ∧ Rel K ρ H S ∧ PostN K mg W ρ H σ Q (m e S)
def tT (m : MT) : TT := fun σ H Q => ∃ ρ e S, EnvRel K ρ H σ e ∧ Rel K ρ H S ∧ PostT K mg W ρ H σ Q (m e S)
def tA (m : MA) : TA := fun σ H Q => ∃ ρ e S, EnvRel K ρ H σ e ∧ Rel K ρ H S ∧ PostA K mg W ρ H σ Q (m e S)
def tS (m : MS) : TS := fun Dn σ H => ∃ ρ e S, EnvRel K ρ H σ e ∧ Rel K ρ H S ∧ PostS K mg W ρ H Dn (m e S)
end
section
variable {K : PySem.W.Frag} {mg : Str → Option Value} {W : WX} {ρ ρ1 : Rh} {H H1 : Hp} {σ : L2.St}
theorem Post.fr {α : Type} {P : α → Store → Rh → Hp → Prop} (f : Fr ρ H ρ1 H1) : ∀ {r : Res α}, Post K mg W P ρ H σ r → Post K mg W P ρ1 H1 σ r
  | .ok _ _, h => fun ρ' H' g => h ρ' H' (f.trans g)
  | .ex _ _, h => fun ρ' H' C g => h ρ' H' C (f.trans g)
  | .bad, h => h
theorem Post.mono {α : Type} {P P' : α → Store → Rh → Hp → Prop} : ∀ {r : Res α}, Post K mg W P ρ H σ r → (∀ a S ρ' H', Fr ρ H ρ' H' → Rel K ρ' H' S → P a S ρ' H' → P' a S ρ' H') → Post K mg W P' ρ H σ r
  | .ok _ _, h, k => fun ρ' H' g R => k _ _ _ _ g R (h ρ' H' g R)
  | .ex _ _, h, _ => h
  | .bad, h, _ => h
/-- one behind the other -/
theorem Post.bind {α β : Type} {P : β → Store → Rh → Hp → Prop} {f : α → Store → Res β} : ∀ {r : Res α}, Post K mg W P ρ H σ (r.bind f) → Post K mg W (fun a S1 ρ1 H1 => Post K mg W P ρ1 H1 σ (f a S1)) ρ H σ r
  | .ok _ _, h => fun ρ' H' g R => Post.fr g h
  | .ex _ _, h => h
  | .bad, h => h
theorem PostN.fr {Q : VK} (f : Fr ρ H ρ1 H1) : ∀ {r : Res (List D)}, PostN K mg W ρ H σ Q r → PostN K mg W ρ1 H1 σ Q r
  | .ok _ _, h => fun ρ' H' p vs g R n => h ρ' H' p vs (f.trans g) R (by
      cases q : H p with
      | none => rfl
      | some o => obtain ⟨o', z⟩ := f.live p o q; rw [n] at z; cases z)
  | .ex _ _, h => fun ρ' H' C g => h ρ' H' C (f.trans g)
  | .bad, h => h
theorem PostS.fr {Dn : Ends} (f : Fr ρ H ρ1 H1) : ∀ {r : Option (Fl × Env × Store)}, PostS K mg W ρ H Dn r → PostS K mg W ρ1 H1 Dn r
  | none, h => h
  | some (.nx, _, _), h => fun ρ' H' σ' g => h ρ' H' σ' (f.trans g)
  | some (.rt _, _, _), h => fun ρ' H' v g => h ρ' H' v (f.trans g)
  | some (.bk, _, _), h => fun ρ' H' σ' g => h ρ' H' σ' (f.trans g)
  | some (.ct, _, _), h => fun ρ' H' σ' g => h ρ' H' σ' (f.trans g)
  | some (.ex _, _, _), h => fun ρ' H' σ' C g => h ρ' H' σ' C (f.trans g)
end

/-! ### judgements -/
section
variable (X : Cx) (W : WX)
abbrev EM (e : Expr) (m : ME) : Prop := PE X e (tE X.K X.mg W m)
abbrev NM (e : Expr) (m : MA) : Prop := PE X e (tN X.K X.mg W m)
abbrev TM (e : Expr) (m : MT) : Prop := PT X e (tT X.K X.mg W m)
abbrev WM (e : Expr) (m : MT) : Prop := PW X e (tT X.K X.mg W m)
abbrev AM (es : List Expr) (m : MA) : Prop := PA X es (tA X.K X.mg W m)
abbrev SM (s : Stmt) (m : MS) : Prop := PS X s (tS X.K X.mg W m)
abbrev BM (b : List Stmt) (m : MS) : Prop := PSs X b (tS X.K X.mg W m)
end
section
variable {X : Cx} {e : Expr} {es : List Expr} {st : Stmt} {sts : List Stmt}
theorem pe_imp {t t' : TE} (h : PE X e t) (i : ∀ σ H Q, t' σ H Q → t σ H Q) : PE X e t' := ⟨fun pins s σ H Q I q => h.run pins s σ H Q I (i _ _ _ q)⟩
theorem pt_imp {t t' : TT} (h : PT X e t) (i : ∀ σ H Q, t' σ H Q → t σ H Q) : PT X e t' := ⟨fun pins s σ H Q I q => h.run pins s σ H Q I (i _ _ _ q)⟩
theorem pw_imp {t t' : TT} (h : PW X e t) (i : ∀ σ H Q, t' σ H Q → t σ H Q) : PW X e t' := ⟨fun wh pins s σ H Q I q => h.run wh pins s σ H Q I (i _ _ _ q)⟩
theorem pa_imp {t t' : TA} (h : PA X es t) (i : ∀ σ H Q, t' σ H Q → t σ H Q) : PA X es t' := ⟨fun pos pins s σ H Q I q => h.run pos pins s σ H Q I (i _ _ _ q)⟩
theorem ps_imp {t t' : TS} (h : PS X st t) (i : ∀ D σ H, t' D σ H → t D σ H) : PS X st t' := ⟨fun pins s σ H D I q => h.run pins s σ H D I (i _ _ _ q)⟩
theorem pss_imp {t t' : TS} (h : PSs X sts t) (i : ∀ D σ H, t' D σ H → t D σ H) : PSs X sts t' := ⟨fun pins s σ H D I q => h.run pins s σ H D I (i _ _ _ q)⟩
end
end M


set_option Elab.async false
set_option linter.all false
set_option maxRecDepth 100000
set_option maxHeartbeats 2000000
namespace M
open PySem PySem.Spec PyProof.Rows L2
variable [Tabs]

/-! ### reading lists -/
/-- the items of a list or of a tuple -/
def lstOf (S : Store) : D → Option (List D)
  | .lst xs => some xs
  | .fro xs => some xs
  | .loc n => match S[n]? with
    | some (.lst xs) => some xs
    | _ => none
  | _ => none
/-- .. of a list that is not locked -/
def lstOf' (S : Store) : D → Option (List D)
  | .lst xs => some xs
  | .loc n => match S[n]? with
    | some (.lst xs) => some xs
    | _ => none
  | _ => none
def seqOf (S : Store) : D → Option (List D)
  | .tup xs => some xs
  | d => lstOf S d
section
variable {K : PySem.W.Frag} {ρ : Rh} {H : Hp} {S : Store} {d : D} {v : V} {xs : List D}
theorem lstOf'_rep (R : Rel K ρ H S) (h : RepD K ρ H d v) (e : lstOf' S d = some xs) : ∃ a vs, v = .ref a ∧ H a = some (.lst vs) ∧ RepDs K ρ H xs vs := by
  cases d <;> simp only [lstOf'] at e <;> try cases e
  case lst => cases h with | lst a b b' c => exact ⟨_, _, rfl, a, c⟩
  case loc n =>
    cases h with
    | loc ha =>
      split at e
      · rename_i ys hs
        cases e
        obtain ⟨vs, q, r⟩ := R.at_ n _ _ hs ha
        exact ⟨_, vs, rfl, q, r⟩
      · cases e
theorem lstOf_rep (R : Rel K ρ H S) (h : RepD K ρ H d v) (e : lstOf S d = some xs) : ∃ a vs, v = .ref a ∧ SqL K H a vs ∧ RepDs K ρ H xs vs := by
  cases d <;> simp only [lstOf] at e <;> try cases e
  case lst => cases h with | lst a b b' c => exact ⟨_, _, rfl, .inl (Rd.of a), c⟩
  case fro => cases h with
    | fro a b b' c => exact ⟨_, _, rfl, .inl a, c⟩
    | frk a c => exact ⟨_, _, rfl, .inr a, c⟩
  case loc n =>
    cases h with
    | loc ha =>
      split at e
      · rename_i ys hs
        cases e
        obtain ⟨vs, q, r⟩ := R.at_ n _ _ hs ha
        exact ⟨_, vs, rfl, .inl (Rd.of q), r⟩
      · cases e
theorem seqOf_rep (R : Rel K ρ H S) (h : RepD K ρ H d v) (e : seqOf S d = some xs) : ∃ a vs, v = .ref a ∧ (SqL K H a vs ∨ SqT K H a vs) ∧ RepDs K ρ H xs vs := by
  by_cases ht : ∃ ys, d = .tup ys
  · obtain ⟨ys, rfl⟩ := ht
    simp only [seqOf] at e
    cases e
    cases h with | tup a b => exact ⟨_, _, rfl, .inr a, b⟩
  · have e' : lstOf S d = some xs := by
      cases d <;> first | exact e | exact absurd ⟨_, rfl⟩ ht
    obtain ⟨a, vs, h1, h2, h3⟩ := lstOf_rep R h e'
    exact ⟨a, vs, h1, .inl h2, h3⟩
end

/-! ### what a pure operation comes to -/
def PostV (K : PySem.W.Frag) (ρ : Rh) (H : Hp) (S : Store) (Q : VK) : Option D → Prop
  | some d => ∀ ρ' H', Fr ρ H ρ' H' → Rel K ρ' H' S → ∀ v, RepD K ρ' H' d v → Q v H'
  | none => False
def Res.of {α : Type} (o : Option α) (S : Store) : Res α := match o with
  | some d => .ok d S
  | none => .bad
@[simp] theorem Res.of_some {α : Type} (d : α) (S : Store) : Res.of (some d) S = .ok d S := rfl
@[simp] theorem Res.of_none {α : Type} (S : Store) : Res.of (none : Option α) S = .bad := rfl
section
variable {K : PySem.W.Frag} {mg : Str → Option Value} {W : WX} {ρ : Rh} {H : Hp} {S : Store} {σ : L2.St} {Q : VK}
theorem PostE.of {o : Option D} (h : PostE K mg W ρ H σ Q (Res.of o S)) : PostV K ρ H S Q o := by
  cases o with
  | none => exact h
  | some d => exact h
/-- a value that is there -/
theorem PostV.use (R : Rel K ρ H S) {d : D} {v : V} (r : RepD K ρ H d v) (h : PostV K ρ H S Q (some d)) : Q v H := h ρ H (Fr.refl _ _) R v r
/-- a new tuple, a new list by value -/
theorem PostV.newT (R : Rel K ρ H S) {ds : List D} {vs : List V} (r : RepDs K ρ H ds vs) (h : PostV K ρ H S Q (some (.tup ds))) : ∀ p, H p = none → Q (.ref p) (upd H p (.tup vs)) := fun p hp =>
  h ρ _ (Fr.laid hp) (R.laid hp) _ (.tup (SqT.of upd_same) (RepDs.fr R.free (Fr.laid hp) _ _ r))
theorem PostV.newL (R : Rel K ρ H S) {ds : List D} {vs : List V} (r : RepDs K ρ H ds vs) (h : PostV K ρ H S Q (some (.lst ds))) : ∀ p, H p = none → Q (.ref p) (upd H p (.lst vs)) := fun p hp =>
  h ρ _ (Fr.laid hp) (R.laid hp) _ (.lst upd_same (R.newh hp).1 (R.newh hp).2 (RepDs.fr R.free (Fr.laid hp) _ _ r))
end
/-- two values, a pure operation on them -/
abbrev DOp := D → D → Store → Option D
def OpD (X : Cx) (f : Value → Value → Sem Value) (g : DOp) : Prop :=
  ∀ (pins : List (Addr × Obj)) (s : Shared) (σ : L2.St) (ρ : Rh) (H : Hp) (S : Store) (dx dy : D) (vx vy : V) (ux uy : Value) (Q : VK), Inv X pins σ H s → Rel X.K ρ H S → RepD X.K ρ H dx vx → RepD X.K ρ H dy vy → RelV vx ux → RelV vy uy →
    PostV X.K ρ H S Q (g dx dy S) → wpAny (model X.prog X.w) X.A (f ux uy) (EP X pins σ Q) X.xe s
def rOpD (K : PySem.W.Frag) (g : DOp) : R2 := fun x y H Q => ∃ ρ S dx dy, Rel K ρ H S ∧ RepD K ρ H dx x ∧ RepD K ρ H dy y ∧ PostV K ρ H S Q (g dx dy S)
theorem OpD.r {X : Cx} {f : Value → Value → Sem Value} {g : DOp} (o : OpD X f g) : OpR X f (rOpD X.K g) := fun pins s σ H x y v u Q I rx ry ⟨ρ, S, dx, dy, R, r1, r2, q⟩ => o pins s σ ρ H S dx dy x y v u Q I R r1 r2 rx ry q

/-! ### expressions -/
def mVar (i : Nat) : ME := fun e S => match e[i]? with
  | some (some d) => .ok d S
  | _ => .bad
def mC (d : D) : ME := fun _ S => .ok d S
def mBin (g : DOp) (a b : ME) : ME := fun e S => (a e S).bind fun x S1 => (b e S1).bind fun y S2 => .of (g x y S2) S2
section
variable {X : Cx} {W : WX} {a b c : Expr} {ma mb mc : ME} {pos : Pos}
theorem em_var {e : Expr} {i : Nat} (h : PE X e (tVar i)) : EM X W e (mVar i) := pe_imp h fun σ H Q ⟨ρ, e, S, he, R, q⟩ => by
  unfold mVar at q
  split at q
  · rename_i d hd
    obtain ⟨v, h1, h2⟩ := he.2 i d hd
    exact ⟨v, h1, q ρ H (Fr.refl _ _) R v h2⟩
  · exact q.elim
theorem em_c {e : Expr} {v : V} {d : D} (h : PE X e (tC v)) (r : ∀ ρ H, RepD X.K ρ H d v) : EM X W e (mC d) := pe_imp h fun σ H Q ⟨ρ, e, S, he, R, q⟩ => q ρ H (Fr.refl _ _) R v (r ρ H)
theorem em_int {i : Int} {j pos} : EM X W (.Constant (.int i) j pos) (mC (.int i)) := em_c pe_int fun _ _ => .int i
theorem em_str {x : Str} {j pos} : EM X W (.Constant (.str x) j pos) (mC (.str x)) := em_c pe_str fun _ _ => .str x
theorem em_bl {b : Bool} {j pos} : EM X W (.Constant (.bool b) j pos) (mC (.bl b)) := em_c pe_bl fun _ _ => .bl b
theorem em_non {j pos} : EM X W (.Constant .none j pos) (mC .non) := em_c pe_non fun _ _ => .non
/-- two in a row -/
theorem tE_bin {g : D → D → Store → Res D} {r : R2} (hr : ∀ ρ H S dx dy vx vy Q σ, Rel X.K ρ H S → RepD X.K ρ H dx vx → RepD X.K ρ H dy vy → PostE X.K X.mg W ρ H σ Q (g dx dy S) → r vx vy H Q) {σ : L2.St} {H : Hp} {Q : VK}
    (h : tE X.K X.mg W (fun e S => (ma e S).bind fun x S1 => (mb e S1).bind fun y S2 => g x y S2) σ H Q) : tOp r (tE X.K X.mg W ma) (tE X.K X.mg W mb) σ H Q := by
  obtain ⟨ρ, e, S, he, R, q⟩ := h
  refine ⟨ρ, e, S, he, R, (Post.bind q).mono fun x S1 ρ1 H1 f1 R1 q v rx => ?_⟩
  refine ⟨ρ1, e, S1, he.fr R.free f1, R1, (Post.bind q).mono fun y S2 ρ2 H2 f2 R2 q v2 ry => ?_⟩
  exact hr ρ2 H2 S2 x y v v2 Q σ R2 (RepD.fr R1.free f2 _ _ rx) ry q
theorem em_bin {op : Operator} {g : DOp} (o : OpD X (binaryOp op) g) (ha : EM X W a ma) (hb : EM X W b mb) : EM X W (.BinOp a op b pos) (mBin g ma mb) :=
  pe_imp (pe_op o.r ha hb) fun σ H Q h => tE_bin (fun ρ H S dx dy vx vy Q σ R rx ry q => ⟨ρ, S, dx, dy, R, rx, ry, q.of⟩) h
/-- a comparison as a value -/
theorem em_cmp {op : CmpOp} {g : DOp} (o : OpD X (compareOp op) g) (ha : EM X W a ma) (hb : EM X W b mb) (hm : behindInMarks op b = false) : EM X W (.Compare a [op] [b] pos) (mBin g ma mb) :=
  pe_imp (pe_cmpR o.r ha hb hm) fun σ H Q h => tE_bin (fun ρ H S dx dy vx vy Q σ R rx ry q => ⟨ρ, S, dx, dy, R, rx, ry, q.of⟩) h
/-- the truth value of a value that is one -/
def bOf : D → Option Bool
  | .bl b => some b
  | _ => none
def mB (m : ME) : MT := fun e S => (m e S).bind fun d S1 => .of (bOf d) S1
theorem tE_test {m : ME} {σ : L2.St} {H : Hp} {Q : Bool → Hp → Prop} (h : tT X.K X.mg W (mB m) σ H Q) : tE X.K X.mg W m σ H fun x H' => ∃ k, x = .bl k ∧ Q k H' := by
  obtain ⟨ρ, e, S, he, R, q⟩ := h
  refine ⟨ρ, e, S, he, R, (Post.bind q).mono fun x S1 ρ1 H1 f1 R1 q v rx => ?_⟩
  cases x with
  | bl b => cases rx; exact ⟨b, rfl, q ρ1 H1 (Fr.refl _ _) R1⟩
  | _ => exact q.elim
theorem tOp_mono {r : R2} {ta tb : TE} {σ : L2.St} {H : Hp} {Q : VK} (h : tOp r ta tb σ H Q) : tOp r ta tb σ H Q := h
theorem tm_cmp {op : CmpOp} {g : DOp} (o : OpD X (compareOp op) g) (ha : EM X W a ma) (hb : EM X W b mb) (hm : behindInMarks op b = false) : TM X W (.Compare a [op] [b] pos) (mB (mBin g ma mb)) :=
  pt_imp (pt_cmpR o.r ha hb hm) fun σ H Q h => tE_bin (fun ρ H S dx dy vx vy Q σ R rx ry q => ⟨ρ, S, dx, dy, R, rx, ry, q.of⟩) (tE_test h)
/-- the truth of any value -/
def truOf (S : Store) : D → Option Bool
  | .non => some false
  | .bl b => some b
  | .int i => some (i != 0)
  | .str x => if x.length ≤ sizeLine then some ((x.length : Int) != 0) else none
  | d => match seqOf S d with
    | some xs => some (!xs.isEmpty)
    | none => none
def mTru (m : ME) : MT := fun e S => (m e S).bind fun d S1 => .of (truOf S1 d) S1
theorem isEmpty_rep {K : PySem.W.Frag} {ρ : Rh} {H : Hp} {xs : List D} {vs : List V} (h : RepDs K ρ H xs vs) : vs.isEmpty = xs.isEmpty := by
  cases h <;> rfl
theorem truOf_rep {K : PySem.W.Frag} {ρ : Rh} {H : Hp} {S : Store} (R : Rel K ρ H S) {d : D} {v : V} {k : Bool} (h : RepD K ρ H d v) (e : truOf S d = some k) : TruV K v H k := by
  have seq : ∀ {xs}, seqOf S d = some xs → k = (!xs.isEmpty) → TruV K v H k := fun {xs} e1 e2 => by
    obtain ⟨a, vs, rfl, q, r⟩ := seqOf_rep R h e1
    rw [← isEmpty_rep r] at e2
    rcases q with q | q
    · exact .inl ⟨vs, q, e2⟩
    · exact .inr (.inl ⟨vs, q, e2⟩)
  have gen : (match seqOf S d with | some xs => some (!xs.isEmpty) | none => none) = some k → TruV K v H k := fun z => by
    split at z
    · rename_i xs e1
      exact seq e1 (Option.some.inj z).symm
    · cases z
  cases d with
  | non => cases h; exact (Option.some.inj e).symm
  | bl b => cases h; exact (Option.some.inj e).symm
  | int i => cases h; exact (Option.some.inj e).symm
  | str x =>
    cases h
    have e : (if x.length ≤ sizeLine then some ((x.length : Int) != 0) else none) = some k := e
    by_cases hz : x.length ≤ sizeLine
    · rw [if_pos hz] at e
      exact ⟨hz, (Option.some.inj e).symm⟩
    · rw [if_neg hz] at e
      cases e
  | tup xs => exact gen e
  | lst xs => exact gen e
  | fro xs => exact gen e
  | loc n => exact gen e
  | ref a => exact gen e
  | ty n => exact gen e
  | rng lo hi => exact gen e
theorem tm_tru (ha : EM X W a ma) (he : ∀ whole, isTrue a X.env whole = (do let v ← whole; standAt a.pos; holding [v] (truthy v))) : TM X W a (mTru ma) :=
  pt_imp (pt_truth ha he) fun σ H Q h => by
    obtain ⟨ρ, e, S, he, R, q⟩ := h
    refine ⟨ρ, e, S, he, R, (Post.bind q).mono fun x S1 ρ1 H1 f1 R1 q v rx => ?_⟩
    cases hk : truOf S1 x with
    | none => rw [hk] at q; exact q.elim
    | some k =>
      rw [hk] at q
      exact ⟨k, truOf_rep R1 rx hk, q ρ1 H1 (Fr.refl _ _) R1⟩
/-! and, or, not -/
def mAnd (a b : MT) : MT := fun e S => (a e S).bind fun c S1 => if c = true then b e S1 else .ok false S1
def mOr (a b : MT) : MT := fun e S => (a e S).bind fun c S1 => if c = true then .ok true S1 else b e S1
def mNot (a : MT) : MT := fun e S => (a e S).bind fun c S1 => .ok (!c) S1
variable {ta tb : MT} {rest : List Expr}
theorem tT_then {σ : L2.St} {H : Hp} {Q : Bool → Hp → Prop} {t : MT} {f : Bool → Env → Store → Res Bool} {u : Bool → Hp → Prop}
    (hu : ∀ ρ H c e S, EnvRel X.K ρ H σ e → Rel X.K ρ H S → PostT X.K X.mg W ρ H σ Q (f c e S) → u c H)
    (h : tT X.K X.mg W (fun e S => (t e S).bind fun c S1 => f c e S1) σ H Q) : tT X.K X.mg W t σ H u := by
  obtain ⟨ρ, e, S, he, R, q⟩ := h
  exact ⟨ρ, e, S, he, R, (Post.bind q).mono fun x S1 ρ1 H1 f1 R1 q => hu ρ1 H1 x e S1 (he.fr R.free f1) R1 q⟩
theorem wm_and1 (ha : TM X W a ta) : WM X W (.BoolOp .And [a] pos) ta := pw_and1 ha
theorem wm_or1 (ha : TM X W a ta) : WM X W (.BoolOp .Or [a] pos) ta := pw_or1 ha
theorem wm_and (ha : TM X W a ta) (hb : WM X W (.BoolOp .And (b :: rest) pos) tb) : WM X W (.BoolOp .And (a :: b :: rest) pos) (mAnd ta tb) :=
  pw_imp (pw_and ha hb) fun σ H Q h => tT_then (f := fun c e S => if c = true then tb e S else .ok false S) (fun ρ H c e S he R q => by
    cases c with
    | true => exact ⟨ρ, e, S, he, R, q⟩
    | false => exact q ρ H (Fr.refl _ _) R) h
theorem wm_or (ha : TM X W a ta) (hb : WM X W (.BoolOp .Or (b :: rest) pos) tb) : WM X W (.BoolOp .Or (a :: b :: rest) pos) (mOr ta tb) :=
  pw_imp (pw_or ha hb) fun σ H Q h => tT_then (f := fun c e S => if c = true then .ok true S else tb e S) (fun ρ H c e S he R q => by
    cases c with
    | false => exact ⟨ρ, e, S, he, R, q⟩
    | true => exact q ρ H (Fr.refl _ _) R) h
theorem tm_w (h : WM X W a ta) : TM X W a ta := h.pt
theorem tm_not (ha : TM X W a ta) : TM X W (.UnaryOp .Not a pos) (mNot ta) :=
  pt_imp (pt_not ha) fun σ H Q h => tT_then (f := fun c e S => .ok (!c) S) (fun ρ H c e S he R q => q ρ H (Fr.refl _ _) R) h
/-! .. as values -/
def mIte (t : MT) (a b : ME) : ME := fun e S => (t e S).bind fun c S1 => if c = true then a e S1 else b e S1
def mAndV (a b : ME) : ME := fun e S => (a e S).bind fun d S1 => match d with
  | .bl c => if c = true then b e S1 else .ok (.bl false) S1
  | _ => .bad
def mOrV (a b : ME) : ME := fun e S => (a e S).bind fun d S1 => match d with
  | .bl c => if c = true then .ok (.bl true) S1 else b e S1
  | _ => .bad
def mNotV (a : ME) : ME := fun e S => (a e S).bind fun d S1 => match d with
  | .bl c => .ok (.bl (!c)) S1
  | _ => .bad
theorem tE_then {σ : L2.St} {H : Hp} {Q : VK} {t : ME} {f : D → Env → Store → Res D} {u : VK}
    (hu : ∀ ρ H d v e S, EnvRel X.K ρ H σ e → Rel X.K ρ H S → RepD X.K ρ H d v → PostE X.K X.mg W ρ H σ Q (f d e S) → u v H)
    (h : tE X.K X.mg W (fun e S => (t e S).bind fun c S1 => f c e S1) σ H Q) : tE X.K X.mg W t σ H u := by
  obtain ⟨ρ, e, S, he, R, q⟩ := h
  exact ⟨ρ, e, S, he, R, (Post.bind q).mono fun x S1 ρ1 H1 f1 R1 q v r => hu ρ1 H1 x v e S1 (he.fr R.free f1) R1 r q⟩
theorem em_one {op} (ha : EM X W a ma) : EM X W (.BoolOp op [a] pos) ma := pe_one ha
theorem em_and (ha : EM X W a ma) (hb : EM X W (.BoolOp .And (b :: rest) pos) mb) : EM X W (.BoolOp .And (a :: b :: rest) pos) (mAndV ma mb) :=
  pe_imp (pe_and ha hb) fun σ H Q h => tE_then (f := fun d e S => match d with | .bl c => if c = true then mb e S else .ok (.bl false) S | _ => .bad) (fun ρ H d v e S he R r q => by
    cases d with
    | bl c =>
      cases r
      refine ⟨c, rfl, ?_⟩
      cases c with
      | true => exact ⟨ρ, e, S, he, R, q⟩
      | false => exact q ρ H (Fr.refl _ _) R _ (.bl false)
    | _ => exact q.elim) h
theorem em_or (ha : EM X W a ma) (hb : EM X W (.BoolOp .Or (b :: rest) pos) mb) : EM X W (.BoolOp .Or (a :: b :: rest) pos) (mOrV ma mb) :=
  pe_imp (pe_or ha hb) fun σ H Q h => tE_then (f := fun d e S => match d with | .bl c => if c = true then .ok (.bl true) S else mb e S | _ => .bad) (fun ρ H d v e S he R r q => by
    cases d with
    | bl c =>
      cases r
      refine ⟨c, rfl, ?_⟩
      cases c with
      | false => exact ⟨ρ, e, S, he, R, q⟩
      | true => exact q ρ H (Fr.refl _ _) R _ (.bl true)
    | _ => exact q.elim) h
theorem em_not (ha : EM X W a ma) : EM X W (.UnaryOp .Not a pos) (mNotV ma) :=
  pe_imp (pe_not ha) fun σ H Q h => tE_then (f := fun d e S => match d with | .bl c => .ok (.bl (!c)) S | _ => .bad) (fun ρ H d v e S he R r q => by
    cases d with
    | bl c => cases r; exact ⟨c, rfl, q ρ H (Fr.refl _ _) R _ (.bl _)⟩
    | _ => exact q.elim) h
theorem em_ite (hc : TM X W c ta) (ha : EM X W a ma) (hb : EM X W b mb) : EM X W (.IfExp c a b pos) (mIte ta ma mb) :=
  pe_imp (pe_ifExp hc ha hb) fun σ H Q ⟨ρ, e, S, he, R, q⟩ => by
    refine ⟨ρ, e, S, he, R, (Post.bind q).mono fun x S1 ρ1 H1 f1 R1 q => ?_⟩
    cases x with
    | true => exact ⟨ρ1, e, S1, he.fr R.free f1, R1, q⟩
    | false => exact ⟨ρ1, e, S1, he.fr R.free f1, R1, q⟩
end
end M


set_option Elab.async false
set_option linter.all false
set_option maxRecDepth 100000
set_option maxHeartbeats 4000000
namespace M
open PySem PySem.Spec PyProof.Rows L2
variable [Tabs]

/-! ### tuple * int, the cases that HandS.TupMul leaves -/
theorem tuple_mulSame (l : Addr) (items : Array Value) (n : Nat) (dd : Option Addr) (sl : Array (Option Value)) (x : Int) (u : Tok) (c0 : (decide (x < -(2 ^ 63)) || decide (x ≥ 2 ^ 63)) = false) (c1 : (items.isEmpty || x == 1) = true) :
    Meets (Builtin.«tuple.__mul__» ⟨[.ref l, .int x u], []⟩) (fun _ R s => s.heap.get? l = some { cls := .type "tuple", dict := dd, data := .seq items n, slots := sl } ∧ R (.ok (.ret (Value.ref l))) s) :=
  .of_wp fun prog w A R s h => by
    obtain ⟨hp, g, d, tk, os⟩ := s
    obtain ⟨hl, h⟩ := h
    have f1 := AutoSeq1.idx_int
    wp_walk using wpAny_loadPart' hl
    repeat (first
      | (refine wpAny_ite_false (decide_eq_false (by rw [c0]; exact Bool.false_ne_true)) ?_; wp_walk using wpAny_loadPart' hl)
      | (refine wpAny_ite_true (decide_eq_true (by rw [c1])) ?_; wp_walk using wpAny_loadPart' hl))
    exact ⟨_, rfl, h⟩
theorem tuple_mulNone (l : Addr) (items : Array Value) (n : Nat) (dd : Option Addr) (sl : Array (Option Value)) (x : Int) (u : Tok) (c0 : (decide (x < -(2 ^ 63)) || decide (x ≥ 2 ^ 63)) = false) (c1 : (items.isEmpty || x == 1) = false) (c2 : (decide (x ≤ 0) || items.isEmpty) = true) :
    Meets (Builtin.«tuple.__mul__» ⟨[.ref l, .int x u], []⟩) (fun _ R s => s.heap.get? l = some { cls := .type "tuple", dict := dd, data := .seq items n, slots := sl } ∧
      R (.ok (.ret (Value.ref s.heap.objs.size))) { s with heap := s.heap.push { cls := Value.type "tuple", data := Data.seq #[] }, toks := s.toks }) :=
  .of_wp fun prog w A R s h => by
    obtain ⟨hp, g, d, tk, os⟩ := s
    obtain ⟨hl, h⟩ := h
    have f1 := AutoSeq1.idx_int
    wp_walk using wpAny_loadPart' hl
    repeat (first
      | (refine wpAny_ite_false (decide_eq_false (by rw [c0]; exact Bool.false_ne_true)) ?_; wp_walk using wpAny_loadPart' hl)
      | (refine wpAny_ite_false (decide_eq_false (by rw [c1]; exact Bool.false_ne_true)) ?_; wp_walk using wpAny_loadPart' hl)
      | (refine wpAny_ite_true (decide_eq_true (by rw [c2])) ?_; wp_walk using wpAny_loadPart' hl))
    exact ⟨_, rfl, h⟩

section
variable {X : Cx}
/-- tuple * int -/
theorem op_repT_same {xs : List V} {l : Addr} {k : Int} {pins : List (Addr × Obj)} {s : Shared} {σ : L2.St} {H : Hp} {Q : VK} {t : Tok} (I : Inv X pins σ H s) (hT : SqT X.K H l xs) (hk : -(2 ^ 63) ≤ k ∧ k < 2 ^ 63) (h1 : xs = [] ∨ k = 1) (q : Q (.ref l) H) :
    wpAny (model X.prog X.w) X.A (binaryOp .Mult (.ref l) (.int k t)) (EP X pins σ Q) X.xe s := by
  obtain ⟨its, r, ⟨⟨cls, dd, data, sl⟩, ho, hc, n, hd⟩, hs⟩ := I.tuple hT
  simp only at hc hd
  subst hc hd
  have c0 : (decide (k < -(2 ^ 63)) || decide (k ≥ 2 ^ 63)) = false := by
    rw [decide_eq_false (by omega), decide_eq_false (by omega)] <;> rfl
  have c1 : (its.toArray.isEmpty || k == 1) = true := by
    rcases h1 with h1 | h1
    · subst h1; cases r; rfl
    · subst h1; simp
  exact wpAny_binaryOp_repeat_ref (T := "tuple") (U := "int") (by decide) ⟨_, ho, rfl⟩ (fun s' => typeIs_int s' k t) noFill_tuple_mul F.fills_int_mul F.slot_int_rmul repeat_tuple F.slot_int_index.lookup
    (call_meets F.slot_int_rmul (typeIs_int s k t) F.entry_int_rmul (F.args_int_rmul_2 _ _) (int_rmul_tuple k t l its.toArray n dd sl)
      ⟨ho, rfl, ⟨_, ho, rfl⟩, call_meets F.slot_tuple_mul ⟨_, ho, rfl⟩ F.entry_tuple_mul (F.args_tuple_mul_2 _ _) (tuple_mulSame l its.toArray n dd sl k t c0 c1) ⟨ho, .ref l, H, I, rfl, q⟩⟩)
theorem op_repT_none {xs : List V} {l : Addr} {k : Int} {pins : List (Addr × Obj)} {s : Shared} {σ : L2.St} {H : Hp} {Q : VK} {t : Tok} (I : Inv X pins σ H s) (hT : SqT X.K H l xs) (hk : -(2 ^ 63) ≤ k ∧ k < 2 ^ 63) (h1 : xs ≠ []) (h2 : k ≤ 0) (q : ∀ p, H p = none → Q (.ref p) (upd H p (.tup []))) :
    wpAny (model X.prog X.w) X.A (binaryOp .Mult (.ref l) (.int k t)) (EP X pins σ Q) X.xe s := by
  obtain ⟨its, r, ⟨⟨cls, dd, data, sl⟩, ho, hc, n, hd⟩, hs⟩ := I.tuple hT
  simp only at hc hd
  subst hc hd
  have c0 : (decide (k < -(2 ^ 63)) || decide (k ≥ 2 ^ 63)) = false := by
    rw [decide_eq_false (by omega), decide_eq_false (by omega)] <;> rfl
  have hi : its.toArray.isEmpty = false := by
    cases its with
    | nil => cases r; exact absurd rfl h1
    | cons a b => rfl
  have c1 : (its.toArray.isEmpty || k == 1) = false := by
    rw [hi, Bool.false_or]
    exact beq_eq_false_iff_ne.mpr (by omega)
  have c2 : (decide (k ≤ 0) || its.toArray.isEmpty) = true := by
    rw [decide_eq_true h2]; rfl
  refine wpAny_binaryOp_repeat_ref (T := "tuple") (U := "int") (by decide) ⟨_, ho, rfl⟩ (fun s' => typeIs_int s' k t) noFill_tuple_mul F.fills_int_mul F.slot_int_rmul repeat_tuple F.slot_int_index.lookup
    (call_meets F.slot_int_rmul (typeIs_int s k t) F.entry_int_rmul (F.args_int_rmul_2 _ _) (int_rmul_tuple k t l its.toArray n dd sl)
      ⟨ho, rfl, ⟨_, ho, rfl⟩, call_meets F.slot_tuple_mul ⟨_, ho, rfl⟩ F.entry_tuple_mul (F.args_tuple_mul_2 _ _) (tuple_mulNone l its.toArray n dd sl k t c0 c1 c2) ⟨ho, ?_⟩⟩)
  refine ⟨.ref s.heap.objs.size, _, I.laid (t' := s.toks) (o := .tup []) (fun b ob q => Heap.get?_push_of_some _ q) (Nat.le_refl _) ?_, rfl, q _ (I.hok.fresh (Nat.le_refl _))⟩
  exact ⟨Nat.zero_le _, [], .nil, IsTup.new _ _⟩
end

/-! ### numbers -/
/-- a product that the model reckons whatever the size of one side -/
def mulOk (i j : Int) : Bool := decide (i.natAbs < 2 ^ 64) || decide (j.natAbs < 2 ^ 64) || decide (i.natAbs < 2 ^ 400000 ∧ j.natAbs < 2 ^ 400000)
def dAdd : DOp
  | .int i, .int j, _ => some (.int (i + j))
  | .str x, .str y, _ => if x.length + y.length ≤ sizeLine then some (.str (x ++ y)) else none
  | .tup xs, .tup ys, _ => if xs.length + ys.length ≤ sizeLine then some (.tup (xs ++ ys)) else none
  | x, y, S => match lstOf' S x, lstOf' S y with
    | some xs, some ys => if xs.length + ys.length ≤ sizeLine then some (.lst (xs ++ ys)) else none
    | _, _ => none
def dSub : DOp
  | .int i, .int j, _ => some (.int (i - j))
  | _, _, _ => none
def dMul : DOp
  | .int i, .int j, _ => if i.natAbs < 2 ^ 64 ∨ j.natAbs < 2 ^ 64 then some (.int (i * j)) else none
  | .str x, .int k, _ => if k < 2 ^ 20 ∧ -(2 ^ 20) < k ∧ x.length * k.toNat ≤ 2 ^ 20 then some (.str (Txt.mul x k)) else none
  | .tup xs, .int k, _ => if k ≤ 1000 ∧ -1000 ≤ k ∧ xs.length ≤ 1000 then some (.tup (List.replicate k.toNat xs).flatten) else none
  | x, .int k, S => match lstOf' S x with
    | some xs => if k ≤ 1000 ∧ -1000 ≤ k ∧ xs.length ≤ 1000 then some (.lst (List.replicate k.toNat xs).flatten) else none
    | none => none
  | _, _, _ => none
def dFdiv : DOp
  | .int i, .int j, _ => if 0 < j ∧ j < 1073741824 then some (.int (i / j)) else none
  | _, _, _ => none
def dMod : DOp
  | .int i, .int j, _ => if 0 < j then some (.int (i % j)) else none
  | _, _, _ => none
def dPow : DOp
  | .int i, .int j, _ => if 0 ≤ j ∧ j ≤ 1000000 ∧ i.natAbs < 2 ^ 64 then some (.int (i ^ j.toNat)) else none
  | _, _, _ => none
def dShl : DOp
  | .int i, .int j, _ => if 0 ≤ j ∧ j ≤ 1000000 ∧ i.natAbs < 2 ^ 64 then some (.int (i * 2 ^ j.toNat)) else none
  | _, _, _ => none
def dShr : DOp
  | .int i, .int j, _ => if 0 ≤ j then some (.int (i / 2 ^ j.toNat)) else none
  | _, _, _ => none
def dAnd : DOp
  | .int i, .int j, _ => some (.int (Builtin.bitAnd i j))
  | _, _, _ => none
def dXor : DOp
  | .int i, .int j, _ => some (.int (Builtin.bitXor i j))
  | _, _, _ => none
section
variable {X : Cx}
theorem inj1 {α : Type} {a b : α} (h : some a = some b) : a = b := Option.some.inj h
/-- two ints by HandS's rule -/
theorem opd_int {f : Value → Value → Sem Value} {g : DOp} (h : ∀ (dx dy : D) (S : Store) (d : D), g dx dy S = some d → ∃ i j, dx = .int i ∧ dy = .int j ∧
      ∀ (pins : List (Addr × Obj)) (s : Shared) (σ : L2.St) (H : Hp) (vx vy : Value) (Q : VK), Inv X pins σ H s → RelV (.int i) vx → RelV (.int j) vy → (∀ v, (∀ ρ, RepD X.K ρ H d v) → Q v H) → wpAny (model X.prog X.w) X.A (f vx vy) (EP X pins σ Q) X.xe s) : OpD X f g :=
  fun pins s σ ρ H S dx dy vx vy ux uy Q I R rx ry r1 r2 q => by
    cases e : g dx dy S with
    | none => rw [e] at q; exact q.elim
    | some d =>
      rw [e] at q
      obtain ⟨i, j, rfl, rfl, k⟩ := h dx dy S d e
      cases rx
      cases ry
      exact k pins s σ H ux uy Q I r1 r2 fun v rv => q ρ H (Fr.refl _ _) R v (rv ρ)
theorem opd_sub : OpD X (binaryOp .Sub) dSub := opd_int fun dx dy S d e => by
  cases dx <;> cases dy <;> simp only [dSub] at e <;> try cases e
  rename_i i j
  exact ⟨i, j, rfl, rfl, fun pins s σ H vx vy Q I r1 r2 q => op_sub pins s σ H _ _ vx vy Q I r1 r2 ⟨i, j, rfl, rfl, q _ fun ρ => .int _⟩⟩
theorem opd_fdiv : OpD X (binaryOp .FloorDiv) dFdiv := opd_int fun dx dy S d e => by
  cases dx <;> cases dy <;> simp only [dFdiv] at e <;> try cases e
  rename_i i j
  split at e
  · rename_i hc
    cases e
    exact ⟨i, j, rfl, rfl, fun pins s σ H vx vy Q I r1 r2 q => op_fdiv pins s σ H _ _ vx vy Q I r1 r2 ⟨i, j, rfl, rfl, hc, q _ fun ρ => .int _⟩⟩
  · cases e
theorem opd_mod : OpD X (binaryOp .Mod) dMod := opd_int fun dx dy S d e => by
  cases dx <;> cases dy <;> simp only [dMod] at e <;> try cases e
  rename_i i j
  split at e
  · rename_i hc
    cases e
    exact ⟨i, j, rfl, rfl, fun pins s σ H vx vy Q I r1 r2 q => op_mod pins s σ H _ _ vx vy Q I r1 r2 ⟨i, j, rfl, rfl, hc, q _ fun ρ => .int _⟩⟩
  · cases e
theorem opd_pow : OpD X (binaryOp .Pow) dPow := opd_int fun dx dy S d e => by
  cases dx <;> cases dy <;> simp only [dPow] at e <;> try cases e
  rename_i i j
  split at e
  · rename_i hc
    cases e
    exact ⟨i, j, rfl, rfl, fun pins s σ H vx vy Q I r1 r2 q => op_pow pins s σ H _ _ vx vy Q I r1 r2 ⟨i, j, rfl, rfl, hc, q _ fun ρ => .int _⟩⟩
  · cases e
theorem opd_shl : OpD X (binaryOp .LShift) dShl := opd_int fun dx dy S d e => by
  cases dx <;> cases dy <;> simp only [dShl] at e <;> try cases e
  rename_i i j
  split at e
  · rename_i hc
    cases e
    exact ⟨i, j, rfl, rfl, fun pins s σ H vx vy Q I r1 r2 q => op_shl pins s σ H _ _ vx vy Q I r1 r2 ⟨i, j, rfl, rfl, hc, q _ fun ρ => .int _⟩⟩
  · cases e
theorem opd_shr : OpD X (binaryOp .RShift) dShr := opd_int fun dx dy S d e => by
  cases dx <;> cases dy <;> simp only [dShr] at e <;> try cases e
  rename_i i j
  split at e
  · rename_i hc
    cases e
    exact ⟨i, j, rfl, rfl, fun pins s σ H vx vy Q I r1 r2 q => op_shr pins s σ H _ _ vx vy Q I r1 r2 ⟨i, j, rfl, rfl, hc, q _ fun ρ => .int _⟩⟩
  · cases e
theorem opd_and : OpD X (binaryOp .BitAnd) dAnd := opd_int fun dx dy S d e => by
  cases dx <;> cases dy <;> simp only [dAnd] at e <;> try cases e
  rename_i i j
  exact ⟨i, j, rfl, rfl, fun pins s σ H vx vy Q I r1 r2 q => op_and pins s σ H _ _ vx vy Q I r1 r2 ⟨i, j, rfl, rfl, q _ fun ρ => .int _⟩⟩
theorem opd_xor : OpD X (binaryOp .BitXor) dXor := opd_int fun dx dy S d e => by
  cases dx <;> cases dy <;> simp only [dXor] at e <;> try cases e
  rename_i i j
  exact ⟨i, j, rfl, rfl, fun pins s σ H vx vy Q I r1 r2 q => op_xor pins s σ H _ _ vx vy Q I r1 r2 ⟨i, j, rfl, rfl, q _ fun ρ => .int _⟩⟩
theorem rep_nil {K : PySem.W.Frag} {ρ : Rh} {H : Hp} {ds : List D} {vs : List V} (h : RepDs K ρ H ds vs) : vs = [] ↔ ds = [] := by
  cases h <;> simp
theorem opd_add : OpD X (binaryOp .Add) dAdd := fun pins s σ ρ H S dx dy vx vy ux uy Q I R rx ry r1 r2 q => by
  have lists : ∀ xs ys, lstOf' S dx = some xs → lstOf' S dy = some ys → PostV X.K ρ H S Q (if xs.length + ys.length ≤ sizeLine then some (.lst (xs ++ ys)) else none) → wpAny (model X.prog X.w) X.A (binaryOp .Add ux uy) (EP X pins σ Q) X.xe s := fun xs ys e1 e2 q => by
    obtain ⟨a, vs, rfl, ha, ra⟩ := lstOf'_rep R rx e1
    obtain ⟨b, ws, rfl, hb, rb⟩ := lstOf'_rep R ry e2
    by_cases hz : xs.length + ys.length ≤ sizeLine
    · rw [if_pos hz] at q
      refine op_cat pins s σ H _ _ ux uy Q I r1 r2 ⟨a, b, vs, ws, rfl, rfl, ha, hb, by rw [← ra.length, ← rb.length]; exact hz, q.newL R (ra.append rb)⟩
    · rw [if_neg hz] at q; exact q.elim
  have gen : PostV X.K ρ H S Q (match lstOf' S dx, lstOf' S dy with
    | some xs, some ys => if xs.length + ys.length ≤ sizeLine then some (.lst (xs ++ ys)) else none
    | _, _ => none) → wpAny (model X.prog X.w) X.A (binaryOp .Add ux uy) (EP X pins σ Q) X.xe s := fun q => by
    split at q
    · exact lists _ _ (by assumption) (by assumption) q
    · exact q.elim
  by_cases h1 : (∃ i j, dx = .int i ∧ dy = .int j) ∨ (∃ x y, dx = .str x ∧ dy = .str y) ∨ (∃ x y, dx = .tup x ∧ dy = .tup y)
  · rcases h1 with ⟨i, j, rfl, rfl⟩ | ⟨x, y, rfl, rfl⟩ | ⟨x, y, rfl, rfl⟩
    · cases rx; cases ry
      exact op_add pins s σ H _ _ ux uy Q I r1 r2 ⟨i, j, rfl, rfl, q.use R (.int _)⟩
    · cases rx; cases ry
      simp only [dAdd] at q
      by_cases hz : x.length + y.length ≤ sizeLine
      · rw [if_pos hz] at q
        exact op_add_str pins s σ H _ _ ux uy Q I r1 r2 ⟨x, y, rfl, rfl, hz, q.use R (.str _)⟩
      · rw [if_neg hz] at q; exact q.elim
    · simp only [dAdd] at q
      by_cases hz : x.length + y.length ≤ sizeLine
      · rw [if_pos hz] at q
        cases rx with
        | tup hx rx =>
        cases ry with
        | tup hy ry =>
          rename_i a vs b ws
          refine op_catA pins s σ H _ _ ux uy Q I r1 r2 ⟨a, b, vs, ws, rfl, rfl, hx, hy, by rw [← rx.length, ← ry.length]; exact hz, fun e => ?_, fun _ e => ?_, fun _ _ => q.newT R (rx.append ry)⟩
          · rw [(rep_nil rx).mp e] at q
            exact q.use R (.tup hy ry)
          · rw [(rep_nil ry).mp e, List.append_nil] at q
            exact q.use R (.tup hx rx)
      · rw [if_neg hz] at q; exact q.elim
  · cases dx <;> cases dy <;> first
      | exact gen q
      | exact (h1 (.inl ⟨_, _, rfl, rfl⟩)).elim
      | exact (h1 (.inr (.inl ⟨_, _, rfl, rfl⟩))).elim
      | exact (h1 (.inr (.inr ⟨_, _, rfl, rfl⟩))).elim
theorem rep_flat {K : PySem.W.Frag} {ρ : Rh} {H : Hp} {ds : List D} {vs : List V} (h : RepDs K ρ H ds vs) : ∀ n : Nat, RepDs K ρ H (List.replicate n ds).flatten (List.replicate n vs).flatten
  | 0 => .nil
  | n + 1 => by simp only [List.replicate_succ, List.flatten_cons]; exact h.append (rep_flat h n)
theorem opd_mul : OpD X (binaryOp .Mult) dMul := fun pins s σ ρ H S dx dy vx vy ux uy Q I R rx ry r1 r2 q => by
  cases dy with
  | int k =>
    cases ry
    have lists : ∀ xs, lstOf' S dx = some xs → PostV X.K ρ H S Q (if k ≤ 1000 ∧ -1000 ≤ k ∧ xs.length ≤ 1000 then some (.lst (List.replicate k.toNat xs).flatten) else none) → wpAny (model X.prog X.w) X.A (binaryOp .Mult ux uy) (EP X pins σ Q) X.xe s := fun xs e1 q => by
      obtain ⟨a, vs, rfl, ha, ra⟩ := lstOf'_rep R rx e1
      by_cases hz : k ≤ 1000 ∧ -1000 ≤ k ∧ xs.length ≤ 1000
      · rw [if_pos hz] at q
        refine op_rep pins s σ H _ _ ux uy Q I r1 r2 ⟨a, k, vs, rfl, rfl, ha, by omega, by omega, ?_, q.newL R (rep_flat ra _)⟩
        rw [← ra.length, sizeLine_eq]
        have : xs.length * k.toNat ≤ 1000 * 1000 := Nat.mul_le_mul hz.2.2 (by omega)
        omega
      · rw [if_neg hz] at q; exact q.elim
    have gen : PostV X.K ρ H S Q (match lstOf' S dx with
      | some xs => if k ≤ 1000 ∧ -1000 ≤ k ∧ xs.length ≤ 1000 then some (.lst (List.replicate k.toNat xs).flatten) else none
      | none => none) → wpAny (model X.prog X.w) X.A (binaryOp .Mult ux uy) (EP X pins σ Q) X.xe s := fun q => by
      split at q
      · exact lists _ (by assumption) q
      · exact q.elim
    cases dx with
    | int i =>
      cases rx
      simp only [dMul] at q
      by_cases hz : i.natAbs < 2 ^ 64 ∨ k.natAbs < 2 ^ 64
      · rw [if_pos hz] at q
        exact op_mul pins s σ H _ _ ux uy Q I r1 r2 ⟨i, k, rfl, rfl, hz.elim (fun h => .inl ⟨by omega, by omega⟩) (fun h => .inr ⟨by omega, by omega⟩), q.use R (.int _)⟩
      · rw [if_neg hz] at q; exact q.elim
    | str x =>
      cases rx
      simp only [dMul] at q
      by_cases hz : k < 2 ^ 20 ∧ -(2 ^ 20) < k ∧ x.length * k.toNat ≤ 2 ^ 20
      · rw [if_pos hz] at q
        obtain ⟨t, rfl⟩ := r1
        obtain ⟨u, rfl⟩ := r2
        refine SB.mul ⟨by rw [decide_eq_false (by omega), decide_eq_false (by omega)] <;> rfl, fun h1 h2 h3 => ?_, fun h1 h2 => ?_⟩ fun t' tk => ⟨.str (Txt.mul x k), H, I.tok tk, ⟨_, rfl⟩, q.use R (.str _)⟩
        · have hx : (x.length : Int) ≤ 2 ^ 20 := by
            have : x.length * 1 ≤ x.length * k.toNat := Nat.mul_le_mul_left _ (by omega)
            omega
          have : (2 ^ 63 - 1) / k ≥ (2 ^ 63 - 1) / (2 ^ 20) := by
            rw [ge_iff_le, Int.le_ediv_iff_mul_le (by omega)]
            have h5 : ((2 ^ 63 - 1) / (2 ^ 20) : Int) * k ≤ ((2 ^ 63 - 1) / (2 ^ 20) : Int) * 2 ^ 20 := Int.mul_le_mul_of_nonneg_left (by omega) (by decide)
            have h6 : ((2 ^ 63 - 1) / (2 ^ 20) : Int) * 2 ^ 20 ≤ 2 ^ 63 - 1 := by decide
            omega
          have h7 : ((2 ^ 63 - 1) / (2 ^ 20) : Int) ≥ 2 ^ 20 := by decide
          omega
        · unfold Builtin.Str.tooLong
          rw [sizeLine_eq]
          exact decide_eq_false (by omega)
      · rw [if_neg hz] at q; exact q.elim
    | tup xs =>
      simp only [dMul] at q
      by_cases hz : k ≤ 1000 ∧ -1000 ≤ k ∧ xs.length ≤ 1000
      · rw [if_pos hz] at q
        cases rx with
        | tup hx rx =>
          rename_i a vs
          cases r1
          by_cases h0 : xs = []
          · subst h0
            cases rx
            obtain ⟨t, rfl⟩ := r2
            refine op_repT_same I hx ⟨by omega, by omega⟩ (.inl rfl) ?_
            have e : (List.replicate k.toNat ([] : List D)).flatten = [] := by simp
            rw [e] at q
            exact q.use R (.tup hx .nil)
          · have h0' : vs ≠ [] := fun z => h0 ((rep_nil rx).mp z)
            by_cases h1 : k = 1
            · subst h1
              obtain ⟨t, rfl⟩ := r2
              refine op_repT_same I hx ⟨by omega, by omega⟩ (.inr rfl) ?_
              have e : (List.replicate (1 : Int).toNat xs).flatten = xs := by simp
              rw [e] at q
              exact q.use R (.tup hx rx)
            · by_cases h2 : k ≤ 0
              · obtain ⟨t, rfl⟩ := r2
                refine op_repT_none I hx ⟨by omega, by omega⟩ h0' h2 ?_
                have e : k.toNat = 0 := by omega
                rw [e] at q
                exact q.newT R .nil
              · exact op_repT pins s σ H _ _ _ uy Q I (show L2.RelV (.ref a) (Value.ref a) from rfl) r2 ⟨a, k, vs, rfl, rfl, hx, h0', by omega, by omega, by rw [← rx.length]; omega, q.newT R (rep_flat rx _)⟩
      · rw [if_neg hz] at q; exact q.elim
    | _ => exact gen q
  | _ => cases dx <;> exact q.elim
/-! negation -/
def dNeg : D → Store → Option D
  | .int i, _ => some (.int (-i))
  | _, _ => none
end
end M


set_option Elab.async false
set_option linter.all false
set_option maxRecDepth 100000
set_option maxHeartbeats 4000000
namespace M
open PySem PySem.Spec PyProof.Rows L2
variable [Tabs]

/-! ### data as the model's own -/
mutual
def toPy0 : D → Option PyData
  | .non => some .none
  | .bl b => some (.bool b)
  | .int i => some (.int i)
  | .str x => some (.str x)
  | .tup xs => (toPys0 xs).map .tuple
  | .lst xs => (toPys0 xs).map .list
  | .fro _ => none
  | .loc _ => none
  | .ref _ => none
  | .ty _ => none
  | .rng _ _ => none
def toPys0 : List D → Option (List PyData)
  | [] => some []
  | d :: ds => match toPy0 d, toPys0 ds with
    | some p, some ps => some (p :: ps)
    | _, _ => none
end
def toPy (S : Store) : D → Option PyData
  | .loc n => match S[n]? with
    | some (.lst xs) => (toPys0 xs).map .list
    | _ => none
  | d => toPy0 d
section
variable {K : PySem.W.Frag} {ρ : Rh} {H : Hp} {S : Store}
mutual
theorem toPy0_rep : ∀ (d : D) (v : V) (p : PyData), RepD K ρ H d v → toPy0 d = some p → Dp K H v p
  | .non, _, _, h, e => by cases h; simp only [toPy0] at e; cases e; exact .non
  | .bl b, _, _, h, e => by cases h; simp only [toPy0] at e; cases e; exact .bl b
  | .int i, _, _, h, e => by cases h; simp only [toPy0] at e; cases e; exact .int i
  | .str x, _, _, h, e => by cases h; simp only [toPy0] at e; cases e; exact .str x
  | .tup ds, _, _, h, e => by
    cases h with
    | tup hs hd =>
      simp only [toPy0, Option.map_eq_some_iff] at e
      obtain ⟨ps, e1, rfl⟩ := e
      exact .tup hs (toPys0_rep ds _ ps hd e1)
  | .lst ds, _, _, h, e => by
    cases h with
    | lst hs _ _ hd =>
      simp only [toPy0, Option.map_eq_some_iff] at e
      obtain ⟨ps, e1, rfl⟩ := e
      exact .lst (.inl (.inl hs)) (toPys0_rep ds _ ps hd e1)
  | .fro ds, _, _, h, e => by simp only [toPy0] at e; cases e
  | .loc _, _, _, _, e => by simp only [toPy0] at e; cases e
  | .ref _, _, _, _, e => by simp only [toPy0] at e; cases e
  | .ty _, _, _, _, e => by simp only [toPy0] at e; cases e
  | .rng _ _, _, _, _, e => by simp only [toPy0] at e; cases e
theorem toPys0_rep : ∀ (ds : List D) (vs : List V) (ps : List PyData), RepDs K ρ H ds vs → toPys0 ds = some ps → DpAll K H vs ps
  | [], _, _, h, e => by cases h; simp only [toPys0] at e; cases e; exact .nil
  | d :: ds, _, _, h, e => by
    cases h with
    | cons h1 h2 =>
      simp only [toPys0] at e
      split at e
      · cases e
        exact .cons (toPy0_rep d _ _ h1 (by assumption)) (toPys0_rep ds _ _ h2 (by assumption))
      · cases e
end
theorem toPy_rep (R : Rel K ρ H S) {d : D} {v : V} {p : PyData} (h : RepD K ρ H d v) (e : toPy S d = some p) : Dp K H v p := by
  cases d with
  | loc n =>
    cases h with
    | loc ha =>
      simp only [toPy] at e
      split at e
      · rename_i xs hs
        rw [Option.map_eq_some_iff] at e
        obtain ⟨ps, e1, rfl⟩ := e
        obtain ⟨vs, q, r⟩ := R.at_ n _ _ hs ha
        exact .lst (.inl (.inl q)) (toPys0_rep xs _ ps r e1)
      · cases e
  | _ => exact toPy0_rep _ _ _ h e
end

/-! ### comparisons -/
def dEq : DOp
  | .str x, .str y, _ => some (.bl (decide (x = y)))
  | x, y, S => match toPy S x, toPy S y with
    | some p, some q => if SeqAt.shaped p = true ∧ SeqAt.shaped q = true then some (.bl (PyData.eqv p q)) else none
    | _, _ => none
def dNot : D → Option D
  | .bl b => some (.bl (!b))
  | _ => none
def dNe : DOp := fun x y S => (dEq x y S).bind dNot
def dLt : DOp
  | .int i, .int j, _ => some (.bl (decide (i < j)))
  | .str x, .str y, _ => some (.bl (decide (x.cps.toList < y.cps.toList)))
  | _, _, _ => none
def dLe : DOp
  | .int i, .int j, _ => some (.bl (decide (i ≤ j)))
  | .str x, .str y, _ => some (.bl (!decide (y.cps.toList < x.cps.toList)))
  | _, _, _ => none
def dGt : DOp
  | .int i, .int j, _ => some (.bl (decide (j < i)))
  | .str x, .str y, _ => some (.bl (decide (y.cps.toList < x.cps.toList)))
  | _, _, _ => none
def dGe : DOp
  | .int i, .int j, _ => some (.bl (decide (j ≤ i)))
  | .str x, .str y, _ => some (.bl (!decide (x.cps.toList < y.cps.toList)))
  | _, _, _ => none
def isNon : D → Bool
  | .non => true
  | _ => false
def dIs : DOp
  | x, .non, _ => some (.bl (isNon x))
  | .bl a, .bl b, _ => some (.bl (decide (a = b)))
  | _, _, _ => none
def dIsNot : DOp
  | x, .non, _ => some (.bl (!isNon x))
  | .bl a, .bl b, _ => some (.bl (!decide (a = b)))
  | _, _, _ => none
def dIn : DOp
  | .str x, .str y, _ => some (.bl (Txt.contains y x))
  | x, y, S => match toPy S x, toPy S y with
    | some p, some (.list qs) => if SeqAt.shaped p = true ∧ SeqAt.shaped (.list qs) = true then some (.bl (qs.any fun z => PyData.eqv z p)) else none
    | some p, some (.tuple qs) => if SeqAt.shaped p = true ∧ SeqAt.shaped (.list qs) = true then some (.bl (qs.any fun z => PyData.eqv z p)) else none
    | _, _ => none
def dNotIn : DOp := fun x y S => (dIn x y S).bind dNot
section
variable {X : Cx}
theorem isNon_rep {K : PySem.W.Frag} {ρ : Rh} {H : Hp} {d : D} {v : V} (h : RepD K ρ H d v) : decide (v = V.non) = isNon d := by
  cases h <;> rfl
theorem dEq_gen {x y : D} {S : Store} (h : ¬ ∃ a b, x = .str a ∧ y = .str b) : dEq x y S = match toPy S x, toPy S y with
    | some p, some q => if SeqAt.shaped p = true ∧ SeqAt.shaped q = true then some (.bl (PyData.eqv p q)) else none
    | _, _ => none := by
  cases x <;> cases y <;> first | rfl | exact (h ⟨_, _, rfl, rfl⟩).elim
theorem opd_eq (hu : X.A.units + 64 < cLine) : OpD X (compareOp .Eq) dEq := fun pins s σ ρ H S dx dy vx vy ux uy Q I R rx ry r1 r2 q => by
  by_cases h : ∃ a b, dx = .str a ∧ dy = .str b
  · obtain ⟨a, b, rfl, rfl⟩ := h
    cases rx; cases ry
    refine op_eq pins s σ H _ _ ux uy Q I r1 r2 ⟨rfl, ?_⟩
    have e : decide (V.str a = V.str b) = decide (a = b) := by simp
    rw [e]
    exact q.use R (.bl _)
  · rw [dEq_gen h] at q
    split at q
    · rename_i p p' h1 h2
      by_cases hs : SeqAt.shaped p = true ∧ SeqAt.shaped p' = true
      · rw [if_pos hs] at q
        exact op_eqD hu pins s σ H _ _ ux uy Q I r1 r2 ⟨p, p', toPy_rep R rx h1, toPy_rep R ry h2, hs.1, hs.2, q.use R (.bl _)⟩
      · rw [if_neg hs] at q; exact q.elim
    · exact q.elim
theorem opd_ne (hu : X.A.units + 64 < cLine) : OpD X (compareOp .NotEq) dNe := fun pins s σ ρ H S dx dy vx vy ux uy Q I R rx ry r1 r2 q => by
  unfold dNe at q
  by_cases h : ∃ a b, dx = .str a ∧ dy = .str b
  · obtain ⟨a, b, rfl, rfl⟩ := h
    cases rx; cases ry
    refine op_ne pins s σ H _ _ ux uy Q I r1 r2 ⟨rfl, ?_⟩
    have e : decide (V.str a = V.str b) = decide (a = b) := by simp
    rw [e]
    exact q.use R (.bl _)
  · rw [dEq_gen h] at q
    split at q
    · rename_i p p' h1 h2
      by_cases hs : SeqAt.shaped p = true ∧ SeqAt.shaped p' = true
      · rw [if_pos hs] at q
        exact op_neD hu pins s σ H _ _ ux uy Q I r1 r2 ⟨p, p', toPy_rep R rx h1, toPy_rep R ry h2, hs.1, hs.2, q.use R (.bl _)⟩
      · rw [if_neg hs] at q; exact q.elim
    · exact q.elim
theorem opd_lt : OpD X (compareOp .Lt) dLt := fun pins s σ ρ H S dx dy vx vy ux uy Q I R rx ry r1 r2 q => by
  cases dx <;> cases dy <;> first
    | exact q.elim
    | (cases rx; cases ry; exact op_lt pins s σ H _ _ ux uy Q I r1 r2 ⟨_, _, rfl, rfl, q.use R (.bl _)⟩)
    | (cases rx; cases ry; exact op_lt_str pins s σ H _ _ ux uy Q I r1 r2 ⟨_, _, rfl, rfl, q.use R (.bl _)⟩)
theorem opd_le : OpD X (compareOp .LtE) dLe := fun pins s σ ρ H S dx dy vx vy ux uy Q I R rx ry r1 r2 q => by
  cases dx <;> cases dy <;> first
    | exact q.elim
    | (cases rx; cases ry; exact op_le pins s σ H _ _ ux uy Q I r1 r2 ⟨_, _, rfl, rfl, q.use R (.bl _)⟩)
    | (cases rx; cases ry; exact op_le_str pins s σ H _ _ ux uy Q I r1 r2 ⟨_, _, rfl, rfl, q.use R (.bl _)⟩)
theorem opd_gt : OpD X (compareOp .Gt) dGt := fun pins s σ ρ H S dx dy vx vy ux uy Q I R rx ry r1 r2 q => by
  cases dx <;> cases dy <;> first
    | exact q.elim
    | (cases rx; cases ry; exact op_gt pins s σ H _ _ ux uy Q I r1 r2 ⟨_, _, rfl, rfl, q.use R (.bl _)⟩)
    | (cases rx; cases ry; exact op_gt_str pins s σ H _ _ ux uy Q I r1 r2 ⟨_, _, rfl, rfl, q.use R (.bl _)⟩)
theorem opd_ge : OpD X (compareOp .GtE) dGe := fun pins s σ ρ H S dx dy vx vy ux uy Q I R rx ry r1 r2 q => by
  cases dx <;> cases dy <;> first
    | exact q.elim
    | (cases rx; cases ry; exact op_ge pins s σ H _ _ ux uy Q I r1 r2 ⟨_, _, rfl, rfl, q.use R (.bl _)⟩)
    | (cases rx; cases ry; exact op_ge_str pins s σ H _ _ ux uy Q I r1 r2 ⟨_, _, rfl, rfl, q.use R (.bl _)⟩)
theorem opd_is : OpD X (compareOp .Is) dIs := fun pins s σ ρ H S dx dy vx vy ux uy Q I R rx ry r1 r2 q => by
  cases dy with
  | non =>
    have e : dIs dx .non S = some (.bl (isNon dx)) := by cases dx <;> rfl
    rw [e] at q
    have e2 := isNon_rep rx
    cases ry
    refine op_isN pins s σ H _ _ ux uy Q I r1 r2 ⟨rfl, ?_⟩
    rw [e2]
    exact q.use R (.bl _)
  | bl b =>
    cases dx with
    | bl a => cases rx; cases ry; exact op_isBl pins s σ H _ _ ux uy Q I r1 r2 ⟨a, b, rfl, rfl, q.use R (.bl _)⟩
    | _ => exact q.elim
  | _ => cases dx <;> exact q.elim
theorem opd_isNot : OpD X (compareOp .IsNot) dIsNot := fun pins s σ ρ H S dx dy vx vy ux uy Q I R rx ry r1 r2 q => by
  cases dy with
  | non =>
    have e : dIsNot dx .non S = some (.bl (!isNon dx)) := by cases dx <;> rfl
    rw [e] at q
    have e2 := isNon_rep rx
    cases ry
    refine op_notN pins s σ H _ _ ux uy Q I r1 r2 ⟨rfl, ?_⟩
    rw [e2]
    exact q.use R (.bl _)
  | bl b =>
    cases dx with
    | bl a => cases rx; cases ry; exact op_notBl pins s σ H _ _ ux uy Q I r1 r2 ⟨a, b, rfl, rfl, q.use R (.bl _)⟩
    | _ => exact q.elim
  | _ => cases dx <;> exact q.elim
theorem dIn_gen {x y : D} {S : Store} (h : ¬ ∃ a b, x = .str a ∧ y = .str b) : dIn x y S = match toPy S x, toPy S y with
    | some p, some (.list qs) => if SeqAt.shaped p = true ∧ SeqAt.shaped (.list qs) = true then some (.bl (qs.any fun z => PyData.eqv z p)) else none
    | some p, some (.tuple qs) => if SeqAt.shaped p = true ∧ SeqAt.shaped (.list qs) = true then some (.bl (qs.any fun z => PyData.eqv z p)) else none
    | _, _ => none := by
  cases x <;> cases y <;> first | rfl | exact (h ⟨_, _, rfl, rfl⟩).elim
theorem in_room {d : PyData} {qs : List PyData} (sd : SeqAt.shaped d = true) (hu : X.A.units + 65 < cLine) : X.A.units + 1 + min (PyData.depthAll qs) d.depth < cLine := by
  have h1 := SeqAt.depth_of_shaped sd
  have h2 := Nat.min_le_right (PyData.depthAll qs) d.depth
  omega
theorem opd_in_ (neg : Bool) (hu : X.A.units + 65 < cLine) : OpD X (compareOp (if neg then .NotIn else .In)) (if neg then dNotIn else dIn) := fun pins s σ ρ H S dx dy vx vy ux uy Q I R rx ry r1 r2 q => by
  by_cases h : ∃ a b, dx = .str a ∧ dy = .str b
  · obtain ⟨a, b, rfl, rfl⟩ := h
    cases rx; cases ry
    obtain ⟨t, rfl⟩ := r1
    obtain ⟨u, rfl⟩ := r2
    cases neg
    · exact SB.contains ⟨.bl _, H, I, rfl, q.use R (.bl _)⟩
    · exact SB.notContains ⟨.bl _, H, I, rfl, q.use R (.bl _)⟩
  · have fin : ∀ (k : Bool), dIn dx dy S = some (.bl k) → Q (.bl (if neg then !k else k)) H := fun k e => by
      cases neg
      · simp only [Bool.false_eq_true, if_false] at q ⊢
        rw [e] at q
        exact q.use R (.bl _)
      · simp only [if_true] at q ⊢
        unfold dNotIn at q
        rw [e] at q
        exact q.use R (.bl _)
    have none : dIn dx dy S = none → wpAny (model X.prog X.w) X.A (compareOp (if neg then .NotIn else .In) ux uy) (EP X pins σ Q) X.xe s := fun e => by
      cases neg
      · simp only [Bool.false_eq_true, if_false] at q
        rw [e] at q; exact q.elim
      · simp only [if_true] at q
        unfold dNotIn at q
        rw [e] at q; exact q.elim
    cases hd : dIn dx dy S with
    | none => exact none hd
    | some d =>
      have hd' := hd
      rw [dIn_gen h] at hd'
      split at hd'
      · rename_i p qs h1 h2
        split at hd'
        · rename_i hs
          cases hd'
          have fin := fin _ hd
          have d1 := toPy_rep R rx h1
          have d2 := toPy_rep R ry h2
          obtain ⟨as, e1⟩ := Dp.reads I p vx ux d1 r1
          obtain ⟨bs, e2⟩ := Dp.reads I (.list qs) vy uy d2 r2
          cases neg
          · exact SeqAt.in_list_reads e2 e1 (SeqAt.canLay_of_shaped hs.2) (SeqAt.canLay_of_shaped hs.1) (in_room hs.1 hu) ⟨.bl _, H, I, rfl, fin⟩
          · exact SeqAt.notIn_list_reads e2 e1 (SeqAt.canLay_of_shaped hs.2) (SeqAt.canLay_of_shaped hs.1) (in_room hs.1 hu) ⟨.bl _, H, I, rfl, fin⟩
        · cases hd'
      · rename_i p qs h1 h2
        split at hd'
        · rename_i hs
          cases hd'
          have fin := fin _ hd
          have d1 := toPy_rep R rx h1
          have d2 := toPy_rep R ry h2
          obtain ⟨as, e1⟩ := Dp.reads I p vx ux d1 r1
          obtain ⟨bs, e2⟩ := Dp.reads I (.tuple qs) vy uy d2 r2
          cases neg
          · exact SeqAt.in_tuple_reads e2 e1 (SeqAt.canLay_of_shaped hs.2) (SeqAt.canLay_of_shaped hs.1) (in_room hs.1 hu) ⟨.bl _, H, I, rfl, fin⟩
          · exact SeqAt.notIn_tuple_reads e2 e1 (SeqAt.canLay_of_shaped hs.2) (SeqAt.canLay_of_shaped hs.1) (in_room hs.1 hu) ⟨.bl _, H, I, rfl, fin⟩
        · cases hd'
      · cases hd'
theorem opd_in (hu : X.A.units + 65 < cLine) : OpD X (compareOp .In) dIn := opd_in_ false hu
theorem opd_notIn (hu : X.A.units + 65 < cLine) : OpD X (compareOp .NotIn) dNotIn := opd_in_ true hu
/-! two comparisons -/
def mChain (g g' : DOp) (a b c : ME) : ME := fun e S => (a e S).bind fun x S1 => (b e S1).bind fun y S2 => (Res.of (g x y S2) S2).bind fun k S3 => match k with
  | .bl k => if k = true then (c e S3).bind fun z S4 => .of (g' y z S4) S4 else .ok (.bl false) S3
  | _ => .bad
variable {W : WX} {a b c : Expr} {ma mb mc : ME} {pos : Pos}
theorem tE_chain {g g' : DOp} {σ : L2.St} {H : Hp} {Q : VK} (h : tE X.K X.mg W (mChain g g' ma mb mc) σ H Q) : tChain (rOpD X.K g) (rOpD X.K g') (tE X.K X.mg W ma) (tE X.K X.mg W mb) (tE X.K X.mg W mc) σ H Q := by
  obtain ⟨ρ, e, S, he, R, q⟩ := h
  refine ⟨ρ, e, S, he, R, (Post.bind q).mono fun x S1 ρ1 H1 f1 R1 q vx rx => ?_⟩
  refine ⟨ρ1, e, S1, he.fr R.free f1, R1, (Post.bind q).mono fun y S2 ρ2 H2 f2 R2 q vy ry => ?_⟩
  refine ⟨ρ2, S2, x, y, R2, RepD.fr R1.free f2 _ _ rx, ry, ?_⟩
  cases hk : g x y S2 with
  | none => rw [hk] at q; exact q.elim
  | some k =>
    rw [hk] at q
    intro ρ3 H3 f3 R3 v rv
    have q := Post.fr f3 q
    cases k with
    | bl k =>
      cases rv
      refine ⟨k, rfl, ?_⟩
      cases k with
      | true =>
        rw [if_pos rfl]
        refine ⟨ρ3, e, S2, ((he.fr R.free f1).fr R1.free f2).fr R2.free f3, R3, (Post.bind (r := mc e S2) (f := fun z S4 => Res.of (g' y z S4) S4) q).mono fun z S4 ρ4 H4 f4 R4 q vz rz => ?_⟩
        exact ⟨ρ4, S4, y, z, R4, RepD.fr R3.free f4 _ _ (RepD.fr R2.free f3 _ _ ry), rz, PostE.of (σ := σ) q⟩
      | false => exact q ρ3 H3 (Fr.refl _ _) R3 _ (.bl false)
    | _ => exact q.elim
theorem em_chain {op op' : CmpOp} {g g' : DOp} (o : OpD X (compareOp op) g) (o' : OpD X (compareOp op') g') (ha : EM X W a ma) (hb : EM X W b mb) (hc : EM X W c mc) (hm : lastMarks [op, op'] [b, c] = false := by with_unfolding_all rfl) :
    EM X W (.Compare a [op, op'] [b, c] pos) (mChain g g' ma mb mc) := pe_imp (pe_chain o.r o'.r ha hb hc hm) fun σ H Q h => tE_chain h
theorem tm_chain {op op' : CmpOp} {g g' : DOp} (o : OpD X (compareOp op) g) (o' : OpD X (compareOp op') g') (ha : EM X W a ma) (hb : EM X W b mb) (hc : EM X W c mc) (hm : lastMarks [op, op'] [b, c] = false := by with_unfolding_all rfl) :
    TM X W (.Compare a [op, op'] [b, c] pos) (mB (mChain g g' ma mb mc)) := pt_imp (pt_chain o.r o'.r ha hb hc hm) fun σ H Q h => tE_chain (tE_test h)
/-! negation -/
def mUn (g : D → Store → Option D) (a : ME) : ME := fun e S => (a e S).bind fun x S1 => .of (g x S1) S1
theorem em_neg (ha : EM X W a ma) : EM X W (.UnaryOp .USub a pos) (mUn dNeg ma) :=
  pe_imp (pe_un un_neg ha) fun σ H Q h => tE_then (f := fun x e S => .of (dNeg x S) S) (fun ρ H d v e S he R r q => by
    cases d with
    | int i => cases r; exact ⟨i, rfl, q ρ H (Fr.refl _ _) R _ (.int _)⟩
    | _ => exact q.elim) h
end
end M


set_option Elab.async false
set_option linter.all false
set_option maxRecDepth 100000
set_option maxHeartbeats 4000000
namespace M
open PySem PySem.Spec PyProof.Rows L2
variable [Tabs]

/-! ### items -/
def dIx : DOp
  | .str x, .int i, _ => if x.length ≤ sizeLine then (atI x.cps.toList i).map fun c => .str ⟨#[c]⟩ else none
  | d, .int i, S => (seqOf S d).bind fun xs => atI xs i
  | _, _, _ => none
theorem atI_rep {K : PySem.W.Frag} {ρ : Rh} {H : Hp} {xs : List D} {vs : List V} {i : Int} {d : D} (h : RepDs K ρ H xs vs) (e : atI xs i = some d) : ∃ v, atI vs i = some v ∧ RepD K ρ H d v := by
  unfold atI at e ⊢
  rw [← h.length]
  cases q : ixN xs.length i with
  | none => rw [q] at e; cases e
  | some j =>
    rw [q] at e
    obtain ⟨v, a, b⟩ := h.get (i := j) e
    exact ⟨v, a, b⟩
section
variable {X : Cx} {W : WX} {a b c : Expr} {ma mb mc : ME} {pos : Pos}
theorem em_ix (ha : EM X W a ma) (hb : EM X W b mb) (hs : PlainIx b) : EM X W (.Subscript a b pos) (mBin dIx ma mb) :=
  pe_imp (pe_ix ix_seq ha hb hs) fun σ H Q h => tE_bin (fun ρ H S dx dy vx vy Q σ R rx ry q => by
    have q := PostE.of q
    have seq : ∀ xs i, seqOf S dx = some xs → dy = .int i → PostV X.K ρ H S Q (atI xs i) → rIx X.K vx vy H Q := fun xs i e ei qa => by
      subst ei
      cases ry
      obtain ⟨a, vs, rfl, hq, r⟩ := seqOf_rep R rx e
      cases hk : atI xs i with
      | none => rw [hk] at qa; exact qa.elim
      | some d =>
        rw [hk] at qa
        obtain ⟨v, hv, rv⟩ := atI_rep r hk
        rcases hq with hq | hq
        · exact .inl ⟨a, vs, i, v, rfl, rfl, hq, hv, qa.use R rv⟩
        · exact .inr (.inl ⟨a, vs, i, v, rfl, rfl, hq, hv, qa.use R rv⟩)
    cases dy with
    | int i =>
      have gen : PostV X.K ρ H S Q ((seqOf S dx).bind fun xs => atI xs i) → rIx X.K vx vy H Q := fun q => by
        cases e : seqOf S dx with
        | none => rw [e] at q; exact q.elim
        | some xs => rw [e] at q; exact seq xs i e rfl q
      cases dx with
      | str x =>
        cases rx; cases ry
        simp only [dIx] at q
        by_cases hz : x.length ≤ sizeLine
        · rw [if_pos hz] at q
          cases hk : atI x.cps.toList i with
          | none => rw [hk] at q; exact q.elim
          | some c => rw [hk] at q; exact .inr (.inr ⟨x, i, c, rfl, rfl, hz, hk, q.use R (.str _)⟩)
        · rw [if_neg hz] at q; exact q.elim
      | _ => exact gen q
    | _ => cases dx <;> exact q.elim) h

/-! ### slices -/
def cutD (xs : List D) (lo hi : Option Int) : List D := (xs.drop (HT.sIx xs.length 0 lo)).take (HT.sIx xs.length xs.length hi - HT.sIx xs.length 0 lo)
theorem cutD_rep {K : PySem.W.Frag} {ρ : Rh} {H : Hp} {xs : List D} {vs : List V} (h : RepDs K ρ H xs vs) (lo hi : Option Int) : RepDs K ρ H (cutD xs lo hi) (cutV vs lo hi) := by
  unfold cutD cutV
  rw [h.length]
  exact (h.drop _).take _
theorem cutD_whole {xs : List D} {lo hi : Option Int} (h : HT.sIx xs.length 0 lo = 0 ∧ HT.sIx xs.length xs.length hi = xs.length) : cutD xs lo hi = xs := by
  unfold cutD
  rw [h.1, h.2]
  simp
def dSlice (d : D) (lo hi : Option Int) (S : Store) : Option D := match d with
  | .str x => if x.length ≤ sizeLine then some (.str (Txt.slice x lo hi)) else none
  | .tup xs => some (.tup (cutD xs lo hi))
  | d => (lstOf S d).map fun xs => .lst (cutD xs lo hi)
/-- a part of a slice -/
abbrev MO := Env → Store → Res (Option Int)
def mNo : MO := fun _ S => .ok none S
def iOf : D → Option Int
  | .int i => some i
  | _ => none
def mPart (m : ME) : MO := fun e S => (m e S).bind fun d S1 => .of ((iOf d).map some) S1
def tO (K : PySem.W.Frag) (mg : Str → Option Value) (W : WX) (m : MO) : TO := fun σ H Q => ∃ ρ e S, EnvRel K ρ H σ e ∧ Rel K ρ H S ∧ Post K mg W (fun o _ _ H' => Q o H') ρ H σ (m e S)
abbrev OM (X : Cx) (W : WX) (e : Option Expr) (m : MO) : Prop := PO X e (tO X.K X.mg W m)
theorem om_no : OM X W none mNo := ⟨fun pins s σ H Q I ⟨ρ, e, S, he, R, q⟩ => po_none.run pins s σ H Q I (q ρ H (Fr.refl _ _) R)⟩
theorem om_some (h : EM X W a ma) : OM X W (some a) (mPart ma) := ⟨fun pins s σ H Q I ⟨ρ, e, S, he, R, q⟩ => (po_some h).run pins s σ H Q I ⟨ρ, e, S, he, R, (Post.bind q).mono fun d S1 ρ1 H1 f1 R1 q v rv => by
  cases d with
  | int i => cases rv; exact ⟨i, rfl, q ρ1 H1 (Fr.refl _ _) R1⟩
  | _ => exact q.elim⟩⟩
def mSlice (a : ME) (lo hi : MO) : ME := fun e S => (a e S).bind fun d S1 => (lo e S1).bind fun l S2 => (hi e S2).bind fun h S3 => .of (dSlice d l h S3) S3
theorem em_slice {lo hi : Option Expr} {ml mh : MO} {p2 : Pos} (ha : EM X W a ma) (hl : OM X W lo ml) (hh : OM X W hi mh) : EM X W (.Subscript a (.Slice lo hi none p2) pos) (mSlice ma ml mh) :=
  pe_imp (pe_slice (sl_tupA.or (sl_list.or C8.sl_txt)) ha hl hh) fun σ H Q ⟨ρ, e, S, he, R, q⟩ => by
    refine ⟨ρ, e, S, he, R, (Post.bind q).mono fun d S1 ρ1 H1 f1 R1 q v rv => ?_⟩
    refine ⟨ρ1, e, S1, he.fr R.free f1, R1, (Post.bind q).mono fun l S2 ρ2 H2 f2 R2 q => ?_⟩
    refine ⟨ρ2, e, S2, (he.fr R.free f1).fr R1.free f2, R2, (Post.bind q).mono fun h S3 ρ3 H3 f3 R3 q => ?_⟩
    have rv := RepD.fr R2.free f3 _ _ (RepD.fr R1.free f2 _ _ rv)
    have q := PostE.of (σ := σ) q
    have gen : PostV X.K ρ3 H3 S3 Q ((lstOf S3 d).map fun xs => .lst (cutD xs l h)) → rSlL X.K v l h H3 Q := fun q => by
      cases e : lstOf S3 d with
      | none => rw [e] at q; exact q.elim
      | some xs =>
        rw [e] at q
        obtain ⟨a, vs, rfl, hq, r⟩ := lstOf_rep R3 rv e
        exact ⟨a, vs, rfl, hq, q.newL R3 (cutD_rep r l h)⟩
    cases d with
    | str x =>
      cases rv
      simp only [dSlice] at q
      by_cases hz : x.length ≤ sizeLine
      · rw [if_pos hz] at q; exact .inr (.inr ⟨x, rfl, hz, q.use R3 (.str _)⟩)
      · rw [if_neg hz] at q; exact q.elim
    | tup xs =>
      cases rv with
      | tup hx rx =>
        rename_i a vs
        simp only [dSlice] at q
        refine .inl ⟨a, vs, rfl, hx, fun hw => ?_, fun _ => q.newT R3 (cutD_rep rx l h)⟩
        rw [← rx.length] at hw
        rw [cutD_whole hw] at q
        exact q.use R3 (.tup hx rx)
    | _ => exact .inr (.inl (gen q))

/-! ### backwards -/
theorem adjust_back (n : Nat) : Builtin.Slice.sliceAdjust none none (-1) (n : Int) = ((n : Int) - 1, -1) := by
  unfold Builtin.Slice.sliceAdjust
  simp
theorem places_back (n : Nat) : Builtin.Slice.slicePlaces ((n : Int) - 1) (-1) (-1) = n := by
  unfold Builtin.Slice.slicePlaces
  have h1 : ¬ ((-1 : Int) > 0) := by omega
  simp only [h1, if_false]
  by_cases h : (n : Int) - 1 > -1
  · rw [if_pos h, show (- -1 : Int) = 1 by decide, Int.ediv_one]; omega
  · rw [if_neg h]; omega
theorem fm_congr {α β : Type} {f g : α → Option β} : ∀ {l : List α}, (∀ x ∈ l, f x = g x) → l.filterMap f = l.filterMap g
  | [], _ => rfl
  | x :: l, h => by
    rw [List.filterMap_cons, List.filterMap_cons, h x List.mem_cons_self, fm_congr fun y hy => h y (List.mem_cons_of_mem _ hy)]
theorem pick_back (xs : Array Value) : ((List.range xs.size).filterMap fun (m : Nat) => xs[(((xs.size : Int) - 1) + (m : Int) * -1).toNat]?).toArray = xs.toList.reverse.toArray := by
  have e : (List.range xs.size).filterMap (fun (m : Nat) => xs[(((xs.size : Int) - 1) + (m : Int) * -1).toNat]?) = ((List.range xs.size).map fun k => xs.size - 1 - k).filterMap (xs[·]?) := by
    rw [List.filterMap_map]
    apply fm_congr
    intro k hk
    have := List.mem_range.mp hk
    show xs[_]? = xs[xs.size - 1 - k]?
    congr 1
    omega
  rw [e, PySem.W.krv_range, List.filterMap_reverse, PySem.W.krv_all]
theorem getItem_tuple_back {prog : Program} {w : World} {A : Around} {E : Value → Shared → Prop} {s : Shared} {t sl : Addr} {items : Array Value} {tk : Tok} {Q : Value → Shared → Prop} (ht : IsTup s.heap t items) (hs : s.heap.IsSliceOf sl .none .none (.int (-1) tk))
    (h : Q (.ref s.heap.objs.size) { s with heap := s.heap.push { cls := .type "tuple", data := .seq items.toList.reverse.toArray } }) (hsz : items.size ≤ sizeLine) : wpAny (model prog w) A (getItem (.ref t) (.ref sl)) Q E s := by
  have htake : sizeOk (.seq items.toList.reverse.toArray) := by
    show items.toList.reverse.toArray.size ≤ sizeLine
    rw [List.size_toArray, List.length_reverse, Array.length_toList]
    exact hsz
  obtain ⟨os, hos, hcs, hds⟩ := id hs
  have hTs : s.TypeIs (.ref sl) "slice" := ⟨os, hos, hcs⟩
  unfold getItem
  try with_reducible refine wpAny_holding ?_
  first | refine wpAny_bind (wpAny_pure ?_) | skip
  refine wpAny_bind (wpAny_sequenceKey ht.typeIs (by decide) ?_)
  refine wpAny_bind (wpAny_callSpecial?_slot (name := Str.ofString "__getitem__") ht.typeIs PyProof.Rows.slot_tuple_getitem
    (wpAny_call_entry PyProof.Rows.slot_tuple_getitem ht.typeIs entry_tuple_getitem ?_ (args_tuple_getitem _ _)))
  show wpAny _ _ (Builtin.Tuple.tupleItemsOf (.ref t) >>= _) _ _ s
  refine wpAny_bind (tupleItemsOf_ ht ?_)
  refine wpAny_bind (wpAny_typeOf hTs ?_)
  rw [if_pos (by decide)]
  refine wpAny_bind ?_
  unfold Builtin.Slice.sliceApplied Builtin.Slice.sliceFields
  refine wpAny_bind (wpAny_bind (wpAny_field hos hds (x := .none) rfl (wpAny_bind (wpAny_field hos hds (x := .none) rfl (wpAny_bind (wpAny_field hos hds (x := .int (-1) tk) rfl (wpAny_pure ?_)))))))
  refine wpAny_bind (HT.slicePart_ (o := some (-1)) (.int (-1) tk) ?_)
  show wpAny _ _ (if ((-1 : Int) == 0) = true then _ else _) _ _ s
  rw [if_neg (by decide)]
  refine wpAny_bind (HT.slicePart_ (o := none) .none (wpAny_bind (HT.slicePart_ (o := none) .none (wpAny_bind (wpAny_pure ?_)))))
  show wpAny _ _ (match Builtin.Slice.sliceAdjust none none (-1) (items.size : Int) with | (lo, hi) => pure (lo, (-1 : Int), Builtin.Slice.slicePlaces lo hi (-1))) _ _ s
  rw [adjust_back]
  show wpAny _ _ (pure ((items.size : Int) - 1, (-1 : Int), Builtin.Slice.slicePlaces ((items.size : Int) - 1) (-1) (-1))) _ _ s
  rw [places_back]
  refine wpAny_pure ?_
  have hno : ¬ ((((items.size : Int) - 1) == 0 && (-1 : Int) == 1 && items.size == items.size) = true) := by simp
  show wpAny _ _ (if (((items.size : Int) - 1) == 0 && (-1 : Int) == 1 && items.size == items.size) = true then _ else _) _ _ s
  rw [if_neg hno, pick_back]
  first
    | exact wpAny_bind (m := Builtin.Tuple.tupleExact _) (wpAny_newObj_type (wpAny_pure ⟨_, rfl, wpAny_pure h⟩) htake)
    | exact wpAny_bind (m := Builtin.Tuple.tupleExact _) (wpAny_newObj_type (wpAny_bind (wpAny_pure (wpAny_pure ⟨_, rfl, wpAny_pure h⟩))) htake)
    | exact wpAny_bind (wpAny_bind (m := Builtin.Tuple.tupleExact _) (wpAny_newObj_type (wpAny_pure (wpAny_pure ⟨_, rfl, wpAny_pure h⟩)) htake))
    | exact wpAny_bind (wpAny_bind (m := Builtin.Tuple.tupleExact _) (wpAny_newObj_type (wpAny_pure ⟨_, rfl, wpAny_pure h⟩) htake))
def rRev (K : PySem.W.Frag) : V → Hp → VK → Prop := fun x H Q => (∃ a xs, x = .ref a ∧ SqL K H a xs ∧ ∀ p, H p = none → Q (.ref p) (upd H p (.lst xs.reverse))) ∨ (∃ a xs, x = .ref a ∧ SqT K H a xs ∧ ∀ p, H p = none → Q (.ref p) (upd H p (.tup xs.reverse)))
def tRev (K : PySem.W.Frag) (te : TE) : TE := fun σ H Q => te σ H fun x H1 => rRev K x H1 Q
theorem pe_rev {e : Expr} {te : TE} {k : Nat} {p1 p2 p3 pos : Pos} (he : PE X e te) : PE X (.Subscript e (.Slice none none (some (.UnaryOp .USub (.Constant (.int 1) k p1) p2)) p3) pos) (tRev X.K te) := by
  refine ⟨fun pins s σ H Q I h => ?_⟩
  refine Subscript_ (thn (he.run pins s σ H _ I h) fun v s1 ⟨x, H1, I1, r1, q1⟩ => ?_)
  have hst : PO X (some (.UnaryOp .USub (.Constant (.int 1) k p1) p2)) (tPart (tUn (rU fun i => .int (-i)) (tC (.int 1)))) := po_some (pe_un un_neg pe_int)
  refine wpAny_Slice (thn (po_none.run pins s1 σ H1 (fun o H2 => o = none ∧ H2 = H1) I1 ⟨rfl, rfl⟩) fun vl s2 ⟨l, H2, I2, pl, el, e2⟩ => ?_)
  subst el e2
  refine thn (po_none.run pins s2 σ H2 (fun o H3 => o = none ∧ H3 = H2) I2 ⟨rfl, rfl⟩) fun vu s3 ⟨u, H3, I3, pu, eu, e3⟩ => ?_
  subst eu e3
  refine thn (hst.run pins s3 σ H3 (fun o H4 => o = some (-1) ∧ H4 = H3) I3 ⟨1, rfl, -1, rfl, rfl, rfl⟩) fun vs s4 ⟨o, H4, I4, ps, eo, e4⟩ => ?_
  subst eo e4
  have I5 : Inv X pins σ H4 { s4 with heap := s4.heap.push { cls := .type "slice", data := .fields #[vl, vu, vs] } } := I4.kept (t' := s4.toks) fun b ob q => Heap.get?_push_of_some _ q
  rcases q1 with ⟨a, xs, ex, hx, q⟩ | ⟨a, xs, ex, hx, q⟩
  · subst ex
    cases r1
    obtain ⟨its, r, ht, hz⟩ := I5.list hx
    have hlen := r.length
    show wpAny (model X.prog X.w) X.A (subscriptTail e (.Slice none none (some (.UnaryOp .USub (.Constant (.int 1) k p1) p2)) p3) (.ref a) (.ref s4.heap.objs.size)) (EP X pins σ Q) X.xe { s4 with heap := s4.heap.push { cls := .type "slice", data := .fields #[vl, vu, vs] } }
    refine tail_any (ops := [.ref a, .ref s4.heap.objs.size]) ht.isList.typeIs (PySem.slot_list_getitem.lookup) ?_ (by with_unfolding_all rfl)
    refine wpAny_getItem_list_slice ht.isList (Heap.IsSliceOf.new _ vl vu vs) pl pu ps (by decide) ?_ (by rw [List.size_toArray]; omega)
    rw [PySem.W.krv_pick]
    refine ⟨.ref _, _, I5.laid (t' := s4.toks) (o := .lst xs.reverse) (fun b ob q => Heap.get?_push_of_some _ q) (Nat.le_refl _) ?_, rfl, q _ (I5.hok.fresh (Nat.le_refl _))⟩
    exact ⟨by rw [List.length_reverse]; exact hz, _, 0, r.reverse, Heap.get?_push_size _ rfl⟩
  · subst ex
    cases r1
    obtain ⟨its, r, ht, hz⟩ := I5.tuple hx
    have hlen := r.length
    cases pl; cases pu; cases ps
    show wpAny (model X.prog X.w) X.A (subscriptTail e (.Slice none none (some (.UnaryOp .USub (.Constant (.int 1) k p1) p2)) p3) (.ref a) (.ref s4.heap.objs.size)) (EP X pins σ Q) X.xe { s4 with heap := s4.heap.push { cls := .type "slice", data := .fields #[.none, .none, .int (-1) _] } }
    refine tail_any (ops := [.ref a, .ref s4.heap.objs.size]) ht.typeIs (PyProof.Rows.slot_tuple_getitem.lookup) ?_ (by with_unfolding_all rfl)
    refine getItem_tuple_back ht (Heap.IsSliceOf.new _ _ _ _) ?_ (by rw [List.size_toArray]; omega)
    refine ⟨.ref _, _, I5.laid (t' := s4.toks) (o := .tup xs.reverse) (fun b ob q => Heap.get?_push_of_some _ q) (Nat.le_refl _) ?_, rfl, q _ (I5.hok.fresh (Nat.le_refl _))⟩
    exact ⟨by rw [List.length_reverse]; exact hz, _, by simpa using r.reverse, IsTup.new _ _⟩
def dRev (d : D) (S : Store) : Option D := match d with
  | .tup xs => some (.tup xs.reverse)
  | d => (lstOf S d).map fun xs => .lst xs.reverse
theorem em_rev {k : Nat} {p1 p2 p3 : Pos} (ha : EM X W a ma) : EM X W (.Subscript a (.Slice none none (some (.UnaryOp .USub (.Constant (.int 1) k p1) p2)) p3) pos) (mUn dRev ma) :=
  pe_imp (pe_rev ha) fun σ H Q h => tE_then (f := fun x e S => .of (dRev x S) S) (fun ρ H d v e S he R r q => by
    have q := PostE.of (σ := σ) q
    have gen : PostV X.K ρ H S Q ((lstOf S d).map fun xs => .lst xs.reverse) → rRev X.K v H Q := fun q => by
      cases e : lstOf S d with
      | none => rw [e] at q; exact q.elim
      | some xs =>
        rw [e] at q
        obtain ⟨a, vs, rfl, hq, r⟩ := lstOf_rep R r e
        exact .inl ⟨a, vs, rfl, hq, q.newL R r.reverse⟩
    cases d with
    | tup xs => cases r with | tup hx rx => exact .inr ⟨_, _, rfl, hx, q.newT R rx.reverse⟩
    | _ => exact gen q) h
end
end M


set_option Elab.async false
set_option linter.all false
set_option maxRecDepth 100000
set_option maxHeartbeats 4000000
namespace M
open PySem PySem.Spec PyProof.Rows L2
variable [Tabs]

section
variable {X : Cx} {W : WX} {a b c e : Expr} {es : List Expr} {ma mb mc : ME} {m : MA} {pos : Pos}
/-! ### arguments, displays -/
def mNil : MA := fun _ S => .ok [] S
def mCons (a : ME) (r : MA) : MA := fun e S => (a e S).bind fun d S1 => (r e S1).bind fun ds S2 => .ok (d :: ds) S2
theorem am_nil : AM X W [] mNil := pa_imp pa_nil fun σ H Q ⟨ρ, e, S, he, R, q⟩ => q ρ H (Fr.refl _ _) R [] .nil
theorem am_cons (ha : EM X W e ma) (hr : AM X W es m) (hs : starEach (e :: es) X.env = (false, eval e X.env) :: starEach es X.env := by rfl) : AM X W (e :: es) (mCons ma m) :=
  pa_imp (pa_cons ha hr hs) fun σ H Q ⟨ρ, e, S, he, R, q⟩ => ⟨ρ, e, S, he, R, (Post.bind q).mono fun d S1 ρ1 H1 f1 R1 q v rv => ⟨ρ1, e, S1, he.fr R.free f1, R1, (Post.bind q).mono fun ds S2 ρ2 H2 f2 R2 q vs rvs =>
    q ρ2 H2 (Fr.refl _ _) R2 (v :: vs) (.cons (RepD.fr R1.free f2 _ _ rv) rvs)⟩⟩
/-- arguments, then something by their values -/
theorem tA_then {β : Type} {g : List D → Store → Res D} {σ : L2.St} {H : Hp} {Q : VK} {u : List V → Hp → Prop}
    (hu : ∀ ρ H ds vs S, Rel X.K ρ H S → RepDs X.K ρ H ds vs → PostE X.K X.mg W ρ H σ Q (g ds S) → u vs H)
    (h : tE X.K X.mg W (fun e S => (m e S).bind fun ds S1 => g ds S1) σ H Q) : tA X.K X.mg W m σ H u := by
  obtain ⟨ρ, e, S, he, R, q⟩ := h
  exact ⟨ρ, e, S, he, R, (Post.bind q).mono fun ds S1 ρ1 H1 f1 R1 q vs r => hu ρ1 H1 ds vs S1 R1 r q⟩
def mTup (m : MA) : ME := fun e S => (m e S).bind fun ds S1 => .of (if ds.length ≤ sizeLine then some (.tup ds) else none) S1
theorem em_tup {k} (h : AM X W es m) : EM X W (.Tuple es k pos) (mTup m) :=
  pe_imp (pe_tup h) fun σ H Q h => tA_then (g := fun ds S => .of (if ds.length ≤ sizeLine then some (.tup ds) else none) S) (β := D) (fun ρ H ds vs S R r q => by
    have q := PostE.of (σ := σ) q
    by_cases hz : ds.length ≤ sizeLine
    · rw [if_pos hz] at q
      exact ⟨by rw [← r.length]; exact hz, q.newT R r⟩
    · rw [if_neg hz] at q; exact q.elim) h
/-- a list of written items -/
def mLst (m : MA) : MA := fun e S => (m e S).bind fun ds S1 => .of (if ds.length ≤ sizeLine then some ds else none) S1
theorem PostN.of_new {σ : L2.St} {Q : VK} {ρ : Rh} {H : Hp} {S : Store} {ds : List D} {vs : List V} (R : Rel X.K ρ H S) (r : RepDs X.K ρ H ds vs) (q : PostN X.K X.mg W ρ H σ Q (.ok ds S)) : ∀ p, H p = none → Q (.ref p) (upd H p (.lst vs)) := fun p hp =>
  q ρ _ p vs (Fr.laid hp) (R.laidH hp) hp (R.newh hp).1 upd_same (RepDs.laidH R hp r)
theorem PostN.bind {α : Type} {σ : L2.St} {Q : VK} {ρ : Rh} {H : Hp} {f : α → Store → Res (List D)} : ∀ {r : Res α}, PostN X.K X.mg W ρ H σ Q (r.bind f) → Post X.K X.mg W (fun a S1 ρ1 H1 => PostN X.K X.mg W ρ1 H1 σ Q (f a S1)) ρ H σ r
  | .ok _ _, h => fun ρ' H' g R => PostN.fr g h
  | .ex _ _, h => h
  | .bad, h => h
theorem nm_lst (h : AM X W es m) : NM X W (.List es pos) (mLst m) :=
  pe_imp (pe_lst h) fun σ H Q ⟨ρ, e, S, he, R, q⟩ => ⟨ρ, e, S, he, R, (PostN.bind q).mono fun ds S1 ρ1 H1 f1 R1 q vs r => by
    by_cases hz : ds.length ≤ sizeLine
    · rw [if_pos hz] at q
      exact ⟨by rw [← r.length]; exact hz, PostN.of_new R1 r q⟩
    · rw [if_neg hz] at q; exact q.elim⟩
/-- a new list by value; as an object of the store -/
def asV (m : MA) : ME := fun e S => (m e S).bind fun ds S1 => .ok (.lst ds) S1
def asL (m : MA) : ME := fun e S => (m e S).bind fun ds S1 => .ok (.loc S1.length) (S1 ++ [.lst ds])
theorem em_val (h : NM X W e m) : EM X W e (asV m) := pe_imp h fun σ H Q ⟨ρ, e, S, he, R, q⟩ => ⟨ρ, e, S, he, R, by
  unfold asV at q
  cases hk : m e S with
  | bad => rw [hk] at q; exact q
  | ex c S1 => rw [hk] at q; exact q
  | ok ds S1 =>
    rw [hk] at q
    exact fun ρ' H' p vs f R' hp hn e1 r => q ρ' H' f R'.unhide _ (.lst e1 hn (fun m => by
      obtain ⟨ws, z⟩ := R.hid p (by rw [← f.hid]; exact m)
      rw [hp] at z; cases z) (RepDs.sees Sees.unhide _ _ r))⟩
theorem em_loc (h : NM X W e m) : EM X W e (asL m) := pe_imp h fun σ H Q ⟨ρ, e, S, he, R, q⟩ => ⟨ρ, e, S, he, R, by
  unfold asL at q
  cases hk : m e S with
  | bad => rw [hk] at q; exact q
  | ex c S1 => rw [hk] at q; exact q
  | ok ds S1 =>
    rw [hk] at q
    exact fun ρ' H' p vs f R' hp hn e1 r => q _ H' (f.shown hp) (R'.shown hn e1 r) _ (.loc (by
      show (ρ'.l ++ [p])[S1.length]? = some p
      have : ρ'.l.length = S1.length := R'.len
      rw [List.getElem?_append_right (by omega), this]; simp))⟩

/-! ### calls of what is built in -/
def CallD (X : Cx) (f : Value) (g : List D → Store → Option D) : Prop :=
  ∀ (pins : List (Addr × Obj)) (s : Shared) (σ : L2.St) (ρ : Rh) (H : Hp) (S : Store) (ds : List D) (vs : List V) (us : List Value) (Q : VK), Inv X pins σ H s → Rel X.K ρ H S → RepDs X.K ρ H ds vs → Vals vs us →
    PostV X.K ρ H S Q (g ds S) → wpAny (model X.prog X.w) X.A (call f us) (EP X pins σ Q) X.xe s
theorem CallD.r {f : Value} {g : List D → Store → Option D} (o : CallD X f g) : CallR X f (fun vs H Q => ∃ ρ S ds, Rel X.K ρ H S ∧ RepDs X.K ρ H ds vs ∧ PostV X.K ρ H S Q (g ds S)) :=
  fun pins s σ H xs us Q I r ⟨ρ, S, ds, R, rd, q⟩ => o pins s σ ρ H S ds xs us Q I R rd r q
def mCall (g : List D → Store → Option D) (m : MA) : ME := fun e S => (m e S).bind fun ds S1 => .of (g ds S1) S1
variable {id T : String} {x : Str} {p : Pos}
theorem em_callB {g : List D → Store → Option D} (o : CallD X (.builtin id) g) (hg : Gl X x) (hm : X.mg x = none) (hv : bootBuiltins x = some (.builtin id)) (ha : AM X W (e :: es) m) (hn : x ≠ "__name__" := by decide) (hdb : (x == ("__debug__" : Str)) = false := by decide)
    (he : starEach (e :: es) X.env = (false, eval e X.env) :: starEach es X.env := by rfl) (hpl : (backTo pos (starEach es X.env)).any (·.1) = false := by rfl) : EM X W (.Call (.Name x p) (e :: es) [] pos) (mCall g m) :=
  pe_imp (pe_callB o.r hg hm hv ha hn hdb he hpl) fun σ H Q h => tA_then (β := D) (g := fun ds S => .of (g ds S) S) (fun ρ H ds vs S R r q => ⟨ρ, S, ds, R, r, PostE.of (σ := σ) q⟩) h
theorem em_callTy {g : List D → Store → Option D} (o : CallD X (.type T) g) (hg : Gl X x) (hm : X.mg x = none) (hv : bootBuiltins x = some (.type T)) (ha : AM X W (e :: es) m) (hn : x ≠ "__name__" := by decide) (hdb : (x == ("__debug__" : Str)) = false := by decide)
    (he : starEach (e :: es) X.env = (false, eval e X.env) :: starEach es X.env := by rfl) (hpl : (backTo pos (starEach es X.env)).any (·.1) = false := by rfl) : EM X W (.Call (.Name x p) (e :: es) [] pos) (mCall g m) :=
  pe_imp (pe_callTy o.r hg hm hv ha hn hdb he hpl) fun σ H Q h => tA_then (β := D) (g := fun ds S => .of (g ds S) S) (fun ρ H ds vs S R r q => ⟨ρ, S, ds, R, r, PostE.of (σ := σ) q⟩) h
/-- .. that make a new list -/
def CallN (X : Cx) (f : Value) (g : List D → Store → Option (List D)) : Prop :=
  ∀ (pins : List (Addr × Obj)) (s : Shared) (σ : L2.St) (ρ : Rh) (H : Hp) (S : Store) (ds : List D) (vs : List V) (us : List Value) (Q : VK), Inv X pins σ H s → Rel X.K ρ H S → RepDs X.K ρ H ds vs → Vals vs us →
    (∃ zs, g ds S = some zs ∧ ∀ ws, RepDs X.K ρ H zs ws → ∀ p, H p = none → Q (.ref p) (upd H p (.lst ws))) → wpAny (model X.prog X.w) X.A (call f us) (EP X pins σ Q) X.xe s
def mCallN (g : List D → Store → Option (List D)) (m : MA) : MA := fun e S => (m e S).bind fun ds S1 => .of (g ds S1) S1
theorem tA_thenN {g : List D → Store → Res (List D)} {σ : L2.St} {H : Hp} {Q : VK} {u : List V → Hp → Prop}
    (hu : ∀ ρ H ds vs S, Rel X.K ρ H S → RepDs X.K ρ H ds vs → PostN X.K X.mg W ρ H σ Q (g ds S) → u vs H)
    (h : tN X.K X.mg W (fun e S => (m e S).bind fun ds S1 => g ds S1) σ H Q) : tA X.K X.mg W m σ H u := by
  obtain ⟨ρ, e, S, he, R, q⟩ := h
  exact ⟨ρ, e, S, he, R, (PostN.bind q).mono fun ds S1 ρ1 H1 f1 R1 q vs r => hu ρ1 H1 ds vs S1 R1 r q⟩
theorem CallN.r {f : Value} {g : List D → Store → Option (List D)} (o : CallN X f g) : CallR X f (fun vs H Q => ∃ ρ S ds, Rel X.K ρ H S ∧ RepDs X.K ρ H ds vs ∧ ∃ zs, g ds S = some zs ∧ ∀ ws, RepDs X.K ρ H zs ws → ∀ p, H p = none → Q (.ref p) (upd H p (.lst ws))) :=
  fun pins s σ H xs us Q I r ⟨ρ, S, ds, R, rd, q⟩ => o pins s σ ρ H S ds xs us Q I R rd r q
theorem nm_callTy {g : List D → Store → Option (List D)} (o : CallN X (.type T) g) (hg : Gl X x) (hm : X.mg x = none) (hv : bootBuiltins x = some (.type T)) (ha : AM X W (e :: es) m) (hn : x ≠ "__name__" := by decide) (hdb : (x == ("__debug__" : Str)) = false := by decide)
    (he : starEach (e :: es) X.env = (false, eval e X.env) :: starEach es X.env := by rfl) (hpl : (backTo pos (starEach es X.env)).any (·.1) = false := by rfl) : NM X W (.Call (.Name x p) (e :: es) [] pos) (mCallN g m) :=
  pe_imp (pe_callTy o.r hg hm hv ha hn hdb he hpl) fun σ H Q h => tA_thenN (g := fun ds S => .of (g ds S) S) (fun ρ H ds vs S R r q => ⟨ρ, S, ds, R, r, by
    cases hz : g ds S with
    | none => rw [hz] at q; exact q.elim
    | some zs => rw [hz] at q; exact ⟨zs, rfl, fun ws rw' => PostN.of_new R rw' q⟩⟩) h
theorem nm_callB {g : List D → Store → Option (List D)} (o : CallN X (.builtin id) g) (hg : Gl X x) (hm : X.mg x = none) (hv : bootBuiltins x = some (.builtin id)) (ha : AM X W (e :: es) m) (hn : x ≠ "__name__" := by decide) (hdb : (x == ("__debug__" : Str)) = false := by decide)
    (he : starEach (e :: es) X.env = (false, eval e X.env) :: starEach es X.env := by rfl) (hpl : (backTo pos (starEach es X.env)).any (·.1) = false := by rfl) : NM X W (.Call (.Name x p) (e :: es) [] pos) (mCallN g m) :=
  pe_imp (pe_callB o.r hg hm hv ha hn hdb he hpl) fun σ H Q h => tA_thenN (g := fun ds S => .of (g ds S) S) (fun ρ H ds vs S R r q => ⟨ρ, S, ds, R, r, by
    cases hz : g ds S with
    | none => rw [hz] at q; exact q.elim
    | some zs => rw [hz] at q; exact ⟨zs, rfl, fun ws rw' => PostN.of_new R rw' q⟩⟩) h
end
end M


set_option Elab.async false
set_option linter.all false
set_option maxRecDepth 100000
set_option maxHeartbeats 4000000
namespace M
open PySem PySem.Spec PyProof.Rows L2
variable [Tabs]

/-! ### walks over tuples of ints -/
section
variable {prog : Program} {w : World} {A : Around} {E : Value → Shared → Prop} {s : Shared} {l : Addr} {its : List Value} {ns : List Int}
theorem iter_tup {items : Array Value} {Q : Value → Shared → Prop} (hl : IsTup s.heap l items)
    (h : ∀ s₂ : Shared, s₂ = { s with heap := s.heap.push { cls := .type "tuple_iterator", data := .fields #[.ref l, .int 0 0] } } →
      (s₂.heap.IsTupleIter s.heap.objs.size l 0 ∧ s₂.heap.IsTuple l items) → (∀ b ∈ [s.heap.objs.size, l], b < s₂.heap.objs.size) → l ≠ s.heap.objs.size → Q (.ref s.heap.objs.size) s₂) :
    wpAny (model prog w) A (pyIter (.ref l)) Q E s := by
  have hlt : l < s.heap.objs.size := hl.lt
  have hl' : s.heap.IsTuple l items := hl
  refine wpAny_pyIter_tuple hl' (h _ rfl ⟨⟨_, Heap.get?_push_size _ rfl, rfl, rfl⟩, hl'.push _⟩ (fun b hb => ?_) (Nat.ne_of_lt hlt))
  show b < (s.heap.push _).objs.size
  rw [Heap.size_push]
  rcases List.mem_cons.mp hb with rfl | hb
  · exact Nat.lt_succ_self _
  · rcases List.mem_cons.mp hb with rfl | hb
    · exact Nat.lt_succ_of_lt hlt
    · cases hb
theorem tkept {b₀ : Addr} {h h' : Heap} {o₀ : Obj} (hk : ∀ b o, b ∉ [h.objs.size] → (h.push o₀).get? b = some o → h'.get? b = some o) : ∀ b o, h.get? b = some o → h'.get? b = some o := fun b o e =>
  hk b o (fun m => by
    rcases List.mem_cons.mp m with m | m
    · have := Heap.lt_size e; rw [m] at this; exact Nat.lt_irrefl _ this
    · cases m) (Heap.get?_push_of_some _ e)
theorem sum_tup (hh : A.handled = none) (hl : IsTup s.heap l its.toArray) (hi : IntsAre its ns) {Q : Value → Shared → Prop}
    (h : ∀ h' tk t', (∀ b o, s.heap.get? b = some o → h'.get? b = some o) → Q (.int ns.sum t') { s with heap := h', toks := tk }) : wpAny (model prog w) A (call (.builtin "sum") [.ref l]) Q E s := by
  obtain ⟨xs, e⟩ := hi.allInts.items
  have hn : numsOf (intItems xs).toList = ns := by rw [← e]; exact hi.numsOf
  rw [nums_intItems] at hn
  rw [e] at hl
  refine call_sum_walkG (iter_tup hl fun s₂ e st hfp hlI => ?_)
  subst e
  refine ⟨_, _, _, _, _, _, numAt xs, rfl, Walks.tuple (A := A.in1) hh _ l hlI (intItems xs), st, hfp, (fun _ _ => intItems_at), fun h' tk t' hk => ?_⟩
  have := h h' tk t' (tkept (b₀ := l) hk)
  rw [← hn] at this
  simpa [intItems, preSum_eq, List.take_of_length_le] using this
theorem max_tup (hh : A.handled = none) (hl : IsTup s.heap l its.toArray) (hi : IntsAre its ns) (hne : 0 < ns.length) {Q : Value → Shared → Prop}
    (h : ∀ h' tk M t', (∀ b o, s.heap.get? b = some o → h'.get? b = some o) → M ∈ ns → (∀ a, a ∈ ns → a ≤ M) → Q (.int M t') { s with heap := h', toks := tk }) : wpAny (model prog w) A (call (.builtin "max") [.ref l]) Q E s := by
  obtain ⟨xs, e⟩ := hi.allInts.items
  have hn : numsOf (intItems xs).toList = ns := by rw [← e]; exact hi.numsOf
  rw [nums_intItems] at hn
  subst hn
  rw [e] at hl
  have hsz : 0 < xs.size := by simpa using hne
  refine call_max_walk (iter_tup hl fun s₂ e st hfp hlI => ?_)
  subst e
  refine ⟨_, _, _, _, _, _, _, rfl, Walks.tuple (A := A.in1) hh _ l hlI (intItems xs), st, hfp, by simpa [intItems] using hsz, CmpOf.ints_gt (numAt xs) (fun _ _ => intItems_at), fun v h' tk hP hk => ?_⟩
  have hv : (intItems xs)[argBest (fun i j => decide (numAt xs i > numAt xs j)) (xs.size - 1)]? = some v := by simpa [intItems] using hP
  obtain ⟨t, rfl⟩ := intItems_at hv
  obtain ⟨h1, h2⟩ := argBest_gt (numAt xs) (xs.size - 1)
  refine h h' tk _ t (tkept (b₀ := l) hk) ?_ fun a ha => ?_
  · rw [numAt_eq]; exact PySem.getD_mem (by rw [List.length_map, Array.length_toList]; omega)
  · obtain ⟨j, hj, rfl⟩ := mem_getD ha
    rw [List.length_map, Array.length_toList] at hj
    rw [← numAt_eq]; exact h2 j (by omega)
theorem min_tup (hh : A.handled = none) (hl : IsTup s.heap l its.toArray) (hi : IntsAre its ns) (hne : 0 < ns.length) {Q : Value → Shared → Prop}
    (h : ∀ h' tk M t', (∀ b o, s.heap.get? b = some o → h'.get? b = some o) → M ∈ ns → (∀ a, a ∈ ns → M ≤ a) → Q (.int M t') { s with heap := h', toks := tk }) : wpAny (model prog w) A (call (.builtin "min") [.ref l]) Q E s := by
  obtain ⟨xs, e⟩ := hi.allInts.items
  have hn : numsOf (intItems xs).toList = ns := by rw [← e]; exact hi.numsOf
  rw [nums_intItems] at hn
  subst hn
  rw [e] at hl
  have hsz : 0 < xs.size := by simpa using hne
  refine call_min_walk (iter_tup hl fun s₂ e st hfp hlI => ?_)
  subst e
  refine ⟨_, _, _, _, _, _, _, rfl, Walks.tuple (A := A.in1) hh _ l hlI (intItems xs), st, hfp, by simpa [intItems] using hsz, CmpOf.ints_lt (numAt xs) (fun _ _ => intItems_at), fun v h' tk hP hk => ?_⟩
  have hv : (intItems xs)[argBest (fun i j => decide (numAt xs i < numAt xs j)) (xs.size - 1)]? = some v := by simpa [intItems] using hP
  obtain ⟨t, rfl⟩ := intItems_at hv
  obtain ⟨h1, h2⟩ := argBest_lt (numAt xs) (xs.size - 1)
  refine h h' tk _ t (tkept (b₀ := l) hk) ?_ fun a ha => ?_
  · rw [numAt_eq]; exact PySem.getD_mem (by rw [List.length_map, Array.length_toList]; omega)
  · obtain ⟨j, hj, rfl⟩ := mem_getD ha
    rw [List.length_map, Array.length_toList] at hj
    rw [← numAt_eq]; exact h2 j (by omega)
end

/-! ### lists of ints, of texts -/
def intsOf : List D → Option (List Int)
  | [] => some []
  | .int i :: ds => (intsOf ds).map (i :: ·)
  | _ => none
def strsOf : List D → Option (List Str)
  | [] => some []
  | .str x :: ds => (strsOf ds).map (x :: ·)
  | _ => none
theorem intsOf_eq : ∀ {ds : List D} {ns : List Int}, intsOf ds = some ns → ds = ns.map D.int
  | [], _, h => by simp only [intsOf] at h; cases h; rfl
  | d :: ds, ns, h => by
    cases d <;> simp only [intsOf] at h <;> try cases h
    rw [Option.map_eq_some_iff] at h
    obtain ⟨ms, h1, rfl⟩ := h
    rw [intsOf_eq h1]; rfl
theorem strsOf_eq : ∀ {ds : List D} {ns : List Str}, strsOf ds = some ns → ds = ns.map D.str
  | [], _, h => by simp only [strsOf] at h; cases h; rfl
  | d :: ds, ns, h => by
    cases d <;> simp only [strsOf] at h <;> try cases h
    rw [Option.map_eq_some_iff] at h
    obtain ⟨ms, h1, rfl⟩ := h
    rw [strsOf_eq h1]; rfl
@[simp] theorem intsOf_map : ∀ ns : List Int, intsOf (ns.map D.int) = some ns
  | [] => rfl
  | n :: ns => by simp [intsOf, intsOf_map ns]
@[simp] theorem strsOf_map : ∀ ns : List Str, strsOf (ns.map D.str) = some ns
  | [] => rfl
  | n :: ns => by simp [strsOf, strsOf_map ns]

def maxI : List Int → Option Int
  | [] => none
  | x :: xs => some (xs.foldl max x)
def minI : List Int → Option Int
  | [] => none
  | x :: xs => some (xs.foldl min x)
theorem foldl_max : ∀ (xs : List Int) (x : Int), x ≤ xs.foldl max x ∧ (∀ y ∈ xs, y ≤ xs.foldl max x) ∧ (xs.foldl max x = x ∨ xs.foldl max x ∈ xs)
  | [], x => ⟨Int.le_refl _, by simp, .inl rfl⟩
  | a :: xs, x => by
    obtain ⟨h1, h2, h3⟩ := foldl_max xs (max x a)
    simp only [List.foldl_cons]
    refine ⟨by omega, fun y hy => ?_, ?_⟩
    · rcases List.mem_cons.mp hy with rfl | hy
      · omega
      · exact h2 y hy
    · rcases h3 with h3 | h3
      · rw [h3]
        by_cases h : x ≤ a
        · right; rw [Int.max_eq_right h]; exact List.mem_cons_self
        · left; omega
      · right; exact List.mem_cons_of_mem _ h3
theorem foldl_min : ∀ (xs : List Int) (x : Int), xs.foldl min x ≤ x ∧ (∀ y ∈ xs, xs.foldl min x ≤ y) ∧ (xs.foldl min x = x ∨ xs.foldl min x ∈ xs)
  | [], x => ⟨Int.le_refl _, by simp, .inl rfl⟩
  | a :: xs, x => by
    obtain ⟨h1, h2, h3⟩ := foldl_min xs (min x a)
    simp only [List.foldl_cons]
    refine ⟨by omega, fun y hy => ?_, ?_⟩
    · rcases List.mem_cons.mp hy with rfl | hy
      · omega
      · exact h2 y hy
    · rcases h3 with h3 | h3
      · rw [h3]
        by_cases h : a ≤ x
        · right; rw [Int.min_eq_right h]; exact List.mem_cons_self
        · left; omega
      · right; exact List.mem_cons_of_mem _ h3
theorem maxI_spec {ns : List Int} {m : Int} (h : maxI ns = some m) : m ∈ ns ∧ ∀ y ∈ ns, y ≤ m := by
  cases ns with
  | nil => cases h
  | cons x xs =>
    cases h
    obtain ⟨h1, h2, h3⟩ := foldl_max xs x
    refine ⟨?_, fun y hy => ?_⟩
    · rcases h3 with h3 | h3
      · rw [h3]; exact List.mem_cons_self
      · exact List.mem_cons_of_mem _ h3
    · rcases List.mem_cons.mp hy with rfl | hy
      · exact h1
      · exact h2 y hy
theorem minI_spec {ns : List Int} {m : Int} (h : minI ns = some m) : m ∈ ns ∧ ∀ y ∈ ns, m ≤ y := by
  cases ns with
  | nil => cases h
  | cons x xs =>
    cases h
    obtain ⟨h1, h2, h3⟩ := foldl_min xs x
    refine ⟨?_, fun y hy => ?_⟩
    · rcases h3 with h3 | h3
      · rw [h3]; exact List.mem_cons_self
      · exact List.mem_cons_of_mem _ h3
    · rcases List.mem_cons.mp hy with rfl | hy
      · exact h1
      · exact h2 y hy

/-! ### the built-in functions -/
def dLen : List D → Store → Option D
  | [.str x], _ => if x.length ≤ sizeLine then some (.int x.length) else none
  | [d], S => (seqOf S d).map fun xs => .int xs.length
  | _, _ => none
def dAbs : List D → Store → Option D
  | [.int i], _ => some (.int (if i < 0 then -i else i))
  | _, _ => none
def dInt : List D → Store → Option D
  | [.int i], _ => some (.int i)
  | [.bl k], _ => some (.int (if k then 1 else 0))
  | [.str x], _ => if x.length ≤ 640 then (PySem.intText? x).map .int else none
  | _, _ => none
def dStr : List D → Store → Option D
  | [.int i], _ => if i.natAbs < 2 ^ 1000 then some (.str (toString i)) else none
  | _, _ => none
def dSum : List D → Store → Option D
  | [d], S => ((seqOf S d).bind intsOf).map fun ns => .int ns.sum
  | _, _ => none
def dMax : List D → Store → Option D
  | [.int i, .int j], _ => some (.int (if j > i then j else i))
  | [d], S => (((seqOf S d).bind intsOf).bind maxI).map .int
  | _, _ => none
def dMin : List D → Store → Option D
  | [.int i, .int j], _ => some (.int (if j < i then j else i))
  | [d], S => (((seqOf S d).bind intsOf).bind minI).map .int
  | _, _ => none
def dTuple : List D → Store → Option D
  | [d], S => (seqOf S d).map .tup
  | _, _ => none
section
variable {X : Cx}
theorem reps1 {K : PySem.W.Frag} {ρ : Rh} {H : Hp} {d : D} {vs : List V} (h : RepDs K ρ H [d] vs) : ∃ v, vs = [v] ∧ RepD K ρ H d v := by
  cases h with | cons a b => cases b; exact ⟨_, rfl, a⟩
theorem reps2 {K : PySem.W.Frag} {ρ : Rh} {H : Hp} {d e : D} {vs : List V} (h : RepDs K ρ H [d, e] vs) : ∃ v w, vs = [v, w] ∧ RepD K ρ H d v ∧ RepD K ρ H e w := by
  cases h with | cons a b => cases b with | cons b c => cases c; exact ⟨_, _, rfl, a, b⟩
/-- a sequence, one argument -/
theorem cd_seq {f : Value} {g : List D → Store → Option D} {h : List D → Option D} (hg : ∀ ds S, g ds S ≠ none → (∃ d xs, ds = [d] ∧ seqOf S d = some xs ∧ g ds S = h xs))
    (k : ∀ (pins : List (Addr × Obj)) (s : Shared) (σ : L2.St) (ρ : Rh) (H : Hp) (S : Store) (a : Addr) (vs : List V) (xs : List D) (u : Value) (Q : VK), L2.Inv X pins σ H s → Rel X.K ρ H S → RepDs X.K ρ H xs vs → L2.RelV (.ref a) u → (SqL X.K H a vs ∨ (SqT X.K H a vs)) →
      PostV X.K ρ H S Q (h xs) → wpAny (model X.prog X.w) X.A (call f [u]) (EP X pins σ Q) X.xe s) : CallD X f g := fun pins s σ ρ H S ds vs us Q I R r rv q => by
  by_cases hn : g ds S = none
  · rw [hn] at q; exact q.elim
  · obtain ⟨d, xs, rfl, e, e2⟩ := hg ds S hn
    rw [e2] at q
    obtain ⟨v, rfl, r1⟩ := reps1 r
    obtain ⟨a, ws, rfl, hq, rx⟩ := seqOf_rep R r1 e
    cases rv with
    | cons ru rt =>
      cases rt
      exact k pins s σ ρ H S a ws xs _ Q I R rx ru hq q
theorem cd_len : CallD X (.builtin "len") dLen := fun pins s σ ρ H S ds vs us Q I R r rv q => by
  have gen : ∀ d, ds = [d] → PostV X.K ρ H S Q ((seqOf S d).map fun xs => .int xs.length) → wpAny (model X.prog X.w) X.A (call (.builtin "len") us) (EP X pins σ Q) X.xe s := fun d e qa => by
    subst e
    cases hs : seqOf S d with
    | none => rw [hs] at qa; exact qa.elim
    | some xs =>
      rw [hs] at qa
      obtain ⟨v, rfl, r1⟩ := reps1 r
      obtain ⟨a, ws, rfl, hq, rx⟩ := seqOf_rep R r1 hs
      refine call_len_seq pins s σ H _ us Q I rv ⟨a, ws, rfl, hq, ?_⟩
      rw [← rx.length]
      exact qa.use R (.int _)
  match ds, r, q, gen with
  | [], _, q, _ => exact q.elim
  | d :: _ :: _, _, q, _ => (cases d <;> exact q.elim)
  | [d], r, q, gen =>
    cases d with
    | str x =>
      simp only [dLen] at q
      by_cases hz : x.length ≤ sizeLine
      · rw [if_pos hz] at q
        obtain ⟨v, rfl, r1⟩ := reps1 r
        cases r1
        exact call_len_str pins s σ H _ us Q I rv ⟨x, rfl, hz, q.use R (.int _)⟩
      · rw [if_neg hz] at q; exact q.elim
    | _ => exact gen _ rfl q
theorem cd_abs : CallD X (.builtin "abs") dAbs := fun pins s σ ρ H S ds vs us Q I R r rv q => by
  match ds, r, q with
  | [], _, q => exact q.elim
  | d :: _ :: _, _, q => (cases d <;> exact q.elim)
  | [d], r, q =>
    cases d with
    | int i =>
      obtain ⟨v, rfl, r1⟩ := reps1 r
      cases r1
      exact call_abs pins s σ H _ us Q I rv ⟨i, rfl, q.use R (.int _)⟩
    | _ => exact q.elim
theorem cd_int : CallD X (.type "int") dInt := fun pins s σ ρ H S ds vs us Q I R r rv q => by
  match ds, r, q with
  | [], _, q => exact q.elim
  | d :: _ :: _, _, q => (cases d <;> exact q.elim)
  | [d], r, q =>
    cases d with
    | int i =>
      obtain ⟨v, rfl, r1⟩ := reps1 r
      cases r1
      exact call_int1 pins s σ H _ us Q I rv (.inl ⟨i, rfl, q.use R (.int _)⟩)
    | bl k =>
      obtain ⟨v, rfl, r1⟩ := reps1 r
      cases r1
      exact call_int1 pins s σ H _ us Q I rv (.inr ⟨k, rfl, q.use R (.int _)⟩)
    | str x =>
      simp only [dInt] at q
      by_cases hz : x.length ≤ 640
      · rw [if_pos hz] at q
        cases hx : PySem.intText? x with
        | none => rw [hx] at q; exact q.elim
        | some n =>
          rw [hx] at q
          obtain ⟨v, rfl, r1⟩ := reps1 r
          cases r1
          exact call_int_str pins s σ H _ us Q I rv ⟨x, n, rfl, hx, hz, q.use R (.int _)⟩
      · rw [if_neg hz] at q; exact q.elim
    | _ => exact q.elim
theorem cd_str : CallD X (.type "str") dStr := fun pins s σ ρ H S ds vs us Q I R r rv q => by
  match ds, r, q with
  | [], _, q => exact q.elim
  | d :: _ :: _, _, q => (cases d <;> exact q.elim)
  | [d], r, q =>
    cases d with
    | int i =>
      simp only [dStr] at q
      by_cases hz : i.natAbs < 2 ^ 1000
      · rw [if_pos hz] at q
        obtain ⟨v, rfl, r1⟩ := reps1 r
        cases r1
        refine call_str_int pins s σ H _ us Q I rv ⟨i, rfl, ?_, q.use R (.str _)⟩
        by_cases h0 : i.natAbs = 0
        · rw [h0]; decide
        · have := (Nat.log2_lt h0).mpr hz
          omega
      · rw [if_neg hz] at q; exact q.elim
    | _ => exact q.elim
theorem seq1 {g : List D → Store → Option D} {h : List D → Option D} (e0 : ∀ S, g [] S = none) (e2 : ∀ d d' r S, g (d :: d' :: r) S = none) (e1 : ∀ d S, g [d] S = (seqOf S d).bind h) : ∀ ds S, g ds S ≠ none → (∃ d xs, ds = [d] ∧ seqOf S d = some xs ∧ g ds S = h xs)
  | [], S, n => (n (e0 S)).elim
  | d :: d' :: r, S, n => (n (e2 d d' r S)).elim
  | [d], S, n => by
    rw [e1] at n
    cases hs : seqOf S d with
    | none => rw [hs] at n; exact (n rfl).elim
    | some xs => exact ⟨d, xs, rfl, hs, by rw [e1, hs]; rfl⟩
theorem tup_of {pins : List (Addr × Obj)} {s : Shared} {σ : L2.St} {H : Hp} {a : Addr} {ns : List Int} (I : L2.Inv X pins σ H s) (h : SqT X.K H a (ns.map V.int)) : ∃ its : List Value, IsTup s.heap a its.toArray ∧ IntsAre its ns := by
  obtain ⟨its, rv, ht, _⟩ := I.tuple h
  exact ⟨its, ht, rv.ints⟩
theorem cd_sum (hc : X.calm = true) : CallD X (.builtin "sum") dSum := cd_seq (h := fun xs => (intsOf xs).map fun ns => .int ns.sum)
  (seq1 (fun _ => rfl) (fun _ _ _ _ => rfl) fun d S => by simp only [dSum]; cases seqOf S d <;> rfl)
  fun pins s σ ρ H S a vs xs u Q I R rx ru hq q => by
    cases hi : intsOf xs with
    | none => rw [hi] at q; exact q.elim
    | some ns =>
      rw [hi] at q
      have e := intsOf_eq hi
      subst e
      have e := RepDs.ints rx
      subst e
      rcases hq with hq | hq
      · exact L2.cr_sum hc pins s σ H _ _ Q I (.cons ru .nil) ⟨a, ns, rfl, hq, q.use R (.int _)⟩
      · obtain ⟨its, ht, hi⟩ := tup_of I hq
        cases ru
        exact sum_tup (I.ok.hd hc) ht hi fun h' tk t' hk => ⟨.int _, H, I.kept hk, ⟨_, rfl⟩, q.use R (.int _)⟩
theorem max_uniq {ns : List Int} {m m' : Int} (h : maxI ns = some m) (h1 : m' ∈ ns) (h2 : ∀ y ∈ ns, y ≤ m') : m' = m := by
  obtain ⟨a, b⟩ := maxI_spec h
  exact Int.le_antisymm (b m' h1) (h2 m a)
theorem min_uniq {ns : List Int} {m m' : Int} (h : minI ns = some m) (h1 : m' ∈ ns) (h2 : ∀ y ∈ ns, m' ≤ y) : m' = m := by
  obtain ⟨a, b⟩ := minI_spec h
  exact Int.le_antisymm (h2 m a) (b m' h1)
theorem cd_max1 (hc : X.calm = true) : CallD X (.builtin "max") (fun ds S => match ds with | [d] => (((seqOf S d).bind intsOf).bind maxI).map .int | _ => none) := cd_seq (h := fun xs => ((intsOf xs).bind maxI).map .int)
  (seq1 (fun _ => rfl) (fun _ _ _ _ => rfl) fun d S => by
    show (((seqOf S d).bind intsOf).bind _).map D.int = _
    cases seqOf S d <;> rfl)
  fun pins s σ ρ H S a vs xs u Q I R rx ru hq q => by
    cases hi : intsOf xs with
    | none => rw [hi] at q; exact q.elim
    | some ns =>
      rw [hi] at q
      have e := intsOf_eq hi
      subst e
      have e := RepDs.ints rx
      subst e
      cases hm : maxI ns with
      | none => simp only [Option.bind_some, hm] at q; exact q.elim
      | some m =>
        simp only [Option.bind_some, hm] at q
        have hl : 0 < ns.length := List.length_pos_of_mem (maxI_spec hm).1
        rcases hq with hq | hq
        · exact L2.cr_max hc pins s σ H _ _ Q I (.cons ru .nil) ⟨a, ns, rfl, hq, hl, fun m' h1 h2 => by rw [max_uniq hm h1 h2]; exact q.use R (.int _)⟩
        · obtain ⟨its, ht, hi⟩ := tup_of I hq
          cases ru
          exact max_tup (I.ok.hd hc) ht hi hl fun h' tk m' t' hk h1 h2 => ⟨.int _, H, I.kept hk, ⟨_, rfl⟩, by rw [max_uniq hm h1 h2]; exact q.use R (.int _)⟩
theorem cd_min1 (hc : X.calm = true) : CallD X (.builtin "min") (fun ds S => match ds with | [d] => (((seqOf S d).bind intsOf).bind minI).map .int | _ => none) := cd_seq (h := fun xs => ((intsOf xs).bind minI).map .int)
  (seq1 (fun _ => rfl) (fun _ _ _ _ => rfl) fun d S => by
    show (((seqOf S d).bind intsOf).bind _).map D.int = _
    cases seqOf S d <;> rfl)
  fun pins s σ ρ H S a vs xs u Q I R rx ru hq q => by
    cases hi : intsOf xs with
    | none => rw [hi] at q; exact q.elim
    | some ns =>
      rw [hi] at q
      have e := intsOf_eq hi
      subst e
      have e := RepDs.ints rx
      subst e
      cases hm : minI ns with
      | none => simp only [Option.bind_some, hm] at q; exact q.elim
      | some m =>
        simp only [Option.bind_some, hm] at q
        have hl : 0 < ns.length := List.length_pos_of_mem (minI_spec hm).1
        rcases hq with hq | hq
        · exact L2.cr_min hc pins s σ H _ _ Q I (.cons ru .nil) ⟨a, ns, rfl, hq, hl, fun m' h1 h2 => by rw [min_uniq hm h1 h2]; exact q.use R (.int _)⟩
        · obtain ⟨its, ht, hi⟩ := tup_of I hq
          cases ru
          exact min_tup (I.ok.hd hc) ht hi hl fun h' tk m' t' hk h1 h2 => ⟨.int _, H, I.kept hk, ⟨_, rfl⟩, by rw [min_uniq hm h1 h2]; exact q.use R (.int _)⟩
theorem cd_max (hc : X.calm = true) : CallD X (.builtin "max") dMax := fun pins s σ ρ H S ds vs us Q I R r rv q => by
  match ds, r, q with
  | [], _, q => exact q.elim
  | [d], r, q => exact cd_max1 hc pins s σ ρ H S [d] vs us Q I R r rv (by cases d <;> exact q)
  | [d, e], r, q =>
    obtain ⟨v, w, rfl, r1, r2⟩ := reps2 r
    cases d with
    | int i =>
      cases e with
      | int j => cases r1; cases r2; exact call_max2 hc pins s σ H _ us Q I rv ⟨i, j, rfl, q.use R (.int _)⟩
      | _ => exact q.elim
    | _ => exact q.elim
  | d :: e :: _ :: _, _, q => (cases d <;> cases e <;> exact q.elim)
theorem cd_min (hc : X.calm = true) : CallD X (.builtin "min") dMin := fun pins s σ ρ H S ds vs us Q I R r rv q => by
  match ds, r, q with
  | [], _, q => exact q.elim
  | [d], r, q => exact cd_min1 hc pins s σ ρ H S [d] vs us Q I R r rv (by cases d <;> exact q)
  | [d, e], r, q =>
    obtain ⟨v, w, rfl, r1, r2⟩ := reps2 r
    cases d with
    | int i =>
      cases e with
      | int j => cases r1; cases r2; exact call_min2 hc pins s σ H _ us Q I rv ⟨i, j, rfl, q.use R (.int _)⟩
      | _ => exact q.elim
    | _ => exact q.elim
  | d :: e :: _ :: _, _, q => (cases d <;> cases e <;> exact q.elim)
theorem cd_tuple : CallD X (.type "tuple") dTuple := fun pins s σ ρ H S ds vs us Q I R r rv q => by
  match ds, r, q with
  | [], _, q => exact q.elim
  | _ :: _ :: _, _, q => exact q.elim
  | [d], r, q =>
    simp only [dTuple] at q
    obtain ⟨v, rfl, r1⟩ := reps1 r
    by_cases ht : ∃ ys, d = .tup ys
    · obtain ⟨ys, rfl⟩ := ht
      simp only [seqOf, Option.map_some] at q
      cases r1 with
      | tup hx rx => exact call_tuple_of pins s σ H _ us Q I rv ⟨_, _, rfl, .inr ⟨hx, q.use R (.tup hx rx)⟩⟩
    · have e' : seqOf S d = lstOf S d := by cases d <;> first | rfl | exact (ht ⟨_, rfl⟩).elim
      rw [e'] at q
      cases hs : lstOf S d with
      | none => rw [hs] at q; exact q.elim
      | some xs =>
        rw [hs] at q
        obtain ⟨a, ws, rfl, hq, rx⟩ := lstOf_rep R r1 hs
        exact call_tuple_of pins s σ H _ us Q I rv ⟨a, ws, rfl, .inl ⟨hq, q.newT R rx⟩⟩
/-- list(x): a new list -/
def nList : List D → Store → Option (List D)
  | [d], S => seqOf S d
  | _, _ => none
theorem cn_list : CallN X (.type "list") nList := fun pins s σ ρ H S ds vs us Q I R r rv ⟨zs, e, q⟩ => by
  match ds, r, e with
  | [], _, e => cases e
  | _ :: _ :: _, _, e => cases e
  | [d], r, e =>
    simp only [nList] at e
    obtain ⟨v, rfl, r1⟩ := reps1 r
    obtain ⟨a, ws, rfl, hq, rx⟩ := seqOf_rep R r1 e
    exact call_list_of pins s σ H _ us Q I rv ⟨a, ws, rfl, hq, q ws rx⟩
end
end M


set_option Elab.async false
set_option linter.all false
set_option maxRecDepth 100000
set_option maxHeartbeats 4000000
namespace M
open PySem PySem.Spec PyProof.Rows L2
variable [Tabs]

/-- what a method comes to: a value and the store behind it -/
def PostVS (K : PySem.W.Frag) (ρ : Rh) (H : Hp) (Q : VK) : Option (D × Store) → Prop
  | some (d, S') => ∀ ρ' H', Fr ρ H ρ' H' → Rel K ρ' H' S' → ∀ v, RepD K ρ' H' d v → Q v H'
  | none => False
def Res.ofS {α : Type} : Option (α × Store) → Res α
  | some (d, S) => .ok d S
  | none => .bad
@[simp] theorem Res.ofS_some {α : Type} (d : α) (S : Store) : Res.ofS (some (d, S)) = .ok d S := rfl
@[simp] theorem Res.ofS_none {α : Type} : Res.ofS (none : Option (α × Store)) = .bad := rfl
theorem PostE.ofS {K : PySem.W.Frag} {mg : Str → Option Value} {W : WX} {ρ : Rh} {H : Hp} {σ : L2.St} {Q : VK} {o : Option (D × Store)} (h : PostE K mg W ρ H σ Q (Res.ofS o)) : PostVS K ρ H Q o := by
  cases o with
  | none => exact h
  | some d => exact h
abbrev MtF := D → List D → Store → Option (D × Store)
/-- the receiver's type -/
def rcv (T : String) (S : Store) (d : D) : Bool := match d with
  | .str _ => T == "str"
  | d => (lstOf S d).isSome && T == "list"
def MtD (X : Cx) (id : String) (g : MtF) : Prop :=
  ∀ (pins : List (Addr × Obj)) (s : Shared) (σ : L2.St) (ρ : Rh) (H : Hp) (S : Store) (d : D) (x : V) (ds : List D) (vs : List V) (u : Value) (us : List Value) (Q : VK), L2.Inv X pins σ H s → Rel X.K ρ H S → RepD X.K ρ H d x → RepDs X.K ρ H ds vs → L2.RelV x u → Vals vs us →
    PostVS X.K ρ H Q (g d ds S) → wpAny (model X.prog X.w) X.A (call (.builtin id) (u :: us)) (EP X pins σ Q) X.xe s
theorem MtD.r {X : Cx} {id : String} {g : MtF} (o : MtD X id g) : MtR X id (fun x vs H Q => ∃ ρ S d ds, Rel X.K ρ H S ∧ RepD X.K ρ H d x ∧ RepDs X.K ρ H ds vs ∧ PostVS X.K ρ H Q (g d ds S)) :=
  fun pins s σ H x xs v us Q I rx rs ⟨ρ, S, d, ds, R, r1, r2, q⟩ => o pins s σ ρ H S d x ds xs v us Q I R r1 r2 rx rs q
def mMeth (T : String) (g : MtF) (o : ME) (m : MA) : ME := fun e S => (o e S).bind fun d S1 => if rcv T S1 d = true then (m e S1).bind fun ds S2 => .ofS (g d ds S2) else .bad
theorem rcv_tyV {K : PySem.W.Frag} {ρ : Rh} {H : Hp} {S : Store} (R : Rel K ρ H S) {T : String} {d : D} {v : V} (h : RepD K ρ H d v) (e : rcv T S d = true) : tyV K T v H := by
  have gen : ((lstOf S d).isSome && T == "list") = true → tyV K T v H := fun z => by
    rw [Bool.and_eq_true] at z
    obtain ⟨xs, hx⟩ := Option.isSome_iff_exists.mp z.1
    obtain ⟨a, vs, rfl, hq, _⟩ := lstOf_rep R h hx
    exact .inl ⟨eq_of_beq z.2, vs, hq⟩
  cases d with
  | str x => cases h; exact eq_of_beq (show (T == "str") = true from e)
  | _ => exact gen e
section
variable {X : Cx} {W : WX} {o e : Expr} {es : List Expr} {mo : ME} {m : MA} {name : Str} {apos cpos : Pos} {T id : String} {g : MtF}
theorem em_bm0 (pa : PlainAttrs T) (slot : Slot T name id) (hty : typeOf (.builtin id) = pure (.type "method_descriptor")) (hm : MtD X id g) (ho : EM X W o mo)
    (hbase : attributeBase o name X.env (eval o X.env) = eval o X.env := by rfl) (hline : (apos.endLine == cpos.line) = true := by rfl) : EM X W (.Call (.Attribute o name apos) [] [] cpos) (mMeth T g mo mNil) :=
  pe_imp (pe_bm0 pa slot hty hm.r ho hbase hline) fun σ H Q h => tE_then (f := fun d e S => if rcv T S d = true then (mNil e S).bind fun ds S2 => .ofS (g d ds S2) else .bad) (fun ρ H d v e S he R r q => by
    by_cases hr : rcv T S d = true
    · rw [if_pos hr] at q
      exact ⟨rcv_tyV R r hr, ρ, S, d, [], R, r, .nil, PostE.ofS (σ := σ) q⟩
    · rw [if_neg hr] at q; exact q.elim) h
theorem em_bm (pa : PlainAttrs T) (slot : Slot T name id) (hty : typeOf (.builtin id) = pure (.type "method_descriptor")) (hm : MtD X id g) (ho : EM X W o mo) (ha : AM X W (e :: es) m)
    (hbase : attributeBase o name X.env (eval o X.env) = eval o X.env := by rfl)
    (hfew : ((backTo cpos (starEach (e :: es) X.env)).all (fun x => !x.1) && (backToKw cpos (keywordEach [] X.env)).all (fun x => x.1.isSome)
      && decide ((e :: es).length + ([] : List Keyword).length + (if ([] : List Keyword).isEmpty then 0 else 1) < 30)) = true := by rfl)
    (hline : (apos.endLine == cpos.line) = true := by rfl) (hs : starEach (e :: es) X.env = (false, eval e X.env) :: starEach es X.env := by rfl) (hplain : (backTo cpos (starEach es X.env)).any (·.1) = false := by rfl) :
    EM X W (.Call (.Attribute o name apos) (e :: es) [] cpos) (mMeth T g mo m) :=
  pe_imp (pe_bm pa slot hty hm.r ho ha hbase hfew hline hs hplain) fun σ H Q h => tE_then (f := fun d e S => if rcv T S d = true then (m e S).bind fun ds S2 => .ofS (g d ds S2) else .bad) (fun ρ H d v e S he R r q => by
    by_cases hr : rcv T S d = true
    · rw [if_pos hr] at q
      refine ⟨rcv_tyV R r hr, ρ, e, S, he, R, (Post.bind q).mono fun ds S2 ρ2 H2 f2 R2 q vs rs => ?_⟩
      exact ⟨ρ2, S2, d, ds, R2, RepD.fr R.free f2 _ _ r, rs, PostE.ofS (σ := σ) q⟩
    · rw [if_neg hr] at q; exact q.elim) h

/-! ### lists that change -/
def seqOf' (S : Store) : D → Option (List D)
  | .tup xs => some xs
  | d => lstOf' S d
def gAppend : MtF
  | .loc n, [d], S => match S[n]? with
    | some (.lst xs) => if xs.length < sizeLine then some (.non, S.set n (.lst (xs ++ [d]))) else none
    | _ => none
  | _, _, _ => none
def gExtend : MtF
  | .loc n, [d], S => match S[n]?, seqOf' S d with
    | some (.lst xs), some ys => if xs.length + ys.length ≤ sizeLine then some (.non, S.set n (.lst (xs ++ ys))) else none
    | _, _ => none
  | _, _, _ => none
def gPop : MtF
  | .loc n, [], S => match S[n]? with
    | some (.lst xs) => (xs.getLast?).map fun d => (d, S.set n (.lst xs.dropLast))
    | _ => none
  | _, _, _ => none
def gInsert : MtF
  | .loc n, [.int i, d], S => match S[n]? with
    | some (.lst xs) => if xs.length < sizeLine ∧ 0 ≤ i ∧ i < 2 ^ 62 then some (.non, S.set n (.lst (xs.take i.toNat ++ [d] ++ xs.drop i.toNat))) else none
    | _ => none
  | _, _, _ => none
variable {K : PySem.W.Frag} {ρ : Rh} {H : Hp} {S : Store} {Q : VK}
/-- the list at loc n -/
theorem loc_at (R : Rel K ρ H S) {n : Nat} {x : V} {xs : List D} (r : RepD K ρ H (.loc n) x) (e : S[n]? = some (.lst xs)) : ∃ a vs, x = .ref a ∧ ρ.l[n]? = some a ∧ H a = some (.lst vs) ∧ RepDs K ρ H xs vs := by
  cases r with
  | loc ha =>
    obtain ⟨vs, q, r⟩ := R.at_ n _ _ e ha
    exact ⟨_, vs, rfl, ha, q, r⟩
theorem PostVS.put (R : Rel K ρ H S) {n : Nat} {a : Addr} (ha : ρ.l[n]? = some a) {ds : List D} {vs : List V} (r : RepDs K ρ H ds vs) {d : D} {v : V} (rd : RepD K ρ H d v) (q : PostVS K ρ H Q (some (d, S.set n (.lst ds)))) : Q v (upd H a (.lst vs)) :=
  q ρ _ (Fr.put (List.mem_of_getElem? ha)) (R.put ha r) v (RepD.fr R.free (Fr.put (List.mem_of_getElem? ha)) _ _ rd)
theorem md_append : MtD X "list.append" gAppend := fun pins s σ ρ H S d x ds vs u us Q I R r1 r2 ru rs q => by
  cases d with
  | loc n =>
    match ds, r2, q with
    | [], _, q => exact q.elim
    | _ :: _ :: _, _, q => exact q.elim
    | [d], r2, q =>
      simp only [gAppend] at q
      split at q
      · rename_i xs hs
        by_cases hz : xs.length < sizeLine
        · rw [if_pos hz] at q
          obtain ⟨a, ws, rfl, ha, hH, rx⟩ := loc_at R r1 hs
          obtain ⟨v, rfl, rv⟩ := reps1 r2
          exact mt_append pins s σ H _ _ u us Q I ru rs ⟨a, ws, v, rfl, rfl, hH, by rw [← rx.length]; exact hz, q.put R ha (rx.append (.cons rv .nil)) .non⟩
        · rw [if_neg hz] at q; exact q.elim
      · exact q.elim
  | _ => cases ds <;> exact q.elim
/-- xs.extend(a tuple) -/
theorem list_extend_tup (l : Addr) (items : Array Value) (n : Nat) (b : Addr) (items2 : Array Value) (n2 : Nat) (dd : Option Addr) (sl : Array (Option Value)) (hs0 : ¬(!items.isEmpty && Builtin.List.listTooLong (items.size + items2.size)) = true) (hs1 : items.size ≤ sizeLine) (hs2 : items.size + items2.size ≤ sizeLine + 1) :
    Meets (Builtin.«list.extend» ⟨[.ref l, .ref b], []⟩) (fun _ R s => s.heap.get? l = some { cls := .type "list", dict := none, data := .seq items n, slots := #[] } ∧ s.heap.get? b = some { cls := .type "tuple", dict := dd, data := .seq items2 n2, slots := sl } ∧ R (.ok (.ret Value.none)) { s with heap := s.heap.update l (Obj.mapSeq fun x => x ++ items2), toks := s.toks }) :=
  .of_wp fun prog w A R s h => by
    obtain ⟨hp, g, d, tk, os⟩ := s; obtain ⟨hl, hb, h⟩ := h; have f1 := AutoSeq1.idx_int; have f2 := AutoSeq1.sub_tuple_tuple; have f3 := AutoSeq1.sub_list_list; have f4 := AutoSeq1.sub_tuple_list; have f5 := AutoSeq1.sub_list_tuple;
    have hz' : (items ++ items2).size ≤ sizeLine + 1 := by rw [Array.size_append]; exact hs2
    wp_walk using (wpAny_updateSeq hl rfl (hz := hs1) (_hz' := hz')), wpAny_loadPart' hl, wpAny_loadPart' hb; exact ⟨_, rfl, h⟩
theorem mt_extendT {l b : Addr} {xs zs : List V} {pins : List (Addr × Obj)} {s : Shared} {σ : L2.St} {H : Hp} {Q : VK} (I : L2.Inv X pins σ H s) (hH : H l = some (.lst xs)) (hB : SqT X.K H b zs) (hz : xs.length + zs.length ≤ sizeLine) (q : Q .non (upd H l (.lst (xs ++ zs)))) :
    wpAny (model X.prog X.w) X.A (call (.builtin "list.extend") [.ref l, .ref b]) (EP X pins σ Q) X.xe s := by
  obtain ⟨z, its, n, r, hl, e⟩ := I.lstM hH
  obtain ⟨its2, r2, ⟨⟨cls, dd, data, sl⟩, e2, hc, n2, hd⟩, hs⟩ := I.tuple hB
  simp only at hc hd
  subst hc hd
  have hl2 := r2.length
  have hsz : its.toArray.size + its2.toArray.size ≤ sizeLine := by rw [List.size_toArray, List.size_toArray]; omega
  have hlong : ¬ (!its.toArray.isEmpty && Builtin.List.listTooLong (its.toArray.size + its2.toArray.size)) = true := by
    rw [notLongL hsz, Bool.and_false]
    exact Bool.false_ne_true
  refine call_meets F.slot_list_extend ⟨_, e, rfl⟩ F.entry_list_extend (F.args_list_extend_2 _ _)
    (list_extend_tup l its.toArray n b its2.toArray n2 dd sl hlong (by rw [List.size_toArray]; omega) (by omega)) ⟨e, e2, ?_⟩
  refine ⟨.non, _, I.lset (its' := its ++ its2) hH e (by simp) (r.append r2) ?_, rfl, q⟩
  rw [List.length_append]
  omega
theorem md_extend : MtD X "list.extend" gExtend := fun pins s σ ρ H S d x ds vs u us Q I R r1 r2 ru rs q => by
  cases d with
  | loc n =>
    match ds, r2, q with
    | [], _, q => exact q.elim
    | _ :: _ :: _, _, q => exact q.elim
    | [d], r2, q =>
      simp only [gExtend] at q
      split at q
      · rename_i xs ys hs hy
        by_cases hz : xs.length + ys.length ≤ sizeLine
        · rw [if_pos hz] at q
          obtain ⟨a, ws, rfl, ha, hH, rx⟩ := loc_at R r1 hs
          obtain ⟨v, rfl, rv⟩ := reps1 r2
          have hz' : ∀ zs, RepDs X.K ρ H ys zs → ws.length + zs.length ≤ sizeLine := fun zs rz => by rw [← rx.length, ← rz.length]; exact hz
          by_cases ht : ∃ zs, d = .tup zs
          · obtain ⟨zs, rfl⟩ := ht
            simp only [seqOf'] at hy
            cases hy
            cases rv with
            | tup hx ry =>
              cases ru
              cases rs with
              | cons ra rs =>
                cases rs
                cases ra
                exact mt_extendT I hH hx (hz' _ ry) (q.put R ha (rx.append ry) .non)
          · have hy' : lstOf' S d = some ys := by
              cases d <;> first | exact hy | exact (ht ⟨_, rfl⟩).elim
            obtain ⟨b, zs, rfl, hb, rz⟩ := lstOf'_rep R rv hy'
            exact mt_extend pins s σ H _ _ u us Q I ru rs ⟨a, b, ws, zs, rfl, rfl, hH, hb, hz' _ rz, q.put R ha (rx.append rz) .non⟩
        · rw [if_neg hz] at q; exact q.elim
      · exact q.elim
  | _ => cases ds <;> exact q.elim
theorem md_pop : MtD X "list.pop" gPop := fun pins s σ ρ H S d x ds vs u us Q I R r1 r2 ru rs q => by
  cases d with
  | loc n =>
    match ds, r2, q with
    | _ :: _, _, q => exact q.elim
    | [], r2, q =>
      simp only [gPop] at q
      split at q
      · rename_i xs hs
        cases hl : xs.getLast? with
        | none => rw [hl] at q; exact q.elim
        | some y =>
          rw [hl] at q
          obtain ⟨a, ws, rfl, ha, hH, rx⟩ := loc_at R r1 hs
          cases r2
          rw [List.getLast?_eq_getElem?] at hl
          obtain ⟨v, hv, rv⟩ := rx.get hl
          have hlen := rx.length
          refine mt_pop pins s σ H _ _ u us Q I ru rs ⟨a, ws, v, rfl, rfl, hH, by rw [← hlen]; exact hv, q.put R ha ?_ rv⟩
          rw [List.dropLast_eq_take, List.dropLast_eq_take, ← hlen]
          exact rx.take _
      · exact q.elim
  | _ => cases ds <;> exact q.elim
theorem md_insert : MtD X "list.insert" gInsert := fun pins s σ ρ H S d x ds vs u us Q I R r1 r2 ru rs q => by
  cases d with
  | loc n =>
    match ds, r2, q with
    | [], _, q => exact q.elim
    | [d], _, q => (cases d <;> exact q.elim)
    | d :: _ :: _ :: _, _, q => (cases d <;> exact q.elim)
    | [d, y], r2, q =>
      cases d with
      | int i =>
        simp only [gInsert] at q
        split at q
        · rename_i xs hs
          by_cases hz : xs.length < sizeLine ∧ 0 ≤ i ∧ i < 2 ^ 62
          · rw [if_pos hz] at q
            obtain ⟨a, ws, rfl, ha, hH, rx⟩ := loc_at R r1 hs
            obtain ⟨v, w, rfl, rv, rw'⟩ := reps2 r2
            cases rv
            refine mt_insert pins s σ H _ _ u us Q I ru rs ⟨a, ws, i, w, rfl, rfl, hH, by rw [← rx.length]; exact hz.1, hz.2.1, by omega, q.put R ha ?_ .non⟩
            exact ((rx.take _).append (.cons rw' .nil)).append (rx.drop _)
          · rw [if_neg hz] at q; exact q.elim
        · exact q.elim
      | _ => exact q.elim
  | _ =>
    match ds, q with
    | [], q => exact q.elim
    | [_], q => exact q.elim
    | a :: _ :: _, q => (cases a <;> exact q.elim)

/-! ### texts -/
/-- a pure method of a text -/
def gStr (h : Str → List D → Store → Option D) : MtF
  | .str x, ds, S => (h x ds S).map fun d => (d, S)
  | _, _, _ => none
theorem PostVS.use (R : Rel K ρ H S) {d : D} {v : V} (r : RepD K ρ H d v) (q : PostVS K ρ H Q (some (d, S))) : Q v H := q ρ H (Fr.refl _ _) R v r
theorem PostVS.toV {o : Option D} (q : PostVS K ρ H Q (o.map fun d => (d, S))) : PostV K ρ H S Q o := by
  cases o with
  | none => exact q
  | some d => exact q
theorem md_str {h : Str → List D → Store → Option D} (k : ∀ (pins : List (Addr × Obj)) (s : Shared) (σ : L2.St) (ρ : Rh) (H : Hp) (S : Store) (x : Str) (ds : List D) (vs : List V) (u : Value) (us : List Value) (Q : VK), L2.Inv X pins σ H s → Rel X.K ρ H S → RepDs X.K ρ H ds vs → L2.RelV (.str x) u → Vals vs us →
      PostV X.K ρ H S Q (h x ds S) → wpAny (model X.prog X.w) X.A (call (.builtin id) (u :: us)) (EP X pins σ Q) X.xe s) : MtD X id (gStr h) := fun pins s σ ρ H S d x ds vs u us Q I R r1 r2 ru rs q => by
  cases d with
  | str y => cases r1; exact k pins s σ ρ H S y ds vs u us Q I R r2 ru rs (PostVS.toV q)
  | _ => exact q.elim
def hJoin (x : Str) : List D → Store → Option D
  | [d], S => ((seqOf S d).bind strsOf).bind fun ys => if (ys.map (·.length)).sum + ys.length * x.length ≤ 16777216 then some (.str (Txt.join x ys)) else none
  | _, _ => none
def hSplit (x : Str) : List D → Store → Option D
  | [.str y], _ => if (y.length == 0) = false ∧ x.length + 2 ≤ sizeLine then some (.lst ((Txt.split x y).map .str)) else none
  | _, _ => none
def hStarts (x : Str) : List D → Store → Option D
  | [.str y], _ => some (.bl (Txt.startswith x y))
  | [.str y, .int i], _ => some (.bl (Txt.startswith3 x y i))
  | _, _ => none
def hFind (x : Str) : List D → Store → Option D
  | [.str y], _ => some (.int (Txt.find x y))
  | [.str y, .int i], _ => some (.int (Txt.find3 x y i))
  | _, _ => none
def hCount (x : Str) : List D → Store → Option D
  | [.str y], _ => some (.int (Txt.count x y))
  | _, _ => none
/-- the place of a part that is there -/
def hIndex (x : Str) : List D → Store → Option D
  | [.str y], _ => match Builtin.Str.occurrences x y 0 x.length 1 with
    | i :: _ => some (.int i)
    | [] => none
  | _, _ => none
theorem md_join : MtD X "str.join" (gStr hJoin) := md_str fun pins s σ ρ H S x ds vs u us Q I R r2 ru rs q => by
  match ds, r2, q with
  | [], _, q => exact q.elim
  | _ :: _ :: _, _, q => exact q.elim
  | [d], r2, q =>
    simp only [hJoin] at q
    obtain ⟨v, rfl, rv⟩ := reps1 r2
    cases hs : seqOf S d with
    | none => rw [hs] at q; exact q.elim
    | some xs =>
      obtain ⟨a, ws, rfl, hq, rx⟩ := seqOf_rep R rv hs
      simp only [hs, Option.bind_some] at q
      cases hy : strsOf xs with
      | none => rw [hy] at q; exact q.elim
      | some ys =>
        simp only [hy, Option.bind_some] at q
        have e := strsOf_eq hy
        subst e
        have e := RepDs.strs rx
        subst e
        by_cases hz : (ys.map (·.length)).sum + ys.length * x.length ≤ 16777216
        · rw [if_pos hz] at q
          exact mt_join pins s σ H _ _ u us Q I ru rs ⟨x, a, ys, rfl, rfl, hq, hz, q.use R (.str _)⟩
        · rw [if_neg hz] at q; exact q.elim
theorem md_split : MtD X "str.split" (gStr hSplit) := md_str fun pins s σ ρ H S x ds vs u us Q I R r2 ru rs q => by
  match ds, r2, q with
  | [], _, q => exact q.elim
  | d :: _ :: _, _, q => (cases d <;> exact q.elim)
  | [d], r2, q =>
    cases d with
    | str y =>
      simp only [hSplit] at q
      obtain ⟨v, rfl, rv⟩ := reps1 r2
      cases rv
      by_cases hz : (y.length == 0) = false ∧ x.length + 2 ≤ sizeLine
      · rw [if_pos hz] at q
        exact mt_split pins s σ H _ _ u us Q I ru rs ⟨x, y, rfl, rfl, hz.1, hz.2, q.newL R (RepDs.of_strs _)⟩
      · rw [if_neg hz] at q; exact q.elim
    | _ => exact q.elim
theorem str2 {P : Prop} {h : Str → List D → Store → Option D} {ds : List D} {S : Store} {x : Str} (e0 : h x [] S = none) (e1 : ∀ d, (∀ y, d ≠ .str y) → h x [d] S = none) (e2 : ∀ d e, (∀ y i, ¬ (d = .str y ∧ e = .int i)) → h x [d, e] S = none) (e3 : ∀ a b c r, h x (a :: b :: c :: r) S = none)
    (hn : h x ds S ≠ none) (k1 : ∀ y, ds = [.str y] → P) (k2 : ∀ y i, ds = [.str y, .int i] → P) : P := by
  match ds with
  | [] => exact (hn e0).elim
  | [d] =>
    by_cases hd : ∃ y, d = .str y
    · obtain ⟨y, rfl⟩ := hd; exact k1 y rfl
    · exact (hn (e1 d fun y z => hd ⟨y, z⟩)).elim
  | [d, e] =>
    by_cases hd : ∃ y i, d = .str y ∧ e = .int i
    · obtain ⟨y, i, rfl, rfl⟩ := hd; exact k2 y i rfl
    · exact (hn (e2 d e fun y i z => hd ⟨y, i, z⟩)).elim
  | a :: b :: c :: r => exact (hn (e3 a b c r)).elim
theorem md_starts : MtD X "str.startswith" (gStr hStarts) := md_str fun pins s σ ρ H S x ds vs u us Q I R r2 ru rs q => by
  by_cases hn : hStarts x ds S = none
  · rw [hn] at q; exact q.elim
  · refine str2 (h := hStarts) (x := x) (S := S) rfl (fun d h => by cases d <;> first | rfl | exact (h _ rfl).elim) (fun d e h => by cases d <;> first | rfl | (cases e <;> first | rfl | exact (h _ _ ⟨rfl, rfl⟩).elim)) (fun a b c r => by cases a <;> first | rfl | (cases b <;> rfl)) hn (fun y e => ?_) fun y i e => ?_
    · subst e
      obtain ⟨v, rfl, rv⟩ := reps1 r2
      cases rv
      exact mt_startswith pins s σ H _ _ u us Q I ru rs ⟨x, y, rfl, rfl, q.use R (.bl _)⟩
    · subst e
      obtain ⟨v, w, rfl, rv, rw'⟩ := reps2 r2
      cases rv; cases rw'
      exact mt_startswith3 pins s σ H _ _ u us Q I ru rs ⟨x, y, i, rfl, rfl, q.use R (.bl _)⟩
theorem md_find : MtD X "str.find" (gStr hFind) := md_str fun pins s σ ρ H S x ds vs u us Q I R r2 ru rs q => by
  by_cases hn : hFind x ds S = none
  · rw [hn] at q; exact q.elim
  · refine str2 (h := hFind) (x := x) (S := S) rfl (fun d h => by cases d <;> first | rfl | exact (h _ rfl).elim) (fun d e h => by cases d <;> first | rfl | (cases e <;> first | rfl | exact (h _ _ ⟨rfl, rfl⟩).elim)) (fun a b c r => by cases a <;> first | rfl | (cases b <;> rfl)) hn (fun y e => ?_) fun y i e => ?_
    · subst e
      obtain ⟨v, rfl, rv⟩ := reps1 r2
      cases rv
      exact mt_find pins s σ H _ _ u us Q I ru rs ⟨x, y, rfl, rfl, q.use R (.int _)⟩
    · subst e
      obtain ⟨v, w, rfl, rv, rw'⟩ := reps2 r2
      cases rv; cases rw'
      exact mt_find3 pins s σ H _ _ u us Q I ru rs ⟨x, y, i, rfl, rfl, q.use R (.int _)⟩
theorem md_count : MtD X "str.count" (gStr hCount) := md_str fun pins s σ ρ H S x ds vs u us Q I R r2 ru rs q => by
  match ds, r2, q with
  | [], _, q => exact q.elim
  | d :: _ :: _, _, q => (cases d <;> exact q.elim)
  | [d], r2, q =>
    cases d with
    | str y =>
      obtain ⟨v, rfl, rv⟩ := reps1 r2
      cases rv
      exact mt_count pins s σ H _ _ u us Q I ru rs ⟨x, y, rfl, rfl, q.use R (.int _)⟩
    | _ => exact q.elim
theorem md_index : MtD X "str.index" (gStr hIndex) := md_str fun pins s σ ρ H S x ds vs u us Q I R r2 ru rs q => by
  match ds, r2, q with
  | [], _, q => exact q.elim
  | d :: _ :: _, _, q => (cases d <;> exact q.elim)
  | [d], r2, q =>
    cases d with
    | str y =>
      obtain ⟨v, rfl, rv⟩ := reps1 r2
      cases rv
      simp only [hIndex] at q
      split at q
      · rename_i i r ho
        obtain ⟨t, rfl⟩ := ru
        cases rs with
        | cons r1 rs =>
          cases rs
          obtain ⟨u, rfl⟩ := r1
          exact PySem.SC.index ho ⟨.int (i : Nat), H, I.tok _, ⟨_, rfl⟩, q.use R (.int _)⟩
      · exact q.elim
    | _ => exact q.elim
end
end M


set_option Elab.async false
set_option linter.all false
set_option maxRecDepth 100000
set_option maxHeartbeats 4000000
namespace M
open PySem PySem.Spec PyProof.Rows L2
variable [Tabs]

/-! ### isinstance -/
def tyName (S : Store) : D → Option String
  | .non => some "NoneType"
  | .bl _ => some "bool"
  | .int _ => some "int"
  | .str _ => some "str"
  | .tup _ => some "tuple"
  | .lst _ => some "list"
  | .fro _ => none
  | .loc n => match S[n]? with
    | some (.lst _) => some "list"
    | _ => none
  | _ => none
def isT (t T : String) : Option Bool := match T with
  | "int" => some (t == "int" || t == "bool")
  | "bool" => some (t == "bool")
  | "str" => some (t == "str")
  | "tuple" => some (t == "tuple")
  | "list" => some (t == "list")
  | _ => none
def dIsInst : List D → Store → Option D
  | [d, .ty T], S => (tyName S d).bind fun t => (isT t T).map .bl
  | _, _ => none
theorem isT_kit : ∀ t ∈ ["NoneType", "bool", "int", "str", "tuple", "list"], ∀ T ∈ ["int", "bool", "str", "tuple", "list"], kitB t T = isT t T := by decide +kernel
theorem isT_of {t T : String} {b : Bool} (ht : t ∈ ["NoneType", "bool", "int", "str", "tuple", "list"]) (h : isT t T = some b) : kitB t T = some b := by
  rw [← h]
  refine isT_kit t ht T ?_
  unfold isT at h
  split at h <;> first | (simp; done) | cases h
section
variable {K : PySem.W.Frag} {ρ : Rh} {H : Hp} {S : Store}
theorem rd_ty {a : Addr} {vs : List V} (h : Rd H a (.lst vs)) : TyX K H (.ref a) (.type "list") := by
  rcases h with h | ⟨o, h⟩
  · exact .base (.lst h)
  · exact .base (.frz h)
theorem sqt_ty {a : Addr} {vs : List V} (h : SqT K H a vs) : TyX K H (.ref a) (.type "tuple") := by
  rcases h with (h | ⟨o, h⟩) | ⟨o, its, n, hk, hc, _⟩
  · exact .base (.tup h)
  · exact .fTuple h
  · exact .kTuple hk hc
theorem tyName_rep (R : Rel K ρ H S) {d : D} {v : V} {t : String} (h : RepD K ρ H d v) (e : tyName S d = some t) : TyX K H v (.type t) ∧ t ∈ ["NoneType", "bool", "int", "str", "tuple", "list"] := by
  cases d with
  | non => cases h; cases e; exact ⟨.base .non, by simp⟩
  | bl b => cases h; cases e; exact ⟨.base (.bl b), by simp⟩
  | int b => cases h; cases e; exact ⟨.base (.int b), by simp⟩
  | str b => cases h; cases e; exact ⟨.base (.str b), by simp⟩
  | tup b => cases h with | tup hx _ => cases e; exact ⟨sqt_ty hx, by simp⟩
  | lst b => cases h with | lst hx _ _ _ => cases e; exact ⟨rd_ty (Rd.of hx), by simp⟩
  | fro b => cases e
  | loc n =>
    simp only [tyName] at e
    split at e
    · rename_i xs hs
      cases e
      obtain ⟨a, vs, rfl, _, hH, _⟩ := loc_at R h hs
      exact ⟨rd_ty (Rd.of hH), by simp⟩
    · cases e
  | ref a => cases e
  | ty n => cases e
  | rng lo hi => cases e
end
section
variable {X : Cx}
theorem cd_isinst : CallD X (.builtin "isinstance") dIsInst := fun pins s σ ρ H S ds vs us Q I R r rv q => by
  match ds, r, q with
  | [], _, q => exact q.elim
  | [_], _, q => exact q.elim
  | _ :: e :: _ :: _, _, q => (cases e <;> exact q.elim)
  | [d, e], r, q =>
    cases e with
    | ty T =>
      simp only [dIsInst] at q
      cases ht : tyName S d with
      | none => rw [ht] at q; exact q.elim
      | some t =>
        simp only [ht, Option.bind_some] at q
        cases hb : isT t T with
        | none => rw [hb] at q; exact q.elim
        | some b =>
          rw [hb] at q
          obtain ⟨v, w, rfl, r1, r2⟩ := reps2 r
          cases r2
          obtain ⟨hty, hm⟩ := tyName_rep R r1 ht
          exact call_isi pins s σ H _ us Q I rv ⟨v, .ty T, .type t, .type T, b, rfl, .ty T, hty, kit_ty (isT_of hm hb), q.use R (.bl b)⟩
    | _ => exact q.elim
variable {W : WX} {x : Str} {T : String} {pos : Pos}
theorem em_ty (hg : Gl X x) (hm : X.mg x = none) (hv : bootBuiltins x = some (.type T)) (hn : x ≠ "__name__" := by decide) (hd : (x == ("__debug__" : Str)) = false := by decide) : EM X W (.Name x pos) (mC (.ty T)) :=
  em_c (pe_bltn hg hm hv (v := .ty T) rfl hn hd) fun _ _ => .ty T
end

/-! ### defs -/
/-- what a def promises by its mirror -/
def spM (K : PySem.W.Frag) (mg : Str → Option Value) (n : Nat) (g : List D → Store → Res D) : Sp := fun vs H Q E =>
  ∃ ρ ds S, ds.length = n ∧ RepDs K ρ H ds vs ∧ Rel K ρ H S ∧ PostE K mg (fun c d _ H => E c d H) ρ H [] Q (g ds S)
theorem spM_len {K : PySem.W.Frag} {mg : Str → Option Value} {n : Nat} {g : List D → Store → Res D} {vs : List V} {H : Hp} {Q : VK} {E : XK} (h : spM K mg n g vs H Q E) : vs.length = n := by
  obtain ⟨ρ, ds, S, hl, r, _⟩ := h
  rw [← r.length, hl]
theorem PostE.toσ {K : PySem.W.Frag} {mg : Str → Option Value} {W : WX} {ρ : Rh} {H : Hp} {σ : L2.St} {Q : VK} : ∀ {r : Res D}, PostE K mg W ρ H σ Q r → PostE K mg (fun c d _ H => W c d σ H) ρ H [] Q r
  | .ok _ _, h => h
  | .ex _ _, h => h
  | .bad, h => h
def mCallF (n : Nat) (g : List D → Store → Res D) (m : MA) : ME := fun e S => (m e S).bind fun ds S1 => if ds.length = n then g ds S1 else .bad
abbrev FnM (P : Program) (w : World) (K : PySem.W.Frag) (mg : Str → Option Value) (base : Heap) (k : Nat) (f : Addr) (fd : FuncData) (ps : List Str) (g : List D → Store → Res D) : Prop := FnOk P w K mg base (L2.CX P w) k f fd ps (spM K mg ps.length g)
section
variable {X : Cx} {W : WX} {k : Nat} {f : Addr} {fd : FuncData} {ps : List Str} {g : List D → Store → Res D} {x : Str} {p pos : Pos} {e : Expr} {es : List Expr} {m : MA}
theorem em_call (F : FnM X.prog X.w X.K X.mg X.base k f fd ps g) (hr : Room k X.A) (hg : Gl X x) (hm : X.mg x = some (.ref f)) (hk : PySem.W.keepIn X.K (.ref f) = true) (hb : Binds X.K fd ps []) (tk : Takes X W)
    (ha : AM X W (e :: es) m) {n : Nat} (hn : ps.length = n := by rfl) (hdb : (x == ("__debug__" : Str)) = false := by decide) (he : starEach (e :: es) X.env = (false, eval e X.env) :: starEach es X.env := by rfl) (hpl : (backTo pos (starEach es X.env)).any (·.1) = false := by rfl) :
    EM X W (.Call (.Name x p) (e :: es) [] pos) (mCallF n g m) := by
  subst hn
  exact pe_imp (pe_callS (E := WE W) F hr hg hm hk hb (fun σ => passAt tk σ) ha hdb he hpl) fun σ H Q h => tA_then (β := D) (g := fun ds S => if ds.length = ps.length then g ds S else .bad) (fun ρ H ds vs S R r q => by
    by_cases hl : ds.length = ps.length
    · rw [if_pos hl] at q
      exact ⟨ρ, ds, S, hl, r, R, q.toσ⟩
    · rw [if_neg hl] at q; exact q.elim) h
theorem em_call0 (F : FnM X.prog X.w X.K X.mg X.base k f fd ps g) (hr : Room k X.A) (hg : Gl X x) (hm : X.mg x = some (.ref f)) (hk : PySem.W.keepIn X.K (.ref f) = true) (hb : Binds X.K fd ps []) (tk : Takes X fun c d _ H => False)
    (hps : ps = []) (hdb : (x == ("__debug__" : Str)) = false := by decide) : EM X W (.Call (.Name x p) [] [] pos) (mCallF 0 (fun ds S => match g ds S with | .ex _ _ => .bad | r => r) mNil) :=
  pe_imp (pe_call0 (E := fun _ _ _ => False) F hr hg hm hk hb .nil (fun pins σ H s e s' I c => tk e s' (XE.of_call I (fun _ _ _ h => h) c)) hdb) fun σ H Q ⟨ρ, e, S, he, R, q⟩ => by
    subst hps
    refine ⟨ρ, [], S, rfl, .nil, R, ?_⟩
    have q : PostE X.K X.mg W ρ H σ Q (match g [] S with | .ex _ _ => .bad | r => r) := q
    cases hg : g [] S with
    | bad => rw [hg] at q; exact q.elim
    | ex c S1 => rw [hg] at q; exact q.elim
    | ok d S1 => rw [hg] at q; exact q
end
/-- a body run at its arguments -/
def runF (n : Nat) (b : MS) (ds : List D) (S : Store) : Res D := match b (ds.map some ++ List.replicate (n - ds.length) none) S with
  | some (.rt d, _, S') => .ok d S'
  | some (.nx, _, S') => .ok .non S'
  | some (.ex c, _, S') => .ex c S'
  | _ => .bad
theorem env_start {K : PySem.W.Frag} {ρ : Rh} {H : Hp} {N : List Str} {ds : List D} {vs : List V} (h : RepDs K ρ H ds vs) : EnvRel K ρ H (L2.start N vs) (ds.map some ++ List.replicate (N.length - ds.length) none) := by
  have hl := h.length
  refine ⟨by unfold L2.start; simp [hl], fun i d e => ?_⟩
  by_cases hi : i < ds.length
  · rw [List.getElem?_append_left (by simpa using hi), List.getElem?_map] at e
    cases hd : ds[i]? with
    | none => rw [hd] at e; cases e
    | some d' =>
      rw [hd] at e
      cases e
      obtain ⟨v, a, b⟩ := h.get hd
      refine ⟨v, ?_, b⟩
      unfold L2.start
      rw [List.getElem?_append_left (by simpa [← hl] using hi), List.getElem?_map, a]; rfl
  · rw [List.getElem?_append_right (by simpa using hi), List.getElem?_replicate] at e
    split at e <;> cases e
section
variable {P : Program} {w : World} {K : PySem.W.Frag} {mg : Str → Option Value} {base : Heap}
theorem fn_m {x qual : Str} {st : Stmt} {f : Addr} {fd : FuncData} {N ps : List Str} {k : Nat} {b : MS} (F : L2.Fun K x qual st f fd) (S : FnScope N ps (defScope st))
    (hbody : ∀ (cdv : Value) (A : Around) (outer : List PySem.Env) (s : Shared) (H : Hp) (E : XK), Room k (A.deeper (envOfC qual (defScope st) s.heap.objs.size f cdv)) →
      BM (cxOf (L2.CX P w) P w K mg base N qual (defScope st) f cdv A outer s H E) (fun c d _ H => E c d H) (defBody st) b) : FnM P w K mg base (k + 1) f fd ps (runF N.length b) := by
  refine F.okX S (fun vs H Q E h => spM_len h) (fun cdv A outer s H vs Q E hr h => ⟨_, hbody cdv A outer s H E hr, ?_⟩)
  obtain ⟨ρ, ds, S, hl, r, R, q⟩ := h
  refine ⟨ρ, _, S, env_start r, R, ?_⟩
  show PostS K mg _ ρ H _ _
  unfold runF at q
  split at q
  · rename_i d e' S' hb
    rw [hb]
    exact fun ρ' H' v f R' r => q ρ' H' f R' v r
  · rename_i e' S' hb
    rw [hb]
    exact fun ρ' H' σ' f R' _ => q ρ' H' f R' _ .non
  · rename_i c e' S' hb
    rw [hb]
    exact fun ρ' H' σ' C f R' _ => q ρ' H' C f R'
  · exact q.elim
end

/-! ### behind a call: what nobody sees any more is forgotten -/
mutual
/-- no object from n on is named -/
def cl (n : Nat) : D → Bool
  | .tup xs => cls n xs
  | .lst xs => cls n xs
  | .fro xs => cls n xs
  | .loc m => decide (m < n)
  | _ => true
def cls (n : Nat) : List D → Bool
  | [] => true
  | d :: ds => cl n d && cls n ds
end
def clO (n : Nat) : OB → Bool
  | .lst xs => cls n xs
def clS (n : Nat) (S : Store) : Bool := S.all (clO n)
section
variable {K : PySem.W.Frag} {ρ : Rh} {l : List Addr} {H : Hp} {S : Store} {n : Nat}
/-- ρ2 tells the first n as ρ1, and nothing that ρ1 does not -/
structure Cut (n : Nat) (ρ1 ρ2 : Rh) : Prop where
  sub : ∀ x ∈ ρ2.l, x ∈ ρ1.l
  hh : ρ2.h = ρ1.h
  pre : ∀ m a, m < n → ρ1.l[m]? = some a → ρ2.l[m]? = some a
mutual
theorem RepD.cut {ρ1 ρ2 : Rh} (k : Cut n ρ1 ρ2) : ∀ (d : D) (v : V), cl n d = true → RepD K ρ1 H d v → RepD K ρ2 H d v
  | .non, _, _, h => by cases h; exact .non
  | .bl b, _, _, h => by cases h; exact .bl b
  | .int i, _, _, h => by cases h; exact .int i
  | .str x, _, _, h => by cases h; exact .str x
  | .tup ds, _, c, h => by
    cases h with
    | tup hs hd => exact .tup hs (RepDs.cut k ds _ c hd)
  | .lst ds, _, c, h => by
    cases h with
    | lst hs hn' hh hd => exact .lst hs (fun m => hn' (k.sub _ m)) (by rw [k.hh]; exact hh) (RepDs.cut k ds _ c hd)
  | .fro ds, _, c, h => by
    cases h with
    | fro hs hn' hh hd => exact .fro hs (fun m => hn' (k.sub _ m)) (by rw [k.hh]; exact hh) (RepDs.cut k ds _ c hd)
    | frk hk hd => exact .frk hk (RepDs.cut k ds _ c hd)
  | .loc m, _, c, h => by
    cases h with
    | loc e => exact .loc (k.pre m _ (of_decide_eq_true c) e)
  | .ref a, _, _, h => by cases h; exact .ref a
  | .ty n, _, _, h => by cases h; exact .ty n
  | .rng lo hi, _, _, h => by
    cases h with
    | rng hs => exact .rng hs
theorem RepDs.cut {ρ1 ρ2 : Rh} (k : Cut n ρ1 ρ2) : ∀ (ds : List D) (vs : List V), cls n ds = true → RepDs K ρ1 H ds vs → RepDs K ρ2 H ds vs
  | [], _, _, h => by cases h; exact .nil
  | d :: ds, _, c, h => by
    cases h with
    | cons h1 h2 =>
      simp only [cls, Bool.and_eq_true] at c
      exact .cons (RepD.cut k d _ c.1 h1) (RepDs.cut k ds _ c.2 h2)
end
theorem Cut.of (hn : ρ.l.length = n) {l' : List Addr} (h : ∀ x ∈ l', x ∈ l) : Cut n ⟨ρ.l ++ l, ρ.h⟩ ⟨ρ.l ++ l', ρ.h⟩ := ⟨fun x m => by
    rcases List.mem_append.mp m with m | m
    · exact List.mem_append_left _ m
    · exact List.mem_append_right _ (h x m), rfl, fun m a hm e => by
    have e : (ρ.l ++ l)[m]? = some a := e
    rw [List.getElem?_append_left (by omega)] at e
    show (ρ.l ++ l')[m]? = some a
    rw [List.getElem?_append_left (by omega)]; exact e⟩
theorem Cut.back (hn : ρ.l.length = n) : Cut n ⟨ρ.l ++ l, ρ.h⟩ ρ := ⟨fun x m => List.mem_append_left _ m, rfl, fun m a hm e => by
    have e : (ρ.l ++ l)[m]? = some a := e
    rw [List.getElem?_append_left (by omega)] at e; exact e⟩
theorem RepD.back (hn : ρ.l.length = n) (d : D) (v : V) (c : cl n d = true) (h : RepD K ⟨ρ.l ++ l, ρ.h⟩ H d v) : RepD K ρ H d v := RepD.cut (Cut.back hn) d v c h
theorem RepDs.back (hn : ρ.l.length = n) (ds : List D) (vs : List V) (c : cls n ds = true) (h : RepDs K ⟨ρ.l ++ l, ρ.h⟩ H ds vs) : RepDs K ρ H ds vs := RepDs.cut (Cut.back hn) ds vs c h
theorem ObRel.cut {ρ1 ρ2 : Rh} (k : Cut n ρ1 ρ2) {a : Addr} {o : OB} (c : clO n o = true) (h : ObRel K ρ1 H a o) : ObRel K ρ2 H a o := by
  cases o with
  | lst ds => obtain ⟨vs, h1, h2⟩ := h; exact ⟨vs, h1, RepDs.cut k ds vs c h2⟩
theorem Rel.at_take {ρ2 : Rh} (r : Rel K ⟨ρ.l ++ l, ρ.h⟩ H S) (hn : ρ.l.length = n) (c : clS n (S.take n) = true) (k : Cut n ⟨ρ.l ++ l, ρ.h⟩ ρ2) {m : Nat} {o : OB} {a : Addr} (e1 : (S.take n)[m]? = some o) (e2 : ρ.l[m]? = some a) : ObRel K ρ2 H a o := by
  have hm : m < ρ.l.length := (List.getElem?_eq_some_iff.mp e2).1
  have e1' : S[m]? = some o := by rw [List.getElem?_take] at e1; split at e1 <;> first | exact e1 | cases e1
  exact (r.at_ m o a e1' (show (ρ.l ++ l)[m]? = some a by rw [List.getElem?_append_left hm]; exact e2)).cut k (List.all_eq_true.mp c o (List.mem_of_getElem? e1))
theorem Rel.back (r : Rel K ⟨ρ.l ++ l, ρ.h⟩ H S) (hn : ρ.l.length = n) (c : clS n (S.take n) = true) : Rel K ρ H (S.take n) := by
  have hl : (ρ.l ++ l).length = S.length := r.len
  rw [List.length_append] at hl
  exact ⟨by rw [List.length_take]; omega, (List.nodup_append.mp r.nd).1, fun m o a e1 e2 => r.at_take hn c (Cut.back hn) e1 e2, r.hid, r.tab⟩
/-- .. and one of the others is still told of -/
theorem Rel.backK (r : Rel K ⟨ρ.l ++ l, ρ.h⟩ H S) (hn : ρ.l.length = n) (c : clS n (S.take n) = true) {a : Addr} (ha : a ∈ l) {vs : List V} {xs : List D} (hH : H a = some (.lst vs)) (cx : cls n xs = true) (rx : RepDs K ⟨ρ.l ++ l, ρ.h⟩ H xs vs) : Rel K ⟨ρ.l ++ [a], ρ.h⟩ H (S.take n ++ [.lst xs]) := by
  have hl : (ρ.l ++ l).length = S.length := r.len
  rw [List.length_append] at hl
  have k : Cut n ⟨ρ.l ++ l, ρ.h⟩ ⟨ρ.l ++ [a], ρ.h⟩ := Cut.of hn fun x m => by rw [List.mem_singleton.mp m]; exact ha
  have na : a ∉ ρ.l := fun mem => (List.nodup_append.mp r.nd).2.2 a mem a ha rfl
  refine ⟨?_, ?_, fun m o b e1 e2 => ?_, r.hid, r.tab⟩
  · show (ρ.l ++ [a]).length = _
    rw [List.length_append, List.length_append, List.length_take, List.length_singleton, List.length_singleton]
    omega
  · show (ρ.l ++ [a]).Nodup
    rw [List.nodup_append]
    exact ⟨(List.nodup_append.mp r.nd).1, by simp, fun x hx b hb => by simp at hb; subst hb; rintro rfl; exact na hx⟩
  · have e2 : (ρ.l ++ [a])[m]? = some b := e2
    have ht : (S.take n).length = n := by rw [List.length_take]; omega
    by_cases hm : m < n
    · rw [List.getElem?_append_left (by omega)] at e1
      rw [List.getElem?_append_left (by omega)] at e2
      exact r.at_take hn c k e1 e2
    · rw [List.getElem?_append_right (by omega), ht] at e1
      rw [List.getElem?_append_right (by omega), hn] at e2
      have h0 : m - n = 0 := by
        rcases Nat.eq_zero_or_pos (m - n) with z | z
        · exact z
        · rw [List.getElem?_eq_none (by simp; omega)] at e1; cases e1
      rw [h0] at e1 e2
      simp at e1 e2
      subst e1 e2
      exact ⟨vs, hH, RepDs.cut k xs vs cx rx⟩
end
/-- what comes back: a list of the callee's own is a value from now on -/
def fz (n : Nat) (S : Store) : D → Option D
  | .loc m => if m < n then some (.loc m) else match S[m]? with
    | some (.lst ds) => if cls n ds then some (.lst ds) else none
    | none => none
  | d => if cl n d then some d else none
def retV (g : List D → Store → Res D) : List D → Store → Res D := fun ds S => match g ds S with
  | .ok d S' => if clS S.length (S'.take S.length) = true then match fz S.length S' d with
    | some d' => .ok d' (S'.take S.length)
    | none => .bad else .bad
  | .ex c S' => if clS S.length (S'.take S.length) = true then .ex c (S'.take S.length) else .bad
  | .bad => .bad
/-- .. it stays an object of the store -/
def retK (g : List D → Store → Res D) : List D → Store → Res D := fun ds S => match g ds S with
  | .ok (.loc m) S' => if clS S.length (S'.take S.length) = true ∧ S.length ≤ m then match S'[m]? with
    | some (.lst xs) => if cls S.length xs then .ok (.loc S.length) (S'.take S.length ++ [.lst xs]) else .bad
    | none => .bad else .bad
  | .ok _ _ => .bad
  | .ex c S' => if clS S.length (S'.take S.length) = true then .ex c (S'.take S.length) else .bad
  | .bad => .bad
section
variable {K : PySem.W.Frag} {mg : Str → Option Value} {W : WX} {ρ : Rh} {H : Hp} {S : Store} {σ : L2.St} {Q : VK}
theorem fz_rep {ρ' : Rh} {H' : Hp} {S' : Store} (R : Rel K ρ H S) (f : Fr ρ H ρ' H') (R' : Rel K ρ' H' S') {d d' : D} {v : V} (e : fz S.length S' d = some d') (r : RepD K ρ' H' d v) : RepD K ρ H' d' v := by
  obtain ⟨l, rfl, hl⟩ := f.new
  have gen : (if cl S.length d then some d else none) = some d' → RepD K ρ H' d' v := fun e => by
    split at e
    · rename_i c
      cases e
      exact RepD.back R.len _ _ c r
    · cases e
  cases d with
  | loc m =>
    simp only [fz] at e
    split at e
    · rename_i hm
      cases e
      exact RepD.back R.len _ _ (by unfold cl; exact decide_eq_true hm) r
    · rename_i hm
      split at e
      · rename_i ds hs
        split at e
        · rename_i c
          cases e
          obtain ⟨a, vs, rfl, ha, hH, rx⟩ := loc_at R' r hs
          refine .lst hH (fun mem => ?_) (fun mem => ?_) (RepDs.back R.len _ _ c rx)
          · have nd := R'.nd
            have ha : (ρ.l ++ l)[m]? = some a := ha
            have hlen := R.len
            rw [List.getElem?_append_right (by omega)] at ha
            exact (List.nodup_append.mp nd).2.2 a mem a (List.mem_of_getElem? ha) rfl
          · obtain ⟨ws, z⟩ := R.hid a mem
            have ha : (ρ.l ++ l)[m]? = some a := ha
            have hlen := R.len
            rw [List.getElem?_append_right (by omega)] at ha
            rw [hl a (List.mem_of_getElem? ha)] at z
            cases z
        · cases e
      · cases e
  | _ => exact gen e
theorem Fr.cut {ρ' : Rh} {H' : Hp} (f : Fr ρ H ρ' H') : Fr ρ H ρ H' := ⟨⟨[], by simp, by simp⟩, f.keep, f.live⟩
theorem PostE.retV {g : List D → Store → Res D} {ds : List D} (R : Rel K ρ H S) (q : PostE K mg W ρ H σ Q (retV g ds S)) : PostE K mg W ρ H σ Q (g ds S) := by
  unfold M.retV at q
  cases hg : g ds S with
  | bad => rw [hg] at q; exact q
  | ex c S' =>
    rw [hg] at q
    dsimp only at q
    split at q
    · rename_i hc
      intro ρ' H' C f R' hC
      obtain ⟨l, rfl, hl⟩ := f.new
      exact q ρ H' C f.cut (Rel.back R' R.len hc) hC
    · exact q.elim
  | ok d S' =>
    rw [hg] at q
    dsimp only at q
    split at q
    · rename_i hc
      split at q
      · rename_i d' hd
        intro ρ' H' f R' v r
        have r' := fz_rep R f R' hd r
        obtain ⟨l, rfl, hl⟩ := f.new
        exact q ρ H' f.cut (Rel.back R' R.len hc) v r'
      · exact q.elim
    · exact q.elim
theorem PostE.retK {g : List D → Store → Res D} {ds : List D} (R : Rel K ρ H S) (q : PostE K mg W ρ H σ Q (retK g ds S)) : PostE K mg W ρ H σ Q (g ds S) := by
  unfold M.retK at q
  cases hg : g ds S with
  | bad => rw [hg] at q; exact q
  | ex c S' =>
    rw [hg] at q
    dsimp only at q
    split at q
    · rename_i hc
      intro ρ' H' C f R' hC
      obtain ⟨l, rfl, hl⟩ := f.new
      exact q ρ H' C f.cut (Rel.back R' R.len hc) hC
    · exact q.elim
  | ok d S' =>
    rw [hg] at q
    cases d with
    | loc m =>
      dsimp only at q
      split at q
      · rename_i hc
        split at q
        · rename_i xs hs
          split at q
          · rename_i c
            intro ρ' H' f R' v r
            obtain ⟨a, vs, rfl, ha, hH, rx⟩ := loc_at R' r hs
            obtain ⟨l, rfl, hl⟩ := f.new
            have ha : (ρ.l ++ l)[m]? = some a := ha
            have hlen := R.len
            rw [List.getElem?_append_right (by omega)] at ha
            have ma : a ∈ l := List.mem_of_getElem? ha
            exact q ⟨ρ.l ++ [a], ρ.h⟩ H' (f.cut.shown (hl a ma)) (Rel.backK R' R.len hc.1 ma hH c rx) _ (.loc (by
              show (ρ.l ++ [a])[S.length]? = some a
              rw [List.getElem?_append_right (by omega), hlen]; simp))
          · exact q.elim
        · exact q.elim
      · exact q.elim
    | _ => exact q.elim
theorem spM_retV {n : Nat} {g : List D → Store → Res D} {vs : List V} {E : XK} (h : spM K mg n (M.retV g) vs H Q E) : spM K mg n g vs H Q E := by
  obtain ⟨ρ, ds, S, hl, r, R, q⟩ := h
  exact ⟨ρ, ds, S, hl, r, R, PostE.retV R q⟩
theorem spM_retK {n : Nat} {g : List D → Store → Res D} {vs : List V} {E : XK} (h : spM K mg n (M.retK g) vs H Q E) : spM K mg n g vs H Q E := by
  obtain ⟨ρ, ds, S, hl, r, R, q⟩ := h
  exact ⟨ρ, ds, S, hl, r, R, PostE.retK R q⟩
end
section
variable {P : Program} {w : World} {K : PySem.W.Frag} {mg : Str → Option Value} {base : Heap} {k : Nat} {f : Addr} {fd : FuncData} {ps : List Str} {g : List D → Store → Res D}
theorem fn_retV (F : FnM P w K mg base k f fd ps g) : FnM P w K mg base k f fd ps (retV g) := FnOk.imp F fun _ _ _ _ h => spM_retV h
theorem fn_retK (F : FnM P w K mg base k f fd ps g) : FnM P w K mg base k f fd ps (retK g) := FnOk.imp F fun _ _ _ _ h => spM_retK h
end
end M


set_option Elab.async false
set_option linter.all false
set_option maxRecDepth 100000
set_option maxHeartbeats 4000000
namespace M
open PySem PySem.Spec PyProof.Rows L2
variable [Tabs]

/-! ### later, with other hidden lists -/
structure FrH (ρ : Rh) (H : Hp) (ρ' : Rh) (H' : Hp) : Prop where
  new : ∃ l, ρ'.l = ρ.l ++ l ∧ ∀ a ∈ l, H a = none
  keep : ∀ a o, H a = some o → a ∉ ρ.l → a ∉ ρ.h → NT o → H' a = some o
  live : ∀ a o, H a = some o → ∃ o', H' a = some o'
  hid : ∀ a ∈ ρ'.h, a ∈ ρ.h ∨ H a = none
/-- what ρ tells of, and what it hides, are lists -/
structure FreeH (ρ : Rh) (H : Hp) : Prop where
  free : Free ρ H
  hid : ∀ a ∈ ρ.h, ∃ vs, H a = some (.lst vs)
section
variable {K : PySem.W.Frag} {ρ ρ' ρ2 : Rh} {H H' H2 : Hp} {S : Store}
theorem Rel.freeh (R : Rel K ρ H S) : FreeH ρ H := ⟨R.free, fun a m => R.hid a m⟩
theorem FrH.of (f : Fr ρ H ρ' H') : FrH ρ H ρ' H' := ⟨by obtain ⟨l, rfl, hl⟩ := f.new; exact ⟨l, rfl, hl⟩, fun a o h n _ nt => f.keep a o h n nt, f.live, fun a m => .inl (by rw [← f.hid]; exact m)⟩
theorem FrH.refl : FrH ρ H ρ H := .of (Fr.refl ρ H)
theorem FrH.trans (f : FrH ρ H ρ' H') (g : FrH ρ' H' ρ2 H2) : FrH ρ H ρ2 H2 := by
  obtain ⟨l, e', hl⟩ := f.new
  obtain ⟨k, e2', hk⟩ := g.new
  refine ⟨⟨l ++ k, by rw [← List.append_assoc, ← e', ← e2'], fun a m => ?_⟩, fun a o h n n2 nt => g.keep a o (f.keep a o h n n2 nt) (fun m => ?_) (fun m => ?_) nt, fun a o h => ?_, fun a m => ?_⟩
  · rcases List.mem_append.mp m with m | m
    · exact hl a m
    · cases q : H a with
      | none => rfl
      | some o =>
        obtain ⟨o', z⟩ := f.live a o q
        rw [hk a m] at z; cases z
  · rw [e'] at m
    rcases List.mem_append.mp m with m | m
    · exact n m
    · rw [hl a m] at h; cases h
  · rcases f.hid a m with q | q
    · exact n2 q
    · rw [q] at h; cases h
  · obtain ⟨o', z⟩ := f.live a o h
    exact g.live a o' z
  · rcases g.hid a m with q | q
    · exact f.hid a q
    · refine .inr ?_
      cases z : H a with
      | none => rfl
      | some o =>
        obtain ⟨o', z'⟩ := f.live a o z
        rw [q] at z'; cases z'
theorem FrH.at_ (f : FrH ρ H ρ' H') {n : Nat} {a : Addr} (h : ρ.l[n]? = some a) : ρ'.l[n]? = some a := by
  obtain ⟨l, e, _⟩ := f.new
  rw [e, List.getElem?_append_left (List.getElem?_eq_some_iff.mp h).1]
  exact h
theorem sqt_frh (F : FreeH ρ H) (f : FrH ρ H ρ' H') {a : Addr} {vs : List V} (h : SqT K H a vs) : SqT K H' a vs := by
  have key : ∀ o, H a = some o → (∀ ws, o ≠ .lst ws) → NT o → H' a = some o := fun o e ne nt => f.keep a o e (fun m => by
    obtain ⟨ws, z⟩ := F.free a m
    rw [e] at z
    exact ne ws (Option.some.inj z)) (fun m => by
    obtain ⟨ws, z⟩ := F.hid a m
    rw [e] at z
    exact ne ws (Option.some.inj z)) nt
  rcases h with (h | ⟨o, h⟩) | h
  · exact .inl (.inl (key _ h (fun ws z => by cases z) fun ps z => by cases z))
  · exact .inl (.inr ⟨o, key _ h (fun ws z => by cases z) fun ps z => by cases z⟩)
  · exact .inr h
theorem frh_not (f : FrH ρ H ρ' H') {a : Addr} {o : HO} (e : H a = some o) (n : a ∉ ρ.l) : a ∉ ρ'.l := fun m => by
  obtain ⟨l, e', hl⟩ := f.new
  rw [e'] at m
  rcases List.mem_append.mp m with m | m
  · exact n m
  · rw [hl a m] at e; cases e
theorem frh_notH (f : FrH ρ H ρ' H') {a : Addr} {o : HO} (e : H a = some o) (n : a ∉ ρ.h) : a ∉ ρ'.h := fun m => by
  rcases f.hid a m with q | q
  · exact n q
  · rw [q] at e; cases e
theorem frh_rd (f : FrH ρ H ρ' H') {a : Addr} {ws : List V} (h : Rd H a (.lst ws)) (n : a ∉ ρ.l) (m : a ∉ ρ.h) : Rd H' a (.lst ws) := by
  rcases h with h | ⟨o, h⟩
  · exact .inl (f.keep a _ h n m fun ps z => by cases z)
  · exact .inr ⟨o, f.keep a _ h n m fun ps z => by cases z⟩
theorem frh_notR (f : FrH ρ H ρ' H') {a : Addr} {ws : List V} (h : Rd H a (.lst ws)) (n : a ∉ ρ.l) : a ∉ ρ'.l := by
  rcases h with h | ⟨o, h⟩
  · exact frh_not f h n
  · exact frh_not f h n
theorem frh_notRH (f : FrH ρ H ρ' H') {a : Addr} {ws : List V} (h : Rd H a (.lst ws)) (n : a ∉ ρ.h) : a ∉ ρ'.h := by
  rcases h with h | ⟨o, h⟩
  · exact frh_notH f h n
  · exact frh_notH f h n
mutual
theorem RepD.frh (F : FreeH ρ H) (f : FrH ρ H ρ' H') : ∀ (d : D) (v : V), RepD K ρ H d v → RepD K ρ' H' d v
  | .non, _, h => by cases h; exact .non
  | .bl b, _, h => by cases h; exact .bl b
  | .int i, _, h => by cases h; exact .int i
  | .str x, _, h => by cases h; exact .str x
  | .tup ds, _, h => by
    cases h with
    | tup hs hd => exact .tup (sqt_frh F f hs) (RepDs.frh F f ds _ hd)
  | .lst ds, _, h => by
    cases h with
    | lst hs hn hh hd => exact .lst (f.keep _ _ hs hn hh fun ps z => by cases z) (frh_not f hs hn) (frh_notH f hs hh) (RepDs.frh F f ds _ hd)
  | .fro ds, _, h => by
    cases h with
    | fro hs hn hh hd =>
      exact .fro (frh_rd f hs hn hh) (frh_notR f hs hn) (frh_notRH f hs hh) (RepDs.frh F f ds _ hd)
    | frk hk hd => exact .frk hk (RepDs.frh F f ds _ hd)
  | .loc n, _, h => by
    cases h with
    | loc e => exact .loc (f.at_ e)
  | .ref a, _, h => by cases h; exact .ref a
  | .ty n, _, h => by cases h; exact .ty n
  | .rng lo hi, _, h => by
    cases h with
    | rng hs => exact .rng (f.keep _ _ hs (fun m => by
        obtain ⟨ws, z⟩ := F.1 _ m
        rw [hs] at z
        cases z) (fun m => by
        obtain ⟨ws, z⟩ := F.2 _ m
        rw [hs] at z
        cases z) fun ps z => by cases z)
theorem RepDs.frh (F : FreeH ρ H) (f : FrH ρ H ρ' H') : ∀ (ds : List D) (vs : List V), RepDs K ρ H ds vs → RepDs K ρ' H' ds vs
  | [], _, h => by cases h; exact .nil
  | d :: ds, _, h => by
    cases h with
    | cons h1 h2 => exact .cons (RepD.frh F f d _ h1) (RepDs.frh F f ds _ h2)
end
theorem EnvRel.frh {σ : L2.St} {e : Env} (F : FreeH ρ H) (f : FrH ρ H ρ' H') (h : EnvRel K ρ H σ e) : EnvRel K ρ' H' σ e := ⟨h.1, fun i d q => let ⟨v, a, b⟩ := h.2 i d q; ⟨v, a, RepD.frh F f d v b⟩⟩
theorem FrH.hide (f : Fr ρ H ρ' H') {p : Addr} (h : H p = none) : FrH ρ H (ρ'.hide p) H' := by
  obtain ⟨l, rfl, hl⟩ := f.new
  refine ⟨⟨l, rfl, hl⟩, fun a o h n _ nt => f.keep a o h n nt, f.live, fun a m => ?_⟩
  rcases List.mem_cons.mp m with m | m
  · exact .inr (by rw [m]; exact h)
  · exact .inl m
theorem FrH.putH {p : Addr} {u u' : HO} (h : H p = some u) (m : p ∈ ρ.h) : FrH ρ H ρ (upd H p u') := by
  refine ⟨⟨[], by simp, by simp⟩, fun a o q _ n _ => ?_, fun a o q => ?_, fun a m => .inl m⟩
  · have ne : a ≠ p := fun z => n (by rw [z]; exact m)
    rw [upd_ne ne]; exact q
  · by_cases e : a = p
    · subst e; exact ⟨u', upd_same⟩
    · exact ⟨o, by rw [upd_ne e]; exact q⟩
end

/-! ### targets -/
abbrev MG := D → Env → Store → Option Env
def tG (K : PySem.W.Frag) (g : MG) (sl : List Nat) : TG := fun v σ H Q => ∃ ρ e S d e', EnvRel K ρ H σ e ∧ Rel K ρ H S ∧ RepD K ρ H d v ∧ g d e S = some e' ∧ ∀ σ', EnvRel K ρ H σ' e' → (∀ vs, (∀ i ∈ sl, i ∈ vs) → wipe σ' vs = wipe σ vs) → Q σ' H
abbrev GM (X : Cx) (tg : Expr) (g : MG) (sl : List Nat) : Prop := PG X tg (tG X.K g sl)
def tGs (K : PySem.W.Frag) (g : List D → Env → Store → Option Env) (sl : List Nat) : TGs := fun vs σ H Q => ∃ ρ e S ds e', EnvRel K ρ H σ e ∧ Rel K ρ H S ∧ RepDs K ρ H ds vs ∧ g ds e S = some e' ∧ ∀ σ', EnvRel K ρ H σ' e' → (∀ vs, (∀ i ∈ sl, i ∈ vs) → wipe σ' vs = wipe σ vs) → Q σ' H
abbrev GsM (X : Cx) (ts : List Expr) (g : List D → Env → Store → Option Env) (sl : List Nat) : Prop := PGs X ts (tGs X.K g sl)
theorem pg_imp {X : Cx} {tg : Expr} {t t' : TG} (h : PG X tg t) (i : ∀ v σ H Q, t' v σ H Q → t v σ H Q) : PG X tg t' := ⟨fun pins s σ H v u Q I r q => h.run pins s σ H v u Q I r (i _ _ _ _ q)⟩
theorem pgs_imp {X : Cx} {ts : List Expr} {t t' : TGs} (h : PGs X ts t) (i : ∀ v σ H Q, t' v σ H Q → t v σ H Q) : PGs X ts t' := ⟨fun pins s σ H v u Q I r q => h.run pins s σ H v u Q I r (i _ _ _ _ q)⟩
theorem EnvRel.set {K : PySem.W.Frag} {ρ : Rh} {H : Hp} {σ : L2.St} {e : Env} (h : EnvRel K ρ H σ e) (i : Nat) {d : D} {v : V} (r : RepD K ρ H d v) : EnvRel K ρ H (σ.set i (some v)) (e.set i (some d)) := by
  refine ⟨by simp [h.1], fun j d' q => ?_⟩
  by_cases hj : i = j
  · subst hj
    have hi : i < e.length := by
      have := (List.getElem?_eq_some_iff.mp q).1
      simpa using this
    rw [List.getElem?_set_self hi] at q
    cases q
    exact ⟨v, by rw [List.getElem?_set_self (by rw [h.1]; exact hi)], r⟩
  · rw [List.getElem?_set_ne hj] at q
    rw [List.getElem?_set_ne hj]
    exact h.2 j d' q
theorem wipe_set {σ : L2.St} {i : Nat} {x : Option V} : ∀ {vs : List Nat}, i ∈ vs → wipe (σ.set i x) vs = wipe σ vs
  | [], h => by simp at h
  | v :: vs, h => by
    unfold wipe
    by_cases hv : v = i
    · subst hv
      have : ∀ (ws : List Nat), (wipe (σ.set v x) ws).set v none = (wipe σ ws).set v none := by
        intro ws
        induction ws with
        | nil => unfold wipe; rw [List.set_set]
        | cons w ws ih =>
          unfold wipe
          by_cases hw : w = v
          · subst hw; rw [List.set_set, List.set_set]; exact ih
          · rw [List.set_comm _ _ hw, ih, List.set_comm _ _ (Ne.symm hw)]
      exact this vs
    · rw [wipe_set (by rcases List.mem_cons.mp h with e | m; exact absurd e.symm hv; exact m)]
/-! the mirrors of targets -/
def gN (i : Nat) : MG := fun d e _ => some (e.set i (some d))
def gNil : List D → Env → Store → Option Env := fun ds e _ => match ds with
  | [] => some e
  | _ => none
def gCons (g : MG) (r : List D → Env → Store → Option Env) : List D → Env → Store → Option Env := fun ds e S => match ds with
  | d :: ds => (g d e S).bind fun e1 => r ds e1 S
  | [] => none
def gTup (n : Nat) (r : List D → Env → Store → Option Env) : MG := fun d e S => match d with
  | .tup ds => if ds.length = n then r ds e S else none
  | _ => none
def gLst (n : Nat) (r : List D → Env → Store → Option Env) : MG := fun d e S => match lstOf S d with
  | some ds => if ds.length = n then r ds e S else none
  | none => none
section
variable {X : Cx} {W : WX} {tg e a b c : Expr} {es : List Expr} {g : MG} {gs : List D → Env → Store → Option Env} {sl sl2 : List Nat} {x : Str} {pos pos' : Pos} {m ma mb : ME} {i : Nat}
theorem gm_name (hN : X.N.Nodup) (hi : X.N[i]? = some x) (hx : Loc X.env.scope x) (hf : X.fn x = true ∨ X.env.scope.names.lookup x = some .local := by first | exact .inl rfl | exact .inr rfl | assumption) : GM X (.Name x pos) (gN i) [i] :=
  pg_imp (pg_name hN hi hx hf) fun v σ H Q ⟨ρ, e, S, d, e', he, R, r, hg, q⟩ => by
    cases hg
    exact q _ (he.set i r) fun vs h => wipe_set (h i (by simp))
theorem gms_nil : GsM X [] gNil [] := pgs_imp pgs_nil fun v σ H Q ⟨ρ, e, S, ds, e', he, R, r, hg, q⟩ => by
  cases r with
  | nil => cases hg; exact ⟨rfl, q σ he fun _ _ => rfl⟩
  | cons _ _ => cases hg
theorem gms_cons (h1 : GM X e g sl) (h2 : GsM X es gs sl2) (hs : (assignEach (e :: es) X.env).map (·.2) = assign e X.env :: (assignEach es X.env).map (·.2) := by rfl) : GsM X (e :: es) (gCons g gs) (sl ++ sl2) :=
  pgs_imp (pgs_cons h1 h2 hs) fun vs σ H Q ⟨ρ, e, S, ds, e', he, R, r, hg, q⟩ => by
    cases r with
    | nil => cases hg
    | @cons d ds v vs r1 r2 =>
      unfold gCons at hg
      simp only at hg
      cases h : g d e S with
      | none => rw [h] at hg; cases hg
      | some e1 =>
        rw [h] at hg
        exact ⟨v, vs, rfl, ρ, e, S, d, e1, he, R, r1, h, fun σ1 he1 w1 => ⟨ρ, e1, S, ds, e', he1, R, r2, hg, fun σ2 he2 w2 => q σ2 he2 fun us hu =>
          (w2 us fun i hi => hu i (List.mem_append_right _ hi)).trans (w1 us fun i hi => hu i (List.mem_append_left _ hi))⟩⟩
theorem gm_tup {k n : Nat} (hc : X.calm = true) (h : GsM X es gs sl) (hn : (assignEach es X.env).length = n := by rfl) (hst : (assignEach es X.env).findIdx? (·.1) = none := by rfl) : GM X (.Tuple es k pos) (gTup n gs) sl :=
  pg_imp (pg_tup hc h hn hst) fun v σ H Q ⟨ρ, e, S, d, e', he, R, r, hg, q⟩ => by
    unfold gTup at hg
    split at hg
    · rename_i ds
      split at hg
      · rename_i hl
        cases r with
        | tup hs rd => exact ⟨_, _, rfl, hs, by rw [← rd.length]; exact hl, ρ, e, S, ds, e', he, R, rd, hg, q⟩
      · cases hg
    · cases hg
theorem gm_lst {k n : Nat} (hc : X.calm = true) (h : GsM X es gs sl) (hn : (assignEach es X.env).length = n := by rfl) (hst : (assignEach es X.env).findIdx? (·.1) = none := by rfl) : GM X (.Tuple es k pos) (gLst n gs) sl :=
  pg_imp (pg_lst hc h hn hst) fun v σ H Q ⟨ρ, e, S, d, e', he, R, r, hg, q⟩ => by
    unfold gLst at hg
    cases hd : lstOf S d with
    | none => rw [hd] at hg; cases hg
    | some ds =>
      rw [hd] at hg
      simp only at hg
      split at hg
      · rename_i hl
        obtain ⟨a, vs, rfl, hr, rd⟩ := lstOf_rep R r hd
        exact ⟨a, vs, rfl, hr, by rw [← rd.length]; exact hl, ρ, e, S, ds, e', he, R, rd, hg, q⟩
      · cases hg
end

/-! ### statements -/
def Res.st {α : Type} (r : Res α) (e : Env) (k : α → Store → Option (Fl × Env × Store)) : Option (Fl × Env × Store) := match r with
  | .ok a S => k a S
  | .ex c S => some (.ex c, e, S)
  | .bad => none
@[simp] theorem Res.st_ok {α : Type} (a : α) (S : Store) (e : Env) (k : α → Store → Option (Fl × Env × Store)) : (Res.ok a S).st e k = k a S := rfl
@[simp] theorem Res.st_ex {α : Type} (c : Str) (S : Store) (e : Env) (k : α → Store → Option (Fl × Env × Store)) : (Res.ex c S).st e k = some (.ex c, e, S) := rfl
@[simp] theorem Res.st_bad {α : Type} (e : Env) (k : α → Store → Option (Fl × Env × Store)) : (Res.bad : Res α).st e k = none := rfl
theorem PostS.st {K : PySem.W.Frag} {mg : Str → Option Value} {W : WX} {ρ : Rh} {H : Hp} {σ : L2.St} {S : Store} {Dn : Ends} {e : Env} {α : Type} {k : α → Store → Option (Fl × Env × Store)} (R : Rel K ρ H S) (he : EnvRel K ρ H σ e) :
    ∀ {r : Res α}, PostS K mg W ρ H Dn (r.st e k) → Post K mg W (fun a S1 ρ1 H1 => PostS K mg W ρ1 H1 Dn (k a S1)) ρ H σ r
  | .ok _ _, q => fun ρ' H' f R' => PostS.fr f q
  | .ex _ _, q => fun ρ' H' C f R' hC => q ρ' H' σ C f R' (he.fr R.free f) hC
  | .bad, q => q
def sSkip : MS := fun e S => some (.nx, e, S)
def sBreak : MS := fun e S => some (.bk, e, S)
def sCont : MS := fun e S => some (.ct, e, S)
def sNever : MS := fun _ _ => none
def sSeq (a b : MS) : MS := fun e S => match a e S with
  | some (.nx, e1, S1) => b e1 S1
  | r => r
def sSet (g : MG) (m : ME) : MS := fun e S => (m e S).st e fun d S1 => (g d e S1).bind fun e1 => some (.nx, e1, S1)
def sRet (m : ME) : MS := fun e S => (m e S).st e fun d S1 => some (.rt d, e, S1)
def sExpr (m : ME) : MS := fun e S => (m e S).st e fun _ S1 => some (.nx, e, S1)
def sIf (t : MT) (a b : MS) : MS := fun e S => (t e S).st e fun c S1 => if c = true then a e S1 else b e S1
section
variable {X : Cx} {W : WX} {tg e a b c : Expr} {es : List Expr} {g : MG} {sl : List Nat} {x : Str} {pos pos' : Pos} {m ma mb : ME} {t : MT} {sa sb : MS} {st : Stmt} {p q rest : List Stmt} {i : Nat}
theorem bm_nil : BM X W [] sSkip := pss_imp pss_nil fun Dn σ H ⟨ρ, e, S, he, R, q⟩ => q ρ H σ (Fr.refl _ _) R he
theorem bm_one (h : SM X W st sa) : BM X W [st] sa := pss_one h
theorem bm_cons (h1 : SM X W st sa) (h2 : BM X W rest sb) : BM X W (st :: rest) (sSeq sa sb) :=
  pss_imp (pss_cons h1 h2) fun Dn σ H ⟨ρ, e, S, he, R, q⟩ => ⟨ρ, e, S, he, R, by
    unfold sSeq at q
    cases hk : sa e S with
    | none => rw [hk] at q; exact q
    | some r =>
      obtain ⟨fl, e1, S1⟩ := r
      rw [hk] at q
      cases fl with
      | nx => exact fun ρ' H' σ' f R' he' => ⟨ρ', e1, S1, he', R', PostS.fr f q⟩
      | rt d => exact q
      | bk => exact q
      | ct => exact q
      | ex c => exact q⟩
theorem bm_never : BM X W p sNever := pss_imp pss_never fun _ _ _ ⟨ρ, e, S, he, R, q⟩ => q
theorem sm_never : SM X W st sNever := ps_imp ps_never fun _ _ _ ⟨ρ, e, S, he, R, q⟩ => q
theorem sm_pass : SM X W (.Pass pos) sSkip := ps_imp ps_pass fun Dn σ H ⟨ρ, e, S, he, R, q⟩ => q ρ H σ (Fr.refl _ _) R he
theorem sm_break : SM X W (.Break pos) sBreak := ps_imp ps_break fun Dn σ H ⟨ρ, e, S, he, R, q⟩ => q ρ H σ (Fr.refl _ _) R he
theorem sm_cont : SM X W (.Continue pos) sCont := ps_imp ps_continue fun Dn σ H ⟨ρ, e, S, he, R, q⟩ => q ρ H σ (Fr.refl _ _) R he
theorem tE_st {Dn : Ends} {σ : L2.St} {H : Hp} {k : D → Env → Store → Option (Fl × Env × Store)} {u : VK} (hu : ∀ ρ H d v e S, EnvRel X.K ρ H σ e → Rel X.K ρ H S → RepD X.K ρ H d v → PostS X.K X.mg W ρ H Dn (k d e S) → u v H)
    (h : tS X.K X.mg W (fun e S => (m e S).st e fun d S1 => k d e S1) Dn σ H) : tE X.K X.mg W m σ H u := by
  obtain ⟨ρ, e, S, he, R, q⟩ := h
  exact ⟨ρ, e, S, he, R, (PostS.st R he q).mono fun d S1 ρ1 H1 f1 R1 q v r => hu ρ1 H1 d v e S1 (he.fr R.free f1) R1 r q⟩
theorem sm_ret (h : EM X W e m) : SM X W (.Return (some e) pos) (sRet m) :=
  ps_imp (ps_ret h) fun Dn σ H h => tE_st (k := fun d e S1 => some (.rt d, e, S1)) (fun ρ H d v e S he R r q => q ρ H v (Fr.refl _ _) R r) h
def sRetN : MS := fun e S => some (.rt .non, e, S)
theorem sm_retN : SM X W (.Return none pos) sRetN := ps_imp ps_retN fun Dn σ H ⟨ρ, e, S, he, R, q⟩ => q ρ H .non (Fr.refl _ _) R .non
theorem sm_expr (h : EM X W e m) (hs : swapsWith e none pos.line X.env = pure false := by rfl) : SM X W (.Expr e pos) (sExpr m) :=
  ps_imp (ps_expr h hs) fun Dn σ H h => tE_st (k := fun d e S1 => some (.nx, e, S1)) (fun ρ H d v e S he R r q => q ρ H σ (Fr.refl _ _) R he) h
theorem sm_if (hc : TM X W c t) (ha : BM X W p sa) (hb : BM X W q sb) : SM X W (.If c p q pos) (sIf t sa sb) :=
  ps_imp (ps_if hc ha hb) fun Dn σ H ⟨ρ, e, S, he, R, q⟩ => ⟨ρ, e, S, he, R, (PostS.st R he q).mono fun c S1 ρ1 H1 f1 R1 q => by
    cases c with
    | true => exact ⟨ρ1, e, S1, he.fr R.free f1, R1, q⟩
    | false => exact ⟨ρ1, e, S1, he.fr R.free f1, R1, q⟩⟩
theorem set_of {te : TE} {Dn : Ends} {σ : L2.St} {H : Hp} (hte : te = tE X.K X.mg W m) (h : tS X.K X.mg W (sSet (gN i) m) Dn σ H) : tAsg te (gName i) Dn σ H := by
  subst hte
  exact tE_st (k := fun d e S1 => (gN i d e S1).bind fun e1 => some (.nx, e1, S1)) (fun ρ H d v e S he R r q => q ρ H _ (Fr.refl _ _) R (he.set i r)) h
/-- name = e -/
theorem sm_set (hN : X.N.Nodup) (hi : X.N[i]? = some x) (hx : Loc X.env.scope x) (h : EM X W e m) (hs : swapsWith e (some (.Name x pos')) pos.line X.env = pure false := by rfl) (hf : X.fn x = true ∨ X.env.scope.names.lookup x = some .local := by first | exact .inl rfl | exact .inr rfl | assumption) :
    SM X W (.Assign [.Name x pos'] e pos) (sSet (gN i) m) :=
  ps_imp (ps_set hN hi hx h hs hf) fun Dn σ H h => set_of rfl h
/-- a, b = e (e no display with plain names) -/
theorem sm_asg (h : EM X W e m) (hg : GM X tg g sl) (hs : swapsWithSole [tg] e pos.line X.env = pure false := by rfl) (hw : swappedStores [tg] e X.env = pure none := by rfl)
    (h1 : (assignEach [tg] X.env).map (·.2) = [assign tg X.env] := by rfl) : SM X W (.Assign [tg] e pos) (sSet g m) :=
  ps_imp (ps_asg h hg hs hw h1) fun Dn σ H h => tE_st (k := fun d e S1 => (g d e S1).bind fun e1 => some (.nx, e1, S1)) (fun ρ H d v e S he R r q => by
    cases hk : g d e S with
    | none => rw [hk] at q; exact q.elim
    | some e1 =>
      rw [hk] at q
      exact ⟨ρ, e, S, d, e1, he, R, r, hk, fun σ' he' _ => q ρ H σ' (Fr.refl _ _) R he'⟩) h
/-- a, b = x, y -/
def sPar (i j : Nat) (m : MA) : MS := fun e S => (m e S).st e fun ds S1 => match ds with
  | [d1, d2] => some (.nx, (e.set i (some d1)).set j (some d2), S1)
  | _ => none
theorem sm_par {i j : Nat} {x y : Str} {a b : Expr} {m : MA} {px py pt : Pos} {kt k2 pt2} (hc : X.calm = true) (hN : X.N.Nodup) (hi : X.N[i]? = some x) (hj : X.N[j]? = some y) (hij : i ≠ j)
    (hx : X.env.scope.names.lookup x = some .local) (hy : X.env.scope.names.lookup y = some .local) (ha : AM X W [a, b] m)
    (hw : swappedStores [.Tuple [.Name x px, .Name y py] kt pt] (.Tuple [a, b] k2 pt2) X.env = pure (some [x, y]))
    (hs : swapsWithSole [.Tuple [.Name x px, .Name y py] kt pt] (.Tuple [a, b] k2 pt2) pos.line X.env = pure false := by rfl) :
    SM X W (.Assign [.Tuple [.Name x px, .Name y py] kt pt] (.Tuple [a, b] k2 pt2) pos) (sPar i j m) :=
  ps_imp (ps_par hc hN hi hj hij hx hy ha hw hs) fun Dn σ H ⟨ρ, e, S, he, R, q⟩ => ⟨ρ, e, S, he, R, (PostS.st R he q).mono fun ds S1 ρ1 H1 f1 R1 q vs r => by
    match ds, r, q with
    | [], _, q => exact q.elim
    | [_], _, q => exact q.elim
    | _ :: _ :: _ :: _, _, q => exact q.elim
    | [d1, d2], r, q =>
      obtain ⟨v, w, rfl, r1, r2⟩ := reps2 r
      exact ⟨v, w, rfl, q ρ1 H1 _ (Fr.refl _ _) R1 (((he.fr R.free f1).set i r1).set j r2)⟩⟩
/-- name op= e on ints -/
def sAug (i : Nat) (f : Int → Int → Int) (m : ME) : MS := fun e S => match e[i]? with
  | some (some (.int a)) => (m e S).st e fun d S1 => match d with
    | .int b => some (.nx, e.set i (some (.int (f a b))), S1)
    | _ => none
  | _ => none
theorem sm_aug {op : Operator} {f : Int → Int → Int} (ho : PIp X op (ipI f)) (hN : X.N.Nodup) (hi : X.N[i]? = some x) (hx : Loc X.env.scope x) (h : EM X W e m) (hf : X.fn x = true ∨ X.env.scope.names.lookup x = some .local := by first | exact .inl rfl | exact .inr rfl | assumption) :
    SM X W (.AugAssign (.Name x pos') op e pos) (sAug i f m) :=
  ps_imp (ps_aug hN hi hx h ho hf) fun Dn σ H ⟨ρ, e, S, he, R, q⟩ => by
    unfold sAug at q
    split at q
    · rename_i a hk
      obtain ⟨v, h1, r1⟩ := he.2 i _ hk
      cases r1
      refine ⟨.int a, h1, ρ, e, S, he, R, (PostS.st R he q).mono fun d S1 ρ1 H1 f1 R1 q v r => ?_⟩
      cases d with
      | int b => cases r; exact ⟨a, b, rfl, rfl, q ρ1 H1 _ (Fr.refl _ _) R1 ((he.fr R.free f1).set i (.int _))⟩
      | _ => exact q.elim
    · exact q.elim
/-- o[i] = e on a list of the store -/
def sPut (mo mi me : ME) : MS := fun e S => (me e S).st e fun d S1 => (mo e S1).st e fun o S2 => (mi e S2).st e fun i S3 => match o, i with
  | .loc n, .int k => match S3[n]? with
    | some (.lst xs) => match ixN xs.length k with
      | some j => some (.nx, e, S3.set n (.lst (xs.set j d)))
      | none => none
    | none => none
  | _, _ => none
end
end M


set_option Elab.async false
set_option linter.all false
set_option maxRecDepth 100000
set_option maxHeartbeats 4000000
namespace M
open PySem PySem.Spec PyProof.Rows L2 RZ
variable [Tabs]

section
variable {X : Cx} {W : WX} {tg e a b c : Expr} {es : List Expr} {g : MG} {sl : List Nat} {x : Str} {pos pos' : Pos} {m ma mb mo mi me : ME} {t : MT} {sa sb : MS} {st : Stmt} {p q rest : List Stmt} {i : Nat}
theorem sm_put {o i : Expr} (ho : EM X W o mo) (hi : EM X W i mi) (he : EM X W e me) (hs : swapsWithSole [.Subscript o i pos'] e pos.line X.env = pure false := by rfl) (hw : swappedStores [.Subscript o i pos'] e X.env = pure none := by rfl)
    (h1 : (assignEach [.Subscript o i pos'] X.env).map (·.2) = [assign (.Subscript o i pos') X.env] := by rfl)
    (ha : ∀ v, assign (.Subscript o i pos') X.env v = (do
      let ov ← holding [v] (eval o X.env)
      let iv ← holding [v, ov] (eval i X.env)
      standAt pos'
      holding [v, ov, iv] (setItem ov iv v)
      release [v, ov, iv] []) := by intro _; rfl) : SM X W (.Assign [.Subscript o i pos'] e pos) (sPut mo mi me) :=
  ps_imp (ps_asg he (pg_sub ho hi set_list ha) hs hw h1) fun Dn σ H ⟨ρ, e, S, he, R, q⟩ => ⟨ρ, e, S, he, R, (PostS.st R he q).mono fun d S1 ρ1 H1 f1 R1 q v r =>
    ⟨ρ1, e, S1, he.fr R.free f1, R1, (PostS.st R1 (he.fr R.free f1) q).mono fun o S2 ρ2 H2 f2 R2 q vo ro =>
      ⟨ρ2, e, S2, (he.fr R.free f1).fr R1.free f2, R2, (PostS.st R2 ((he.fr R.free f1).fr R1.free f2) q).mono fun i S3 ρ3 H3 f3 R3 q vi ri => by
        have r3 := RepD.fr R2.free f3 _ _ (RepD.fr R1.free f2 _ _ r)
        have ro3 := RepD.fr R2.free f3 _ _ ro
        cases o with
        | loc n =>
          cases i with
          | int k =>
            dsimp only at q
            cases hn : S3[n]? with
            | none => rw [hn] at q; exact q.elim
            | some ob =>
              cases ob with
              | lst xs =>
                rw [hn] at q
                cases hk : ixN xs.length k with
                | none => simp only [hk] at q; exact q.elim
                | some j =>
                  simp only [hk] at q
                  cases ri
                  obtain ⟨p, ws, rfl, ha, hH, rx⟩ := loc_at R3 ro3 hn
                  have mp : p ∈ ρ3.l := List.mem_of_getElem? ha
                  have f4 : Fr ρ3 H3 ρ3 (upd H3 p (.lst (ws.set j v))) := Fr.put mp
                  exact ⟨p, ws, k, j, rfl, rfl, hH, by rw [← rx.length]; exact hk, q ρ3 _ σ f4 (R3.put ha (RepDs.set r3 j rx)) ((((he.fr R.free f1).fr R1.free f2).fr R2.free f3).fr R3.free f4)⟩
          | _ => exact q.elim
        | _ => exact q.elim⟩⟩⟩
end

/-! ### sources -/
structure Src where
  xs : List D
  w : List (Nat × List D)
def Src.ok (s : Src) (S : Store) : Prop := ∀ p ∈ s.w, S[p.1]? = some (.lst p.2)
@[simp] theorem Src.ok_nil (xs : List D) (S : Store) : (Src.mk xs []).ok S := fun p h => by simp at h
structure JOk (K : PySem.W.Frag) (src : Src) (J : It) (ρ : Rh) (H : Hp) : Prop where
  go : ∀ ρ' H' S' i d, FrH ρ H ρ' H' → Rel K ρ' H' S' → src.ok S' → src.xs[i]? = some d → J.go i H' ∧ ∀ x H'', J.yld i H' x H'' → Fr ρ' H' ρ' H'' ∧ Rel K ρ' H'' S' ∧ RepD K ρ' H'' d x
  stop : ∀ ρ' H' S', FrH ρ H ρ' H' → Rel K ρ' H' S' → src.ok S' → J.stop src.xs.length H'
abbrev MI := Env → Store → Res Src
def tI (K : PySem.W.Frag) (mg : Str → Option Value) (W : WX) (m : MI) : TI := fun σ H R => ∃ ρ e S, EnvRel K ρ H σ e ∧ Rel K ρ H S ∧ Post K mg W (fun src S' ρ' H' => ∀ J, JOk K src J ρ' H' → R J H') ρ H σ (m e S)
abbrev IM (X : Cx) (W : WX) (tg e : Expr) (m : MI) : Prop := PI X tg e (tI X.K X.mg W m)
theorem pi_imp {X : Cx} {tg e : Expr} {t t' : TI} (h : PI X tg e t) (i : ∀ σ H Q, t' σ H Q → t σ H Q) : PI X tg e t' := ⟨fun pins s σ H Q I q => h.run pins s σ H Q I (i _ _ _ q)⟩
/-- from a Walk whose items are there, the heap as it was -/
theorem jok_at {K : PySem.W.Frag} {src : Src} {J : It} {ρ : Rh} {H : Hp} {n : Nat} (G : Hp → Prop) {Y : Nat → Hp → V → Hp → Prop} (w : Walk J n G Y) (hn : src.xs.length = n)
    (hG : ∀ ρ' H' S', FrH ρ H ρ' H' → Rel K ρ' H' S' → src.ok S' → G H')
    (hy : ∀ ρ' H' S' i d x H'', FrH ρ H ρ' H' → Rel K ρ' H' S' → src.ok S' → src.xs[i]? = some d → Y i H' x H'' → H'' = H' ∧ RepD K ρ' H' d x) : JOk K src J ρ H where
  go := fun ρ' H' S' i d f R ok hd => by
    have hi : i < n := by rw [← hn]; exact (List.getElem?_eq_some_iff.mp hd).1
    refine ⟨w.goes i H' hi (hG ρ' H' S' f R ok), fun x H'' y => ?_⟩
    obtain ⟨rfl, r⟩ := hy ρ' H' S' i d x H'' f R ok hd (w.yields i H' x H'' hi (hG ρ' H' S' f R ok) y)
    exact ⟨Fr.refl _ _, R, r⟩
  stop := fun ρ' H' S' f R ok => by rw [hn]; exact w.stops H' (hG ρ' H' S' f R ok)
/-- .. items in new pairs -/
theorem jok_pair {K : PySem.W.Frag} {src : Src} {J : It} {ρ : Rh} {H : Hp} {n : Nat} (G : Hp → Prop) {f1 f2 : Nat → Option V} (w : Walk J n G (YPair f1 f2)) (hn : src.xs.length = n)
    (hG : ∀ ρ' H' S', FrH ρ H ρ' H' → Rel K ρ' H' S' → src.ok S' → G H')
    (hy : ∀ ρ' H' S' i d x y, FrH ρ H ρ' H' → Rel K ρ' H' S' → src.ok S' → src.xs[i]? = some d → f1 i = some x → f2 i = some y → ∃ d1 d2, d = .tup [d1, d2] ∧ RepD K ρ' H' d1 x ∧ RepD K ρ' H' d2 y) : JOk K src J ρ H where
  go := fun ρ' H' S' i d f R ok hd => by
    have hi : i < n := by rw [← hn]; exact (List.getElem?_eq_some_iff.mp hd).1
    refine ⟨w.goes i H' hi (hG ρ' H' S' f R ok), fun v H'' yy => ?_⟩
    obtain ⟨T, x, y, rfl, hT, rfl, e1, e2⟩ := w.yields i H' v H'' hi (hG ρ' H' S' f R ok) yy
    obtain ⟨d1, d2, rfl, r1, r2⟩ := hy ρ' H' S' i d x y f R ok hd e1 e2
    exact ⟨Fr.laid hT, R.laid hT, .tup (SqT.of upd_same) (RepDs.fr R.free (Fr.laid hT) _ _ (.cons r1 (.cons r2 .nil)))⟩
  stop := fun ρ' H' S' f R ok => by rw [hn]; exact w.stops H' (hG ρ' H' S' f R ok)

/-- the items of a list, a tuple, a text -/
def strItems (s : Str) : List D := s.cps.toList.map fun c => .str ⟨#[c]⟩
def srcOf (S : Store) : D → Option Src
  | .tup xs => some ⟨xs, []⟩
  | .lst xs => some ⟨xs, []⟩
  | .fro xs => some ⟨xs, []⟩
  | .loc n => match S[n]? with
    | some (.lst xs) => some ⟨xs, [(n, xs)]⟩
    | _ => none
  | .str s => some ⟨strItems s, []⟩
  | _ => none
/-- a list that d is stands as it did -/
structure Stands (K : PySem.W.Frag) (xs : List D) (w : List (Nat × List D)) (a : Addr) (ρ : Rh) (H : Hp) : Prop where
  at_ : ∀ ρ' H' S', FrH ρ H ρ' H' → Rel K ρ' H' S' → (∀ p ∈ w, S'[p.1]? = some (.lst p.2)) → ∃ vs, SqL K H' a vs ∧ RepDs K ρ' H' xs vs
def watch : D → List D → List (Nat × List D)
  | .loc n, xs => [(n, xs)]
  | _, _ => []
theorem stands_of {K : PySem.W.Frag} {ρ : Rh} {H : Hp} {S : Store} {d : D} {v : V} {xs : List D} (R : Rel K ρ H S) (r : RepD K ρ H d v) (e : lstOf S d = some xs) : ∃ a, v = .ref a ∧ Stands K xs (watch d xs) a ρ H := by
  cases d <;> simp only [lstOf] at e <;> try cases e
  case lst =>
    cases r with
    | lst a b b' c => exact ⟨_, rfl, ⟨fun ρ' H' S' f R' _ => ⟨_, .inl (frh_rd f (Rd.of a) b b'), RepDs.frh R.freeh f _ _ c⟩⟩⟩
  case fro =>
    cases r with
    | fro a b b' c => exact ⟨_, rfl, ⟨fun ρ' H' S' f R' _ => ⟨_, .inl (frh_rd f a b b'), RepDs.frh R.freeh f _ _ c⟩⟩⟩
    | frk a c => exact ⟨_, rfl, ⟨fun ρ' H' S' f R' _ => ⟨_, .inr a, RepDs.frh R.freeh f _ _ c⟩⟩⟩
  case loc n =>
    cases r with
    | loc ha =>
      split at e
      · rename_i ys hs
        cases e
        refine ⟨_, rfl, ⟨fun ρ' H' S' f R' hw => ?_⟩⟩
        obtain ⟨vs, q, rr⟩ := R'.at_ n _ _ (hw (n, xs) (by simp [watch])) (f.at_ ha)
        exact ⟨vs, .inl (.inl q), rr⟩
      · cases e
theorem jok_list {K : PySem.W.Frag} {ρ : Rh} {H : Hp} {S : Store} {a : Addr} {xs : List D} {w : List (Nat × List D)} (R : Rel K ρ H S) (hw : ∀ p ∈ w, S[p.1]? = some (.lst p.2)) (st : Stands K xs w a ρ H) : JOk K ⟨xs, w⟩ (Itl K a) ρ H where
  go := fun ρ' H' S' i d f R' ok hd => by
    obtain ⟨vs, q, r⟩ := st.at_ ρ' H' S' f R' ok
    obtain ⟨v, hv, rv⟩ := r.get hd
    refine ⟨⟨vs, v, q, hv⟩, fun x H'' y => ?_⟩
    obtain ⟨rfl, y⟩ := y
    have := y vs q
    rw [hv] at this; cases this
    exact ⟨Fr.refl _ _, R', rv⟩
  stop := fun ρ' H' S' f R' ok => by
    obtain ⟨vs, q, r⟩ := st.at_ ρ' H' S' f R' ok
    exact ⟨vs, q, by rw [← r.length]; exact Nat.le_refl _⟩
theorem jok_tup {K : PySem.W.Frag} {ρ : Rh} {H : Hp} {S : Store} {a : Addr} {vs : List V} {xs : List D} (R : Rel K ρ H S) (q : SqT K H a vs) (r : RepDs K ρ H xs vs) : JOk K ⟨xs, []⟩ (Itt K a) ρ H :=
  jok_at (fun H' => SqT K H' a vs) walk_tup r.length (fun ρ' H' S' f R' ok => sqt_frh R.freeh f q) fun ρ' H' S' i d x H'' f R' ok hd y => by
    obtain ⟨rfl, y⟩ := y
    obtain ⟨v, hv, rv⟩ := (RepDs.frh R.freeh f _ _ r).get hd
    rw [hv] at y; cases y
    exact ⟨rfl, rv⟩
theorem jok_str {K : PySem.W.Frag} {ρ : Rh} {H : Hp} (s : Str) : JOk K ⟨strItems s, []⟩ (Its s) ρ H :=
  jok_at (fun _ => True) walk_str (by simp [strItems]) (fun _ _ _ _ _ _ => trivial) fun ρ' H' S' i d x H'' f R' ok hd y => by
    obtain ⟨rfl, c, hc, rfl⟩ := y
    have : d = .str ⟨#[c]⟩ := by
      simp only [strItems, List.getElem?_map, Array.getElem?_toList, hc, Option.map_some, Option.some.injEq] at hd
      exact hd.symm
    subst this
    exact ⟨rfl, .str _⟩
/-- whatever of the three it is -/
def iAny (K : PySem.W.Frag) (tl : TE) : TI := fun σ H R => tl σ H fun x H1 => (∃ a xs, x = .ref a ∧ SqL K H1 a xs ∧ R (Itl K a) H1) ∨ (∃ a xs, x = .ref a ∧ SqT K H1 a xs ∧ R (Itt K a) H1) ∨ ∃ s, x = .str s ∧ R (Its s) H1
theorem pi_any {X : Cx} {tg l : Expr} {tl : TE} (hl : PE X l tl) : PI X tg l (iAny X.K tl) := by
  refine ⟨fun pins s σ H R I h => ?_⟩
  refine thn (hl.run pins s σ H _ I h) fun v s1 ⟨x, H1, I1, r1, q1⟩ => ?_
  rcases q1 with ⟨a, xs, e, hq, q⟩ | ⟨a, xs, e, hq, q⟩ | ⟨z, e, q⟩
  · subst e
    cases r1
    obtain ⟨its, rv, p, hz⟩ := I1.list hq
    exact wpAny_pyIter_list p.isList (pi_one (tk := s1.toks) I1 _ (turn_list a _) ⟨_, Heap.get?_push_size _ rfl, rfl, rfl⟩ q)
  · subst e
    cases r1
    obtain ⟨its, rv, p, hz⟩ := I1.tuple hq
    exact wpAny_pyIter_tuple (show s1.heap.IsTuple a its.toArray from p) (pi_one (tk := s1.toks) I1 _ (turn_tuple a _) ⟨_, Heap.get?_push_size _ rfl, rfl, rfl⟩ q)
  · subst e
    obtain ⟨t, rfl⟩ := r1
    cases ha : z.cps.all (· < 128)
    · exact wpAny_pyIter_wide ha (pi_one (tk := s1.toks) I1 _ (turn_str _ z t "str_iterator" (.inr rfl)) ⟨_, Heap.get?_push_size _ rfl, rfl, rfl⟩ q)
    · exact wpAny_pyIter_ascii ha (pi_one (tk := s1.toks) I1 _ (turn_str _ z t "str_ascii_iterator" (.inl rfl)) ⟨_, Heap.get?_push_size _ rfl, rfl, rfl⟩ q)
def mSrc (m : ME) : MI := fun e S => (m e S).bind fun d S1 => .of (srcOf S1 d) S1
theorem srcOf_list {S : Store} {d : D} {src : Src} (h : srcOf S d = some src) (nt : ∀ ys, d ≠ .tup ys) (ns : ∀ s, d ≠ .str s) : lstOf S d = some src.xs ∧ src.w = watch d src.xs ∧ src.ok S := by
  cases d <;> simp only [srcOf] at h <;> try cases h
  case tup => exact absurd rfl (nt _)
  case lst => exact ⟨rfl, rfl, Src.ok_nil _ _⟩
  case fro => exact ⟨rfl, rfl, Src.ok_nil _ _⟩
  case str => exact absurd rfl (ns _)
  case loc n =>
    split at h
    · rename_i xs hs
      cases h
      refine ⟨by simp only [lstOf, hs], rfl, fun p hp => ?_⟩
      simp at hp; subst hp; exact hs
    · cases h
theorem im_any {X : Cx} {W : WX} {tg e : Expr} {m : ME} (he : EM X W e m) : IM X W tg e (mSrc m) :=
  pi_imp (pi_any he) fun σ H R' ⟨ρ, e, S, he, R, q⟩ => ⟨ρ, e, S, he, R, (Post.bind q).mono fun d S1 ρ1 H1 f1 R1 q v r => by
    cases hk : srcOf S1 d with
    | none => rw [hk] at q; exact q.elim
    | some src =>
      rw [hk] at q
      have q := q ρ1 H1 (Fr.refl _ _) R1
      by_cases ht : ∃ ys, d = .tup ys
      · obtain ⟨ys, rfl⟩ := ht
        cases hk
        cases r with
        | tup hs rd => exact .inr (.inl ⟨_, _, rfl, hs, q _ (jok_tup R1 hs rd)⟩)
      · by_cases hs : ∃ s, d = .str s
        · obtain ⟨s, rfl⟩ := hs
          cases hk
          cases r
          exact .inr (.inr ⟨s, rfl, q _ (jok_str s)⟩)
        · obtain ⟨h1, h2, h3⟩ := srcOf_list hk (fun ys z => ht ⟨ys, z⟩) fun s z => hs ⟨s, z⟩
          obtain ⟨a, rfl, st⟩ := stands_of R1 r h1
          obtain ⟨vs, hq, _⟩ := st.at_ ρ1 H1 S1 .refl R1 (by rw [← h2]; exact h3)
          refine .inl ⟨a, vs, rfl, hq, q _ ?_⟩
          have := jok_list R1 (by rw [← h2]; exact h3) st
          have es : (⟨src.xs, watch d src.xs⟩ : Src) = src := by rw [← h2]
          rw [es] at this
          exact this⟩
/-! ranges -/
def rng (lo : Int) (n : Nat) : List D := (List.range n).map fun (i : Nat) => .int (lo + (i : Int))
def rngC (lo c : Int) (n : Nat) : List D := (List.range n).map fun (i : Nat) => .int (lo + (i : Int) * c)
def inR (i : Int) : Bool := decide (-(2 ^ 62) ≤ i ∧ i < 2 ^ 62)
def srcR1 : List D → Store → Option Src
  | [.int j], _ => if inR j then some ⟨rng 0 j.toNat, []⟩ else none
  | _, _ => none
def srcR2 : List D → Store → Option Src
  | [.int i, .int j], _ => if inR i && inR j then some ⟨rng i (j - i).toNat, []⟩ else none
  | _, _ => none
def mSrcA (f : List D → Store → Option Src) (m : MA) : MI := fun e S => (m e S).bind fun ds S1 => .of (f ds S1) S1
theorem jok_rng {K : PySem.W.Frag} {ρ : Rh} {H : Hp} (lo : Int) (n : Nat) : JOk K ⟨rng lo n, []⟩ (Itr lo n) ρ H :=
  jok_at (fun _ => True) walk_range (by simp [rng]) (fun _ _ _ _ _ _ => trivial) fun ρ' H' S' i d x H'' f R' ok hd y => by
    obtain ⟨rfl, rfl⟩ := y
    have hi : i < n := by have := (List.getElem?_eq_some_iff.mp hd).1; simpa [rng] using this
    simp only [rng, List.getElem?_map, List.getElem?_range hi, Option.map_some, Option.some.injEq] at hd
    subst hd
    exact ⟨rfl, .int _⟩
section
variable {X : Cx} {W : WX} {tg a b c e : Expr} {m : MA} {p pos : Pos}
theorem tA_src {f : List D → Store → Option Src} {σ : L2.St} {H : Hp} {R' : It → Hp → Prop} {u : List V → Hp → Prop}
    (hu : ∀ ρ H ds vs S src, Rel X.K ρ H S → RepDs X.K ρ H ds vs → f ds S = some src → (∀ J, JOk X.K src J ρ H → R' J H) → u vs H)
    (h : tI X.K X.mg W (mSrcA f m) σ H R') : tA X.K X.mg W m σ H u := by
  obtain ⟨ρ, e, S, he, R, q⟩ := h
  exact ⟨ρ, e, S, he, R, (Post.bind q).mono fun ds S1 ρ1 H1 f1 R1 q vs r => by
    cases hk : f ds S1 with
    | none => rw [hk] at q; exact q.elim
    | some src => rw [hk] at q; exact hu ρ1 H1 ds vs S1 src R1 r hk (q ρ1 H1 (Fr.refl _ _) R1)⟩
theorem im_range1 (hg : Gl X "range") (hm : X.mg "range" = none) (ha : AM X W [a] m) (hs : starEach [a] X.env = [(false, eval a X.env)] := by rfl) : IM X W tg (.Call (.Name "range" p) [a] [] pos) (mSrcA srcR1 m) :=
  pi_imp (pi_range1 hg hm ha hs) fun σ H R' h => tA_src (fun ρ H ds vs S src R r hk q => by
    unfold srcR1 at hk
    split at hk
    · rename_i j
      split at hk
      · rename_i hj
        cases hk
        obtain ⟨v, rfl, r1⟩ := reps1 r
        cases r1
        simp only [inR, decide_eq_true_eq] at hj
        exact ⟨j, rfl, hj.1, hj.2, q _ (jok_rng 0 _)⟩
      · cases hk
    · cases hk) h
theorem im_range2 (hg : Gl X "range") (hm : X.mg "range" = none) (ha : AM X W [a, b] m) (hs : starEach [a, b] X.env = [(false, eval a X.env), (false, eval b X.env)] := by rfl) (hs2 : starEach [b] X.env = [(false, eval b X.env)] := by rfl) : IM X W tg (.Call (.Name "range" p) [a, b] [] pos) (mSrcA srcR2 m) :=
  pi_imp (pi_range2 hg hm ha hs hs2) fun σ H R' h => tA_src (fun ρ H ds vs S src R r hk q => by
    unfold srcR2 at hk
    split at hk
    · rename_i i j
      split at hk
      · rename_i hj
        cases hk
        obtain ⟨v, w, rfl, r1, r2⟩ := reps2 r
        cases r1
        cases r2
        simp only [inR, Bool.and_eq_true, decide_eq_true_eq] at hj
        exact ⟨i, j, rfl, ⟨hj.1.1, hj.1.2, hj.2.1, hj.2.2⟩, q _ (jok_rng i _)⟩
      · cases hk
    · cases hk) h
/-! zip, enumerate, reversed -/
def zipD : List D → List D → List D
  | x :: xs, y :: ys => .tup [x, y] :: zipD xs ys
  | _, _ => []
theorem zipD_length : ∀ (xs ys : List D), (zipD xs ys).length = min xs.length ys.length
  | [], _ => by simp [zipD]
  | _ :: _, [] => by simp [zipD]
  | _ :: xs, _ :: ys => by simp only [zipD, List.length_cons, zipD_length xs ys]; omega
theorem zipD_get : ∀ {xs ys : List D} {i : Nat} {d : D}, (zipD xs ys)[i]? = some d → ∃ x y, xs[i]? = some x ∧ ys[i]? = some y ∧ d = .tup [x, y]
  | [], _, _, _, h => by simp [zipD] at h
  | _ :: _, [], _, _, h => by simp [zipD] at h
  | x :: xs, y :: ys, 0, d, h => by simp [zipD] at h; exact ⟨x, y, rfl, rfl, h.symm⟩
  | x :: xs, y :: ys, i + 1, d, h => by
    simp only [zipD, List.getElem?_cons_succ] at h
    obtain ⟨a, b, h1, h2, h3⟩ := zipD_get h
    exact ⟨a, b, by simpa using h1, by simpa using h2, h3⟩
def srcZip : List D → Store → Option Src
  | [d1, d2], S => match d1, d2 with
    | .tup xs, .tup ys => some ⟨zipD xs ys, []⟩
    | d1, d2 => match lstOf S d1, lstOf S d2 with
      | some xs, some ys => some ⟨zipD xs ys, watch d1 xs ++ watch d2 ys⟩
      | _, _ => none
  | _, _ => none
theorem watch_ok {S : Store} {d : D} {xs : List D} (h : lstOf S d = some xs) : ∀ p ∈ watch d xs, S[p.1]? = some (.lst p.2) := by
  cases d <;> simp only [lstOf] at h <;> try cases h
  case lst => simp [watch]
  case fro => simp [watch]
  case loc n =>
    split at h
    · rename_i ys hs
      cases h
      intro p hp; simp [watch] at hp; subst hp; exact hs
    · cases h
theorem jok_zipL {K : PySem.W.Frag} {ρ : Rh} {H : Hp} {S : Store} {a b : Addr} {xs ys : List D} {w1 w2 : List (Nat × List D)} (s1 : Stands K xs w1 a ρ H) (s2 : Stands K ys w2 b ρ H) : JOk K ⟨zipD xs ys, w1 ++ w2⟩ (Itz K a b) ρ H where
  go := fun ρ' H' S' i d f R' ok hd => by
    obtain ⟨vs, q1, r1⟩ := s1.at_ ρ' H' S' f R' fun p hp => ok p (List.mem_append_left _ hp)
    obtain ⟨ws, q2, r2⟩ := s2.at_ ρ' H' S' f R' fun p hp => ok p (List.mem_append_right _ hp)
    obtain ⟨x, y, e1, e2, rfl⟩ := zipD_get hd
    obtain ⟨v, hv, rv⟩ := r1.get e1
    obtain ⟨w, hw, rw'⟩ := r2.get e2
    refine ⟨⟨vs, ws, v, w, q1, q2, hv, hw⟩, fun u H'' yy => ?_⟩
    obtain ⟨T, v', w', rfl, hT, rfl, y1, y2⟩ := yy
    have e3 := y1 vs q1
    have e4 := y2 ws q2
    rw [hv] at e3; cases e3
    rw [hw] at e4; cases e4
    exact ⟨Fr.laid hT, R'.laid hT, .tup (SqT.of upd_same) (RepDs.fr R'.free (Fr.laid hT) _ _ (.cons rv (.cons rw' .nil)))⟩
  stop := fun ρ' H' S' f R' ok => by
    obtain ⟨vs, q1, r1⟩ := s1.at_ ρ' H' S' f R' fun p hp => ok p (List.mem_append_left _ hp)
    obtain ⟨ws, q2, r2⟩ := s2.at_ ρ' H' S' f R' fun p hp => ok p (List.mem_append_right _ hp)
    refine ⟨vs, ws, q1, q2, ?_⟩
    have h1 := r1.length
    have h2 := r2.length
    show vs.length ≤ (zipD xs ys).length ∨ ws.length ≤ (zipD xs ys).length
    rw [zipD_length]; omega
theorem jok_zipT {K : PySem.W.Frag} {ρ : Rh} {H : Hp} {S : Store} {a b : Addr} {xs ys : List D} {vs ws : List V} (R : Rel K ρ H S) (q1 : SqT K H a vs) (r1 : RepDs K ρ H xs vs) (q2 : SqT K H b ws) (r2 : RepDs K ρ H ys ws) : JOk K ⟨zipD xs ys, []⟩ (ItzT K a b) ρ H where
  go := fun ρ' H' S' i d f R' ok hd => by
    obtain ⟨x, y, e1, e2, rfl⟩ := zipD_get hd
    obtain ⟨v, hv, rv⟩ := (RepDs.frh R.freeh f _ _ r1).get e1
    obtain ⟨w, hw, rw'⟩ := (RepDs.frh R.freeh f _ _ r2).get e2
    refine ⟨⟨vs, ws, v, w, sqt_frh R.freeh f q1, sqt_frh R.freeh f q2, hv, hw⟩, fun u H'' yy => ?_⟩
    obtain ⟨T, v', w', rfl, hT, rfl, y1, y2⟩ := yy
    have e3 := y1 vs (sqt_frh R.freeh f q1)
    have e4 := y2 ws (sqt_frh R.freeh f q2)
    rw [hv] at e3; cases e3
    rw [hw] at e4; cases e4
    exact ⟨Fr.laid hT, R'.laid hT, .tup (SqT.of upd_same) (RepDs.fr R'.free (Fr.laid hT) _ _ (.cons rv (.cons rw' .nil)))⟩
  stop := fun ρ' H' S' f R' ok => by
    refine ⟨vs, ws, sqt_frh R.freeh f q1, sqt_frh R.freeh f q2, ?_⟩
    have h1 := r1.length
    have h2 := r2.length
    show vs.length ≤ (zipD xs ys).length ∨ ws.length ≤ (zipD xs ys).length
    rw [zipD_length]; omega
theorem im_zip {elts : List Expr} {kk : Nat} {tpos : Pos} {e2 : Expr} (hg : Gl X "zip") (hm : X.mg "zip" = none) (ha : AM X W [e, e2] m)
    (hs : starEach [e, e2] X.env = (false, eval e X.env) :: starEach [e2] X.env := by rfl) (hpl : (backTo pos (starEach [e2] X.env)).any (·.1) = false := by rfl) : IM X W (.Tuple elts kk tpos) (.Call (.Name "zip" p) [e, e2] [] pos) (mSrcA srcZip m) :=
  pi_imp (pi_zipA hg hm ha hs hpl) fun σ H R' h => tA_src (fun ρ H ds vs S src R r hk q => by
    match ds, r, hk with
    | [], _, hk => cases hk
    | [_], _, hk => cases hk
    | _ :: _ :: _ :: _, _, hk => cases hk
    | [d1, d2], r, hk =>
      obtain ⟨v, w, rfl, r1, r2⟩ := reps2 r
      by_cases ht : ∃ xs ys, d1 = .tup xs ∧ d2 = .tup ys
      · obtain ⟨xs, ys, rfl, rfl⟩ := ht
        cases hk
        cases r1 with
        | tup h1 x1 =>
          cases r2 with
          | tup h2 x2 => exact ⟨_, _, _, _, rfl, .inr ⟨h1, h2, q _ (jok_zipT R h1 x1 h2 x2)⟩⟩
      · have hk : (match lstOf S d1, lstOf S d2 with
          | some xs, some ys => some (Src.mk (zipD xs ys) (watch d1 xs ++ watch d2 ys))
          | _, _ => none) = some src := by
          rw [← hk]
          cases d1 <;> cases d2 <;> first | rfl | exact absurd ⟨_, _, rfl, rfl⟩ ht
        cases h1 : lstOf S d1 with
        | none => rw [h1] at hk; cases hk
        | some xs =>
          cases h2 : lstOf S d2 with
          | none => rw [h1, h2] at hk; cases hk
          | some ys =>
            rw [h1, h2] at hk
            cases hk
            obtain ⟨a, rfl, st1⟩ := stands_of R r1 h1
            obtain ⟨b, rfl, st2⟩ := stands_of R r2 h2
            obtain ⟨vs1, q1, _⟩ := st1.at_ ρ H S .refl R (watch_ok h1)
            obtain ⟨vs2, q2, _⟩ := st2.at_ ρ H S .refl R (watch_ok h2)
            exact ⟨a, b, _, _, rfl, .inl ⟨q1, q2, q _ (jok_zipL (S := S) st1 st2)⟩⟩) h
end

/-! ### for -/
def stepF (r : Option (Fl × Env × Store)) (k : Env → Store → Option (Fl × Env × Store)) : Option (Fl × Env × Store) := match r with
  | some (.nx, e, S) => k e S
  | some (.ct, e, S) => k e S
  | some (.bk, e, S) => some (.nx, e, S)
  | r => r
open Classical in
noncomputable def forM (src : Src) (g : MG) (b : MS) : List D → MS
  | [], e, S => if src.ok S then some (.nx, e, S) else none
  | d :: ds, e, S => if src.ok S then (g d e S).bind fun e1 => stepF (b e1 S) (forM src g b ds) else none
noncomputable def sFor (mi : MI) (g : MG) (b : MS) : MS := fun e S => (mi e S).st e fun src S1 => forM src g b src.xs e S1
theorem PostS.step {K : PySem.W.Frag} {mg : Str → Option Value} {W : WX} {ρ : Rh} {H : Hp} {Dn : Ends} {k : Env → Store → Option (Fl × Env × Store)} {N : L2.St → Hp → Prop} {r : Option (Fl × Env × Store)} (q : PostS K mg W ρ H Dn (stepF r k))
    (hk : ∀ ρ' H' e S σ', Fr ρ H ρ' H' → Rel K ρ' H' S → EnvRel K ρ' H' σ' e → PostS K mg W ρ' H' Dn (k e S) → N σ' H') : PostS K mg W ρ H { Dn with nx := N, ct := N, bk := Dn.nx } r := by
  cases r with
  | none => exact q
  | some x =>
    obtain ⟨fl, e, S⟩ := x
    cases fl with
    | nx => exact fun ρ' H' σ' f R' he' => hk ρ' H' e S σ' f R' he' (PostS.fr f q)
    | ct => exact fun ρ' H' σ' f R' he' => hk ρ' H' e S σ' f R' he' (PostS.fr f q)
    | bk => exact q
    | rt d => exact q
    | ex c => exact q
section
variable {X : Cx} {W : WX} {tg iter c : Expr} {body : List Stmt} {mi : MI} {g : MG} {sl : List Nat} {sb : MS} {mt : MT} {pos : Pos}
theorem sm_for (hp : PassesOwn (model X.prog X.w) X.A X.env X.xe) (hc : X.calm = true) (hi : IM X W tg iter mi) (hg : GM X tg g sl) (hb : BM X W body sb) (hs : ∀ x, foldedSetIterable iter X.env x = pure x := by intro _; rfl) :
    SM X W (.For tg iter body [] pos) (sFor mi g sb) :=
  ps_imp (ps_for hp hc hi hg hb hs) fun Dn σ H ⟨ρ, e, S, he, R, q⟩ => ⟨ρ, e, S, he, R, (PostS.st R he q).mono fun src S1 ρ1 H1 f1 R1 q J hJ => by
    refine ⟨fun i m σ' H' => m = src.xs.length - i ∧ i ≤ src.xs.length ∧ ∃ ρ' e' S', Fr ρ1 H1 ρ' H' ∧ Rel X.K ρ' H' S' ∧ EnvRel X.K ρ' H' σ' e' ∧ PostS X.K X.mg W ρ' H' Dn (forM src g sb (src.xs.drop i) e' S'),
      ⟨_, rfl, Nat.zero_le _, ρ1, e, S1, Fr.refl _ _, R1, he.fr R.free f1, q⟩, ?_⟩
    rintro i m σ' H' ⟨rfl, hi, ρ', e', S', f, R', he', q⟩
    rcases Nat.lt_or_ge i src.xs.length with hlt | hge
    · rw [List.drop_eq_getElem_cons hlt] at q
      unfold forM at q
      by_cases hok : src.ok S'
      · rw [if_pos hok] at q
        obtain ⟨hgo, hy⟩ := hJ.go ρ' H' S' i _ (.of f) R' hok (List.getElem?_eq_getElem hlt)
        cases hgd : g src.xs[i] e' S' with
        | none => rw [hgd] at q; exact q.elim
        | some e1 =>
          rw [hgd] at q
          have q : PostS X.K X.mg W ρ' H' Dn (stepF (sb e1 S') (forM src g sb (src.xs.drop (i + 1)))) := q
          refine .inr ⟨hgo, fun σ2 H2 => i + 1 ≤ src.xs.length ∧ ∃ ρ' e' S', Fr ρ1 H1 ρ' H2 ∧ Rel X.K ρ' H2 S' ∧ EnvRel X.K ρ' H2 σ2 e' ∧ PostS X.K X.mg W ρ' H2 Dn (forM src g sb (src.xs.drop (i + 1)) e' S'),
            fun σ2 H2 n => ⟨src.xs.length - (i + 1), by omega, rfl, n⟩, fun x H'' yy => ?_⟩
          obtain ⟨f2, R2, r2⟩ := hy x H'' yy
          exact ⟨ρ', e', S', _, e1, he'.fr R'.free f2, R2, r2, hgd, fun σ2 he2 _ => ⟨ρ', e1, S', he2, R2, PostS.step (PostS.fr f2 q) fun ρ3 H3 e3 S3 σ3 f3 R3 he3 q3 =>
            ⟨hlt, ρ3, e3, S3, (f.trans f2).trans f3, R3, he3, q3⟩⟩⟩
      · rw [if_neg hok] at q; exact q.elim
    · have e0 : i = src.xs.length := by omega
      subst e0
      rw [List.drop_length] at q
      unfold forM at q
      by_cases hok : src.ok S'
      · rw [if_pos hok] at q
        exact .inl ⟨hJ.stop ρ' H' S' (.of f) R' hok, q ρ' H' σ' (Fr.refl _ _) R' he'⟩
      · rw [if_neg hok] at q; exact q.elim⟩
/-! ### while -/
def whileM (c : MT) (b : MS) : Nat → MS
  | 0, _, _ => none
  | n + 1, e, S => (c e S).st e fun t S1 => if t = true then stepF (b e S1) (whileM c b n) else some (.nx, e, S1)
def sWhile (n : Nat) (c : MT) (b : MS) : MS := whileM c b n
theorem sm_while (n : Nat) (hp : PassesOwn (model X.prog X.w) X.A X.env X.xe) (hc : TM X W c mt) (hb : BM X W body sb) : SM X W (.While c body [] pos) (sWhile n mt sb) :=
  ps_imp (ps_while hp hc hb) fun Dn σ H ⟨ρ, e, S, he, R, q⟩ => by
    refine ⟨fun m σ' H' => ∃ ρ' e' S', Rel X.K ρ' H' S' ∧ EnvRel X.K ρ' H' σ' e' ∧ PostS X.K X.mg W ρ' H' Dn (whileM mt sb m e' S'), ⟨n, ρ, e, S, R, he, q⟩, ?_⟩
    rintro m σ' H' ⟨ρ', e', S', R', he', q⟩
    cases m with
    | zero => exact q.elim
    | succ m =>
      unfold whileM at q
      refine ⟨ρ', e', S', he', R', (PostS.st R' he' q).mono fun t S1 ρ1 H1 f1 R1 q => ?_⟩
      cases t with
      | true =>
        rw [if_pos rfl] at q ⊢
        refine ⟨fun σ2 H2 => ∃ ρ' e' S', Rel X.K ρ' H2 S' ∧ EnvRel X.K ρ' H2 σ2 e' ∧ PostS X.K X.mg W ρ' H2 Dn (whileM mt sb m e' S'), fun σ2 H2 h => ⟨m, Nat.lt_succ_self _, h⟩, ρ1, e', S1, he'.fr R'.free f1, R1, PostS.step q fun ρ3 H3 e3 S3 σ3 f3 R3 he3 q3 => ⟨ρ3, e3, S3, R3, he3, q3⟩⟩
      | false =>
        rw [if_neg (by decide)] at q ⊢
        exact q ρ1 H1 σ' (Fr.refl _ _) R1 (he'.fr R'.free f1)
end
end M


set_option Elab.async false
set_option linter.all false
set_option maxRecDepth 100000
set_option maxHeartbeats 4000000
namespace M
open PySem PySem.Spec PyProof.Rows L2 RZ
variable [Tabs]

theorem Res.bind_assoc {α β γ : Type} (r : Res α) (f : α → Store → Res β) (g : β → Store → Res γ) : (r.bind f).bind g = r.bind fun a S => (f a S).bind g := by cases r <;> rfl
def noEx {α : Type} : Res α → Res α
  | .ok a S => .ok a S
  | _ => .bad
@[simp] theorem noEx_ok {α : Type} (a : α) (S : Store) : noEx (.ok a S) = .ok a S := rfl
@[simp] theorem noEx_ex {α : Type} (c : Str) (S : Store) : noEx (.ex c S : Res α) = .bad := rfl
@[simp] theorem noEx_bad {α : Type} : noEx (.bad : Res α) = .bad := rfl
/-- no exception -/
abbrev W0 : WX := fun _ _ _ _ => False
def wipeE (e : Env) : List Nat → Env
  | [] => e
  | v :: vs => (wipeE e vs).set v none
theorem wipeE_length (e : Env) : ∀ vs : List Nat, (wipeE e vs).length = e.length
  | [] => rfl
  | v :: vs => by unfold wipeE; rw [List.length_set, wipeE_length e vs]
theorem EnvRel.unset {K : PySem.W.Frag} {ρ : Rh} {H : Hp} {σ : L2.St} {e : Env} (h : EnvRel K ρ H σ e) (i : Nat) : EnvRel K ρ H (σ.set i none) (e.set i none) := by
  refine ⟨by simp [h.1], fun j d q => ?_⟩
  by_cases hj : i = j
  · subst hj
    have hi : i < e.length := by have := (List.getElem?_eq_some_iff.mp q).1; simpa using this
    rw [List.getElem?_set_self hi] at q; cases q
  · rw [List.getElem?_set_ne hj] at q
    rw [List.getElem?_set_ne hj]
    exact h.2 j d q
theorem EnvRel.wipe {K : PySem.W.Frag} {ρ : Rh} {H : Hp} {σ : L2.St} {e : Env} (h : EnvRel K ρ H σ e) : ∀ vs, EnvRel K ρ H (wipe σ vs) (wipeE e vs)
  | [] => h
  | v :: vs => (EnvRel.wipe h vs).unset v

theorem wipe_wipe {σ : L2.St} {vs : List Nat} : ∀ {us : List Nat}, (∀ i ∈ us, i ∈ vs) → wipe (wipe σ us) vs = wipe σ vs
  | [], _ => rfl
  | u :: us, h => by
    have e : wipe σ (u :: us) = (wipe σ us).set u none := rfl
    rw [e, wipe_set (h u (by simp)), wipe_wipe fun i hi => h i (List.mem_cons_of_mem _ hi)]
/-! ### what stands in a hidden list does not matter -/
section
variable {K : PySem.W.Frag} {ρ : Rh} {H : Hp} {p : Addr} {us ws : List V}
theorem sqt_ne {a : Addr} {vs : List V} {o : HO} (hp : H p = some (.lst us)) (h : SqT K H a vs) : SqT K (upd H p o) a vs := by
  rcases h with (h | ⟨q, h⟩) | h
  · exact .inl (.inl (by rw [upd_ne (fun z => by rw [z, hp] at h; cases h)]; exact h))
  · exact .inl (.inr ⟨q, by rw [upd_ne (fun z => by rw [z, hp] at h; cases h)]; exact h⟩)
  · exact .inr h
mutual
theorem RepD.putH (hp : H p = some (.lst us)) (mh : p ∈ ρ.h) : ∀ (d : D) (v : V), RepD K ρ H d v → RepD K ρ (upd H p (.lst ws)) d v
  | .non, _, h => by cases h; exact .non
  | .bl b, _, h => by cases h; exact .bl b
  | .int i, _, h => by cases h; exact .int i
  | .str x, _, h => by cases h; exact .str x
  | .tup ds, _, h => by
    cases h with
    | tup hs hd => exact .tup (sqt_ne hp hs) (RepDs.putH hp mh ds _ hd)
  | .lst ds, _, h => by
    cases h with
    | @lst a vs _ hs hn hh hd =>
      have ne : a ≠ p := fun z => hh (by rw [z]; exact mh)
      exact .lst (by rw [upd_ne ne]; exact hs) hn hh (RepDs.putH hp mh ds _ hd)
  | .fro ds, _, h => by
    cases h with
    | @fro a vs _ hs hn hh hd =>
      have ne : a ≠ p := fun z => hh (by rw [z]; exact mh)
      exact .fro (by
        rcases hs with hs | ⟨o, hs⟩
        · exact .inl (by rw [upd_ne ne]; exact hs)
        · exact .inr ⟨o, by rw [upd_ne ne]; exact hs⟩) hn hh (RepDs.putH hp mh ds _ hd)
    | frk hk hd => exact .frk hk (RepDs.putH hp mh ds _ hd)
  | .loc n, _, h => by
    cases h with
    | loc e => exact .loc e
  | .ref a, _, h => by cases h; exact .ref a
  | .ty n, _, h => by cases h; exact .ty n
  | .rng lo hi, _, h => by
    cases h with
    | @rng a _ _ hs => exact .rng (by rw [upd_ne (fun z => by rw [z, hp] at hs; cases hs)]; exact hs)
theorem RepDs.putH (hp : H p = some (.lst us)) (mh : p ∈ ρ.h) : ∀ (ds : List D) (vs : List V), RepDs K ρ H ds vs → RepDs K ρ (upd H p (.lst ws)) ds vs
  | [], _, h => by cases h; exact .nil
  | d :: ds, _, h => by
    cases h with
    | cons h1 h2 => exact .cons (RepD.putH hp mh d _ h1) (RepDs.putH hp mh ds _ h2)
end
theorem Rel.putH {S : Store} (r : Rel K ρ H S) (hp : H p = some (.lst us)) (mh : p ∈ ρ.h) (hn : p ∉ ρ.l) : Rel K ρ (upd H p (.lst ws)) S :=
  ⟨r.len, r.nd, fun n o a e1 e2 => by
    have q := r.at_ n o a e1 e2
    have ne : a ≠ p := fun z => hn (z ▸ List.mem_of_getElem? e2)
    cases o with
    | lst ds => obtain ⟨vs, h1, h2⟩ := q; exact ⟨vs, by rw [upd_ne ne]; exact h1, RepDs.putH hp mh _ _ h2⟩,
   fun a m => by
    by_cases e : a = p
    · exact ⟨ws, by rw [e, upd_same]⟩
    · obtain ⟨vs, h1⟩ := r.hid a m
      exact ⟨vs, by rw [upd_ne e]; exact h1⟩,
   fun a m => by
    exact tabN_upd (r.tab a m) fun o' e => by rw [hp] at e; exact ⟨us, (Option.some.inj e).symm⟩⟩
theorem EnvRel.putH {σ : L2.St} {e : Env} (r : EnvRel K ρ H σ e) (hp : H p = some (.lst us)) (mh : p ∈ ρ.h) : EnvRel K ρ (upd H p (.lst ws)) σ e := ⟨r.1, fun i d q => let ⟨v, a, b⟩ := r.2 i d q; ⟨v, a, RepD.putH hp mh d v b⟩⟩
end

/-! ### the mirror -/
open Classical in
noncomputable def lcM (src : Src) (g : MG) (mt : MT) (me : ME) (e : Env) : List D → Store → Res (List D)
  | [], S => if src.ok S then .ok [] S else .bad
  | d :: ds, S => if src.ok S then match g d e S with
    | some e1 => (noEx (mt e1 S)).bind fun b S2 => if b = true then (noEx (me e1 S2)).bind fun y S3 => (lcM src g mt me e ds S3).bind fun ys S4 => .ok (y :: ys) S4 else lcM src g mt me e ds S2
    | none => .bad else .bad
noncomputable def mLc (mi : MI) (g : MG) (mt : MT) (me : ME) (vs : List Nat) : MA := fun e S => (mi e S).bind fun src S1 => if src.xs.length ≤ sizeLine then lcM src g mt me (wipeE e vs) src.xs S1 else .bad
def mYes : MT := fun _ S => .ok true S
abbrev TsM (X : Cx) (ifs : List Expr) (mt : MT) : Prop := PTs X ifs (tT X.K X.mg W0 mt)
theorem ptsm_nil {X : Cx} : TsM X [] mYes := ⟨fun pins s σ H Q I ⟨ρ, e, S, he, R, q⟩ => pts_nil.run pins s σ H Q I (q ρ H (Fr.refl _ _) R)⟩
theorem ptsm_one {X : Cx} {c : Expr} {mt : MT} (h : TM X W0 c mt) : TsM X [c] mt := pts_one h
section
variable {X : Cx} {W : WX} {mi : MI} {g : MG} {sl : List Nat} {mt : MT} {me : ME} {wi : TI}
theorem noEx_post {α : Type} {K : PySem.W.Frag} {mg : Str → Option Value} {P : α → Store → Rh → Hp → Prop} {ρ : Rh} {H : Hp} {σ : L2.St} {r : Res α} (h : ∀ a S, r = .ok a S → ∀ ρ' H', Fr ρ H ρ' H' → Rel K ρ' H' S → P a S ρ' H') (nb : ∃ a S, r = .ok a S) : Post K mg W0 P ρ H σ r := by
  obtain ⟨a, S, rfl⟩ := nb
  exact h a S rfl
theorem lc_imp {vs : List Nat} (hsl : ∀ i ∈ sl, i ∈ vs) {σ : L2.St} {H : Hp} {Q : VK} (h : tN X.K X.mg W (mLc mi g mt me vs) σ H Q) :
    tLc (tI X.K X.mg W mi) (tG X.K g sl) (tT X.K X.mg W0 mt) (tE X.K X.mg W0 me) vs σ H Q := by
  obtain ⟨ρ, e, S, he, R, q⟩ := h
  refine ⟨ρ, e, S, he, R, (PostN.bind q).mono fun src S1 ρ1 H1 f1 R1 q J hJ Dl hD => ?_⟩
  by_cases hz : src.xs.length ≤ sizeLine
  case neg => rw [if_neg hz] at q; exact q.elim
  rw [if_pos hz] at q
  have he1 := he.fr R.free f1
  have hDl := R1.newh hD
  -- the invariant
  let Iv : Nat → Hp → Prop := fun i H' => i ≤ src.xs.length ∧ ∃ ρ' S' accD accV, Fr ρ1 H1 ρ' H' ∧ Rel X.K (ρ'.hide Dl) H' S' ∧ Dl ∉ ρ'.l ∧ H' Dl = some (.lst accV) ∧ RepDs X.K (ρ'.hide Dl) H' accD accV ∧ accD.length ≤ i ∧
    PostN X.K X.mg W ρ1 H1 σ Q ((lcM src g mt me (wipeE e vs) (src.xs.drop i) S').bind fun ys S3 => .ok (accD ++ ys) S3)
  refine ⟨fun i m H' => m = src.xs.length - i ∧ Iv i H', ⟨_, rfl, Nat.zero_le _, ρ1, S1, [], [], Fr.laid hD, R1.laidH hD, hDl.1, upd_same, .nil, Nat.le_refl _, ?_⟩, ?_⟩
  · have e0 : (lcM src g mt me (wipeE e vs) (src.xs.drop 0) S1).bind (fun ys S3 => .ok ([] ++ ys) S3) = lcM src g mt me (wipeE e vs) src.xs S1 := by
      rw [List.drop_zero]
      cases lcM src g mt me (wipeE e vs) src.xs S1 <;> rfl
    rw [e0]; exact q
  rintro i m H' ⟨rfl, hi, ρ', S', accD, accV, f, R', hn, hH, rx, hl, q⟩
  have fh : FrH ρ1 H1 (ρ'.hide Dl) H' := .hide f hD
  rcases Nat.lt_or_ge i src.xs.length with hlt | hge
  · rw [List.drop_eq_getElem_cons hlt] at q
    unfold lcM at q
    by_cases hok : src.ok S'
    case neg => rw [if_neg hok] at q; exact q.elim
    rw [if_pos hok] at q
    obtain ⟨hgo, hy⟩ := hJ.go _ H' S' i _ fh R' hok (List.getElem?_eq_getElem hlt)
    refine .inr ⟨hgo, Iv (i + 1), fun H2 n => ⟨src.xs.length - (i + 1), by omega, rfl, n⟩, fun x H'' yy => ?_⟩
    obtain ⟨f2, R2, r2⟩ := hy x H'' yy
    cases hgd : g src.xs[i] (wipeE e vs) S' with
    | none => rw [hgd] at q; exact q.elim
    | some e1 =>
      rw [hgd] at q
      dsimp only at q
      have he2 : EnvRel X.K (ρ'.hide Dl) H'' (wipe σ vs) (wipeE e vs) := ((he1.frh R1.freeh fh).fr R'.free f2).wipe vs
      refine ⟨_, _, S', _, e1, he2, R2, r2, hgd, fun σ2 hσ2 hw => ⟨(hw vs hsl).trans (wipe_wipe fun _ h => h), ?_⟩⟩
      have hH2 : H'' Dl = some (.lst accV) := f2.keep _ _ hH hn fun _ z => by cases z
      have rx2 := RepDs.fr R'.free f2 _ _ rx
      -- a frame from ρ'.hide to one more
      have fr_of : ∀ {ρ3 H3}, Fr (ρ'.hide Dl) H'' ρ3 H3 → ∃ ρ4, ρ3 = ρ4.hide Dl ∧ Fr ρ1 H1 ρ4 H3 ∧ Dl ∉ ρ4.l ∧ H3 Dl = some (.lst accV) := fun {ρ3 H3} f3 => by
        obtain ⟨l, e3, hl3⟩ := f3.new
        refine ⟨⟨ρ'.l ++ l, ρ'.h⟩, e3, ?_, ?_, f3.keep _ _ hH2 hn fun _ z => by cases z⟩
        · refine f.trans ⟨⟨l, rfl, fun a m => ?_⟩, fun a o h n nt => f3.keep a o (f2.keep a o h n nt) n nt, fun a o h => let ⟨o', z⟩ := f2.live a o h; f3.live a o' z⟩
          cases z : H' a with
          | none => rfl
          | some o => obtain ⟨o', z'⟩ := f2.live a o z; rw [hl3 a m] at z'; cases z'
        · intro m
          rcases List.mem_append.mp m with m | m
          · exact hn m
          · rw [hl3 _ m] at hH2; cases hH2
      cases hm : mt e1 S' with
      | bad => rw [hm] at q; exact q.elim
      | ex c S2 => rw [hm] at q; exact q.elim
      | ok b S2 =>
        rw [hm] at q
        simp only [noEx_ok, Res.bind_ok] at q
        refine ⟨_, e1, S', hσ2, R2, ?_⟩
        rw [hm]
        intro ρ3 H3 f3 R3
        obtain ⟨ρ4, rfl, f4, hn4, hH4⟩ := fr_of f3
        have rx3 := RepDs.fr R2.free f3 _ _ rx2
        cases b with
        | false =>
          rw [if_neg (by decide)] at q ⊢
          exact ⟨hlt, ρ4, S2, accD, accV, f4, R3, hn4, hH4, rx3, Nat.le_succ_of_le hl, q⟩
        | true =>
          rw [if_pos rfl] at q ⊢
          cases hm2 : me e1 S2 with
          | bad => rw [hm2] at q; exact q.elim
          | ex c S3 => rw [hm2] at q; exact q.elim
          | ok y S3 =>
            rw [hm2] at q
            simp only [noEx_ok, Res.bind_ok] at q
            refine ⟨_, e1, S2, hσ2.fr R2.free f3, R3, ?_⟩
            rw [hm2]
            intro ρ5 H5 f5 R5 v r5
            obtain ⟨ρ6, rfl, f6, hn6, hH6⟩ := fr_of (f3.trans f5)
            have rx5 := RepDs.fr R3.free f5 _ _ rx3
            have hzV : accV.length < sizeLine := by rw [← rx5.length]; omega
            refine ⟨accV, hH6, hzV, hlt, ρ6, S3, accD ++ [y], accV ++ [v], ?_, R5.putH hH6 List.mem_cons_self hn6, hn6, upd_same, RepDs.putH hH6 List.mem_cons_self _ _ (rx5.append (.cons r5 .nil)), by simp; omega, ?_⟩
            · obtain ⟨l, e6, hl6⟩ := f6.new
              refine ⟨⟨l, e6, hl6⟩, fun a o h n nt => ?_, fun a o h => ?_⟩
              · have ne : a ≠ Dl := fun z => by rw [z, hD] at h; cases h
                rw [upd_ne ne]; exact f6.keep a o h n nt
              · have ne : a ≠ Dl := fun z => by rw [z, hD] at h; cases h
                rw [upd_ne ne]; exact f6.live a o h
            · rw [Res.bind_assoc] at q
              simp only [Res.bind_ok] at q
              have e7 : (fun (ys : List D) (S3 : Store) => (Res.ok (accD ++ [y] ++ ys) S3 : Res (List D))) = fun ys S3 => .ok (accD ++ y :: ys) S3 := by
                funext ys S3; simp
              rw [e7]; exact q
  · have e0 : i = src.xs.length := by omega
    subst e0
    rw [List.drop_length] at q
    unfold lcM at q
    by_cases hok : src.ok S'
    case neg => rw [if_neg hok] at q; exact q.elim
    rw [if_pos hok] at q
    simp only [Res.bind_ok, List.append_nil] at q
    exact .inl ⟨hJ.stop _ H' S' fh R' hok, q ρ' H' Dl accV f R' hD hn hH rx⟩
variable {elt tg iter : Expr} {ifs : List Expr} {scope : Scope} {own : List (Str × Nat)} {pos spos py : Pos} {i : Nat} {y : Str}
theorem nm_lc (own : List (Str × Nat)) (hc : X.calm = true) (hN : X.N.Nodup) (hi : IM X W tg iter mi) (ok : BlkOk X.N X.env.scope scope own) (hsl : ∀ i ∈ sl, i ∈ own.map (·.2))
    (hg : ∀ (s : Shared) (H : Hp) (C : Addr) (cl : List (Str × Addr)) (fp : List Addr), GM (X.blk s H scope (compEnvC scope cl C X.env) fp) tg g sl) (ht : ∀ (s : Shared) (H : Hp) (C : Addr) (cl : List (Str × Addr)) (fp : List Addr), TsM (X.blk s H scope (compEnvC scope cl C X.env) fp) ifs mt)
    (he : ∀ (s : Shared) (H : Hp) (C : Addr) (cl : List (Str × Addr)) (fp : List Addr), EM (X.blk s H scope (compEnvC scope cl C X.env) fp) W0 elt me) (hs : ∀ x, foldedSetIterable iter X.env x = pure x := by intro _; rfl) :
    NM X W (.ListComp elt [⟨tg, iter, ifs, 0⟩] scope pos) (mLc mi g mt me (own.map (·.2))) :=
  pe_imp (pe_lc hc hN hi ok hg ht he hs) fun σ H Q h => lc_imp hsl h
theorem tN_set {ma : MA} {Dn : Ends} {σ : L2.St} {H : Hp} (f : MA → ME) (hf : f = asV ∨ f = asL)
    (h : tS X.K X.mg W (sSet (gN i) (f ma)) Dn σ H) : tN X.K X.mg W ma σ H fun v H1 => gName i v σ H1 Dn.nx := by
  have key : tE X.K X.mg W (f ma) σ H fun v H1 => gName i v σ H1 Dn.nx :=
    tE_st (k := fun d e S1 => (gN i d e S1).bind fun e1 => some (.nx, e1, S1)) (fun ρ H d v e S he R r q => q ρ H _ (Fr.refl _ _) R (he.set i r)) h
  obtain ⟨ρ, e, S, he, R, q⟩ := key
  refine ⟨ρ, e, S, he, R, ?_⟩
  rcases hf with rfl | rfl
  · unfold asV at q
    cases hk : ma e S with
    | bad => rw [hk] at q; exact q
    | ex c S1 => rw [hk] at q; exact q
    | ok ds S1 =>
      rw [hk] at q
      exact fun ρ' H' p vs f R' hp hn e1 r => q ρ' H' f R'.unhide _ (.lst e1 hn (fun m => by
        obtain ⟨ws, z⟩ := R.hid p (by rw [← f.hid]; exact m)
        rw [hp] at z; cases z) (RepDs.sees Sees.unhide _ _ r))
  · unfold asL at q
    cases hk : ma e S with
    | bad => rw [hk] at q; exact q
    | ex c S1 => rw [hk] at q; exact q
    | ok ds S1 =>
      rw [hk] at q
      exact fun ρ' H' p vs f R' hp hn e1 r => q _ H' (f.shown hp) (R'.shown hn e1 r) _ (.loc (by
        show (ρ'.l ++ [p])[S1.length]? = some p
        have : ρ'.l.length = S1.length := R'.len
        rw [List.getElem?_append_right (by omega), this]; simp))
/-- y = [..] -/
theorem sm_setLc (f : MA → ME) (hf : f = asV ∨ f = asL) (own : List (Str × Nat)) (hc : X.calm = true) (hN : X.N.Nodup) (hy : X.N[i]? = some y) (hyl : X.env.scope.names.lookup y = some .local)
    (hsw : swapsWith (.ListComp elt [⟨tg, iter, ifs, 0⟩] scope pos) (some (.Name y py)) spos.line X.env = pure true) (hi : IM X W tg iter mi) (ok : BlkOk X.N X.env.scope scope own) (hsl : ∀ i ∈ sl, i ∈ own.map (·.2))
    (hg : ∀ (s : Shared) (H : Hp) (C : Addr) (cl : List (Str × Addr)) (fp : List Addr), GM (X.blk s H scope (compEnvC scope cl C X.env) fp) tg g sl) (ht : ∀ (s : Shared) (H : Hp) (C : Addr) (cl : List (Str × Addr)) (fp : List Addr), TsM (X.blk s H scope (compEnvC scope cl C X.env) fp) ifs mt)
    (he : ∀ (s : Shared) (H : Hp) (C : Addr) (cl : List (Str × Addr)) (fp : List Addr), EM (X.blk s H scope (compEnvC scope cl C X.env) fp) W0 elt me) (hs : ∀ x, foldedSetIterable iter X.env x = pure x := by intro _; rfl) :
    SM X W (.Assign [.Name y py] (.ListComp elt [⟨tg, iter, ifs, 0⟩] scope pos) spos) (sSet (gN i) (f (mLc mi g mt me (own.map (·.2))))) :=
  ps_imp (ps_setLc hc hN hy hyl hsw hi ok hg ht he hs) fun Dn σ H h => lc_imp hsl (tN_set f hf h)
end
end M


set_option Elab.async false
set_option linter.all false
set_option maxRecDepth 100000
set_option maxHeartbeats 4000000
namespace M
open PySem PySem.Spec PyProof.Rows L2 GenW
variable [Tabs]

/-- the context of a generator expression's frame -/
abbrev genCx (X : Cx) (s : Shared) (H : Hp) (cenv : PySem.Env) (fp : List Addr) (p : Addr × Obj) : Cx :=
  { X with A := X.A.in1.in1.deeper cenv, s_0 := s, H_0 := H, env := cenv, outer := X.stack, stack := cenv :: X.stack, ex := fp, fn := fun _ => false, pn := [p], xe := fun _ _ => False }
theorem over_gen {A : Around} {elt : Expr} {gs : List Comprehension} {scope : Scope} {pos : Pos} {it acc : Value} {env : PySem.Env} : A.over (.compLoop (.GeneratorExp elt gs scope pos) 0 it acc env) [] = A.deeper env := by
  first
    | rfl
    | (obtain ⟨hd, d, fr, gs, u⟩ := A; simp [Around.over, Around.deeper, marksOver, frameCount, unitsOf, envsOf, guardsOf, pushEnvs, pushGuards, Code.envs, Code.env?, Code.isFrame, Code.guards, Code.isGuard, Code.weight, Code.frames, Code.isCreation, Code.isCaller, Code.cUnits])
section
variable {X : Cx} {pins : List (Addr × Obj)} {σ : L2.St} {H : Hp} {s : Shared}
theorem gen_start {scope : Scope} {own : List (Str × Nat)} {fp : List Addr} (I : Inv X pins σ H s) (ok : BlkOk X.N X.env.scope scope own) (hN : X.N.Nodup) (hfp : ∀ b ∈ fp, FpOk X pins H b ∧ b < s.heap.objs.size)
    (hcell : ∀ y ∈ scope.names, y.2 ≠ .cell) (hh : X.A.handled = none) {h' : Heap} {it code : Value}
    (hn' : h'.Ns s.heap.objs.size (fun y => if y = ".0" then some it else none)) (hs' : Heap.SameBut s.heap.objs.size (s.heap.push { cls := .type "frame", data := .dict #[] }) h')
    (go : Obj) (hgd : ∀ v, go.data ≠ .cell v) (hgf : (h'.push go).get? h'.objs.size = some go) (gs : GenState) (hgb : gs.bare = true) (tk : Nat) :
    Inv (genCx X s H (genEnv scope (cloFrom X.env.cells scope.names []) s.heap.objs.size code builtinsNs X.env) fp (h'.objs.size, go)) [] (wipe σ (own.map (·.2))) H { s with gens := s.gens.push gs, toks := tk, heap := h'.push go } := by
  have hsz : h'.objs.size = s.heap.objs.size + 1 := by rw [hs'.1, Heap.size_push]
  have kp : ∀ b o, s.heap.get? b = some o → (h'.push go).get? b = some o := fun b o e => Heap.get?_push_of_some _ (hs'.extBut b o (Nat.ne_of_lt (Heap.lt_size e)) (Heap.get?_push_of_some _ e))
  have hfree : ∀ y ∈ scope.names, y.2 = .free → ∃ c, X.env.cells.lookup y.1 = some c := fun y hy e => by
    rcases ok.free y hy e with k | k
    · exact I.ok.has _ (.inl k)
    · exact I.ok.has _ (.inr k)
  generalize hcenv : genEnv scope (cloFrom X.env.cells scope.names []) s.heap.objs.size code builtinsNs X.env = cenv
  have hL : cenv.locals = s.heap.objs.size := by rw [← hcenv]; rfl
  have hfr : cenv.frame = some s.heap.objs.size := by rw [← hcenv]; rfl
  have hcl : cenv.cells = cloFrom X.env.cells scope.names [] := by rw [← hcenv]; rfl
  have hsc : cenv.scope = scope := by rw [← hcenv]; rfl
  have cm : ∀ {y c}, (y, c) ∈ cloFrom X.env.cells scope.names [] → X.env.cells.lookup y = some c ∧ c < s.heap.objs.size := fun {y c} hm => by
    rcases cloFrom_mem hm with hm | ⟨h1, rfl⟩
    · cases hm
    · obtain ⟨c, hc⟩ := hfree _ h1 rfl
      rw [hc]
      obtain ⟨w, z⟩ := I.cell _ _ hc
      exact ⟨rfl, z.lt⟩
  have mem : ∀ {y c}, cenv.cells.lookup y = some c → X.env.cells.lookup y = some c ∧ c < s.heap.objs.size := fun {y c} e => by
    rw [hcl] at e
    exact cm (PySem.mem_of_lookup e)
  have look : ∀ {y}, scope.names.lookup y = some .free → ∃ c, cenv.cells.lookup y = some c ∧ X.env.cells.lookup y = some c := fun {y} hl => by
    have hy : (y, NameKind.free) ∈ scope.names := PySem.mem_of_lookup hl
    obtain ⟨c', e'⟩ := mem_lookup (cloFrom_has (cells := X.env.cells) (acc := []) hy)
    rw [← hcl] at e'
    exact ⟨c', e', (mem e').1⟩
  have young : ∀ b, s.heap.objs.size ≤ b → H b = none ∧ b ∉ frs X.stack := fun b hb => ⟨I.hok.fresh hb, fun m => by
    rcases List.mem_cons.mp (I.stkSub b m) with z | z
    · have := I.lt; rw [z] at hb; exact absurd (Nat.lt_of_lt_of_le this hb) (Nat.lt_irrefl _)
    · exact I.nofs hb z⟩
  have hlt : s.heap.objs.size < h'.objs.size := by rw [hsz]; exact Nat.lt_succ_self _
  have okG : (genCx X s H cenv fp (h'.objs.size, go)).Ok := by
    refine ⟨I.ok.mod, by show cenv.scope.kind = _; rw [hsc]; exact ok.kind, by show cenv.globals = _; rw [← hcenv]; exact I.ok.glob, by show cenv.builtins = _; rw [← hcenv]; rfl, by show s.heap.objs.size ≤ cenv.locals; rw [hL]; exact Nat.le_refl _,
      fun y z c e1 e2 => I.ok.inj y z c (mem e1).1 (mem e2).1, fun y hy => ?_, fun y c z e => ?_, fun _ => hh, ?_, .inr ⟨rfl, by show cenv.frame = some cenv.locals; rw [hfr, hL]⟩,
      fun b hb => ⟨by show b ≠ cenv.locals; rw [hL]; exact Nat.ne_of_lt (hfp b hb).2, fun y c e => (hfp b hb).1.2.2.2.2.1 y c (mem e).1⟩, I.bs, Nat.le_trans I.ok.bsz I.sz, fun b o e hb => ?_, fun b hb z => ?_, I.stack, I.stkFree⟩
    · show ∃ c, cenv.cells.lookup y = some c
      have hk : scope.names.lookup y = some .cell ∨ scope.names.lookup y = some .free := by rw [← hsc]; exact hy
      rcases hk with k | k
      · exact absurd rfl (hcell _ (PySem.mem_of_lookup k))
      · obtain ⟨c, h1, _⟩ := look k; exact ⟨c, h1⟩
    · cases z
    · show (X.A.in1.in1.deeper cenv).frames = some (cenv :: X.stack)
      exact Around.frames_deeper I.ok.frames
    · rcases (hfp b hb).1.2.2.2.1 with z | z
      · exact I.ok.noex b o e z
      · exact absurd (Nat.lt_of_lt_of_le (Heap.lt_size e) (Nat.le_trans I.ok.bsz z)) (Nat.lt_irrefl _)
    · rcases List.mem_cons.mp (I.stkSub b z) with z | z
      · exact (hfp b hb).1.2.1 z
      · exact (hfp b hb).1.2.2.1 z
  refine ⟨okG, rfl, AllBare.push I.bare hgb, Un.kept kp, ⟨fun y => if y = ".0" then some it else none, ?_, fun i y av e1 e2 e3 => ?_⟩, fun y c e => ?_, ?_, fun y c e => ?_, fun p hp => ?_, I.hok.kept kp, by rw [wipe_length]; exact I.len⟩
  · show Heap.Ns _ cenv.locals _
    rw [hL]; exact hn'.push _
  · obtain ⟨e2, hne⟩ := wipe_some e2
    have e3 : scope.names.lookup y = some .local ∨ scope.names.lookup y = some .cell ∨ scope.names.lookup y = some .free := by rw [← hsc]; exact e3
    have no : ∀ k, scope.names.lookup y = some k → ¬ (k = .local ∨ k = .cell) := fun k e hh => by
      rcases ok.own _ (PySem.mem_of_lookup e) hh with e' | e'
      · obtain ⟨p, hp, hpy⟩ := List.mem_map.mp e'
        have e3 := ok.ix p hp
        have : p.1 = y := hpy
        rw [this] at e3
        exact hne (List.mem_map.mpr ⟨p, hp, nodup_ix hN e3 e1⟩)
      · exact e' (List.mem_of_getElem? e1)
    have hf : scope.names.lookup y = some .free := by
      rcases e3 with k | k | k
      · exact absurd (.inl rfl) (no _ k)
      · exact absurd (.inr rfl) (no _ k)
      · exact k
    obtain ⟨m, hn, hl⟩ := I.loc
    have hvis : Vis X.env.scope y := (ok.free _ (PySem.mem_of_lookup hf) rfl).elim (fun k => .inr (.inl k)) (fun k => .inr (.inr k))
    obtain ⟨w, r, q⟩ := hl i y av e1 e2 hvis
    refine ⟨w, r, .inr ⟨.inr (by show cenv.scope.names.lookup y = _; rw [hsc]; exact hf), ?_⟩⟩
    obtain ⟨c, h1, h2⟩ := look hf
    rcases q with ⟨k, _⟩ | ⟨_, c', e', z⟩
    · have k : X.env.scope.names.lookup y = some .local := k
      rcases ok.free _ (PySem.mem_of_lookup hf) rfl with k' | k' <;> rw [show X.env.scope.names.lookup y = _ from k'] at k <;> cases k
    · rw [h2] at e'; cases e'
      exact ⟨c, h1, z.keeps kp⟩
  · obtain ⟨w, z⟩ := I.cell y c (mem e).1
    exact ⟨w, z.keeps kp⟩
  · show H cenv.locals = none
    rw [hL]; exact (young _ (Nat.le_refl _)).1
  · exact I.freeC y c (mem e).1
  · have hp : p = (h'.objs.size, go) := by simpa using hp
    subst hp
    exact ⟨hgf, (young _ (Nat.le_of_lt hlt)).1, by show h'.objs.size ≠ cenv.locals; rw [hL]; exact Nat.ne_of_gt hlt, (young _ (Nat.le_of_lt hlt)).2, hgd⟩
end

/-! ### the generator's turns -/
section
variable {X : Cx}
/-- what stays true between the turns -/
def genW (J : It) (g : TG) (te : TE) (stp : Bool) (Q : VK) (σw : L2.St) (vs : List Nat) (W : Nat → Nat → Hp → Prop) : Prop := ∀ i m H, W i m H → (J.stop i H ∧ Q (.bl (!stp)) H) ∨
  (J.go i H ∧ ∀ x H', J.yld i H x H' → g x σw H' fun σ2 H2 => wipe σ2 vs = σw ∧ te σ2 H2 fun y H4 => ∃ b, y = .bl b ∧ if b = stp then Q (.bl stp) H4 else ∃ m', m' < m ∧ W (i + 1) m' H4)
def genR (Xg : Cx) (σw : L2.St) (stp : Bool) (Q : VK) : GenEnd := fun n s₀ r s => r = .ok .next ∧ ∃ H, Inv Xg [] σw H s ∧ Q (.bl (!stp)) H
def genY (Xg : Cx) (σw : L2.St) (stp : Bool) (Q : VK) : Protocol := fun n s₀ v s kap => ∃ b H, v = .bool b ∧ Inv Xg [] σw H s ∧ if b = stp then Q (.bl stp) H else ∀ s', s'.heap = s.heap → s'.os = s.os → AllBare s'.gens → kap (.send .none) s'
theorem inv_same {pins : List (Addr × Obj)} {σ : L2.St} {H : Hp} {s s' : Shared} (I : Inv X pins σ H s) (e : s'.heap = s.heap) (o : s'.os = s.os) (b : AllBare s'.gens) : Inv X pins σ H s' :=
  I.call' (ch := []) o (Un.kept fun c ob q => by rw [e]; exact q) (I.hok.kept fun c ob q => by rw [e]; exact q) b fun b hb => by simp at hb
theorem seg_gen {s0 : Shared} {H0 : Hp} {cenv : PySem.Env} {fp : List Addr} {p : Addr × Obj} {elt tg iter : Expr} {scope : Scope} {pos : Pos} {it : Addr} {J : It} {tn : Nat → Heap → Prop} {g : TG} {te : TE} {stp : Bool} {Q : VK} {σ : L2.St} {vs : List Nat} {W : Nat → Nat → Hp → Prop}
    (hc : X.calm = true) (T : Turn X.prog X.w X.K tg J fp it tn) (hg : PG (genCx X s0 H0 cenv fp p) tg g) (he : PE (genCx X s0 H0 cenv fp p) elt te) (hco : cenv.scope.isCoroutine = false) (hfp : ∀ b ∈ fp, b ≠ p.1) (hW : genW J g te stp Q (wipe σ vs) vs W) :
    ∀ (m n i : Nat) (s₀ s : Shared) (H : Hp), m < n → W i m H → Inv (genCx X s0 H0 cenv fp p) [] (wipe σ vs) H s → tn i s.heap → (∀ b ∈ fp, H b = none) →
      Seg (model X.prog X.w) X.A.in1.in1 (genR (genCx X s0 H0 cenv fp p) (wipe σ vs) stp Q) (genY (genCx X s0 H0 cenv fp p) (wipe σ vs) stp Q) n s₀
        (.compLoop (.GeneratorExp elt [⟨tg, iter, [], 0⟩] scope pos) 0 (.ref it) .none cenv) ((model X.prog X.w).den (.compLoop (.GeneratorExp elt [⟨tg, iter, [], 0⟩] scope pos) 0 (.ref it) .none cenv)) [] s := by
  have stat : ∀ {σ' : L2.St} {H' : Hp} {s' : Shared}, Inv (genCx X s0 H0 cenv fp p) [] σ' H' s' → (∀ b ∈ fp, H' b = none) → (∀ b ∈ fp, b ≠ p.1) → ∀ b ∈ fp, FpOk (genCx X s0 H0 cenv fp p) [] H' b := fun {σ' H' s'} I' hn hp b hb =>
    ⟨hn b hb, (I'.ok.exf b hb).1, I'.ok.exfs b hb, .inl hb, fun x c e => (I'.ok.exf b hb).2 x c e, fun q hq => by
      have : q = p := by simpa using hq
      rw [this]; exact (hp b hb).symm⟩
  intro m
  induction m using Nat.strongRecOn with
  | ind m ih =>
  intro n i s₀ s H hmn w I st fr
  show Seg _ X.A.in1.in1 _ _ _ s₀ _ ((compTurn (.GeneratorExp elt [⟨tg, iter, [], 0⟩] scope pos) 0 (.ref it) .none cenv).onRaise (leaving cenv)) [] s
  rw [compTurn_gen, Sem.onRaise_eq_wrap]
  refine seg_bind_wrap (wpAny_standAt ?_)
  rcases hW i m H w with ⟨stop, q⟩ | ⟨go, step⟩
  · refine seg_bind_wrap ?_
    rw [over_gen]
    refine thnF (T.done (genCx X s0 H0 cenv fp p) rfl rfl rfl hc i [] s _ H (fun _ _ => False) I (stat I fr hfp) st stop) fun r s1 ⟨hr, I1⟩ => ?_
    subst hr
    exact seg_end (.ok .next) ⟨rfl, H, I1, q⟩
  · obtain ⟨n, rfl⟩ : ∃ n', n = n' + 1 := ⟨n - 1, by omega⟩
    refine seg_bind_wrap ?_
    rw [over_gen]
    refine thnF (T.item (genCx X s0 H0 cenv fp p) rfl rfl rfl hc i [] s _ H (fun _ _ => False) I (stat I fr hfp) st go) fun r s1 ⟨u, hr, h1⟩ => ?_
    subst hr
    refine seg_bind_wrap ?_
    rw [over_gen]
    refine thnF h1 fun _ s2 ⟨x, H2, I2, r2, y2, st2, fr2⟩ => ?_
    have I2' := I2.pinned (stat I2 fr2 hfp) (T.obj _ _ st2)
    refine seg_bind_wrap ?_
    rw [over_gen]
    refine thnF (hg.run _ s2 _ H2 x u _ I2' r2 (step x H2 y2)) fun _ s3 ⟨σ3, H3, I3, hw3, q3⟩ => ?_
    refine seg_bind_wrap (wpAny_tests_nil ?_)
    simp only [if_true]
    have hy : ∀ v, yieldOut cenv v = yieldValue v := fun v => by simp only [yieldOut, hco, Bool.false_eq_true, if_false]
    simp only [hy]
    rw [Sem.bind_eq_wrap', Sem.bind_eq_wrap', Sem.wrap_wrap, Sem.wrap_wrap]
    refine seg_wrap ?_
    rw [over_gen]
    refine thnF (he.run _ s3 σ3 H3 _ I3 q3) fun v s4 ⟨yv, H4, I4, r4, b, hb, q4⟩ => ?_
    subst hb
    obtain rfl : v = .bool b := r4
    have pin' : ∀ a ∈ fp, ∀ o, s2.heap.get? a = some o → s4.heap.get? a = some o ∧ H4 a = none := fun a ha o e =>
      let z := I4.pin (a, o) (List.mem_append_right _ (List.mem_append_right _ (mem_pinsAt ha e)))
      ⟨z.1, z.2.1⟩
    have hl : (wipe σ vs).length = σ3.length := by rw [← hw3, wipe_length]
    have I5 : Inv (genCx X s0 H0 cenv fp p) [] (wipe σ vs) H4 s4 := (I4.unpinned (pins := [])).weak hl fun j v e => by
      rw [← hw3] at e
      exact (wipe_some e).1
    refine seg_at (seg_yield rfl rfl rfl ⟨b, H4, rfl, I5, ?_⟩)
    by_cases hbs : b = stp
    · rw [if_pos hbs] at q4 ⊢
      exact q4
    · rw [if_neg hbs] at q4 ⊢
      obtain ⟨m', hm, w'⟩ := q4
      intro s' e1 e2 e3
      refine seg_again rfl (ih m' hm n (i + 1) s' s' H4 (by omega) w' (inv_same I5 e1 e2 e3) ?_ fun a ha => ?_)
      · rw [e1]; exact T.keep _ _ _ st2 fun a ha o e => (pin' a ha o e).1
      · obtain ⟨o, e, _⟩ := T.obj _ _ st2 a ha
        exact (pin' a ha o e).2
/-! ### all, any: who asks -/
def GSt (Xg : Cx) (A : Around) (σw : L2.St) (stp : Bool) (Q : VK) (g : Nat) (n : Nat) (s : Shared) : Prop :=
  (∃ H, Inv Xg [] σw H s) ∧ ∃ gs, s.gens[g]? = some gs ∧ gs.Goes (model Xg.prog Xg.w) A (genR Xg σw stp Q) (genY Xg σw stp Q) n (.send .none) (s.setGen g .running)
theorem all_go {Xg : Cx} {A : Around} {σw : L2.St} {Q : VK} {a : Addr} {g : Nat} {R' : Result → Shared → Prop} (hh : A.handled = none) (hd : A.depth < recursionLimit) (hga : ∀ s H, Inv Xg [] σw H s → s.heap.IsGen a g)
    (fin : ∀ b s' H, Inv Xg [] σw H s' → Q (.bl b) H → R' (.ok (.ret (.bool b))) s') : ∀ (n : Nat) (s : Shared), GSt Xg A.in1.in1 σw false Q g n s → codeAny (model Xg.prog Xg.w) A (.builtin "all.loop" ⟨[.ref a], []⟩) R' s := by
  intro n
  induction n with
  | zero =>
    intro s ⟨⟨H, I⟩, gs, hgs, hgo⟩
    refine codeAny_builtin F.entry_all_loop ?_
    rw [Around.under_plainId F.plain_all_loop _]
    show wpAny _ A.in1 (pyNext (.ref a) >>= _) _ _ s
    refine wpAny_bind (wpAny_pyNext_genexpQ (A := A.in1) hh I.nolimit hd (hga s H I) hgs hgo (fun v s₁ gs' hb hv => ?_) fun s₁ hp h' hk => ?_)
    · obtain ⟨b, H1, rfl, I1, q⟩ := hv
      refine wpAny_bind (wpAny_holding (wpAny_truthy_bool ?_))
      refine wpAny_bind (wpAny_letGo ?_)
      cases b with
      | true =>
        rw [if_neg (by decide)] at q
        exact (q s₁ rfl rfl I1.bare).elim
      | false =>
        simp only [Bool.false_eq_true, if_false]
        refine wpAny_bind (wpAny_rule (wpAny_pure ?_))
        rw [if_pos rfl] at q
        exact fin false _ H1 (inv_same I1 rfl rfl (allBare_setGen I1.bare hb)) q
    · obtain ⟨H1, I1, q⟩ := hp
      refine wpAny_bind (wpAny_rule (wpAny_pure ?_))
      exact fin true _ H1 (I1.call' (ch := []) rfl (Un.kept hk) (I1.hok.kept hk) (allBare_setGen I1.bare rfl) fun b hb => by simp at hb) q
  | succ n ih =>
    intro s ⟨⟨H, I⟩, gs, hgs, hgo⟩
    have hgl : g < s.gens.size := (Array.getElem?_eq_some_iff.mp hgs).1
    refine codeAny_builtin F.entry_all_loop ?_
    rw [Around.under_plainId F.plain_all_loop _]
    show wpAny _ A.in1 (pyNext (.ref a) >>= _) _ _ s
    refine wpAny_bind (wpAny_gsz (n := g + 1) hgl (wpAny_pyNext_genexpQ (A := A.in1) hh I.nolimit hd (hga s H I) hgs hgo (fun v s₁ gs' hb hv => ?_) fun s₁ hp h' hk => ?_))
    · intro hsz
      obtain ⟨b, H1, rfl, I1, q⟩ := hv
      refine wpAny_bind (wpAny_holding (wpAny_truthy_bool ?_))
      refine wpAny_bind (wpAny_letGo ?_)
      have hgl : g < s₁.gens.size := by
        have q : (s₁.setGen g gs').gens.size = s₁.gens.size := setGen_size _ _ _
        have hsz' : g + 1 ≤ (s₁.setGen g gs').gens.size := hsz
        omega
      cases b with
      | true =>
        rw [if_neg (by decide)] at q
        simp only [if_true]
        refine wpAny_pure ⟨plainId_quiet F.plain_all_loop _, ih _ ⟨⟨H1, inv_same I1 rfl rfl (allBare_setGen I1.bare hb)⟩, gs', setGen_at hgl, ?_⟩⟩
        exact q _ rfl rfl (allBare_setGen (allBare_setGen I1.bare hb) rfl)
      | false =>
        simp only [Bool.false_eq_true, if_false]
        refine wpAny_bind (wpAny_rule (wpAny_pure ?_))
        rw [if_pos rfl] at q
        exact fin false _ H1 (inv_same I1 rfl rfl (allBare_setGen I1.bare hb)) q
    · intro hsz
      obtain ⟨H1, I1, q⟩ := hp
      refine wpAny_bind (wpAny_rule (wpAny_pure ?_))
      exact fin true _ H1 (I1.call' (ch := []) rfl (Un.kept hk) (I1.hok.kept hk) (allBare_setGen I1.bare rfl) fun b hb => by simp at hb) q
theorem any_go {Xg : Cx} {A : Around} {σw : L2.St} {Q : VK} {a : Addr} {g : Nat} {R' : Result → Shared → Prop} (hh : A.handled = none) (hd : A.depth < recursionLimit) (hga : ∀ s H, Inv Xg [] σw H s → s.heap.IsGen a g)
    (fin : ∀ b s' H, Inv Xg [] σw H s' → Q (.bl b) H → R' (.ok (.ret (.bool b))) s') : ∀ (n : Nat) (s : Shared), GSt Xg A.in1.in1 σw true Q g n s → codeAny (model Xg.prog Xg.w) A (.builtin "any.loop" ⟨[.ref a], []⟩) R' s := by
  intro n
  induction n with
  | zero =>
    intro s ⟨⟨H, I⟩, gs, hgs, hgo⟩
    refine codeAny_builtin F.entry_any_loop ?_
    rw [Around.under_plainId F.plain_any_loop _]
    show wpAny _ A.in1 (pyNext (.ref a) >>= _) _ _ s
    refine wpAny_bind (wpAny_pyNext_genexpQ (A := A.in1) hh I.nolimit hd (hga s H I) hgs hgo (fun v s₁ gs' hb hv => ?_) fun s₁ hp h' hk => ?_)
    · obtain ⟨b, H1, rfl, I1, q⟩ := hv
      refine wpAny_bind (wpAny_holding (wpAny_truthy_bool ?_))
      refine wpAny_bind (wpAny_letGo ?_)
      cases b with
      | false =>
        rw [if_neg (by decide)] at q
        exact (q s₁ rfl rfl I1.bare).elim
      | true =>
        simp only [if_true]
        refine wpAny_bind (wpAny_rule (wpAny_pure ?_))
        rw [if_pos rfl] at q
        exact fin true _ H1 (inv_same I1 rfl rfl (allBare_setGen I1.bare hb)) q
    · obtain ⟨H1, I1, q⟩ := hp
      refine wpAny_bind (wpAny_rule (wpAny_pure ?_))
      exact fin false _ H1 (I1.call' (ch := []) rfl (Un.kept hk) (I1.hok.kept hk) (allBare_setGen I1.bare rfl) fun b hb => by simp at hb) q
  | succ n ih =>
    intro s ⟨⟨H, I⟩, gs, hgs, hgo⟩
    have hgl : g < s.gens.size := (Array.getElem?_eq_some_iff.mp hgs).1
    refine codeAny_builtin F.entry_any_loop ?_
    rw [Around.under_plainId F.plain_any_loop _]
    show wpAny _ A.in1 (pyNext (.ref a) >>= _) _ _ s
    refine wpAny_bind (wpAny_gsz (n := g + 1) hgl (wpAny_pyNext_genexpQ (A := A.in1) hh I.nolimit hd (hga s H I) hgs hgo (fun v s₁ gs' hb hv => ?_) fun s₁ hp h' hk => ?_))
    · intro hsz
      obtain ⟨b, H1, rfl, I1, q⟩ := hv
      refine wpAny_bind (wpAny_holding (wpAny_truthy_bool ?_))
      refine wpAny_bind (wpAny_letGo ?_)
      have hgl : g < s₁.gens.size := by
        have q : (s₁.setGen g gs').gens.size = s₁.gens.size := setGen_size _ _ _
        have hsz' : g + 1 ≤ (s₁.setGen g gs').gens.size := hsz
        omega
      cases b with
      | false =>
        rw [if_neg (by decide)] at q
        simp only [Bool.false_eq_true, if_false]
        refine wpAny_pure ⟨plainId_quiet F.plain_any_loop _, ih _ ⟨⟨H1, inv_same I1 rfl rfl (allBare_setGen I1.bare hb)⟩, gs', setGen_at hgl, ?_⟩⟩
        exact q _ rfl rfl (allBare_setGen (allBare_setGen I1.bare hb) rfl)
      | true =>
        simp only [if_true]
        refine wpAny_bind (wpAny_rule (wpAny_pure ?_))
        rw [if_pos rfl] at q
        exact fin true _ H1 (inv_same I1 rfl rfl (allBare_setGen I1.bare hb)) q
    · intro hsz
      obtain ⟨H1, I1, q⟩ := hp
      refine wpAny_bind (wpAny_rule (wpAny_pure ?_))
      exact fin false _ H1 (I1.call' (ch := []) rfl (Un.kept hk) (I1.hok.kept hk) (allBare_setGen I1.bare rfl) fun b hb => by simp at hb) q
end
end M


set_option Elab.async false
set_option linter.all false
set_option maxRecDepth 100000
set_option maxHeartbeats 4000000
namespace M
open PySem PySem.Spec PyProof.Rows L2 GenW
variable [Tabs]
section
variable {X : Cx} {pins : List (Addr × Obj)} {σ : L2.St} {H : Hp} {s : Shared}
/-- nothing, or one more code object in a table, with an empty table of its own -/
def Grown (H H' : Hp) : Prop := H' = H ∨ ∃ (P : Addr) (ps : Array Value) (pos : Pos) (c P' : Addr), H P = some (.tbl ps) ∧ TriplesOk ps.toList ∧ TriplesOk (ps ++ #[rawInt pos.line, rawInt pos.col, .ref c]).toList ∧ H c = none ∧ H P' = none ∧ c ≠ P' ∧
  H' = upd (upd (upd H P (.tbl (ps ++ #[rawInt pos.line, rawInt pos.col, .ref c]))) c (CodeX c P')) P' (.tbl #[])
theorem codeHd_stay {h1 h2 : Heap} {c P : Addr} (x : PySem.W.CodeHd h1 c P) (k : ∀ o, h1.get? c = some o → h2.get? c = some o) : PySem.W.CodeHd h2 c P := by
  obtain ⟨o, vs, file, tf, flags, tg, inF, text, tt, e, r⟩ := x
  exact ⟨o, vs, file, tf, flags, tg, inF, text, tt, k o e, r⟩
theorem inv_grow {P c P' : Addr} {ps : Array Value} {pos : Pos} {h' : Heap} {t' : Nat} (I : Inv X pins σ H s) (hP : H P = some (.tbl ps)) (k : ∀ b o, b ≠ P → s.heap.get? b = some o → h'.get? b = some o)
    (hm : h'.get? P = some { cls := .none, data := .fields (ps ++ #[rawInt pos.line, rawInt pos.col, .ref c]) }) (hc : s.heap.objs.size ≤ c) (hP' : s.heap.objs.size ≤ P') (hcd : PySem.W.CodeHd h' c P') (hm' : h'.get? P' = some { cls := .none, data := .fields #[] }) :
    Inv X pins σ (upd (upd (upd H P (.tbl (ps ++ #[rawInt pos.line, rawInt pos.col, .ref c]))) c (CodeX c P')) P' (.tbl #[])) { s with heap := h', toks := t' } ∧ c ≠ P' := by
  have hcn : H c = none := I.hok.fresh hc
  have hPn : H P' = none := I.hok.fresh hP'
  have ne : c ≠ P' := by
    obtain ⟨o, vs, file, tf, flags, tg, inF, text, tt, e, r1, r2, r3, r4, r5, r6, r7, r8, r9⟩ := hcd
    exact r9
  have nPc : P ≠ c := fun z => by rw [z, hcn] at hP; cases hP
  have nPP : P ≠ P' := fun z => by rw [z, hPn] at hP; cases hP
  have at_ : ∀ b, b ≠ P → b ≠ c → b ≠ P' → (upd (upd (upd H P (.tbl (ps ++ #[rawInt pos.line, rawInt pos.col, .ref c]))) c (CodeX c P')) P' (.tbl #[])) b = H b := fun b h1 h2 h3 => by rw [upd_ne h3, upd_ne h2, upd_ne h1]
  have atP : (upd (upd (upd H P (.tbl (ps ++ #[rawInt pos.line, rawInt pos.col, .ref c]))) c (CodeX c P')) P' (.tbl #[])) P = some (.tbl (ps ++ #[rawInt pos.line, rawInt pos.col, .ref c])) := by rw [upd_ne nPP, upd_ne nPc, upd_same]
  have atc : (upd (upd (upd H P (.tbl (ps ++ #[rawInt pos.line, rawInt pos.col, .ref c]))) c (CodeX c P')) P' (.tbl #[])) c = some (CodeX c P') := by rw [upd_ne ne, upd_same]
  have sm : ∀ b u, H b = some u → (∀ q, u ≠ .tbl q) → (upd (upd (upd H P (.tbl (ps ++ #[rawInt pos.line, rawInt pos.col, .ref c]))) c (CodeX c P')) P' (.tbl #[])) b = some u := fun b u e q => by
    rw [at_ b (fun z => by rw [z, hP] at e; exact q ps (Option.some.inj e).symm) (fun z => by rw [z, hcn] at e; cases e) (fun z => by rw [z, hPn] at e; cases e)]; exact e
  have nP : ∀ b u, H b = some u → (∀ q, u ≠ .tbl q) → b ≠ P := fun b u e q z => by
    rw [z, hP] at e
    exact q ps (Option.some.inj e).symm
  have nN : ∀ b, H b = none → b ≠ P := fun b e z => by
    rw [z, hP] at e
    cases e
  have old : ∀ b o, s.heap.get? b = some o → b ≠ c ∧ b ≠ P' := fun b o e => ⟨fun z => by
    have := Heap.lt_size e; rw [z] at this; exact absurd (Nat.lt_of_lt_of_le this hc) (Nat.lt_irrefl _), fun z => by
    have := Heap.lt_size e; rw [z] at this; exact absurd (Nat.lt_of_lt_of_le this hP') (Nat.lt_irrefl _)⟩
  have J : Inv X pins σ (upd (upd (upd H P (.tbl (ps ++ #[rawInt pos.line, rawInt pos.col, .ref c]))) c (CodeX c P')) P' (.tbl #[])) { s with heap := h', gens := s.gens, drawn := s.drawn, toks := t' } := by
    refine I.step (ch := []) (fun b hb => absurd hb (by simp)) (fun b o _ _ _ e n => k b o (nN b n) e) (fun b o _ _ _ e n => ⟨o.slots, k b o (nN b n) e⟩)
      (fun b o _ e n => by rw [at_ b (nN b n) (old b o e).1 (old b o e).2]; exact n) (fun b o _ e => ?_) (fun b xs e => sm b _ e fun q z => by cases z) (fun b o u e => sm b _ e fun q z => by cases z) (fun b qs e => ?_) (fun m hn => ?_) (fun b u e => ?_) I.bare
    · by_cases hb : b = P
      · rw [hb]
        exact ⟨_, hm⟩
      · exact ⟨o, k b o hb e⟩
    · by_cases hb : b = P
      · rw [hb, hP] at e
        cases e
        rw [hb, atP]
        exact ⟨_, rfl⟩
      · rw [at_ b hb (fun z => by rw [z, hcn] at e; cases e) (fun z => by rw [z, hPn] at e; cases e), e]
        exact ⟨#[], by simp⟩
    · obtain ⟨ob, es, ep, ho, r⟩ := hn
      exact ⟨ob, es, ep, k _ ob (nN _ I.free) ho, r⟩
    · by_cases h1 : b = P'
      · rw [h1, upd_same] at e
        cases e
        rw [h1]
        exact hm'
      · by_cases h2 : b = c
        · rw [h2, atc] at e
          cases e
          rw [h2]
          obtain ⟨o, vs, file, tf, flags, tg, inF, text, tt, e, r⟩ := id hcd
          exact ⟨hcd, ⟨o, e⟩, fun _ _ x k => codeHd_stay x k⟩
        · by_cases hb2 : b = P
          · rw [hb2, atP] at e
            cases e
            rw [hb2]
            exact hm
          · rw [at_ b hb2 h2 h1] at e
            refine (I.hok b u e).stay (fun d v hd q => k d v ?_ q) (fun d q => sm d _ q fun _ z => by cases z) fun d xs q => sm d _ q fun _ z => by cases z
            rcases hd with z | z
            · rw [z]
              exact hb2
            · exact nP d _ z (fun q z => by cases z)
  exact ⟨J, ne⟩
/-- the frame's own code stands in a table of D's -/
def InTab (D : Addr → Prop) (gpos : Pos) (H : Hp) (code : Value) : Prop := ∃ P, D P ∧ ∃ ps : Array Value, H P = some (.tbl ps) ∧ TriplesOk ps.toList ∧ codeAmong gpos ps.toList = some code
theorem among_snoc {pos : Pos} {c : Value} : ∀ (l : List Value), TriplesOk l → codeAmong pos l = none → codeAmong pos (l ++ [rawInt pos.line, rawInt pos.col, c]) = some c := fun l h hn => codeAmong_snoc _ h hn
theorem mk_gen {k : Nat} {D : Addr → Prop} {elt tg iter : Expr} {scope : Scope} {own : List (Str × Nat)} {gpos : Pos} {wi : TI} {g : TG} {te : TE} {stp : Bool} {Q : VK} {Q' : Value → Shared → Prop}
    (hr : Room k X.A) (bb : ∃ P, X.base.BuiltinsAt X.mg P) (hT : ∀ (pins : List (Addr × Obj)) (σ : L2.St) (H : Hp) (s : Shared), Inv X pins σ H s → (∀ a ∈ Tabs.t, TabN H a) → ∃ c P qs, X.env.code = .ref c ∧ D P ∧ PySem.W.CodeHd s.heap c P ∧ H P = some (.tbl qs) ∧ TriplesOk qs.toList) (hi : PI X tg iter wi) (ok : BlkOk X.N X.env.scope scope own) (hN : X.N.Nodup) (hc : X.calm = true) (hco : scope.isCoroutine = false) (hcell : ∀ y ∈ scope.names, y.2 ≠ .cell)
    (h0 : scope.names.lookup (".0" : Str) = some NameKind.local)
    (hg : ∀ (s : Shared) (H : Hp) (C : Addr) (code : Value) (cl : List (Str × Addr)) (fp : List Addr) (p : Addr × Obj), PG (genCx X s H (genEnv scope cl C code builtinsNs X.env) fp p) tg g)
    (he : ∀ (s : Shared) (H : Hp) (C : Addr) (code : Value) (cl : List (Str × Addr)) (fp : List Addr) (p : Addr × Obj), InTab D gpos H code → PE (genCx X s H (genEnv scope cl C code builtinsNs X.env) fp p) elt te)
    (hs : ∀ v, genFold iter X.env v = pure v) (I : Inv X pins σ H s)
    (h : wi σ H fun J H1 => (∀ a ∈ Tabs.t, TabN H1 a) ∧ ∀ H2, Grown H1 H2 → ∃ (W : Nat → Nat → Hp → Prop) (m0 : Nat), W 0 m0 H2 ∧ genW J g te stp Q (wipe σ (own.map (·.2))) (own.map (·.2)) W)
    (hQ : ∀ (Xg : Cx) (a : Addr) (gi n : Nat) (s5 : Shared), Xg.prog = X.prog → Xg.w = X.w → GSt Xg X.A.in1.in1 (wipe σ (own.map (·.2))) stp Q gi n s5 → s5.heap.IsGen a gi → (∀ s H, Inv Xg [] (wipe σ (own.map (·.2))) H s → s.heap.IsGen a gi) → (∀ s' H, Inv Xg [] (wipe σ (own.map (·.2))) H s' → Inv X pins σ H s') → Q' (.ref a) s5) :
    wpAny (model X.prog X.w) X.A (eval (.GeneratorExp elt [⟨tg, iter, [], 0⟩] scope gpos) X.env) Q' X.xe s := by
  have hfree : ∀ y ∈ scope.names, y.2 = .free → ∃ c, X.env.cells.lookup y.1 = some c := fun y hy e => by
    rcases ok.free y hy e with k | k
    · exact I.ok.has _ (.inl k)
    · exact I.ok.has _ (.inr k)
  refine wpAny_GeneratorExp_make hco (closure_ok hfree) hcell h0 ok.kind (by have := hr.dp; omega) ?_ hs
  refine thn (hi.run pins s σ H _ I h) fun xv s1 hx => thn hx fun itv s2 h2 => ?_
  obtain ⟨it, fp, tn, J, H2, e, I2, T, st2, f2, tN, q⟩ := h2
  subst e
  refine ⟨I2.nolimit, ?_⟩
  obtain ⟨c, P, ps, hcode, hD, cd, hP, htr⟩ := hT pins σ H2 s2 I2 tN
  have hPs : s2.heap.get? P = some { cls := .none, data := .fields ps } := I2.hok P _ hP
  have cont : ∀ (code : Value) (h3 : Heap) (tk : Nat) (H4 : Hp), Inv X pins σ H4 { s2 with heap := h3, toks := tk } → Heap.ExtBut P s2.heap h3 → s2.heap.objs.size ≤ h3.objs.size → Grown H2 H4 → (∀ b, b < s2.heap.objs.size → H2 b = none → H4 b = none) → InTab D gpos H4 code →
      wpAny (model X.prog X.w) X.A (builtinsFor X.env.globals X.env.builtins) (fun bi s₄ =>
        ∀ h', h'.Ns s₄.heap.objs.size (fun y => if y = ".0" then some (.ref it) else none) → Heap.SameBut s₄.heap.objs.size (s₄.heap.push { cls := .type "frame", data := .dict #[] }) h' →
          Q' (.ref h'.objs.size) { s₄ with
            gens := s₄.gens.push (.fresh (.compStart (.GeneratorExp elt [⟨tg, iter, [], 0⟩] scope gpos) 0 (.ref it) .none (genEnv scope (cloFrom X.env.cells scope.names []) s₄.heap.objs.size code bi X.env))),
            toks := s₄.toks + 1 + 1 + 1,
            heap := h'.push { cls := .type "generator", data := .fields #[.int s₄.gens.size 0, .str "<genexpr>" (s₄.toks + 1), .str (X.env.qual ++ "<genexpr>") (s₄.toks + 1 + 1)] } }) X.xe { s2 with heap := h3, toks := tk } := by
    intro code h3 tk H4 I4 hx3 hsz hgr hlow hin
    obtain ⟨P0, bm, ob, e1, e2, e3, e4, e5, e6, e7, e8⟩ := bb
    refine wpAny_builtinsFor (m := X.mg) (by rw [I4.ok.glob]; exact I4.mod.glob.keeps I4.bk) e1 e2 (I4.bk _ _ e5) e6 e7 e8 ?_
    intro h' hn' hs'
    obtain ⟨W, m0, w0, hW⟩ := q H4 hgr
    have keep3 : ∀ b u, b ≠ P → s2.heap.get? b = some u → h3.get? b = some u := fun b u hb e => hx3 b u hb e
    have nP : ∀ b ∈ fp, b ≠ P := fun b hb z => by
      have := (f2 b hb).1
      rw [z, hP] at this; cases this
    have f4 : ∀ b ∈ fp, FpOk X pins H4 b ∧ b < h3.objs.size := fun b hb => by
      obtain ⟨o, e, _⟩ := T.obj _ _ st2 b hb
      exact ⟨⟨hlow b (Heap.lt_size e) (f2 b hb).1, (f2 b hb).2⟩, Nat.lt_of_lt_of_le (Heap.lt_size e) hsz⟩
    have st3 : tn 0 h3 := T.keep _ _ _ st2 fun b hb o e => keep3 b o (nP b hb) e
    have hsz' : h'.objs.size = h3.objs.size + 1 := by rw [hs'.1, Heap.size_push]
    have Ig := gen_start (code := code) (tk := tk + 1 + 1 + 1) I4 ok hN f4 hcell hr.hd hn' hs' { cls := .type "generator", data := .fields #[.int s2.gens.size 0, .str "<genexpr>" (tk + 1), .str (X.env.qual ++ "<genexpr>") (tk + 1 + 1)] } (fun v z => by cases z) (Heap.get?_push_size _ rfl)
      (.fresh (.compStart (.GeneratorExp elt [⟨tg, iter, [], 0⟩] scope gpos) 0 (.ref it) .none (genEnv scope (cloFrom X.env.cells scope.names []) h3.objs.size code builtinsNs X.env))) rfl
    have st5 : tn 0 (h'.push { cls := .type "generator", data := .fields #[.int s2.gens.size 0, .str "<genexpr>" (tk + 1), .str (X.env.qual ++ "<genexpr>") (tk + 1 + 1)] }) := T.keep _ _ _ st3 fun b hb o e =>
      Heap.get?_push_of_some _ (hs'.extBut b o (Nat.ne_of_lt (Heap.lt_size e)) (Heap.get?_push_of_some _ e))
    have hfpn : ∀ b ∈ fp, H4 b = none := fun b hb => (f4 b hb).1.1
    have hfpa : ∀ b ∈ fp, b ≠ h'.objs.size := fun b hb z => by
      have h1 : h'.objs.size < h3.objs.size := by rw [← z]; exact (f4 b hb).2
      exact absurd h1 (by omega)
    refine hQ (genCx X { s2 with heap := h3, toks := tk } H4 (genEnv scope (cloFrom X.env.cells scope.names []) h3.objs.size code builtinsNs X.env) fp (h'.objs.size, { cls := .type "generator", data := .fields #[.int s2.gens.size 0, .str "<genexpr>" (tk + 1), .str (X.env.qual ++ "<genexpr>") (tk + 1 + 1)] })) h'.objs.size s2.gens.size (m0 + 1) _ rfl rfl ⟨⟨_, Ig⟩, _, Array.getElem?_push_size .., ⟨rfl, ?_⟩⟩ ⟨_, _, _, Heap.get?_push_size _ rfl, rfl, rfl, rfl⟩ (fun s H J => ?_) fun s' H J => ?_
    · have loop := fun (s₀ s' : Shared) (e1 : s'.heap = h'.push { cls := .type "generator", data := .fields #[.int s2.gens.size 0, .str "<genexpr>" (tk + 1), .str (X.env.qual ++ "<genexpr>") (tk + 1 + 1)] }) (e2 : s'.os = s2.os) (e3 : AllBare s'.gens) => seg_gen (iter := iter) (scope := scope) (pos := gpos) (stp := stp) (Q := Q) hc T (hg _ _ _ code _ fp _) (he _ _ _ code _ fp _ hin) hco hfpa hW m0 (m0 + 1) 0 s₀ s' _ (Nat.lt_succ_self _) w0 (inv_same Ig e1 e2 e3) (by rw [e1]; exact st5) hfpn
      show Seg _ X.A.in1.in1 _ _ _ _ _ ((compStart (.GeneratorExp elt [⟨tg, iter, [], 0⟩] scope gpos) 0 (.ref it) .none (genEnv scope (cloFrom X.env.cells scope.names []) h3.objs.size code builtinsNs X.env)).onRaise (leaving (genEnv scope (cloFrom X.env.cells scope.names []) h3.objs.size code builtinsNs X.env))) [] _
      unfold compStart
      rw [Sem.onRaise_eq_wrap]
      show Seg _ X.A.in1.in1 _ _ _ _ _ ((ask >>= _).wrap _ _ _ _) [] _
      refine seg_bind_wrap (wpAny_askSetting ?_)
      split
      · exact seg_again rfl (loop _ _ rfl rfl (allBare_setGen Ig.bare rfl))
      · first
          | exact seg_bind_wrap (wpAny_rule (seg_bind_wrap (wpAny_standAt (seg_bind_wrap (T.self _ 0 _ _ _ st5 (seg_again rfl (loop _ _ rfl rfl (allBare_setGen Ig.bare rfl))))))))
          | (refine seg_bind_wrap (wpAny_rule ?_); show Seg _ X.A.in1.in1 _ _ _ _ _ ((standAt iter.pos >>= _).wrap _ _ _ _) [] _; exact seg_bind_wrap (wpAny_standAt (seg_bind_wrap (T.self _ 0 _ _ _ st5 (seg_again rfl (loop _ _ rfl rfl (allBare_setGen Ig.bare rfl)))))))
    · obtain ⟨z, _⟩ := J.pin (h'.objs.size, _) (List.mem_append_left _ (List.mem_singleton.mpr rfl))
      exact ⟨_, _, _, z, rfl, rfl, rfl⟩
    · exact I4.call' (ch := fp) J.os J.base J.hok J.bare fun b hb => ⟨(f4 b hb).1.2.2.2.1, (f4 b hb).1.2.1, (f4 b hb).1.2.2.2.2.1, (f4 b hb).1.2.2.2.2.2⟩
  cases hf : codeAmong gpos ps.toList with
  | none =>
    refine wpAny_genexprCodeX hcode (cd.code hPs htr) (cd.tab hPs) hf fun c' h' tk hx hge hlt hco' _ htab' hnew => ?_
    obtain ⟨o1, vs, f1, tf, fl, tg', inF, tx, tt, op, _, _, _, _, _, _, _, _, _, htr', _⟩ := hco'
    obtain ⟨P', hP', hc1, ht1⟩ := hnew
    obtain ⟨I4, ne⟩ := inv_grow (t' := tk) (pos := gpos) I2 hP (fun b u hb e => hx b u hb e) htab'.2 hge hP' (PySem.W.CodeHd.of hc1 ht1) ht1.2
    have hcn : H2 c' = none := I2.hok.fresh hge
    have hPn : H2 P' = none := I2.hok.fresh hP'
    have nPc : P ≠ c' := fun z => by rw [z, hcn] at hP; cases hP
    have nPP : P ≠ P' := fun z => by rw [z, hPn] at hP; cases hP
    refine cont _ h' tk _ I4 hx (Nat.le_trans hge (Nat.le_of_lt hlt)) (.inr ⟨P, ps, gpos, c', P', hP, htr, htr', hcn, hPn, ne, rfl⟩) (fun b hb e => ?_) ⟨P, hD, _, by rw [upd_ne nPP, upd_ne nPc, upd_same], htr', ?_⟩
    · have n1 : b ≠ P := fun z => by rw [z, hP] at e; cases e
      have n2 : b ≠ c' := fun z => by rw [z] at hb; exact absurd (Nat.lt_of_lt_of_le hb hge) (Nat.lt_irrefl _)
      have n3 : b ≠ P' := fun z => by rw [z] at hb; exact absurd (Nat.lt_of_lt_of_le hb hP') (Nat.lt_irrefl _)
      rw [upd_ne n3, upd_ne n2, upd_ne n1]; exact e
    · have : (ps ++ #[rawInt gpos.line, rawInt gpos.col, Value.ref c']).toList = ps.toList ++ [rawInt gpos.line, rawInt gpos.col, .ref c'] := by simp
      rw [this]
      exact among_snoc _ htr hf
  | some cv =>
    refine wpAny_genexprCode_hit hcode (cd.code hPs htr) hf ?_
    exact cont cv s2.heap s2.toks H2 I2 (Heap.ExtBut.refl _ _) (Nat.le_refl _) (.inl rfl) (fun _ _ e => e) ⟨P, hD, ps, hP, htr, hf⟩
end
/-! ### the rule -/
open Classical in
noncomputable def allM (src : Src) (g : MG) (me : ME) (e : Env) (stp : Bool) : List D → Store → Res D
  | [], S => if src.ok S then .ok (.bl (!stp)) S else .bad
  | d :: ds, S => if src.ok S then match g d e S with
    | some e1 => (noEx (me e1 S)).bind fun y S2 => match y with
      | .bl b => if b = stp then .ok (.bl stp) S2 else allM src g me e stp ds S2
      | _ => .bad
    | none => .bad else .bad
noncomputable def mAll (stp : Bool) (mi : MI) (g : MG) (me : ME) (vs : List Nat) : ME := fun e S => (mi e S).bind fun src S1 => allM src g me (wipeE e vs) stp src.xs S1
theorem rel_grown {K : PySem.W.Frag} {ρ : Rh} {H H' : Hp} {S : Store} (R : Rel K ρ H S) (g : Grown H H') : Fr ρ H ρ H' ∧ Rel K ρ H' S := by
  rcases g with rfl | ⟨P, ps, pos, c, P', hP, ht, ht', hcn, hPn, ne, rfl⟩
  · exact ⟨Fr.refl _ _, R⟩
  have nPc : P ≠ c := fun z => by rw [z, hcn] at hP; cases hP
  have nPP : P ≠ P' := fun z => by rw [z, hPn] at hP; cases hP
  generalize hH' : upd (upd (upd H P (.tbl (ps ++ #[rawInt pos.line, rawInt pos.col, .ref c]))) c (CodeX c P')) P' (.tbl #[]) = H'
  have sm : ∀ b u, H b = some u → b ≠ P → H' b = some u := fun b u e q => by
    rw [← hH', upd_ne (fun z => by rw [z, hPn] at e; cases e), upd_ne (fun z => by rw [z, hcn] at e; cases e), upd_ne q]; exact e
  have atP : H' P = some (.tbl (ps ++ #[rawInt pos.line, rawInt pos.col, .ref c])) := by rw [← hH', upd_ne nPP, upd_ne nPc, upd_same]
  have atc : H' c = some (CodeX c P') := by rw [← hH', upd_ne ne, upd_same]
  have atP' : H' P' = some (.tbl #[]) := by rw [← hH', upd_same]
  have nP : ∀ b u, H b = some u → NT u → b ≠ P := fun b u e nt z => by rw [z, hP] at e; cases e; exact nt ps rfl
  have f : Fr ρ H ρ H' := ⟨⟨[], by simp, by simp⟩, fun a o h _ nt => sm a o h (nP a o h nt), fun a o h => by
    by_cases z : a = P
    · exact ⟨_, by rw [z]; exact atP⟩
    · exact ⟨o, sm a o h z⟩⟩
  have kid : ∀ (c0 P0 : Addr) (qs : Array Value), H c0 = some (CodeX c0 P0) → H P0 = some (.tbl qs) → TriplesOk qs.toList → H' c0 = some (CodeX c0 P0) ∧ ∃ qs', H' P0 = some (.tbl qs') ∧ TriplesOk qs'.toList := fun c0 P0 qs h1 h2 h3 => by
    refine ⟨sm c0 _ h1 (nP c0 _ h1 fun _ z => by cases z), ?_⟩
    by_cases z : P0 = P
    · exact ⟨_, by rw [z]; exact atP, ht'⟩
    · exact ⟨qs, sm P0 _ h2 z, h3⟩
  refine ⟨f, R.len, R.nd, fun n o a e1 e2 => ?_, fun a m => ?_, fun a m => ?_⟩
  · have q := R.at_ n o a e1 e2
    cases o with
    | lst ds => obtain ⟨vs, h1, h2⟩ := q; exact ⟨vs, sm a _ h1 (nP a _ h1 fun _ z => by cases z), RepDs.fr R.free f _ _ h2⟩
  · obtain ⟨vs, h1⟩ := R.hid a m
    exact ⟨vs, sm a _ h1 (nP a _ h1 fun _ z => by cases z)⟩
  · obtain ⟨qs, h1, h2, h3⟩ := R.tab a m
    by_cases z : a = P
    · subst z
      rw [hP] at h1; cases h1
      refine ⟨_, atP, ht', fun p0 cv hc => ?_⟩
      have e9 : (ps ++ #[rawInt pos.line, rawInt pos.col, Value.ref c]).toList = ps.toList ++ [rawInt pos.line, rawInt pos.col, .ref c] := by simp
      rw [e9] at hc
      rcases LamX.among_app _ ht hc with hc | rfl
      · obtain ⟨c0, P0, qs, g1, g2, g3, g4⟩ := h3 p0 cv hc
        obtain ⟨k1, qs', k2, k3⟩ := kid c0 P0 qs g2 g3 g4
        exact ⟨c0, P0, qs', g1, k1, k2, k3⟩
      · exact ⟨c, P', #[], rfl, atc, atP', trivial⟩
    · refine ⟨qs, sm a _ h1 z, h2, fun p0 cv hc => ?_⟩
      obtain ⟨c0, P0, qs, g1, g2, g3, g4⟩ := h3 p0 cv hc
      obtain ⟨k1, qs', k2, k3⟩ := kid c0 P0 qs g2 g3 g4
      exact ⟨c0, P0, qs', g1, k1, k2, k3⟩
section
variable {X : Cx} {W : WX} {mi : MI} {g : MG} {sl vs : List Nat} {me : ME} {stp : Bool}
theorem all_imp (hsl : ∀ i ∈ sl, i ∈ vs) {σ : L2.St} {H : Hp} {Q : VK} (h : tE X.K X.mg W (mAll stp mi g me vs) σ H Q) :
    tI X.K X.mg W mi σ H fun J H1 => (∀ a ∈ Tabs.t, TabN H1 a) ∧ ∀ H2, Grown H1 H2 → ∃ (W : Nat → Nat → Hp → Prop) (m0 : Nat), W 0 m0 H2 ∧ genW J (tG X.K g sl) (tE X.K X.mg W0 me) stp Q (wipe σ vs) vs W := by
  obtain ⟨ρ, e, S, he, R, q⟩ := h
  refine ⟨ρ, e, S, he, R, (Post.bind q).mono fun src S1 ρ1 H1 f1 R1 q J hJ => ?_⟩
  refine ⟨R1.tab, fun H2 hgr => ?_⟩
  obtain ⟨ft, Rt⟩ := rel_grown R1 hgr
  have het := (he.fr R.free f1).fr R1.free ft
  refine ⟨fun i m H' => m = src.xs.length - i ∧ i ≤ src.xs.length ∧ ∃ ρ' S', Fr ρ1 H1 ρ' H' ∧ Rel X.K ρ' H' S' ∧ PostE X.K X.mg W ρ' H' σ Q (allM src g me (wipeE e vs) stp (src.xs.drop i) S'), src.xs.length, ⟨rfl, Nat.zero_le _, ρ1, S1, ft, Rt, Post.fr ft q⟩, ?_⟩
  rintro i m H' ⟨rfl, hi, ρ', S', f, R', q⟩
  rcases Nat.lt_or_ge i src.xs.length with hlt | hge
  · rw [List.drop_eq_getElem_cons hlt] at q
    unfold allM at q
    by_cases hok : src.ok S'
    case neg => rw [if_neg hok] at q; exact q.elim
    rw [if_pos hok] at q
    obtain ⟨hgo, hy⟩ := hJ.go ρ' H' S' i _ (.of f) R' hok (List.getElem?_eq_getElem hlt)
    refine .inr ⟨hgo, fun x H'' yy => ?_⟩
    obtain ⟨f2, R2, r2⟩ := hy x H'' yy
    cases hgd : g src.xs[i] (wipeE e vs) S' with
    | none => rw [hgd] at q; exact q.elim
    | some e1 =>
      rw [hgd] at q
      dsimp only at q
      have he2 : EnvRel X.K ρ' H'' (wipe σ vs) (wipeE e vs) := ((((he.fr R.free f1).fr R1.free f)).fr R'.free f2).wipe vs
      refine ⟨ρ', _, S', _, e1, he2, R2, r2, hgd, fun σ2 hσ2 hw => ⟨(hw vs hsl).trans (wipe_wipe fun _ h => h), ρ', e1, S', hσ2, R2, ?_⟩⟩
      cases hm : me e1 S' with
      | bad => rw [hm] at q; exact q.elim
      | ex c S2 => rw [hm] at q; exact q.elim
      | ok y S2 =>
        rw [hm] at q
        simp only [noEx_ok, Res.bind_ok] at q
        intro ρ3 H3 f3 R3 v r3
        cases y with
        | bl b =>
          cases r3
          refine ⟨b, rfl, ?_⟩
          by_cases hb : b = stp
          · rw [if_pos hb]
            dsimp only at q
            rw [if_pos hb] at q
            exact q ρ3 H3 (f2.trans f3) R3 _ (.bl stp)
          · rw [if_neg hb]
            dsimp only at q
            rw [if_neg hb] at q
            exact ⟨src.xs.length - (i + 1), by omega, rfl, hlt, ρ3, S2, (f.trans f2).trans f3, R3, Post.fr (f2.trans f3) q⟩
        | _ => exact q.elim
  · have e0 : i = src.xs.length := by omega
    subst e0
    rw [List.drop_length] at q
    unfold allM at q
    by_cases hok : src.ok S'
    case neg => rw [if_neg hok] at q; exact q.elim
    rw [if_pos hok] at q
    exact .inl ⟨hJ.stop ρ' H' S' (.of f) R' hok, q ρ' H' (Fr.refl _ _) R' _ (.bl _)⟩
variable {k : Nat} {c : Addr} {elt tg iter : Expr} {scope : Scope} {own : List (Str × Nat)} {p gpos pos : Pos}
/-- where a frame's generator expressions have their code -/
structure GenIn (X : Cx) (D : Addr → Prop) : Prop where
  bb : ∃ P, X.base.BuiltinsAt X.mg P
  hT : ∀ (pins : List (Addr × Obj)) (σ : L2.St) (H : Hp) (s : Shared), Inv X pins σ H s → (∀ a ∈ Tabs.t, TabN H a) → ∃ c P qs, X.env.code = .ref c ∧ D P ∧ PySem.W.CodeHd s.heap c P ∧ H P = some (.tbl qs) ∧ TriplesOk qs.toList
theorem genIn_def {P : Addr} (TB : GxR.TabB X.base X.mg c P) (hP : P ∈ Tabs.t) (hcode : X.env.code = .ref c) : GenIn X (fun P => P ∈ Tabs.t) :=
  ⟨⟨P, TB.bm⟩, fun pins σ H s I tN => by
    obtain ⟨ps, h1, h2, _⟩ := tN P hP
    exact ⟨c, P, ps, hcode, hP, TB.code.keeps fun b u e => I.bk b u e, h1, h2⟩⟩
theorem among_more {pos : Pos} {cv : Value} (l r : List Value) (h : TriplesOk l) (hc : codeAmong pos l = some cv) : codeAmong pos (l ++ r) = some cv := by
  fun_induction TriplesOk l with
  | case1 => simp [codeAmong] at hc
  | case2 a t b u x rest ih =>
    simp only [List.cons_append, codeAmong] at hc ⊢
    split at hc
    · rename_i q
      rw [if_pos q]; exact hc
    · rename_i q
      rw [if_neg q]; exact ih h hc
  | case3 l h1 h2 => exact h.elim
theorem genIn_in {s : Shared} {H : Hp} {C : Addr} {code : Value} {cl : List (Str × Addr)} {fp : List Addr} {p : Addr × Obj} (bb : ∃ P, X.base.BuiltinsAt X.mg P) (hin : InTab (fun P => P ∈ Tabs.t) gpos H code) :
    GenIn (genCx X s H (genEnv scope cl C code builtinsNs X.env) fp p) (fun _ => True) :=
  ⟨bb, fun pins σ H' s' I tN => by
    obtain ⟨P, hP, ps, h1, h2, h3⟩ := hin
    obtain ⟨more, h4⟩ := I.base.tbls P ps h1
    obtain ⟨qs, e1, e2, e3⟩ := tN P hP
    rw [h4] at e1; cases e1
    obtain ⟨c, P', rs, g1, g2, g3, g4⟩ := e3 gpos code (by rw [Array.toList_append]; exact among_more _ _ h2 h3)
    have q : PySem.W.CodeHd s'.heap c P' := (I.hok c _ g2).1
    exact ⟨c, P', rs, g1, trivial, q, g3, g4⟩⟩
theorem em_all (own : List (Str × Nat)) (hr : Room k X.A) (hgl : Gl X "all") (hm : X.mg "all" = none) {D : Addr → Prop} (gin : GenIn X D) (hi : IM X W tg iter mi) (ok : BlkOk X.N X.env.scope scope own) (hsl : ∀ i ∈ sl, i ∈ own.map (·.2)) (hN : X.N.Nodup) (hc : X.calm = true) (hco : scope.isCoroutine = false) (hcell : ∀ y ∈ scope.names, y.2 ≠ .cell)
    (h0 : scope.names.lookup (".0" : Str) = some NameKind.local)
    (hg : ∀ (s : Shared) (H : Hp) (C : Addr) (code : Value) (cl : List (Str × Addr)) (fp : List Addr) (p : Addr × Obj), GM (genCx X s H (genEnv scope cl C code builtinsNs X.env) fp p) tg g sl)
    (he : ∀ (s : Shared) (H : Hp) (C : Addr) (code : Value) (cl : List (Str × Addr)) (fp : List Addr) (p : Addr × Obj), InTab D gpos H code → EM (genCx X s H (genEnv scope cl C code builtinsNs X.env) fp p) W0 elt me)
    (hs : ∀ v, genFold iter X.env v = pure v := by intro _; rfl) (hb : bootBuiltins "all" = some (.builtin "all") := by rfl)
    (hse : starEach [.GeneratorExp elt [⟨tg, iter, [], 0⟩] scope gpos] X.env = (false, eval (.GeneratorExp elt [⟨tg, iter, [], 0⟩] scope gpos) X.env) :: starEach [] X.env := by rfl) :
    EM X W (.Call (.Name "all" p) [.GeneratorExp elt [⟨tg, iter, [], 0⟩] scope gpos] [] pos) (mAll false mi g me (own.map (·.2))) := by
  refine ⟨fun pins s σ H Q I h => ?_⟩
  refine wpAny_Call_Name_kw (ld_blt I hgl hm hb ?_)
  refine PyProof.Rows.callWith_builtin1 ?_ hse (by rfl)
  rw [hse]
  show wpAny _ _ (spliced ((false, eval (.GeneratorExp elt [⟨tg, iter, [], 0⟩] scope gpos) X.env) :: backTo pos (starEach [] X.env))) _ _ s
  refine Calls.spliced_cons (mk_gen (stp := false) (Q := Q) hr gin.bb gin.hT hi ok hN hc hco hcell h0 hg he hs I (all_imp hsl h) fun Xg a gi n s5 e1 e2 hG hga hgal back => ?_)
  refine Calls.spliced_nil ?_
  refine call_function_tree F.kind_all F.plain_all F.entry_all (F.args_all1 _) ?_
  unfold Builtin.«all»
  refine wpAny_bind (m := oneArg "all" _) (wpAny_pure ?_)
  refine wpAny_bind (wpAny_pyIter_gen hga ?_)
  refine wpAny_pure ⟨plainId_quiet F.plain_all_loop _, ?_⟩
  rw [← e1, ← e2]
  refine all_go (A := X.A) hr.hd (by have := hr.dp; omega) hgal (fun b s' H' J q => ?_) n s5 hG
  exact ⟨.bl b, H', back s' H' J, rfl, q⟩
theorem em_any (own : List (Str × Nat)) (hr : Room k X.A) (hgl : Gl X "any") (hm : X.mg "any" = none) {D : Addr → Prop} (gin : GenIn X D) (hi : IM X W tg iter mi) (ok : BlkOk X.N X.env.scope scope own) (hsl : ∀ i ∈ sl, i ∈ own.map (·.2)) (hN : X.N.Nodup) (hc : X.calm = true) (hco : scope.isCoroutine = false) (hcell : ∀ y ∈ scope.names, y.2 ≠ .cell)
    (h0 : scope.names.lookup (".0" : Str) = some NameKind.local)
    (hg : ∀ (s : Shared) (H : Hp) (C : Addr) (code : Value) (cl : List (Str × Addr)) (fp : List Addr) (p : Addr × Obj), GM (genCx X s H (genEnv scope cl C code builtinsNs X.env) fp p) tg g sl)
    (he : ∀ (s : Shared) (H : Hp) (C : Addr) (code : Value) (cl : List (Str × Addr)) (fp : List Addr) (p : Addr × Obj), InTab D gpos H code → EM (genCx X s H (genEnv scope cl C code builtinsNs X.env) fp p) W0 elt me)
    (hs : ∀ v, genFold iter X.env v = pure v := by intro _; rfl) (hb : bootBuiltins "any" = some (.builtin "any") := by rfl)
    (hse : starEach [.GeneratorExp elt [⟨tg, iter, [], 0⟩] scope gpos] X.env = (false, eval (.GeneratorExp elt [⟨tg, iter, [], 0⟩] scope gpos) X.env) :: starEach [] X.env := by rfl) :
    EM X W (.Call (.Name "any" p) [.GeneratorExp elt [⟨tg, iter, [], 0⟩] scope gpos] [] pos) (mAll true mi g me (own.map (·.2))) := by
  refine ⟨fun pins s σ H Q I h => ?_⟩
  refine wpAny_Call_Name_kw (ld_blt I hgl hm hb ?_)
  refine PyProof.Rows.callWith_builtin1 ?_ hse (by rfl)
  rw [hse]
  show wpAny _ _ (spliced ((false, eval (.GeneratorExp elt [⟨tg, iter, [], 0⟩] scope gpos) X.env) :: backTo pos (starEach [] X.env))) _ _ s
  refine Calls.spliced_cons (mk_gen (stp := true) (Q := Q) hr gin.bb gin.hT hi ok hN hc hco hcell h0 hg he hs I (all_imp hsl h) fun Xg a gi n s5 e1 e2 hG hga hgal back => ?_)
  refine Calls.spliced_nil ?_
  refine call_function_tree F.kind_any F.plain_any F.entry_any (F.args_any1 _) ?_
  unfold Builtin.«any»
  refine wpAny_bind (m := oneArg "any" _) (wpAny_pure ?_)
  refine wpAny_bind (wpAny_pyIter_gen hga ?_)
  refine wpAny_pure ⟨plainId_quiet F.plain_any_loop _, ?_⟩
  rw [← e1, ← e2]
  refine any_go (A := X.A) hr.hd (by have := hr.dp; omega) hgal (fun b s' H' J q => ?_) n s5 hG
  exact ⟨.bl b, H', back s' H' J, rfl, q⟩
end
end M


set_option Elab.async false
set_option linter.all false
set_option maxRecDepth 100000
set_option maxHeartbeats 4000000
namespace M
open PySem PySem.Spec PyProof.Rows L2 RT
variable [Tabs]
section
variable {prog : Program} {w : World} {A : Around} {E : Value → Shared → Prop} {s : Shared}
theorem call_list_rev {it l : Addr} {items : Array Value} {Q : Value → Shared → Prop} (hh : A.handled = none) (hit : s.heap.IsRevIter it l ((items.size : Int) - 1)) (hl : s.heap.IsList l items) (hne : l ≠ it) (hn : items.size ≤ sizeLine)
    (hQ : ∀ (h' : Heap) (tk : Nat) (acc : Array Value) (c : Nat), (∀ b o, b ≠ it → s.heap.get? b = some o → h'.get? b = some o) → h'.get? s.heap.objs.size = some { cls := .type "list", dict := none, data := .seq acc c, slots := #[] } → ItemsOf (fun i v => items[items.size - 1 - i]? = some v) acc items.size → Q (.ref s.heap.objs.size) { s with heap := h', toks := tk }) :
    wpAny (model prog w) A (call (.type "list") [.ref it]) Q E s := by
  have W := (Walks.listRev (prog := prog) (w := w) (A := A.in1.in1) hh it l hne items).toS
  obtain ⟨oi, hoi, _⟩ := id hit
  obtain ⟨ol, hol, _⟩ := id hl
  have hSi : s.heap.objs.size ≠ it := Nat.ne_of_gt (Heap.lt_size hoi)
  have hSl : s.heap.objs.size ≠ l := Nat.ne_of_gt (Heap.lt_size hol)
  have hSf : s.heap.objs.size ∉ [it, l] := by simp only [List.mem_cons, List.not_mem_nil, or_false, not_or]; exact ⟨hSi, hSl⟩
  refine callType_codes (Q₁ := fun obj s₁ => obj = .ref s.heap.objs.size ∧ s₁ = { s with heap := s.heap.push { cls := .type "list", data := .seq #[] } }) F.called_list (F.typeCall_list_1 _) F.entry_list_init
    (code_list_new _ ⟨rfl, rfl⟩) fun obj s₁ h₁ => ?_
  obtain ⟨rfl, rfl⟩ := h₁
  have hS : (s.heap.push { cls := .type "list", data := .seq #[] }).get? s.heap.objs.size = some { cls := .type "list", data := .seq #[] } := Heap.get?_push_size _ rfl
  refine ⟨⟨_, hS, rfl⟩, F.args_list_init_2 _ _, ?_⟩
  show wpAny _ A.in1.in1 (do let old ← Builtin.List.listItems (.ref s.heap.objs.size); Builtin.List.listUpdate (.ref s.heap.objs.size) (fun _ => #[]); letGo old.toList.reverse; Builtin.List.listExtendWith (.ref s.heap.objs.size) (.ref it) .none) _ _ _
  refine wpAny_bind ?_
  unfold Builtin.List.listItems
  refine wpAny_bind (wpAny_seqItems hS rfl (wpAny_pure ?_))
  show wpAny _ A.in1.in1 (updateSeq s.heap.objs.size (fun _ => #[]) >>= fun _ => letGo (#[] : Array Value).toList.reverse >>= fun _ => Builtin.List.listExtendWith (.ref s.heap.objs.size) (.ref it) .none) _ _ _
  refine wpAny_bind (wpAny_updateSeq hS rfl ?_)
  have hS2 := Heap.get?_update_self (Obj.mapSeq (fun _ => (#[] : Array Value))) hS rfl
  have k2 : ∀ b o, s.heap.get? b = some o → ((s.heap.push { cls := .type "list", data := .seq #[] }).update s.heap.objs.size (Obj.mapSeq (fun _ => (#[] : Array Value)))).get? b = some o := fun b o e =>
    (Heap.get?_update_other _ _ (Ne.symm (Nat.ne_of_lt (Heap.lt_size e)))).trans (Heap.get?_push_of_some _ e)
  refine wpAny_bind (wpAny_letGo ?_)
  unfold Builtin.List.listExtendWith
  generalize hh2 : ((s.heap.push { cls := .type "list", data := .seq #[] }).update s.heap.objs.size (Obj.mapSeq (fun _ => (#[] : Array Value)))) = h2 at hS2 k2 ⊢
  have hit1 : h2.IsRevIter it l ((items.size : Int) - 1) := hit.at fun o e => k2 _ _ e
  have hl1 : h2.IsList l items := by
    obtain ⟨ol, hol, r⟩ := id hl
    exact ⟨ol, k2 _ _ hol, r⟩
  have hT : ({ s with heap := h2 } : Shared).TypeIs (.ref it) "list_reverseiterator" := Heap.IsRevIter.typeIs (s := { s with heap := h2 }) hit1
  have h1 : Builtin.List.listSameRef (.ref s.heap.objs.size) (.ref it) = false := by simp [Builtin.List.listSameRef, hSi]
  refine wpAny_bind (wpAny_typeOf hT ?_)
  rw [if_neg (by rw [h1]; decide)]
  refine wpAny_bind (wpAny_pyIter_revIter (s := { s with heap := h2 }) hit1 ?_)
  refine wpAny_bind (wpAny_holding ?_)
  unfold Builtin.List.listLengthHint
  refine wpAny_bind (wpAny_specialOf hT nolen_lri ?_)
  show wpAny _ A.in1.in1 (specialOf (Value.ref it) (Str.ofString "__length_hint__") >>= _) _ _ _
  refine wpAny_bind (wpAny_specialOf hT hint_lri ?_)
  generalize hid : ("list_reverseiterator.__length_hint__" : String) = id0
  wp_delta
  rw [show splitId id0 = some ("list_reverseiterator", "__length_hint__") from by subst hid; decide +kernel]
  subst hid
  refine wpAny_bind (wpAny_isInstance (b := true) hT (by rw [isSubtype_type]; kernel_rfl) ?_)
  refine wpAny_pure ?_
  rw [if_neg (by decide)]
  have e0 : ((items.size : Nat) : Int) - 1 - ((0 : Nat) : Int) = (items.size : Int) - 1 := by omega
  refine wpAny_pure ⟨plainId_quiet F.plain_extend_loop _, codeAny_extend_loopS W hn _ hSf _ items.size 0 _ _ _ rfl (Nat.zero_le _) ⟨Nat.zero_le _, by rw [e0]; exact hit1, hl1⟩ hS2 (ItemsOf.nil _) fun s' acc' c' hm hS' hacc => ?_⟩
  refine ⟨rfl, ?_⟩
  rw [Moved.eq_with hm]
  refine hQ s'.heap s'.toks acc' c' (fun b o hb e => hm.heap b o (fun hmem => ?_) (k2 b o e)) hS' hacc
  rcases List.mem_cons.mp hmem with e' | hmem
  · exact absurd (Heap.lt_size e) (by rw [e']; exact Nat.lt_irrefl _)
  · exact hb (List.mem_singleton.mp hmem)
end
def tListRev (K : PySem.W.Frag) (te : TE) : TE := fun σ H Q => te σ H fun v H1 => ∃ (a : Addr) (xs : List V), v = .ref a ∧ SqL K H1 a xs ∧ ∀ p, H1 p = none → Q (.ref p) (upd H1 p (.lst xs.reverse))
section
variable {X : Cx} {W : WX} {e : Expr} {m : ME}
theorem pe_listRev {te : TE} {p p2 pos pos2 : Pos} (hg : Gl X "list") (hm : X.mg "list" = none) (hg2 : Gl X "reversed") (hm2 : X.mg "reversed" = none) (hc : X.calm = true) (he : PE X e te)
    (hs : starEach [e] X.env = (false, eval e X.env) :: starEach [] X.env := by rfl)
    (hs2 : starEach [.Call (.Name "reversed" p2) [e] [] pos2] X.env = (false, eval (.Call (.Name "reversed" p2) [e] [] pos2) X.env) :: starEach [] X.env := by rfl) :
    PE X (.Call (.Name "list" p) [.Call (.Name "reversed" p2) [e] [] pos2] [] pos) (tListRev X.K te) := by
  refine ⟨fun pins s σ H Q I h => ?_⟩
  refine Call_ (ld_blt I hg hm (by rfl) (PyProof.Rows.callWith_type1 (args_cons (Call_ (ld_blt I hg2 hm2 PyProof.Rows.boot_reversed (PyProof.Rows.callWith_type1 (args_cons (thn (he.run pins s σ H _ I h) fun u s1 ⟨v, H1, I1, r1, q1⟩ => args_nil ?_) hs) hs rfl))) hs2) hs2 rfl))
  obtain ⟨a, xs, ev, hq, q⟩ := q1
  subst ev
  obtain rfl : u = Value.ref a := r1
  obtain ⟨its, rv, p', hz⟩ := I1.list hq
  refine call_reversed_list p'.isList (args_nil ?_)
  have k0 : ∀ b o, s1.heap.get? b = some o → (s1.heap.push (revObj a ((its.toArray.size : Int) - 1))).get? b = some o := fun b o e => Heap.get?_push_of_some _ e
  have I2 : Inv X pins σ H1 { s1 with heap := s1.heap.push (revObj a ((its.toArray.size : Int) - 1)) } := I1.kept (t' := s1.toks) k0
  obtain ⟨f0, f1, f2, f3, f4, f5⟩ := I1.fpOk (H' := H1) (b := s1.heap.objs.size) (Nat.le_refl _) (I1.hok.fresh (Nat.le_refl _))
  have hl := p'.isList
  obtain ⟨ol, hol, _⟩ := id hl
  have hne : a ≠ s1.heap.objs.size := Nat.ne_of_lt (Heap.lt_size hol)
  have hn : its.toArray.size ≤ sizeLine := by rw [List.size_toArray, ← rv.length]; exact hz
  refine call_list_rev (s := { s1 with heap := s1.heap.push (revObj a ((its.toArray.size : Int) - 1)) }) (I1.ok.hd hc) ⟨_, Heap.get?_push_size _ rfl, rfl, rfl⟩ (hl.push _) hne hn fun h' tk acc c hk hS hi => ?_
  have hsz2 : (s1.heap.push (revObj a ((its.toArray.size : Int) - 1))).objs.size = s1.heap.objs.size + 1 := Heap.size_push ..
  have I3 := I2.turnedNew (h' := h') (t' := tk) (ch := [s1.heap.objs.size]) (T := (s1.heap.push (revObj a ((its.toArray.size : Int) - 1))).objs.size) (ob := .lst xs.reverse) (fun b o hb e => hk b o (fun z => hb (by simp [z])) e)
    (fun b hb => by rw [List.mem_singleton.mp hb]; exact ⟨f0, f1, f2, f3, f4, f5⟩) (Nat.le_refl _) ⟨by rw [List.length_reverse]; exact hz, acc.toList, c, vals_rev rv hi, hS⟩
  exact ⟨.ref _, _, I3, rfl, q _ (I2.hok.fresh (Nat.le_refl _))⟩
end
section
variable {X : Cx} {W : WX} {e : Expr} {m : ME}
def mListRev (m : ME) : MA := fun e S => (m e S).bind fun d S1 => .of ((lstOf S1 d).map List.reverse) S1
theorem nm_listRev {p p2 pos pos2 : Pos} (hg : Gl X "list") (hm : X.mg "list" = none) (hg2 : Gl X "reversed") (hm2 : X.mg "reversed" = none) (hc : X.calm = true) (he : EM X W e m)
    (hs : starEach [e] X.env = (false, eval e X.env) :: starEach [] X.env := by rfl)
    (hs2 : starEach [.Call (.Name "reversed" p2) [e] [] pos2] X.env = (false, eval (.Call (.Name "reversed" p2) [e] [] pos2) X.env) :: starEach [] X.env := by rfl) :
    NM X W (.Call (.Name "list" p) [.Call (.Name "reversed" p2) [e] [] pos2] [] pos) (mListRev m) :=
  pe_imp (pe_listRev hg hm hg2 hm2 hc he hs hs2) fun σ H Q ⟨ρ, e, S, he, R, q⟩ => ⟨ρ, e, S, he, R, (PostN.bind q).mono fun d S1 ρ1 H1 f1 R1 q v r => by
    cases hd : lstOf S1 d with
    | none => rw [hd] at q; exact q.elim
    | some xs =>
      rw [hd] at q
      obtain ⟨a, vs, rfl, hr, rd⟩ := lstOf_rep R1 r hd
      exact ⟨a, vs, rfl, hr, PostN.of_new R1 rd.reverse q⟩⟩
/-- a global that the top has written -/
theorem em_glob {x : Str} {d : D} {v : V} {u : Value} {pos : Pos} (hg : Gl X x) (hm : X.mg x = some u) (r : RelV v u) (rd : ∀ ρ H, RepD X.K ρ H d v) (hd : (x == ("__debug__" : Str)) = false := by decide) : EM X W (.Name x pos) (mC d) := em_c (pe_glob hg hm r hd) rd
end
/-! ### a def of the hook -/
section
variable {P : Program} {w : World} {K : PySem.W.Frag} {mg : Str → Option Value} {base : Heap}
theorem fn_mD {x qual : Str} {params : Arguments} {body : List Stmt} {scope : Scope} {f : Addr} {fd : FuncData} {N ps : List Str} {k : Nat} {b : MS} (F : FunD K x qual params body scope [] [] f fd) (S : FnScope N ps scope)
    (hbody : ∀ (A : Around) (outer : List PySem.Env) (s : Shared) (H : Hp) (E : XK), Room k (A.deeper (envOfC qual scope s.heap.objs.size f fd.code)) →
      BM (cxOf (L2.CX P w) P w K mg base N qual scope f fd.code A outer s H E) (fun c d _ H => E c d H) body b) : FnM P w K mg base (k + 1) f fd ps (runF N.length b) := by
  obtain ⟨oc, od, dV, kV, doc, pm, an, cdv, ct, osl, rfl, lk, hcd, _, _⟩ := F.ex
  refine fn_of lk hcd S (fun vs H Q E h => spM_len h) (fun A outer s H vs Q E hr h => ⟨_, hbody A outer s H E hr, ?_⟩)
  obtain ⟨ρ, ds, S, hl, r, R, q⟩ := h
  refine ⟨ρ, _, S, env_start r, R, ?_⟩
  show PostS K mg _ ρ H _ _
  unfold runF at q
  split at q
  · rename_i d e' S' hb
    rw [hb]
    exact fun ρ' H' v f R' r => q ρ' H' f R' v r
  · rename_i e' S' hb
    rw [hb]
    exact fun ρ' H' σ' f R' _ => q ρ' H' f R' _ .non
  · rename_i c e' S' hb
    rw [hb]
    exact fun ρ' H' σ' C f R' _ => q ρ' H' C f R'
  · exact q.elim
variable {N : List Str} {qual : Str} {scope : Scope} {f : Addr} {cd : Value} {A : Around} {outer : List PySem.Env} {s : Shared} {H : Hp} {E : XK}
theorem tk0 {X : Cx} : Takes X W0 := fun _ _ ⟨_, _, _, _, _, _, _, _, _, _, _, _, _, _, _, _, w⟩ => w.elim
theorem takes_cx : Takes (cxOf (L2.CX P w) P w K mg base N qual scope f cd A outer s H E) (fun cls d _ H' => E cls d H') := takes_of rfl rfl rfl (E₁ := fun e' s'' => L2.CX P w outer H s E e' s'') rfl
theorem owns_cx : PassesOwn (model P w) (cxOf (L2.CX P w) P w K mg base N qual scope f cd A outer s H E).A (cxOf (L2.CX P w) P w K mg base N qual scope f cd A outer s H E).env (cxOf (L2.CX P w) P w K mg base N qual scope f cd A outer s H E).xe :=
  passes_of (X := cxOf (L2.CX P w) P w K mg base N qual scope f cd A outer s H E) (K := fun e s'' => L2.CX P w outer H s E e s'') (E₁ := fun e' s'' => L2.CX P w outer H s E e' s'') rfl
theorem fn_bad {n : Nat} {ps : List Str} {fd : FuncData} (k : Nat) : FnM P w K mg base k f fd ps (fun _ _ => .bad) :=
  ⟨fun _ _ _ _ h => spM_len h, fun _ _ _ _ _ _ _ _ _ _ _ _ _ ⟨_, _, _, _, _, _, q⟩ => q.elim⟩
end
end M


set_option Elab.async false
set_option linter.all false
set_option maxRecDepth 100000
set_option maxHeartbeats 4000000
namespace M
open PySem PySem.Spec PyProof.Rows L2 RZ
variable [Tabs]
/-! ### range with a step, list(range) -/
theorem jok_rngC {K : PySem.W.Frag} {ρ : Rh} {H : Hp} (lo c : Int) (n : Nat) : JOk K ⟨rngC lo c n, []⟩ (Itc lo c n) ρ H :=
  jok_at (fun _ => True) walk_rangeC (by simp [rngC]) (fun _ _ _ _ _ _ => trivial) fun ρ' H' S' i d x H'' f R' ok hd y => by
    obtain ⟨rfl, rfl⟩ := y
    have hi : i < n := by have := (List.getElem?_eq_some_iff.mp hd).1; simpa [rngC] using this
    simp only [rngC, List.getElem?_map, List.getElem?_range hi, Option.map_some, Option.some.injEq] at hd
    subst hd
    exact ⟨rfl, .int _⟩
def rgOk (i j c : Int) : Bool := decide (c ≠ 0 ∧ c.natAbs < 1073741824 ∧ Builtin.Range.small i j c = true ∧ 0 ≤ Builtin.Range.rangeSize i j c)
def srcR3 : List D → Store → Option Src
  | [.int i, .int j, .int c], _ => if rgOk i j c then some ⟨rngC i c (Builtin.Range.rangeSize i j c).toNat, []⟩ else none
  | _, _ => none
theorem reps3 {K : PySem.W.Frag} {ρ : Rh} {H : Hp} {d e f : D} {vs : List V} (h : RepDs K ρ H [d, e, f] vs) : ∃ v w u, vs = [v, w, u] ∧ RepD K ρ H d v ∧ RepD K ρ H e w ∧ RepD K ρ H f u := by
  cases h with
  | cons a h => cases h with
    | cons b h => cases h with
      | cons c h => cases h; exact ⟨_, _, _, rfl, a, b, c⟩
section
variable {X : Cx} {W : WX} {tg a b c e : Expr} {m : MA} {ma mb : ME} {p pos : Pos}
theorem im_range3 (hg : Gl X "range") (hm : X.mg "range" = none) (ha : AM X W [a, b, c] m) (hs : starEach [a, b, c] X.env = (false, eval a X.env) :: starEach [b, c] X.env := by rfl) (hpl : (backTo pos (starEach [b, c] X.env)).any (·.1) = false := by rfl) : IM X W tg (.Call (.Name "range" p) [a, b, c] [] pos) (mSrcA srcR3 m) :=
  pi_imp (pi_range3 hg hm ha hs hpl) fun σ H R' h => tA_src (fun ρ H ds vs S src R r hk q => by
    unfold srcR3 at hk
    split at hk
    · rename_i i j k
      split at hk
      · rename_i hj
        cases hk
        obtain ⟨v, w, u, rfl, r1, r2, r3⟩ := reps3 r
        cases r1
        cases r2
        cases r3
        unfold rgOk at hj
        simp only [decide_eq_true_eq] at hj
        exact ⟨i, j, k, _, rfl, ⟨hj.1, hj.2.1, hj.2.2.1, (Int.toNat_of_nonneg hj.2.2.2).symm⟩, q _ (jok_rngC i k _)⟩
      · cases hk
    · cases hk) h
theorem src_up {i j c : Int} {S : Store} (c0 : 0 < c) (c1 : c < 100000) (h1 : -100000000 ≤ i) (h2 : i < 100000000) (h3 : -100000000 ≤ j) (h4 : j < 100000000) : srcR3 [.int i, .int j, .int c] S = some ⟨rngC i c ((j - i + c - 1) / c).toNat, []⟩ := by
  have hn : 0 ≤ Builtin.Range.rangeSize i j c ∧ Builtin.Range.rangeSize i j c ≤ 200000000 ∧ (Builtin.Range.rangeSize i j c).toNat = ((j - i + c - 1) / c).toNat := by
    unfold Builtin.Range.rangeSize
    rw [if_pos c0]
    by_cases hij : i < j
    · rw [if_pos hij]
      have e : j - i + c - 1 = (j - i - 1) + c := by omega
      have e2 : (j - i - 1 + c) / c = (j - i - 1) / c + 1 := by
        rw [Int.add_ediv_of_dvd_right (Int.dvd_refl c), Int.ediv_self (by omega)]
      have e3 : 0 ≤ (j - i - 1) / c := Int.ediv_nonneg (by omega) (by omega)
      have e4 : (j - i - 1) / c ≤ j - i - 1 := Int.ediv_le_self _ (by omega)
      rw [e, e2]
      omega
    · rw [if_neg hij]
      have e : (j - i + c - 1) / c ≤ 0 := by
        have : (j - i + c - 1) / c < 1 := Int.ediv_lt_of_lt_mul c0 (by omega)
        omega
      omega
  have hs : Builtin.Range.small i j c = true := by
    unfold Builtin.Range.small
    generalize Builtin.Range.rangeSize i j c = n at hn
    rw [if_pos c0]
    simp only [Builtin.Range.rangeFitsLong, Bool.and_eq_true, Bool.or_eq_true, decide_eq_true_eq]
    omega
  have e : srcR3 [.int i, .int j, .int c] S = if rgOk i j c then some ⟨rngC i c (Builtin.Range.rangeSize i j c).toNat, []⟩ else none := rfl
  rw [e, if_pos, hn.2.2]
  exact decide_eq_true ⟨by omega, by omega, hs, hn.1⟩
theorem src_down {i j : Int} {S : Store} (h1 : -100000000 ≤ i) (h2 : i < 100000000) (h3 : -100000000 ≤ j) (h4 : j < 100000000) : srcR3 [.int i, .int j, .int (-1)] S = some ⟨rngC i (-1) (i - j).toNat, []⟩ := by
  have k := RgC.neg (i := i) (j := j) (by omega) (by omega) (by omega) (by omega)
  have e : srcR3 [.int i, .int j, .int (-1)] S = if rgOk i j (-1) then some ⟨rngC i (-1) (Builtin.Range.rangeSize i j (-1)).toNat, []⟩ else none := rfl
  rw [e, k.2.2.2, if_pos]
  · rfl
  · exact decide_eq_true ⟨k.1, k.2.1, k.2.2.1, by rw [k.2.2.2]; omega⟩
/-! list(range(n)) -/
def nRg1 : List D → Store → Option (List D)
  | [.int n], _ => if 0 ≤ n ∧ n ≤ 16777216 then some (rng 0 n.toNat) else none
  | _, _ => none
theorem rng_rep {K : PySem.W.Frag} {ρ : Rh} {H : Hp} (n : Int) : RepDs K ρ H (rng 0 n.toNat) (rgV 0 n) := by
  have e : rng 0 n.toNat = ((List.range n.toNat).map fun (i : Nat) => (0 : Int) + (i : Int)).map D.int := by rw [rng, List.map_map]; rfl
  have e2 : rgV 0 n = ((List.range n.toNat).map fun (i : Nat) => (0 : Int) + (i : Int)).map V.int := by rw [rgV, List.map_map, Int.sub_zero]; rfl
  rw [e, e2]
  exact .of_ints _
theorem nm_listRg {p2 pos2 : Pos} (hg : Gl X "list") (hm : X.mg "list" = none) (hg2 : Gl X "range") (hm2 : X.mg "range" = none) (hc : X.calm = true) (ha : EM X W a ma)
    (na : starEach [a] X.env = (false, eval a X.env) :: starEach [] X.env := by rfl)
    (nb : starEach [.Call (.Name "range" p2) [a] [] pos2] X.env = (false, eval (.Call (.Name "range" p2) [a] [] pos2) X.env) :: starEach [] X.env := by rfl) :
    NM X W (.Call (.Name "list" p) [.Call (.Name "range" p2) [a] [] pos2] [] pos) (mCallN nRg1 (mCons ma mNil)) :=
  pe_imp (pe_listRg hc hg hm (prg_1 hg2 hm2 ha na) nb) fun σ H Q ⟨ρ, e, S, he, R, q⟩ => ⟨ρ, e, S, he, R, by
    have q := PostN.bind q
    unfold mCons at q
    refine (Post.bind q).mono fun d S1 ρ1 H1 f1 R1 q v r => ?_
    have q : PostN X.K X.mg W ρ1 H1 σ Q (Res.of (nRg1 [d] S1) S1) := q ρ1 H1 (Fr.refl _ _) R1
    cases d with
    | int n =>
      by_cases hn : 0 ≤ n ∧ n ≤ 16777216
      · have e1 : nRg1 [.int n] S1 = some (rng 0 n.toNat) := if_pos hn
        rw [e1] at q
        cases r
        exact ⟨n, rfl, RgOk.of_le (by omega) hn.2 (by omega) hn.1, PostN.of_new R1 (rng_rep n) q⟩
      · have e1 : nRg1 [.int n] S1 = none := if_neg hn
        rw [e1] at q; exact q.elim
    | _ => exact q.elim⟩
/-- two lists, one behind the other: a new list -/
def mCat (a b : ME) : MA := fun e S => (a e S).bind fun x S1 => (b e S1).bind fun y S2 => .of (match lstOf' S2 x, lstOf' S2 y with
  | some xs, some ys => if xs.length + ys.length ≤ sizeLine then some (xs ++ ys) else none
  | _, _ => none) S2
theorem nm_cat (ha : EM X W a ma) (hb : EM X W b mb) : NM X W (.BinOp a .Add b pos) (mCat ma mb) :=
  pe_imp (pe_op op_cat ha hb) fun σ H Q ⟨ρ, e, S, he, R, q⟩ => ⟨ρ, e, S, he, R, (PostN.bind q).mono fun x S1 ρ1 H1 f1 R1 q v rv => ⟨ρ1, e, S1, he.fr R.free f1, R1, (PostN.bind q).mono fun y S2 ρ2 H2 f2 R2 q w rw' => by
    have rv2 := RepD.fr R1.free f2 _ _ rv
    cases h1 : lstOf' S2 x with
    | none => rw [h1] at q; exact q.elim
    | some xs =>
      cases h2 : lstOf' S2 y with
      | none => rw [h1, h2] at q; exact q.elim
      | some ys =>
        rw [h1, h2] at q
        dsimp only at q
        by_cases hz : xs.length + ys.length ≤ sizeLine
        · rw [if_pos hz] at q
          obtain ⟨a, vs, rfl, hA, ra⟩ := lstOf'_rep R2 rv2 h1
          obtain ⟨b, ws, rfl, hB, rb⟩ := lstOf'_rep R2 rw' h2
          exact ⟨a, b, vs, ws, rfl, rfl, hA, hB, by rw [← ra.length, ← rb.length]; exact hz, PostN.of_new R2 (ra.append rb) q⟩
        · rw [if_neg hz] at q; exact q.elim⟩⟩
end
end M


set_option Elab.async false
set_option linter.all false
set_option maxRecDepth 100000
set_option maxHeartbeats 4000000
namespace M
open PySem PySem.Spec PyProof.Rows L2 RZ
/-! ### insertion sort -/
section
variable {α : Type} (lt : α → α → Bool)
def insB (x : α) : List α → List α
  | [] => [x]
  | y :: ys => if lt y x = true then y :: insB x ys else x :: y :: ys
def isort : List α → List α
  | [] => []
  | x :: xs => insB lt x (isort xs)
variable {lt}
theorem insB_perm (x : α) : ∀ l : List α, (insB lt x l).Perm (x :: l)
  | [] => List.Perm.refl _
  | y :: ys => by
    unfold insB
    split
    · exact ((insB_perm x ys).cons y).trans (List.Perm.swap x y ys)
    · exact List.Perm.refl _
theorem isort_perm : ∀ l : List α, (isort lt l).Perm l
  | [] => List.Perm.refl _
  | x :: xs => (insB_perm x _).trans ((isort_perm xs).cons x)
theorem insB_srtd (O : SrtO.Swo lt) (x : α) : ∀ l : List α, SrtO.Srtd lt l → SrtO.Srtd lt (insB lt x l)
  | [], _ => List.pairwise_singleton _ _
  | y :: ys, h => by
    have h1 := List.pairwise_cons.mp h
    unfold insB
    split
    · rename_i hy
      refine List.pairwise_cons.mpr ⟨fun z hz => ?_, insB_srtd O x ys h1.2⟩
      rcases List.mem_cons.mp ((insB_perm x ys).mem_iff.mp hz) with rfl | hz
      · exact O.asym _ _ hy
      · exact h1.1 z hz
    · rename_i hy
      have hy : lt y x = false := by simpa using hy
      refine List.pairwise_cons.mpr ⟨fun z hz => ?_, h⟩
      rcases List.mem_cons.mp hz with rfl | hz
      · exact hy
      · exact O.tr x y z hy (h1.1 z hz)
theorem isort_srtd (O : SrtO.Swo lt) : ∀ l : List α, SrtO.Srtd lt (isort lt l)
  | [] => List.Pairwise.nil
  | x :: xs => insB_srtd O x _ (isort_srtd O xs)
theorem srt_uniq (O : SrtO.Swo lt) (ha : ∀ x y, lt x y = false → lt y x = false → x = y) : ∀ {l m : List α}, SrtO.Srtd lt l → SrtO.Srtd lt m → l.Perm m → l = m
  | [], m, _, _, h => (List.Perm.eq_nil h.symm).symm
  | x :: l, [], _, _, h => absurd h.length_eq (by simp)
  | x :: l, y :: m, hl, hm, h => by
    have h1 : lt x y = false := by
      rcases List.mem_cons.mp (h.mem_iff.mp (List.mem_cons_self (a := x) (l := l))) with e | hx
      · rw [e]; exact O.refl y
      · exact SrtO.srtd_head hm x hx
    have h2 : lt y x = false := by
      rcases List.mem_cons.mp (h.mem_iff.mpr (List.mem_cons_self (a := y) (l := m))) with e | hy
      · rw [e]; exact O.refl x
      · exact SrtO.srtd_head hl y hy
    have e : x = y := ha _ _ h1 h2
    subst e
    rw [srt_uniq O ha (List.pairwise_cons.mp hl).2 (List.pairwise_cons.mp hm).2 h.cons_inv]
end
abbrev lexB := SrtO.lexB
theorem lex_swo : SrtO.Swo lexB := by
  refine ⟨fun x y h => ?_, fun x y z h1 h2 => ?_⟩
  · have a := SrtO.lexB_iff.mp h
    refine SrtO.lexB_no.mpr ?_
    omega
  · have a := SrtO.lexB_no.mp h1
    have b := SrtO.lexB_no.mp h2
    refine SrtO.lexB_no.mpr ?_
    omega
theorem lex_anti (x y : Int × Int) (h1 : lexB x y = false) (h2 : lexB y x = false) : x = y := by
  have a := SrtO.lexB_no.mp h1
  have b := SrtO.lexB_no.mp h2
  exact Prod.ext (by omega) (by omega)
def ltI (x y : Int) : Bool := decide (x < y)
theorem ltI_swo : SrtO.Swo ltI := by
  refine ⟨fun x y h => ?_, fun x y z h1 h2 => ?_⟩
  · simp only [ltI, decide_eq_true_eq, decide_eq_false_iff_not] at *; omega
  · simp only [ltI, decide_eq_false_iff_not] at *; omega
theorem ltI_anti (x y : Int) (h1 : ltI x y = false) (h2 : ltI y x = false) : x = y := by
  simp only [ltI, decide_eq_false_iff_not] at *; omega
/-! ### sorted -/
def pD (p : Int × Int) : D := .tup [.int p.1, .int p.2]
def pairsOf : List D → Option (List (Int × Int))
  | [] => some []
  | .tup [.int i, .int j] :: ds => (pairsOf ds).map ((i, j) :: ·)
  | _ => none
theorem pairsOf_eq : ∀ {ds : List D} {ps : List (Int × Int)}, pairsOf ds = some ps → ds = ps.map pD := by
  intro ds
  induction ds with
  | nil => intro ps h; simp only [pairsOf, Option.some.injEq] at h; subst h; rfl
  | cons d ds ih =>
    intro ps h
    unfold pairsOf at h
    split at h
    · rename_i heq; cases heq
    · rename_i heq
      cases heq
      cases hp : pairsOf ds with
      | none => rw [hp] at h; cases h
      | some qs =>
        rw [hp] at h
        simp only [Option.map_some, Option.some.injEq] at h
        subst h
        rw [ih hp]; rfl
    · cases h
theorem pairsOf_pD : ∀ ps : List (Int × Int), pairsOf (ps.map pD) = some ps
  | [] => rfl
  | p :: ps => by
    show (pairsOf (ps.map pD)).map _ = _
    rw [pairsOf_pD ps]; rfl
variable [Tabs]
def nSorted : List D → Store → Option (List D)
  | [d], S => (lstOf S d).bind fun xs => match pairsOf xs with
    | some ps => some ((isort lexB ps).map pD)
    | none => (intsOf xs).map fun ns => (isort ltI ns).map .int
  | _, _ => none
section
variable {X : Cx}
theorem rep_pair {K : PySem.W.Frag} {ρ : Rh} {H : Hp} {p : Int × Int} {v : V} (h : RepD K ρ H (pD p) v) : ∃ t, v = .ref t ∧ SqT K H t [.int p.1, .int p.2] := by
  cases h with
  | tup hs hd =>
    cases hd with
    | cons a hd => cases hd with
      | cons b hd => cases hd; cases a; cases b; exact ⟨_, rfl, hs⟩
theorem reps_mem {K : PySem.W.Frag} {ρ : Rh} {H : Hp} : ∀ {ps : List (Int × Int)} {vs : List V}, RepDs K ρ H (ps.map pD) vs → ∀ v ∈ vs, ∃ p, p ∈ ps ∧ RepD K ρ H (pD p) v
  | [], _, h, v, hv => by cases h; cases hv
  | p :: ps, _, h, v, hv => by
    cases h with
    | cons a h =>
      rcases List.mem_cons.mp hv with rfl | hv
      · exact ⟨p, by simp, a⟩
      · obtain ⟨q, hq, r⟩ := reps_mem h v hv
        exact ⟨q, List.mem_cons_of_mem _ hq, r⟩
theorem isPair_uniq {h : Heap} {v : Value} {x y x' y' : Int} (a : Srt.IsPair h v x y) (b : Srt.IsPair h v x' y') : x = x' ∧ y = y' := by
  obtain ⟨a1, o, t, u, n, e, ho, hc, hd⟩ := a
  obtain ⟨a2, o', t', u', n', e', ho', hc', hd'⟩ := b
  rw [e] at e'
  cases e'
  rw [ho] at ho'
  cases ho'
  rw [hd] at hd'
  injection hd' with q _
  have q := congrArg Array.toList q
  simp at q
  exact ⟨q.1.1, q.2.1⟩
open Classical in
theorem cn_sorted : CallN X (.builtin "sorted") nSorted := fun pins s σ ρ H S ds vs us Q I R r rv ⟨zs, e, q⟩ => by
  match ds, r, e with
  | [], _, e => cases e
  | _ :: _ :: _, _, e => cases e
  | [d], r, e =>
    simp only [nSorted] at e
    obtain ⟨v, rfl, r1⟩ := reps1 r
    cases hl : lstOf S d with
    | none => rw [hl] at e; cases e
    | some xs =>
      rw [hl] at e
      simp only [Option.bind_some] at e
      obtain ⟨a, ws, rfl, hq, rx⟩ := lstOf_rep R r1 hl
      cases hp : pairsOf xs with
      | some ps =>
        rw [hp] at e
        dsimp only at e
        cases e
        have hx := pairsOf_eq hp
        subst hx
        obtain ⟨its, rvs, hL, hz⟩ := I.list hq
        obtain ⟨u, rfl, ru⟩ := vals1 rv
        obtain rfl : u = Value.ref a := ru
        have href : ∀ x ∈ ws, ∃ t, x = V.ref t := fun x m => by
          obtain ⟨p, _, rp⟩ := reps_mem rx x m
          obtain ⟨t, rfl, _⟩ := rep_pair rp
          exact ⟨t, rfl⟩
        obtain ⟨e1, e2⟩ := refs_back rvs href
        have hpair : ∀ v ∈ its, ∃ p, p ∈ ps ∧ RepD X.K ρ H (pD p) (backV v) ∧ Srt.IsPair s.heap v p.1 p.2 := fun v hv => by
          obtain ⟨t, rfl⟩ := e2 v hv
          have hm : V.ref t ∈ ws := by rw [e1]; exact List.mem_map.mpr ⟨_, hv, rfl⟩
          obtain ⟨p, hp, rp⟩ := reps_mem rx _ hm
          obtain ⟨t', et, hT⟩ := rep_pair rp
          cases et
          obtain ⟨its2, r2, pt, _⟩ := I.tuple hT
          obtain ⟨u1, u2, rfl, ri, rj⟩ := vals2 r2
          obtain ⟨t1, rfl⟩ := ri
          obtain ⟨t2, rfl⟩ := rj
          obtain ⟨o, ho, hc, n, hd⟩ := (show s.heap.IsTuple t _ from pt)
          exact ⟨p, hp, rp, t, o, t1, t2, n, rfl, ho, hc, hd⟩
        let k : Value → Int × Int := fun v => if h : ∃ p : Int × Int, Srt.IsPair s.heap v p.1 p.2 then Classical.choose h else (0, 0)
        have hk : ∀ v p, Srt.IsPair s.heap v p.1 p.2 → k v = p := fun v p hv => by
          have h : ∃ p : Int × Int, Srt.IsPair s.heap v p.1 p.2 := ⟨p, hv⟩
          have e3 : k v = Classical.choose h := dif_pos h
          rw [e3]
          have := isPair_uniq (Classical.choose_spec h) hv
          exact Prod.ext this.1 this.2
        have hks : its.map k = ps := by
          have : ∀ {its : List Value} {ws : List V} {ps : List (Int × Int)}, Vals ws its → RepDs X.K ρ H (ps.map pD) ws → its.map k = ps := by
            intro its ws ps h1
            induction h1 generalizing ps with
            | nil => intro h2; cases ps with
              | nil => rfl
              | cons => cases h2
            | cons a b ih => intro h2; cases ps with
              | nil => cases h2
              | cons p ps =>
                cases h2 with
                | cons c d =>
                  rw [List.map_cons, ih d]
                  congr 1
                  obtain ⟨t, rfl, hT⟩ := rep_pair c
                  rename_i u _ _
                  obtain rfl : u = Value.ref t := a
                  obtain ⟨its2, r2, pt, _⟩ := I.tuple hT
                  obtain ⟨u1, u2, rfl, ri, rj⟩ := vals2 r2
                  obtain ⟨t1, rfl⟩ := ri
                  obtain ⟨t2, rfl⟩ := rj
                  obtain ⟨o, ho, hc, n, hd⟩ := (show s.heap.IsTuple t _ from pt)
                  exact hk _ p ⟨t, o, t1, t2, n, rfl, ho, hc, hd⟩
          exact this rvs rx
        refine SrtO.sorted_pairsO (k := k) hL.isList (by rw [← rvs.length]; exact hz) (fun v hv => ?_) fun h' dd out h1 h2 kp hd hn => ?_
        · obtain ⟨p, _, _, hP⟩ := hpair v hv
          rw [hk v p hP]; exact hP
        · have h3 : ∀ u ∈ out, ∃ a, u = Value.ref a := fun u hu => e2 u (h2.perm.mem_iff.mp hu)
          obtain ⟨n, hn⟩ := hn
          have hsort : out.map k = isort lexB ps := by
            refine srt_uniq lex_swo lex_anti (SrtO.srtd_map (lt := lexB) h1) (isort_srtd lex_swo ps) ?_
            rw [← hks]
            exact (h2.perm.map k).trans (isort_perm _).symm
          have hrep : RepDs X.K ρ H ((isort lexB ps).map pD) (out.map backV) := by
            rw [← hsort]
            have : ∀ l : List Value, (∀ v ∈ l, v ∈ its) → RepDs X.K ρ H ((l.map k).map pD) (l.map backV) := by
              intro l
              induction l with
              | nil => intro _; exact .nil
              | cons v l ih =>
                intro hl
                obtain ⟨p, _, rp, hP⟩ := hpair v (hl v (by simp))
                refine .cons ?_ (ih fun w hw => hl w (List.mem_cons_of_mem _ hw))
                rw [hk v p hP]; exact rp
            exact this out fun v hv => h2.perm.mem_iff.mp hv
          have hlen : (out.map backV).length ≤ sizeLine := by rw [List.length_map, h2.perm.length_eq, ← rvs.length]; exact hz
          exact ⟨.ref dd, upd H dd (.lst (out.map backV)), I.laid (t' := s.toks) kp hd ⟨hlen, out, n, vals_back h3, hn⟩, rfl, q _ hrep _ (I.hok.fresh hd)⟩
      | none =>
        rw [hp] at e
        dsimp only at e
        cases hi : intsOf xs with
        | none => rw [hi] at e; cases e
        | some ns =>
          rw [hi] at e
          cases e
          have hx := intsOf_eq hi
          subst hx
          have hw := rx.ints
          subst hw
          refine cr_sortedI pins s σ H _ us Q I rv ⟨a, ns, rfl, hq, fun ns' p h1 h2 hp => ?_⟩
          have hs : ns' = isort ltI ns := by
            refine srt_uniq ltI_swo ltI_anti ?_ (isort_srtd ltI_swo ns) (h1.trans (isort_perm _).symm)
            exact h2.imp fun h => by simp only [ltI, decide_eq_false_iff_not]; omega
          subst hs
          exact q _ (.of_ints _) p hp
/-! ### a star in a display -/
variable {W : WX} {e : Expr} {es : List Expr} {m : MA} {me : ME} {p : Pos}
def mStar (me : ME) (m : MA) : MA := fun e S => (me e S).bind fun d S1 => match seqOf S1 d with
  | some xs => (m e S1).bind fun ys S2 => .ok (xs ++ ys) S2
  | none => .bad
theorem am_star (he : EM X W e me) (hr : AM X W es m) (hs : starEach (.Starred e p :: es) X.env = (true, eval e X.env) :: starEach es X.env := by rfl) : AM X W (.Starred e p :: es) (mStar me m) :=
  pa_imp (StX.pa_star he hr hs) fun σ H Q ⟨ρ, e, S, he, R, q⟩ => ⟨ρ, e, S, he, R, (Post.bind q).mono fun d S1 ρ1 H1 f1 R1 q v rv => by
    cases hx : seqOf S1 d with
    | none => rw [hx] at q; exact q.elim
    | some xs =>
      rw [hx] at q
      dsimp only at q
      obtain ⟨a, vs, rfl, hq, rx⟩ := seqOf_rep R1 rv hx
      refine ⟨a, vs, rfl, hq.symm, ρ1, e, S1, he.fr R.free f1, R1, (Post.bind q).mono fun ys S2 ρ2 H2 f2 R2 q ws rw' => ?_⟩
      exact q ρ2 H2 (Fr.refl _ _) R2 _ ((RepDs.fr R1.free f2 _ _ rx).append rw')⟩
/-- a, b, c = x, y, z -/
def sPar3 (i j l : Nat) (m : MA) : MS := fun e S => (m e S).st e fun ds S1 => match ds with
  | [d1, d2, d3] => some (.nx, ((e.set i (some d1)).set j (some d2)).set l (some d3), S1)
  | _ => none
theorem sm_par3 {i j l : Nat} {x y z : Str} {a b c : Expr} {m : MA} {px py pz pt pos : Pos} {kt k2 pt2} (hc : X.calm = true) (hN : X.N.Nodup) (hi : X.N[i]? = some x) (hj : X.N[j]? = some y) (hl : X.N[l]? = some z) (hij : i ≠ j) (hil : i ≠ l) (hjl : j ≠ l)
    (hx : X.env.scope.names.lookup x = some .local) (hy : X.env.scope.names.lookup y = some .local) (hz : X.env.scope.names.lookup z = some .local) (ha : AM X W [a, b, c] m)
    (hw : swappedStores [.Tuple [.Name x px, .Name y py, .Name z pz] kt pt] (.Tuple [a, b, c] k2 pt2) X.env = pure (some [x, y, z]))
    (hs : swapsWithSole [.Tuple [.Name x px, .Name y py, .Name z pz] kt pt] (.Tuple [a, b, c] k2 pt2) pos.line X.env = pure false := by rfl) :
    SM X W (.Assign [.Tuple [.Name x px, .Name y py, .Name z pz] kt pt] (.Tuple [a, b, c] k2 pt2) pos) (sPar3 i j l m) :=
  ps_imp (ps_par3 hc hN hi hj hl hij hil hjl hx hy hz ha hw hs) fun Dn σ H ⟨ρ, e, S, he, R, q⟩ => ⟨ρ, e, S, he, R, (PostS.st R he q).mono fun ds S1 ρ1 H1 f1 R1 q vs r => by
    match ds, r, q with
    | [d1, d2, d3], r, q =>
      obtain ⟨v1, v2, v3, rfl, r1, r2, r3⟩ := reps3 r
      exact ⟨v1, v2, v3, rfl, q ρ1 H1 _ (Fr.refl _ _) R1 (((((he.fr R.free f1).set i r1).set j r2)).set l r3)⟩
    | [], _, q => exact q.elim
    | [_], _, q => exact q.elim
    | [_, _], _, q => exact q.elim
    | _ :: _ :: _ :: _ :: _, _, q => exact q.elim⟩
end
end M


set_option Elab.async false
set_option linter.all false
set_option maxRecDepth 100000
set_option maxHeartbeats 4000000
/-! enumerate over tuples and lists -/
namespace M
open PySem PySem.Spec PyProof.Rows L2 RZ
theorem meets_enumerate_new1 {v : Value} {o : Obj} {H : Heap → Prop} (B : Begins v o H) :
    Meets (Builtin.«enumerate.__new__» ⟨[.type "enumerate", v], []⟩) (fun _ R s => H s.heap ∧
      R (.ok (.ret (.ref (s.heap.push o).objs.size))) { s with heap := (s.heap.push o).push { cls := .type "enumerate", data := .fields #[.none, .bool false, .ref s.heap.objs.size, rawInt 0, .none, .none] } }) :=
  .of_wp fun prog w A R s h => by
    obtain ⟨hp, g, d, tk, os⟩ := s; obtain ⟨h1, h⟩ := h
    have hsub := sub_enumerate
    have q1 : ∀ {A' : Around} {E : Value → Shared → Prop} {Q : Value → Shared → Prop}, Q (.ref hp.objs.size) ⟨hp.push o, g, d, tk, os⟩ → wpAny (model prog w) A' (pyIter v) Q E ⟨hp, g, d, tk, os⟩ :=
      fun q => B.iter prog w _ _ ⟨hp, g, d, tk, os⟩ _ h1 q
    wp_walk using q1
    refine wpAny_stack_any fun st => wpAny_pure ?_
    split
    · rename_i c _ _ _ _ _
      cases (c == Value.type "enumerate")
      · wp_walk using q1
        exact ⟨_, rfl, h⟩
      · wp_walk using q1
        exact ⟨_, rfl, h⟩
    · wp_walk using q1
      exact ⟨_, rfl, h⟩
section
variable {prog : Program} {w : World} {A : Around} {E : Value → Shared → Prop} {s : Shared}
theorem enum_begins1 {v : Value} {o : Obj} {H : Heap → Prop} {Q : Value → Shared → Prop} (B : Begins v o H) (h1 : H s.heap)
    (h : ∀ h', IsEnum h' (s.heap.objs.size + 1) s.heap.objs.size 0 .none → h'.get? s.heap.objs.size = some o → h'.objs.size = s.heap.objs.size + 2 →
      (∀ b o, s.heap.get? b = some o → h'.get? b = some o) → Q (.ref (s.heap.objs.size + 1)) { s with heap := h' }) :
    wpAny (model prog w) A (call (.type "enumerate") [v]) Q E s := by
  refine callType_new F.called_enumerate (by decide) (F.typeCall_enumerate_1 _) (F.newCall_enumerate_1 _) (fun obj => F.args_object_init_2 obj _) F.entry_enumerate_new
    (meets_enumerate_new1 B) ⟨h1, ?_⟩
  have hz : (s.heap.push o).objs.size = s.heap.objs.size + 1 := Heap.size_push ..
  show _ ∧ _
  rw [hz]
  have he : IsEnum ((s.heap.push o).push { cls := .type "enumerate", data := .fields #[.none, .bool false, .ref s.heap.objs.size, rawInt 0, .none, .none] }) (s.heap.objs.size + 1) s.heap.objs.size 0 .none := by
    have := Heap.get?_push_size (s.heap.push o) (o := { cls := .type "enumerate", data := .fields #[.none, .bool false, .ref s.heap.objs.size, rawInt 0, .none, .none] }) rfl
    rw [hz] at this; exact this
  refine ⟨⟨_, he, rfl⟩, h _ he (Heap.get?_push_of_some _ (Heap.get?_push_size _ B.free)) (by rw [Heap.size_push, hz]) fun b o x => Heap.get?_push_of_some _ (Heap.get?_push_of_some _ x)⟩
theorem pyNext_enum_endT {e it l : Addr} {i : Nat} {k : Int} {items : Array Value} {old : Value} {Q : Option Value → Shared → Prop} (hh : A.handled = none)
    (he : IsEnum s.heap e it k old) (hit : s.heap.IsTupleIter it l i) (hl : s.heap.IsTuple l items) (hx : items[i]? = none)
    (hQ : ∀ h', Heap.ExtBut it s.heap h' → Q none { s with heap := h' }) : wpAny (model prog w) A (pyNext (.ref e)) Q E s := by
  have hT : s.TypeIs (.ref e) "enumerate" := ⟨_, he, rfl⟩
  unfold pyNext
  refine wpAny_bind (wpAny_attempt (wpAny_callSpecial?_slot (name := Str.ofString "__next__") hT F.slot_enumerate_next
    (wpAny_call_entry F.slot_enumerate_next hT F.entry_enumerate_next ?_ (F.args_enumerate_next_1 _))))
  show wpAny _ _ (field (.ref e) 2 >>= _) _ _ _
  refine wpAny_bind (wpAny_field he rfl (x := .ref it) rfl ?_)
  refine wpAny_bind (wpAny_nextOf_tuple_end hh hit hl hx fun h' x he' hx' => ?_)
  obtain ⟨o, ho, hc⟩ := hx'
  refine wpAny_bind (wpAny_isInstance (T := "StopIteration") (b := true) ⟨o, ho, hc⟩ isSubtype_stop ?_)
  exact wpAny_pure (hQ _ he')
end
/-- the tuple at a, each item in a new pair -/
def IteT (K : PySem.W.Frag) (a : Addr) : It :=
  ⟨fun i H => ∃ (xs : List V) (x : V), SqT K H a xs ∧ xs[i]? = some x, fun i H v H' => ∃ T x, v = .ref T ∧ H T = none ∧ H' = upd H T (.tup [.int (i : Nat), x]) ∧ ∀ xs, SqT K H a xs → xs[i]? = some x, fun i H => ∃ xs : List V, SqT K H a xs ∧ xs.length ≤ i⟩
theorem tuple_ne_enum {h : Heap} {e it a : Addr} {i : Int} {old : Value} {its : Array Value} (he : IsEnum h e it i old) (p : h.IsTuple a its) : e ≠ a := by
  rintro rfl
  obtain ⟨o, ho, hc, _⟩ := p
  have := he.symm.trans ho
  cases this
  exact absurd (show Value.type "enumerate" = .type "tuple" from hc) (by decide)
theorem tuple_ne_iter {h : Heap} {it a t : Addr} {i : Nat} {its : Array Value} (hi : h.IsTupleIter it t i) (p : h.IsTuple a its) : a ≠ it := by
  rintro rfl
  obtain ⟨o, ho, hc, _⟩ := p
  obtain ⟨o', ho', hc', _⟩ := hi
  have := ho.symm.trans ho'
  cases this
  rw [hc] at hc'
  exact absurd hc' (by decide)
theorem turn_enumT {P : Program} {w : World} {K : PySem.W.Frag} {elts : List Expr} {kk : Nat} {tpos : Pos} (a e it : Addr) :
    Turn P w K (.Tuple elts kk tpos) (IteT K a) [e, it] e (fun i h => (∃ old, IsEnum h e it ((i : Nat) : Int) old) ∧ h.IsTupleIter it a i ∧ e ≠ it) where
  mem := by simp
  obj := fun i h st b hb => by
    obtain ⟨⟨old, he⟩, ⟨o, ho, hc, hd⟩, _⟩ := st
    have e' : b = e ∨ b = it := by simpa using hb
    rcases e' with z | z
    · rw [z]; exact ⟨_, he, fun v q => nomatch q⟩
    · rw [z]; exact ⟨o, ho, fun v q => by rw [hd] at q; cases q⟩
  keep := fun i h h' st k => let ⟨⟨old, he⟩, hi, hne⟩ := st; ⟨⟨old, k e (by simp) _ he⟩, hi.at fun o q => k it (by simp) o q, hne⟩
  item := by
    intro X hP hw hK hc i pins s σ H E I hf st hg
    subst hP hw hK
    obtain ⟨⟨old, he⟩, hit, hne⟩ := st
    obtain ⟨xs, x, hq, hx⟩ := hg
    obtain ⟨its, rv, p, hz⟩ := I.tuple hq
    obtain ⟨u, hu, ru⟩ := rv.get hx
    have hel : e < s.heap.objs.size := Heap.lt_size he
    have hil : it < s.heap.objs.size := by obtain ⟨_, q, _⟩ := hit; exact Heap.lt_size q
    have hea := tuple_ne_enum he p
    have hai := tuple_ne_iter hit p
    have hlt : i < its.toArray.size := by
      rw [List.size_toArray]
      exact (List.getElem?_eq_some_iff.mp hu).1
    refine wpAny_pyNext_enum_itemD (Draws.tuple (A := X.A.in1) (I.ok.hd hc) it a hai its.toArray) he ⟨hit, p⟩ hlt hne (by simp [hne, hea]) fun y h' tk hy ho st' hT hsz hk => ?_
    have hyu : y = u := by
      have := hy
      rw [List.getElem?_toArray, hu] at this
      exact (Option.some.inj this).symm
    subst hyu
    obtain ⟨hit', _⟩ := st'
    refine ⟨_, rfl, wpAny_letOwnedTupleGo_enum (s := { s with heap := h', toks := tk + 1 }) ho fun h'' he' sb => ?_⟩
    have hT2 : h''.get? s.heap.objs.size = some { cls := .type "tuple", data := .seq #[.int i tk, y] } := (sb.2 _ (Nat.ne_of_gt hel)).trans hT
    have new : ObjOk X.prog X.w (upd H s.heap.objs.size (.tup [.int (i : Nat), x])) h'' s.heap.objs.size (.tup [.int (i : Nat), x]) :=
      ⟨by show 2 ≤ sizeLine; decide, [.int i tk, y], .cons ⟨_, rfl⟩ (.cons ru .nil), ⟨_, hT2, rfl, _, rfl⟩⟩
    have I1 : Inv X pins σ (upd H s.heap.objs.size (.tup [.int (i : Nat), x])) { s with heap := h'', toks := tk + 1 } :=
      I.turnedNew (ch := [e, it]) (fun b ob hb q => (sb.2 b (fun z => hb (by simp [z]))).trans (hk b ob (fun z => hb (by simp [z])) (fun z => hb (by simp [z])) q)) hf (Nat.le_refl _) new
    refine ⟨.ref s.heap.objs.size, _, I1, rfl, ⟨_, x, rfl, I.hok.fresh (Nat.le_refl _), rfl, fun ys hy => by rw [I.tuple_inj hy hq]; exact hx⟩, ⟨⟨y, ?_⟩, hit'.at fun o q => (sb.2 it (Ne.symm hne)).trans q, hne⟩, fun b hb => ?_⟩
    · have e1 : ((i + 1 : Nat) : Int) = (i : Int) + 1 := by omega
      rw [e1]; exact he'
    · have hb' : b < s.heap.objs.size := by
        have e' : b = e ∨ b = it := by simpa using hb
        rcases e' with z | z
        · rw [z]; exact hel
        · rw [z]; exact hil
      rw [upd_ne (Nat.ne_of_lt hb')]
      exact (hf b hb).1
  done := by
    intro X hP hw hK hc i pins s σ H E I hf st hg
    subst hP hw hK
    obtain ⟨⟨old, he⟩, hit, hne⟩ := st
    obtain ⟨xs, hq, hx⟩ := hg
    obtain ⟨its, rv, p, hz⟩ := I.tuple hq
    obtain ⟨f0, f1, f2, f3, f4, f5⟩ := hf it (by simp)
    have hl := rv.length
    exact pyNext_enum_endT (I.ok.hd hc) he hit p (by simp; omega) fun h' eb => ⟨rfl, I.turned (t' := s.toks) (fun b o hb q => eb b o hb q) f0 f1 f3 f4 f5⟩
  self := fun A i s Q E st h => let ⟨⟨_, he⟩, _⟩ := st; wpAny_pyIter_enum he h
def iEnumA (K : PySem.W.Frag) (ta : TA) : TI := fun σ H R => ta σ H fun vs H1 => ∃ a xs, vs = [.ref a] ∧ ((SqL K H1 a xs ∧ R (Ite K a) H1) ∨ (SqT K H1 a xs ∧ R (IteT K a) H1))
theorem pi_enumA {X : Cx} {e : Expr} {ta : TA} {p pos tpos : Pos} {elts : List Expr} {kk : Nat} (hg : Gl X "enumerate") (hm : X.mg "enumerate" = none) (ha : PA X [e] ta) (hs : starEach [e] X.env = [(false, eval e X.env)] := by rfl) :
    PI X (.Tuple elts kk tpos) (.Call (.Name "enumerate" p) [e] [] pos) (iEnumA X.K ta) := by
  refine ⟨fun pins s σ H R I h => ?_⟩
  refine Call_ (ld_blt I hg hm boot_enumerate (PyProof.Rows.callWith_type1 (thn (ha.run pos pins s σ H _ I h) fun us s1 ⟨vs, H1, I1, r1, q1⟩ => ?_) hs rfl))
  obtain ⟨a, xs, ex, q⟩ := q1
  subst ex
  cases r1 with
  | cons r rr =>
    cases rr
    cases r
    have fp : ∀ b ∈ [s1.heap.objs.size + 1, s1.heap.objs.size], FpOk X pins H1 b := fun b hb => by
      have e' : b = s1.heap.objs.size + 1 ∨ b = s1.heap.objs.size := by simpa using hb
      have hle : s1.heap.objs.size ≤ b := by
        rcases e' with z | z
        · rw [z]; exact Nat.le_add_right _ _
        · rw [z]; exact Nat.le_refl _
      exact I1.fpOk hle (I1.hok.fresh hle)
    rcases q with ⟨hq, q⟩ | ⟨hq, q⟩
    · obtain ⟨its, rv, p', hz⟩ := I1.list hq
      refine call_enumerate_list p'.isList fun h' he hit hsz hk => wpAny_pyIter_enum he ?_
      have I2 : Inv X pins σ H1 { s1 with heap := h' } := I1.kept (t' := s1.toks) hk
      exact ⟨s1.heap.objs.size + 1, [s1.heap.objs.size + 1, s1.heap.objs.size], _, _, H1, rfl, I2, turn_enum a (s1.heap.objs.size + 1) s1.heap.objs.size, ⟨⟨.none, he⟩, hit, Nat.succ_ne_self _⟩, fp, q⟩
    · obtain ⟨its, rv, p', hz⟩ := I1.tuple hq
      refine enum_begins1 (begins_tuple a its.toArray) p' fun h' he hit hsz hk => wpAny_pyIter_enum he ?_
      have I2 : Inv X pins σ H1 { s1 with heap := h' } := I1.kept (t' := s1.toks) hk
      exact ⟨s1.heap.objs.size + 1, [s1.heap.objs.size + 1, s1.heap.objs.size], _, _, H1, rfl, I2, turn_enumT a (s1.heap.objs.size + 1) s1.heap.objs.size, ⟨⟨.none, he⟩, ⟨_, hit, rfl, rfl⟩, Nat.succ_ne_self _⟩, fp, q⟩
/-! the mirror -/
def enumD : Nat → List D → List D
  | _, [] => []
  | k, x :: xs => .tup [.int (k : Int), x] :: enumD (k + 1) xs
theorem enumD_length : ∀ (xs : List D) (k : Nat), (enumD k xs).length = xs.length
  | [], _ => rfl
  | _ :: xs, k => by simp only [enumD, List.length_cons, enumD_length xs]
theorem enumD_get : ∀ {xs : List D} {k i : Nat} {d : D}, (enumD k xs)[i]? = some d → ∃ x, xs[i]? = some x ∧ d = .tup [.int ((k + i : Nat) : Int), x]
  | [], _, _, _, h => by simp [enumD] at h
  | x :: xs, k, 0, d, h => by simp [enumD] at h; exact ⟨x, rfl, h.symm⟩
  | x :: xs, k, i + 1, d, h => by
    simp only [enumD, List.getElem?_cons_succ] at h
    obtain ⟨a, h1, h2⟩ := enumD_get h
    refine ⟨a, by simpa using h1, ?_⟩
    rw [h2, show k + 1 + i = k + (i + 1) by omega]
def srcEnum : List D → Store → Option Src
  | [d], S => match d with
    | .tup xs => some ⟨enumD 0 xs, []⟩
    | d => match lstOf S d with
      | some xs => some ⟨enumD 0 xs, watch d xs⟩
      | none => none
  | _, _ => none
variable [Tabs]
theorem jok_enumL {K : PySem.W.Frag} {ρ : Rh} {H : Hp} {S : Store} {a : Addr} {xs : List D} {w1 : List (Nat × List D)} (s1 : Stands K xs w1 a ρ H) : JOk K ⟨enumD 0 xs, w1⟩ (Ite K a) ρ H where
  go := fun ρ' H' S' i d f R' ok hd => by
    obtain ⟨vs, q1, r1⟩ := s1.at_ ρ' H' S' f R' fun p hp => ok p hp
    obtain ⟨x, e1, rfl⟩ := enumD_get hd
    obtain ⟨v, hv, rv⟩ := r1.get e1
    refine ⟨⟨vs, v, q1, hv⟩, fun u H'' yy => ?_⟩
    obtain ⟨T, v', rfl, hT, rfl, y1⟩ := yy
    have e3 := y1 vs q1
    rw [hv] at e3; cases e3
    rw [Nat.zero_add]
    exact ⟨Fr.laid hT, R'.laid hT, .tup (SqT.of upd_same) (RepDs.fr R'.free (Fr.laid hT) _ _ (.cons (.int _) (.cons rv .nil)))⟩
  stop := fun ρ' H' S' f R' ok => by
    obtain ⟨vs, q1, r1⟩ := s1.at_ ρ' H' S' f R' fun p hp => ok p hp
    refine ⟨vs, q1, ?_⟩
    have h1 := r1.length
    show vs.length ≤ (enumD 0 xs).length
    rw [enumD_length]; omega
theorem jok_enumT {K : PySem.W.Frag} {ρ : Rh} {H : Hp} {S : Store} {a : Addr} {xs : List D} {vs : List V} (R : Rel K ρ H S) (q1 : SqT K H a vs) (r1 : RepDs K ρ H xs vs) : JOk K ⟨enumD 0 xs, []⟩ (IteT K a) ρ H where
  go := fun ρ' H' S' i d f R' ok hd => by
    obtain ⟨x, e1, rfl⟩ := enumD_get hd
    obtain ⟨v, hv, rv⟩ := (RepDs.frh R.freeh f _ _ r1).get e1
    refine ⟨⟨vs, v, sqt_frh R.freeh f q1, hv⟩, fun u H'' yy => ?_⟩
    obtain ⟨T, v', rfl, hT, rfl, y1⟩ := yy
    have e3 := y1 vs (sqt_frh R.freeh f q1)
    rw [hv] at e3; cases e3
    rw [Nat.zero_add]
    exact ⟨Fr.laid hT, R'.laid hT, .tup (SqT.of upd_same) (RepDs.fr R'.free (Fr.laid hT) _ _ (.cons (.int _) (.cons rv .nil)))⟩
  stop := fun ρ' H' S' f R' ok => by
    refine ⟨vs, sqt_frh R.freeh f q1, ?_⟩
    have h1 := r1.length
    show vs.length ≤ (enumD 0 xs).length
    rw [enumD_length]; omega
section
variable {X : Cx} {W : WX} {e : Expr} {m : MA} {p pos : Pos}
theorem im_enum {elts : List Expr} {kk : Nat} {tpos : Pos} (hg : Gl X "enumerate") (hm : X.mg "enumerate" = none) (ha : AM X W [e] m) (hs : starEach [e] X.env = [(false, eval e X.env)] := by rfl) :
    IM X W (.Tuple elts kk tpos) (.Call (.Name "enumerate" p) [e] [] pos) (mSrcA srcEnum m) :=
  pi_imp (pi_enumA hg hm ha hs) fun σ H R' h => tA_src (fun ρ H ds vs S src R r hk q => by
    match ds, r, hk with
    | [], _, hk => cases hk
    | _ :: _ :: _, _, hk => cases hk
    | [d1], r, hk =>
      obtain ⟨v, rfl, r1⟩ := reps1 r
      by_cases ht : ∃ xs, d1 = .tup xs
      · obtain ⟨xs, rfl⟩ := ht
        cases hk
        cases r1 with
        | tup h1 x1 => exact ⟨_, _, rfl, .inr ⟨h1, q _ (jok_enumT R h1 x1)⟩⟩
      · have hk : (match lstOf S d1 with
          | some xs => some (Src.mk (enumD 0 xs) (watch d1 xs))
          | none => none) = some src := by
          rw [← hk]
          cases d1 <;> first | rfl | exact absurd ⟨_, rfl⟩ ht
        cases h1 : lstOf S d1 with
        | none => rw [h1] at hk; cases hk
        | some xs =>
          rw [h1] at hk
          cases hk
          obtain ⟨a, rfl, st1⟩ := stands_of R r1 h1
          obtain ⟨vs1, q1, _⟩ := st1.at_ ρ H S .refl R (watch_ok h1)
          exact ⟨a, _, rfl, .inl ⟨q1, q _ (jok_enumL (S := S) st1)⟩⟩) h
end
/-! remove -/
def gRemove : MtF
  | .loc n, [d], S => match S[n]? with
    | some (.lst xs) => match toPys0 xs, toPy S d with
      | some qs, some p => if (SeqAt.shaped p = true ∧ PyData.plainAll qs = true ∧ p.plain = true) ∧ xs.length ≤ sizeLine then match SeqAt.dataPlace qs p with
        | some j => some (.non, S.set n (.lst (xs.eraseIdx j)))
        | none => none
        else none
      | _, _ => none
    | _ => none
  | _, _, _ => none
section
variable {X : Cx}
theorem md_remove (hu : X.A.units + 65 < cLine) : MtD X "list.remove" gRemove := fun pins s σ ρ H S d x ds vs u us Q I R r1 r2 ru rs q => by
  cases d with
  | loc n =>
    match ds, r2, q with
    | [], _, q => exact q.elim
    | _ :: _ :: _, _, q => exact q.elim
    | [d], r2, q =>
      simp only [gRemove] at q
      split at q
      · rename_i xs hs
        split at q
        · rename_i qs p h1 h2
          by_cases hz : (SeqAt.shaped p = true ∧ PyData.plainAll qs = true ∧ p.plain = true) ∧ xs.length ≤ sizeLine
          · rw [if_pos hz] at q
            split at q
            · rename_i j hj
              have hp : toPy S (.loc n) = some (.list qs) := by
                show (match S[n]? with | some (.lst xs) => (toPys0 xs).map PyData.list | _ => none) = _
                rw [hs]
                simp only [h1, Option.map_some]
              have d2 := toPy_rep R r1 hp
              obtain ⟨a, ws, rfl, ha, hH, rx⟩ := loc_at R r1 hs
              obtain ⟨v, rfl, rv⟩ := reps1 r2
              have d1 := toPy_rep R rv h2
              cases rs with
              | cons ra rs =>
                cases rs
                obtain ⟨as, e1⟩ := Dp.reads I p v _ d1 ra
                obtain ⟨bs, e2⟩ := Dp.reads I (.list qs) (.ref a) u d2 ru
                cases ru
                obtain ⟨z, its, m, r, hl, e⟩ := I.lstM hH
                cases e2 with
                | list g1 g2 g3 g4 =>
                  have g1' := g1.symm.trans e
                  cases g1'
                  cases g3
                  refine SeqAt.remove_list_data (j := j) ⟨_, e, rfl, _, rfl⟩ g4 e1 hz.1.2.1 hz.1.2.2 (in_room hz.1.1 hu) hj (by rw [List.size_toArray, ← hl, ← rx.length]; exact hz.2) ?_
                  refine ⟨.non, _, I.lset (its' := its.eraseIdx j) hH e ?_ (r.eraseIdx j) ?_, rfl, q.put R ha ?_ .non⟩
                  · show its.toArray.eraseIdxIfInBounds j = (its.eraseIdx j).toArray
                    rw [List.eraseIdxIfInBounds_toArray]
                  · have := len_erase ws j
                    omega
                  · rw [List.eraseIdx_eq_take_drop_succ, List.eraseIdx_eq_take_drop_succ]
                    exact (rx.take _).append (rx.drop _)
            · exact q.elim
          · rw [if_neg hz] at q; exact q.elim
        · exact q.elim
      · exact q.elim
  | _ => cases ds <;> exact q.elim
end
end M


set_option Elab.async false
set_option linter.all false
set_option maxRecDepth 100000
set_option maxHeartbeats 4000000
namespace M.Lf
open PySem PySem.Spec PyProof.Rows L2 M
noncomputable def b_is_number : MS := (sRet (mAndV (mCall dIsInst (mCons (mVar 0) (mCons (mC (.ty "int")) mNil))) (mAndV (mNotV (mCall dIsInst (mCons (mVar 0) (mCons (mC (.ty "bool")) mNil)))) (mChain dLe dLe (mVar 1) (mVar 0) (mVar 2)))))
noncomputable def m_is_number : List D → Store → Res D := retV (runF 3 b_is_number)
noncomputable def b_check_levels : MS := (sIf (mNot (mTru (mCallF 3 m_is_number (mCons (mVar 0) (mCons (mC (.int 0)) (mCons (mC (.int 6)) mNil)))))) sNever sSkip)
noncomputable def m_check_levels : List D → Store → Res D := retV (runF 1 b_check_levels)
noncomputable def l_lifted_1 : MS := (sSeq (sExpr (mMeth "list" gAppend (mVar 2) (mCons (mBin dSub (mBin dIx (mVar 0) (mBin dAdd (mVar 3) (mC (.int 1)))) (mBin dIx (mVar 0) (mVar 3))) mNil))) (sExpr (mMeth "list" gAppend (mVar 1) (mCons (mBin dAdd (mBin dIx (mVar 0) (mVar 3)) (mBin dFdiv (mBin dIx (mVar 2) (mUn dNeg (mC (.int 1)))) (mC (.int 2)))) mNil))))
noncomputable def b_lifted_2 : MS := (sExpr (mMeth "list" gAppend (mVar 1) (mCons (mBin dIx (mVar 0) (mUn dNeg (mC (.int 1)))) mNil)))
noncomputable def b_lifted : MS := (sSeq (sPar 1 2 (mCons (asL (mLst mNil)) (mCons (asL (mLst mNil)) mNil))) (sSeq (sFor (mSrcA srcR3 (mCons (mC (.int 0)) (mCons (mBin dSub (mCall dLen (mCons (mVar 0) mNil)) (mC (.int 1))) (mCons (mC (.int 2)) mNil)))) (gN 3) l_lifted_1) (sSeq (sIf (mB (mBin dGt (mCall dLen (mCons (mVar 0) mNil)) (mBin dMul (mC (.int 2)) (mCall dLen (mCons (mVar 1) mNil))))) b_lifted_2 sSkip) (sRet (mTup (mCons (mCall dTuple (mCons (mVar 1) mNil)) (mCons (mCall dTuple (mCons (mVar 2) mNil)) mNil)))))))
noncomputable def m_lifted : List D → Store → Res D := retV (runF 4 b_lifted)
noncomputable def l_lowered_1 : MS := (sSeq (sSet (gN 5) (mBin dSub (mVar 3) (mBin dFdiv (mVar 4) (mC (.int 2))))) (sExpr (mMeth "list" gExtend (mVar 2) (mCons (asV (mLst (mCons (mVar 5) (mCons (mBin dAdd (mVar 5) (mVar 4)) mNil)))) mNil))))
noncomputable def b_lowered : MS := (sSeq (sSet (gN 2) (asL (mLst mNil))) (sSeq (sFor (mSrcA srcZip (mCons (mVar 0) (mCons (mVar 1) mNil))) (gTup 2 (gCons (gN 3) (gCons (gN 4) gNil))) l_lowered_1) (sSeq (sExpr (mMeth "list" gExtend (mVar 2) (mCons (mSlice (mVar 0) (mPart (mCall dLen (mCons (mVar 1) mNil))) mNo) mNil))) (sRet (mCall dTuple (mCons (mVar 2) mNil))))))
noncomputable def m_lowered : List D → Store → Res D := retV (runF 6 b_lowered)
noncomputable def l_tower_1 : MS := (sSeq (sSet (gTup 2 (gCons (gN 0) (gCons (gN 4) gNil))) (mCallF 1 m_lifted (mCons (mVar 0) mNil))) (sExpr (mMeth "list" gAppend (mVar 2) (mCons (mVar 4) mNil))))
noncomputable def b_tower : MS := (sSeq (sExpr (mCallF 1 m_check_levels (mCons (mVar 1) mNil))) (sSeq (sSet (gN 2) (asL (mLst mNil))) (sSeq (sFor (mSrcA srcR1 (mCons (mVar 1) mNil)) (gN 3) l_tower_1) (sRet (mTup (mCons (mVar 0) (mCons (mCall dTuple (mCons (mVar 2) mNil)) mNil)))))))
noncomputable def m_tower : List D → Store → Res D := retV (runF 5 b_tower)
noncomputable def l_row_of_1 : MS := (sSet (gN 1) (mCallF 2 m_lowered (mCons (mVar 1) (mCons (mVar 2) mNil))))
noncomputable def b_row_of : MS := (sSeq (sSet (gN 1) (mBin dIx (mVar 0) (mC (.int 0)))) (sSeq (sFor (mSrc (mUn dRev (mBin dIx (mVar 0) (mC (.int 1))))) (gN 2) l_row_of_1) (sRet (mVar 1))))
noncomputable def m_row_of : List D → Store → Res D := retV (runF 3 b_row_of)
noncomputable def b_lean : MS := (sSeq (sIf (mB (mBin dEq (mVar 1) (mC (.int 0)))) (sRet (mVar 0)) sSkip) (sSeq (sSet (gN 2) (mBin dShl (mC (.int 1)) (mVar 1))) (sRet (mBin dAdd (mBin dMul (mBin dFdiv (mVar 0) (mVar 2)) (mVar 2)) (mBin dFdiv (mVar 2) (mC (.int 2)))))))
noncomputable def m_lean : List D → Store → Res D := retV (runF 3 b_lean)
noncomputable def e_lean_row_1 : ME := (mCallF 2 m_lean (mCons (mVar 2) (mCons (mVar 1) mNil)))
noncomputable def b_lean_row : MS := (sRet (mCall dTuple (mCons (asV (mLc (mSrc (mVar 0)) (gN 2) mYes e_lean_row_1 [2])) mNil)))
noncomputable def m_lean_row : List D → Store → Res D := retV (runF 3 b_lean_row)
noncomputable def e_are_planes_1 : ME := (mCallF 3 m_is_number (mCons (mVar 1) (mCons (mC (.int 0)) (mCons (mC (.int 4)) mNil))))
noncomputable def b_are_planes : MS := (sSeq (sIf (mOr (mNot (mTru (mCall dIsInst (mCons (mVar 0) (mCons (mC (.ty "tuple")) mNil))))) (mB (mBin dGt (mCall dLen (mCons (mVar 0) mNil)) (mC (.int 6))))) (sRet (mC (.bl false))) sSkip) (sRet (mAll false (mSrc (mVar 0)) (gN 1) e_are_planes_1 [1])))
noncomputable def m_are_planes : List D → Store → Res D := retV (runF 2 b_are_planes)
noncomputable def b_check_planes : MS := (sIf (mOr (mNot (mTru (mCallF 1 m_are_planes (mCons (mVar 0) mNil)))) (mAnd (mB (mBin dIsNot (mVar 1) (mC .non))) (mB (mBin dNe (mCall dLen (mCons (mVar 0) mNil)) (mVar 1))))) sNever sSkip)
noncomputable def m_check_planes : List D → Store → Res D := retV (runF 2 b_check_planes)
noncomputable def e_lean_tower_1 : ME := (mCallF 2 m_lean_row (mCons (mVar 2) (mCons (mVar 3) mNil)))
noncomputable def b_lean_tower : MS := (sSeq (sExpr (mCallF 2 m_check_planes (mCons (mVar 1) (mCons (mCall dLen (mCons (mBin dIx (mVar 0) (mC (.int 1))) mNil)) mNil)))) (sRet (mTup (mCons (mBin dIx (mVar 0) (mC (.int 0))) (mCons (mCall dTuple (mCons (asV (mLc (mSrcA srcZip (mCons (mBin dIx (mVar 0) (mC (.int 1))) (mCons (mVar 1) mNil))) (gTup 2 (gCons (gN 2) (gCons (gN 3) gNil))) mYes e_lean_tower_1 [2, 3])) mNil)) mNil)))))
noncomputable def m_lean_tower : List D → Store → Res D := retV (runF 4 b_lean_tower)
noncomputable def b_shown_row : MS := (sSeq (sExpr (mCallF 2 m_check_planes (mCons (mVar 1) (mCons (mC .non) mNil)))) (sRet (mCallF 1 m_row_of (mCons (mCallF 2 m_lean_tower (mCons (mCallF 2 m_tower (mCons (mVar 0) (mCons (mCall dLen (mCons (mVar 1) mNil)) mNil))) (mCons (mVar 1) mNil))) mNil))))
noncomputable def m_shown_row : List D → Store → Res D := retV (runF 2 b_shown_row)
noncomputable def b_check_plane : MS := (sIf (mNot (mTru (mCallF 3 m_is_number (mCons (mVar 0) (mCons (mC (.int 0)) (mCons (mC (.int 4)) mNil)))))) sNever sSkip)
noncomputable def m_check_plane : List D → Store → Res D := retV (runF 1 b_check_plane)
noncomputable def b_pair_offsets : MS := (sSeq (sSet (gN 2) (mBin dSub (mBin dFdiv (mVar 0) (mC (.int 2))) (mBin dFdiv (mCallF 2 m_lean (mCons (mVar 0) (mCons (mVar 1) mNil))) (mC (.int 2))))) (sRet (mTup (mCons (mVar 2) (mCons (mBin dSub (mBin dAdd (mVar 2) (mCallF 2 m_lean (mCons (mVar 0) (mCons (mVar 1) mNil)))) (mVar 0)) mNil)))))
noncomputable def m_pair_offsets : List D → Store → Res D := retV (runF 3 b_pair_offsets)
noncomputable def e_spans_1 : ME := (mCallF 2 m_pair_offsets (mCons (mVar 2) (mCons (mVar 0) mNil)))
noncomputable def e_spans_2 : ME := (mBin dIx (mVar 3) (mVar 4))
noncomputable def e_spans_3 : ME := (mBin dIx (mVar 3) (mVar 4))
noncomputable def e_spans_4 : ME := (mTup (mCons (mCall dMin (mCons (asV (mLc (mSrc (mVar 1)) (gN 3) mYes e_spans_3 [3])) mNil)) (mCons (mCall dMax (mCons (asV (mLc (mSrc (mVar 1)) (gN 3) mYes e_spans_2 [3])) mNil)) mNil)))
noncomputable def b_spans : MS := (sSeq (sExpr (mCallF 1 m_check_plane (mCons (mVar 0) mNil))) (sSeq (sSet (gN 1) (asV (mLc (mSrcA srcR1 (mCons (mBin dShl (mC (.int 1)) (mVar 0)) mNil)) (gN 2) mYes e_spans_1 [2]))) (sRet (mCall dTuple (mCons (asV (mLc (mSrcA srcR1 (mCons (mC (.int 2)) mNil)) (gN 4) mYes e_spans_4 [4])) mNil)))))
noncomputable def m_spans : List D → Store → Res D := retV (runF 5 b_spans)
noncomputable def e_sums_of_1 : ME := (mBin dIx (mVar 2) (mC (.int 0)))
noncomputable def e_sums_of_2 : ME := (mCall dMin (mCons (asV (mLc (mSrc (mVar 3)) (gN 2) mYes e_sums_of_1 [2])) mNil))
noncomputable def e_sums_of_3 : ME := (mBin dIx (mVar 2) (mC (.int 1)))
noncomputable def e_sums_of_4 : ME := (mCall dMax (mCons (asV (mLc (mSrc (mVar 3)) (gN 2) mYes e_sums_of_3 [2])) mNil))
noncomputable def b_sums_of : MS := (sSeq (sSet (gN 1) (mCall dSum (mCons (asV (mLc (mSrc (mVar 0)) (gN 3) mYes e_sums_of_2 [3])) mNil))) (sRet (mTup (mCons (mVar 1) (mCons (mCall dSum (mCons (asV (mLc (mSrc (mVar 0)) (gN 3) mYes e_sums_of_4 [3])) mNil)) mNil)))))
noncomputable def m_sums_of : List D → Store → Res D := retV (runF 4 b_sums_of)
noncomputable def e_bounds_1 : ME := (mCallF 1 m_spans (mCons (mVar 1) mNil))
noncomputable def b_bounds : MS := (sSeq (sExpr (mCallF 2 m_check_planes (mCons (mVar 0) (mCons (mC .non) mNil)))) (sRet (mCallF 1 m_sums_of (mCons (asV (mLc (mSrc (mVar 0)) (gN 1) mYes e_bounds_1 [1])) mNil))))
noncomputable def m_bounds : List D → Store → Res D := retV (runF 2 b_bounds)
end M.Lf


set_option Elab.async false
set_option linter.all false
set_option maxRecDepth 100000
set_option maxHeartbeats 4000000
/-! Comprehensions with two `for`. -/
namespace M
open PySem PySem.Spec PyProof.Rows L2 RZ
variable [Tabs]
theorem hide_fr {ρ1 ρ' ρ3 : Rh} {H1 H' H3 : Hp} {Dl : Addr} {accV : List V} (f : Fr ρ1 H1 ρ' H') (hn : Dl ∉ ρ'.l) (hH : H' Dl = some (.lst accV)) (f3 : Fr (ρ'.hide Dl) H' ρ3 H3) : ∃ ρ4 : Rh, ρ3 = ρ4.hide Dl ∧ Fr ρ1 H1 ρ4 H3 ∧ Dl ∉ ρ4.l ∧ H3 Dl = some (.lst accV) := by
  obtain ⟨l, e3, hl3⟩ := f3.new
  refine ⟨⟨ρ'.l ++ l, ρ'.h⟩, e3, f.trans ⟨⟨l, rfl, hl3⟩, fun a o h n nt => f3.keep a o h n nt, f3.live⟩, ?_, f3.keep _ _ hH hn fun _ z => by cases z⟩
  intro m
  rcases List.mem_append.mp m with m | m
  · exact hn m
  · rw [hl3 _ m] at hH; cases hH
theorem put_fr {ρ1 ρ' : Rh} {H1 H' : Hp} {Dl : Addr} {o : HO} (f : Fr ρ1 H1 ρ' H') (hD : H1 Dl = none) : Fr ρ1 H1 ρ' (upd H' Dl o) := by
  obtain ⟨l, e6, hl6⟩ := f.new
  refine ⟨⟨l, e6, hl6⟩, fun a o h n nt => ?_, fun a o h => ?_⟩
  · have ne : a ≠ Dl := fun z => by rw [z, hD] at h; cases h
    rw [upd_ne ne]; exact f.keep a o h n nt
  · have ne : a ≠ Dl := fun z => by rw [z, hD] at h; cases h
    rw [upd_ne ne]; exact f.live a o h
open Classical in
noncomputable def lcM2 (src : Src) (g : MG) (mt : MT) (mi1 : MI) (g1 : MG) (mt1 : MT) (me : ME) (vs1 : List Nat) (e : Env) : List D → Nat → Store → Res (List D)
  | [], _, S => if src.ok S then .ok [] S else .bad
  | d :: ds, n, S => if src.ok S then match g d e S with
    | some e1 => (noEx (mt e1 S)).bind fun b S2 => if b = true then (noEx (mi1 e1 S2)).bind fun src1 S3 => if n + src1.xs.length ≤ sizeLine then (lcM src1 g1 mt1 me (wipeE e1 vs1) src1.xs S3).bind fun ys S4 => (lcM2 src g mt mi1 g1 mt1 me vs1 e ds (n + ys.length) S4).bind fun zs S5 => .ok (ys ++ zs) S5 else .bad else lcM2 src g mt mi1 g1 mt1 me vs1 e ds n S2
    | none => .bad else .bad
noncomputable def mLc2 (mi : MI) (g : MG) (mt : MT) (mi1 : MI) (g1 : MG) (mt1 : MT) (me : ME) (vs vs1 : List Nat) : MA := fun e S => (mi e S).bind fun src S1 => lcM2 src g mt mi1 g1 mt1 me vs1 (wipeE e vs) src.xs 0 S1
section
variable {X : Cx} {W : WX} {mi mi1 : MI} {g g1 : MG} {sl sl1 : List Nat} {mt mt1 : MT} {me : ME}
theorem lc2_imp {vs vs1 : List Nat} (hsl : ∀ i ∈ sl, i ∈ vs) (hsl1 : ∀ i ∈ sl1, i ∈ vs1) {σ : L2.St} {H : Hp} {Q : VK} (h : tN X.K X.mg W (mLc2 mi g mt mi1 g1 mt1 me vs vs1) σ H Q) :
    tLc2 (tI X.K X.mg W mi) (tG X.K g sl) (tT X.K X.mg W0 mt) (tI X.K X.mg W0 mi1) (tG X.K g1 sl1) (tT X.K X.mg W0 mt1) (tE X.K X.mg W0 me) vs vs1 σ H Q := by
  obtain ⟨ρ, e, S, he, R, q⟩ := h
  refine ⟨ρ, e, S, he, R, (PostN.bind q).mono fun src S1 ρ1 H1 f1 R1 q J hJ Dl hD => ?_⟩
  have he1 := he.fr R.free f1
  have hDl := R1.newh hD
  let Iv : Nat → Hp → Prop := fun i H' => i ≤ src.xs.length ∧ ∃ ρ' S' accD accV, Fr ρ1 H1 ρ' H' ∧ Rel X.K (ρ'.hide Dl) H' S' ∧ Dl ∉ ρ'.l ∧ H' Dl = some (.lst accV) ∧ RepDs X.K (ρ'.hide Dl) H' accD accV ∧
    PostN X.K X.mg W ρ1 H1 σ Q ((lcM2 src g mt mi1 g1 mt1 me vs1 (wipeE e vs) (src.xs.drop i) accD.length S').bind fun ys S3 => .ok (accD ++ ys) S3)
  refine ⟨fun i m H' => m = src.xs.length - i ∧ Iv i H', ⟨_, rfl, Nat.zero_le _, ρ1, S1, [], [], Fr.laid hD, R1.laidH hD, hDl.1, upd_same, .nil, ?_⟩, ?_⟩
  · have e0 : (lcM2 src g mt mi1 g1 mt1 me vs1 (wipeE e vs) (src.xs.drop 0) ([] : List D).length S1).bind (fun ys S3 => .ok ([] ++ ys) S3) = lcM2 src g mt mi1 g1 mt1 me vs1 (wipeE e vs) src.xs 0 S1 := by
      rw [List.drop_zero]
      show (lcM2 src g mt mi1 g1 mt1 me vs1 (wipeE e vs) src.xs 0 S1).bind _ = _
      cases lcM2 src g mt mi1 g1 mt1 me vs1 (wipeE e vs) src.xs 0 S1 <;> rfl
    rw [e0]; exact q
  rintro i m H' ⟨rfl, hi, ρ', S', accD, accV, f, R', hn, hH, rx, q⟩
  have fh : FrH ρ1 H1 (ρ'.hide Dl) H' := .hide f hD
  rcases Nat.lt_or_ge i src.xs.length with hlt | hge
  · rw [List.drop_eq_getElem_cons hlt] at q
    unfold lcM2 at q
    by_cases hok : src.ok S'
    case neg => rw [if_neg hok] at q; exact q.elim
    rw [if_pos hok] at q
    obtain ⟨hgo, hy⟩ := hJ.go _ H' S' i _ fh R' hok (List.getElem?_eq_getElem hlt)
    refine .inr ⟨hgo, Iv (i + 1), fun H2 n => ⟨src.xs.length - (i + 1), by omega, rfl, n⟩, fun x H'' yy => ?_⟩
    obtain ⟨f2, R2, r2⟩ := hy x H'' yy
    cases hgd : g src.xs[i] (wipeE e vs) S' with
    | none => rw [hgd] at q; exact q.elim
    | some e1 =>
      rw [hgd] at q
      dsimp only at q
      have he2 : EnvRel X.K (ρ'.hide Dl) H'' (wipe σ vs) (wipeE e vs) := ((he1.frh R1.freeh fh).fr R'.free f2).wipe vs
      refine ⟨_, _, S', _, e1, he2, R2, r2, hgd, fun σ2 hσ2 hw => ⟨(hw vs hsl).trans (wipe_wipe fun _ h => h), ?_⟩⟩
      have f' : Fr ρ1 H1 ρ' H'' := by
        obtain ⟨ρ4, e4, f4, _, _⟩ := hide_fr f hn hH f2
        have : ρ4 = ρ' := by
          cases ρ4; cases ρ'
          simp only [Rh.hide] at e4
          cases e4
          rfl
        rw [← this]; exact f4
      have hH2 : H'' Dl = some (.lst accV) := f2.keep _ _ hH hn fun _ z => by cases z
      have rx2 := RepDs.fr R'.free f2 _ _ rx
      cases hm : mt e1 S' with
      | bad => rw [hm] at q; exact q.elim
      | ex c S2 => rw [hm] at q; exact q.elim
      | ok b S2 =>
        rw [hm] at q
        simp only [noEx_ok, Res.bind_ok] at q
        refine ⟨_, e1, S', hσ2, R2, ?_⟩
        rw [hm]
        intro ρ3 H3 f3 R3
        obtain ⟨ρ4, rfl, f4, hn4, hH4⟩ := hide_fr f' hn hH2 f3
        have rx3 := RepDs.fr R2.free f3 _ _ rx2
        cases b with
        | false =>
          rw [if_neg (by decide)] at q ⊢
          exact ⟨hlt, ρ4, S2, accD, accV, f4, R3, hn4, hH4, rx3, q⟩
        | true =>
          rw [if_pos rfl] at q ⊢
          refine ⟨_, e1, S2, hσ2.fr R2.free f3, R3, ?_⟩
          cases hm1 : mi1 e1 S2 with
          | bad => rw [hm1] at q; exact q.elim
          | ex c S3 => rw [hm1] at q; exact q.elim
          | ok src1 S3 =>
            rw [hm1] at q
            simp only [noEx_ok, Res.bind_ok] at q
            intro ρ5' H5 f5 R5 J1 hJ1
            obtain ⟨ρ5, rfl, f6, hn5, hH5⟩ := hide_fr f4 hn4 hH4 f5
            have rx5 := RepDs.fr R3.free f5 _ _ rx3
            have hE5 : EnvRel X.K (ρ5.hide Dl) H5 σ2 e1 := (hσ2.fr R2.free f3).fr R3.free f5
            by_cases hz : accD.length + src1.xs.length ≤ sizeLine
            case neg => rw [if_neg hz] at q; exact q.elim
            rw [if_pos hz] at q
            let Iw : Nat → Hp → Prop := fun j Hx => j ≤ src1.xs.length ∧ ∃ ρ6 S6 accI accW, Fr ρ1 H1 ρ6 Hx ∧ FrH (ρ5.hide Dl) H5 (ρ6.hide Dl) Hx ∧ Rel X.K (ρ6.hide Dl) Hx S6 ∧ Dl ∉ ρ6.l ∧ Hx Dl = some (.lst accW) ∧ RepDs X.K (ρ6.hide Dl) Hx (accD ++ accI) accW ∧ accI.length ≤ j ∧
              PostN X.K X.mg W ρ1 H1 σ Q ((lcM src1 g1 mt1 me (wipeE e1 vs1) (src1.xs.drop j) S6).bind fun ys S4 => (lcM2 src g mt mi1 g1 mt1 me vs1 (wipeE e vs) (src.xs.drop (i + 1)) (accD.length + (accI ++ ys).length) S4).bind fun zs S5 => .ok (accD ++ ((accI ++ ys) ++ zs)) S5)
            refine ⟨fun j k Hx => k = src1.xs.length - j ∧ Iw j Hx, ⟨_, rfl, Nat.zero_le _, ρ5, S3, [], accV, f6, FrH.refl, R5, hn5, hH5, by rw [List.append_nil]; exact rx5, Nat.le_refl _, ?_⟩, ?_⟩
            · rw [List.drop_zero]
              rw [Res.bind_assoc] at q
              have e7 : (fun (ys : List D) (S4 : Store) => ((lcM2 src g mt mi1 g1 mt1 me vs1 (wipeE e vs) (src.xs.drop (i + 1)) (accD.length + ys.length) S4).bind fun zs S5 => (Res.ok (ys ++ zs) S5 : Res (List D))).bind fun ys S3 => .ok (accD ++ ys) S3) =
                  fun ys S4 => (lcM2 src g mt mi1 g1 mt1 me vs1 (wipeE e vs) (src.xs.drop (i + 1)) (accD.length + ([] ++ ys).length) S4).bind fun zs S5 => .ok (accD ++ (([] ++ ys) ++ zs)) S5 := by
                funext ys S4
                rw [Res.bind_assoc]
                rfl
              rw [e7] at q
              exact q
            rintro j k Hx ⟨rfl, hj, ρ6, S6, accI, accW, g6, gh, R6, hn6, hH6, rx6, hl6, q6⟩
            rcases Nat.lt_or_ge j src1.xs.length with jlt | jge
            · rw [List.drop_eq_getElem_cons jlt] at q6
              unfold lcM at q6
              by_cases hok1 : src1.ok S6
              case neg => rw [if_neg hok1] at q6; exact q6.elim
              rw [if_pos hok1] at q6
              obtain ⟨hgo1, hy1⟩ := hJ1.go _ Hx S6 j _ gh R6 hok1 (List.getElem?_eq_getElem jlt)
              refine .inr ⟨hgo1, Iw (j + 1), fun H2 n => ⟨src1.xs.length - (j + 1), by omega, rfl, n⟩, fun y Hy yy1 => ?_⟩
              obtain ⟨f7, R7, r7⟩ := hy1 y Hy yy1
              cases hgd1 : g1 src1.xs[j] (wipeE e1 vs1) S6 with
              | none => rw [hgd1] at q6; exact q6.elim
              | some e2 =>
                rw [hgd1] at q6
                dsimp only at q6
                have he7 : EnvRel X.K (ρ6.hide Dl) Hy (wipe σ2 vs1) (wipeE e1 vs1) := ((hE5.frh R5.freeh gh).fr R6.free f7).wipe vs1
                refine ⟨_, _, S6, _, e2, he7, R7, r7, hgd1, fun σ3 hσ3 hw3 => ⟨(hw3 vs1 hsl1).trans (wipe_wipe fun _ h => h), ?_⟩⟩
                have f7' : Fr ρ1 H1 ρ6 Hy := by
                  obtain ⟨ρ4', e4, f4', _, _⟩ := hide_fr g6 hn6 hH6 f7
                  have : ρ4' = ρ6 := by
                    cases ρ4'; cases ρ6
                    simp only [Rh.hide] at e4
                    cases e4
                    rfl
                  rw [← this]; exact f4'
                have hH7 : Hy Dl = some (.lst accW) := f7.keep _ _ hH6 hn6 fun _ z => by cases z
                have rx7 := RepDs.fr R6.free f7 _ _ rx6
                have gh7 : FrH (ρ5.hide Dl) H5 (ρ6.hide Dl) Hy := gh.trans (FrH.of f7)
                cases hm2 : mt1 e2 S6 with
                | bad => rw [hm2] at q6; exact q6.elim
                | ex c S7 => rw [hm2] at q6; exact q6.elim
                | ok b1 S7 =>
                  rw [hm2] at q6
                  simp only [noEx_ok, Res.bind_ok] at q6
                  refine ⟨_, e2, S6, hσ3, R7, ?_⟩
                  rw [hm2]
                  intro ρ8' H8 f8 R8
                  obtain ⟨ρ8, rfl, f8', hn8, hH8⟩ := hide_fr f7' hn6 hH7 f8
                  have rx8 := RepDs.fr R7.free f8 _ _ rx7
                  have gh8 : FrH (ρ5.hide Dl) H5 (ρ8.hide Dl) H8 := gh7.trans (FrH.of f8)
                  cases b1 with
                  | false =>
                    rw [if_neg (by decide)] at q6 ⊢
                    exact ⟨jlt, ρ8, S7, accI, accW, f8', gh8, R8, hn8, hH8, rx8, Nat.le_succ_of_le hl6, q6⟩
                  | true =>
                    rw [if_pos rfl] at q6 ⊢
                    cases hm3 : me e2 S7 with
                    | bad => rw [hm3] at q6; exact q6.elim
                    | ex c S8 => rw [hm3] at q6; exact q6.elim
                    | ok z S8 =>
                      rw [hm3] at q6
                      simp only [noEx_ok, Res.bind_ok] at q6
                      refine ⟨_, e2, S7, hσ3.fr R7.free f8, R8, ?_⟩
                      rw [hm3]
                      intro ρ9' H9 f9 R9 v r9
                      obtain ⟨ρ9, rfl, f9', hn9, hH9⟩ := hide_fr f8' hn8 hH8 f9
                      have rx9 := RepDs.fr R8.free f9 _ _ rx8
                      have gh9 : FrH (ρ5.hide Dl) H5 (ρ9.hide Dl) H9 := gh8.trans (FrH.of f9)
                      have hzV : accW.length < sizeLine := by
                        rw [← rx9.length, List.length_append]; omega
                      refine ⟨accW, hH9, hzV, jlt, ρ9, S8, accI ++ [z], accW ++ [v], put_fr f9' hD, gh9.trans (FrH.putH hH9 List.mem_cons_self), R9.putH hH9 List.mem_cons_self hn9, hn9, upd_same, ?_, by simp; omega, ?_⟩
                      · rw [← List.append_assoc]
                        exact RepDs.putH hH9 List.mem_cons_self _ _ (rx9.append (.cons r9 .nil))
                      · rw [Res.bind_assoc] at q6
                        simp only [Res.bind_ok] at q6
                        have e8 : (fun (ys : List D) (S4 : Store) => (lcM2 src g mt mi1 g1 mt1 me vs1 (wipeE e vs) (src.xs.drop (i + 1)) (accD.length + (accI ++ [z] ++ ys).length) S4).bind fun zs S5 => (Res.ok (accD ++ ((accI ++ [z] ++ ys) ++ zs)) S5 : Res (List D))) =
                            fun ys S4 => (lcM2 src g mt mi1 g1 mt1 me vs1 (wipeE e vs) (src.xs.drop (i + 1)) (accD.length + (accI ++ z :: ys).length) S4).bind fun zs S5 => .ok (accD ++ ((accI ++ z :: ys) ++ zs)) S5 := by
                          funext ys S4
                          simp
                        rw [e8]
                        exact q6
            · have ej : j = src1.xs.length := by omega
              subst ej
              rw [List.drop_length] at q6
              unfold lcM at q6
              by_cases hok1 : src1.ok S6
              case neg => rw [if_neg hok1] at q6; exact q6.elim
              rw [if_pos hok1] at q6
              simp only [Res.bind_ok, List.append_nil] at q6
              refine .inl ⟨hJ1.stop _ Hx S6 gh R6 hok1, hlt, ρ6, S6, accD ++ accI, accW, g6, R6, hn6, hH6, rx6, ?_⟩
              have e9 : (fun (ys : List D) (S3 : Store) => (Res.ok (accD ++ accI ++ ys) S3 : Res (List D))) = fun zs S5 => .ok (accD ++ (accI ++ zs)) S5 := by
                funext zs S5
                rw [List.append_assoc]
              rw [List.length_append, e9]
              exact q6
  · have e0 : i = src.xs.length := by omega
    subst e0
    rw [List.drop_length] at q
    unfold lcM2 at q
    by_cases hok : src.ok S'
    case neg => rw [if_neg hok] at q; exact q.elim
    rw [if_pos hok] at q
    simp only [Res.bind_ok, List.append_nil] at q
    exact .inl ⟨hJ.stop _ H' S' fh R' hok, q ρ' H' Dl accV f R' hD hn hH rx⟩
variable {elt tg iter tg1 iter1 : Expr} {ifs ifs1 : List Expr} {scope : Scope} {pos spos py : Pos} {i : Nat} {y : Str}
theorem nm_lc2 (own : List (Str × Nat)) (vs1 : List Nat) (hc : X.calm = true) (hN : X.N.Nodup) (hi : IM X W tg iter mi) (ok : BlkOk X.N X.env.scope scope own) (hsl : ∀ i ∈ sl, i ∈ own.map (·.2)) (hv : ∀ i ∈ vs1, i ∈ own.map (·.2)) (hsl1 : ∀ i ∈ sl1, i ∈ vs1)
    (hg : ∀ (s : Shared) (H : Hp) (C : Addr) (cl : List (Str × Addr)) (fp : List Addr), GM (X.blk s H scope (compEnvC scope cl C X.env) fp) tg g sl) (ht : ∀ (s : Shared) (H : Hp) (C : Addr) (cl : List (Str × Addr)) (fp : List Addr), TsM (X.blk s H scope (compEnvC scope cl C X.env) fp) ifs mt)
    (hi1 : ∀ (s : Shared) (H : Hp) (C : Addr) (cl : List (Str × Addr)) (fp : List Addr), IM (X.blk s H scope (compEnvC scope cl C X.env) fp) W0 tg1 iter1 mi1)
    (hg1 : ∀ (s : Shared) (H : Hp) (C : Addr) (cl : List (Str × Addr)) (fp : List Addr), GM (X.blk s H scope (compEnvC scope cl C X.env) fp) tg1 g1 sl1) (ht1 : ∀ (s : Shared) (H : Hp) (C : Addr) (cl : List (Str × Addr)) (fp : List Addr), TsM (X.blk s H scope (compEnvC scope cl C X.env) fp) ifs1 mt1)
    (he : ∀ (s : Shared) (H : Hp) (C : Addr) (cl : List (Str × Addr)) (fp : List Addr), EM (X.blk s H scope (compEnvC scope cl C X.env) fp) W0 elt me) (hs : ∀ x, foldedSetIterable iter X.env x = pure x := by intro _; rfl) (hs1 : ∀ env x, foldedSetIterable iter1 env x = pure x := by intro _ _; rfl) :
    NM X W (.ListComp elt [⟨tg, iter, ifs, 0⟩, ⟨tg1, iter1, ifs1, 0⟩] scope pos) (mLc2 mi g mt mi1 g1 mt1 me (own.map (·.2)) vs1) :=
  pe_imp (pe_lc2 hc hN hi ok hv hg ht hi1 hg1 ht1 he hs hs1) fun σ H Q h => lc2_imp hsl hsl1 h
/-- y = [..] -/
theorem sm_setLc2 (f : MA → ME) (hf : f = asV ∨ f = asL) (own : List (Str × Nat)) (vs1 : List Nat) (hc : X.calm = true) (hN : X.N.Nodup) (hy : X.N[i]? = some y) (hyl : X.env.scope.names.lookup y = some .local)
    (hsw : swapsWith (.ListComp elt [⟨tg, iter, ifs, 0⟩, ⟨tg1, iter1, ifs1, 0⟩] scope pos) (some (.Name y py)) spos.line X.env = pure true) (hi : IM X W tg iter mi) (ok : BlkOk X.N X.env.scope scope own) (hsl : ∀ i ∈ sl, i ∈ own.map (·.2)) (hv : ∀ i ∈ vs1, i ∈ own.map (·.2)) (hsl1 : ∀ i ∈ sl1, i ∈ vs1)
    (hg : ∀ (s : Shared) (H : Hp) (C : Addr) (cl : List (Str × Addr)) (fp : List Addr), GM (X.blk s H scope (compEnvC scope cl C X.env) fp) tg g sl) (ht : ∀ (s : Shared) (H : Hp) (C : Addr) (cl : List (Str × Addr)) (fp : List Addr), TsM (X.blk s H scope (compEnvC scope cl C X.env) fp) ifs mt)
    (hi1 : ∀ (s : Shared) (H : Hp) (C : Addr) (cl : List (Str × Addr)) (fp : List Addr), IM (X.blk s H scope (compEnvC scope cl C X.env) fp) W0 tg1 iter1 mi1)
    (hg1 : ∀ (s : Shared) (H : Hp) (C : Addr) (cl : List (Str × Addr)) (fp : List Addr), GM (X.blk s H scope (compEnvC scope cl C X.env) fp) tg1 g1 sl1) (ht1 : ∀ (s : Shared) (H : Hp) (C : Addr) (cl : List (Str × Addr)) (fp : List Addr), TsM (X.blk s H scope (compEnvC scope cl C X.env) fp) ifs1 mt1)
    (he : ∀ (s : Shared) (H : Hp) (C : Addr) (cl : List (Str × Addr)) (fp : List Addr), EM (X.blk s H scope (compEnvC scope cl C X.env) fp) W0 elt me) (hs : ∀ x, foldedSetIterable iter X.env x = pure x := by intro _; rfl) (hs1 : ∀ env x, foldedSetIterable iter1 env x = pure x := by intro _ _; rfl) :
    SM X W (.Assign [.Name y py] (.ListComp elt [⟨tg, iter, ifs, 0⟩, ⟨tg1, iter1, ifs1, 0⟩] scope pos) spos) (sSet (gN i) (f (mLc2 mi g mt mi1 g1 mt1 me (own.map (·.2)) vs1))) :=
  ps_imp (ps_setLc2 hc hN hy hyl hsw hi ok hv hg ht hi1 hg1 ht1 he hs hs1) fun Dn σ H h => lc2_imp hsl hsl1 (tN_set f hf h)
end
end M


set_option Elab.async false
set_option linter.all false
set_option maxRecDepth 100000
set_option maxHeartbeats 4000000
/-! x[i] += e, ints in a list of ours. -/
namespace M
open PySem PySem.Spec PyProof.Rows L2 RZ
section
variable {X : Cx}
theorem get_list : PGet X (rIxL X.K) := by
  intro pins s σ H o i ov iv Q I ro ri h
  obtain ⟨p, xs, i, z, rfl, rfl, hq, he, q⟩ := h
  cases ro
  obtain ⟨t, rfl⟩ := ri
  obtain ⟨its, r, pl, hz⟩ := I.list hq
  obtain ⟨j, h1, h2, h3, h4, h5⟩ := atI_get he
  obtain ⟨w, ew, rw'⟩ := r.get h2
  have hl := r.length
  have hn := line63
  have fin : EP X pins σ Q w s := ⟨z, H, I, rw', q⟩
  by_cases h0 : 0 ≤ i
  · have hj : i.toNat = j := by
      rw [seqIndex_of h0 h5] at h1
      exact Option.some.inj h1
    exact wpAny_getItem_list pl.isList h0 (by omega) (by rw [hj]; simpa using ew) fin
  · have hj : (i + (its.toArray.size : Int)).toNat = j := by
      rw [seqIndex_neg (by omega) h4] at h1
      rw [List.size_toArray, ← hl]
      exact Option.some.inj h1
    exact wpAny_getItem_list_neg pl.isList (by omega) (by rw [List.size_toArray] <;> omega) (by omega) (by rw [hj]; simpa using ew) fin
end
variable [Tabs]
def sAugAt (f : Int → Int → Int) (mo mi me : ME) : MS := fun e S => (mo e S).st e fun o S1 => (mi e S1).st e fun i S2 => match o, i with
  | .loc n, .int k => match S2[n]? with
    | some (.lst xs) => match atI xs k with
      | some (.int a) => (me e S2).st e fun d S3 => match d with
        | .int b => match S3[n]? with
          | some (.lst ys) => match ixN ys.length k with
            | some j => some (.nx, e, S3.set n (.lst (ys.set j (.int (f a b)))))
            | none => none
          | none => none
        | _ => none
      | _ => none
    | none => none
  | _, _ => none
section
variable {X : Cx} {W : WX} {o i e : Expr} {mo mi me : ME} {op : Operator} {tpos pos : Pos} {f : Int → Int → Int}
theorem sm_augAt (hp : PIp X op (ipI f)) (ho : EM X W o mo) (hi : EM X W i mi) (he : EM X W e me)
    (ha : ∀ ov iv new, augStore i ov iv new = (do holding [new, ov, iv] (setItem ov iv new); release [new, ov, iv] []; pure .next) := by intros; rfl) : SM X W (.AugAssign (.Subscript o i tpos) op e pos) (sAugAt f mo mi me) :=
  ps_imp (ps_augS ho hi get_list he hp set_list ha) fun Dn σ H ⟨ρ, e, S, he, R, q⟩ => ⟨ρ, e, S, he, R, (PostS.st R he q).mono fun o S1 ρ1 H1 f1 R1 q vo ro =>
    ⟨ρ1, e, S1, he.fr R.free f1, R1, (PostS.st R1 (he.fr R.free f1) q).mono fun i S2 ρ2 H2 f2 R2 q vi ri => by
      have ro2 := RepD.fr R1.free f2 _ _ ro
      have he2 := (he.fr R.free f1).fr R1.free f2
      cases o with
      | loc n =>
        cases i with
        | int k =>
          dsimp only at q
          cases hn : S2[n]? with
          | none => rw [hn] at q; exact q.elim
          | some ob =>
            cases ob with
            | lst xs =>
              rw [hn] at q
              dsimp only at q
              cases hk : atI xs k with
              | none => simp only [hk] at q; exact q.elim
              | some d0 =>
                simp only [hk] at q
                cases d0 with
                | int a =>
                  dsimp only at q
                  cases ri
                  obtain ⟨p, ws, rfl, hpa, hH, rx⟩ := loc_at R2 ro2 hn
                  obtain ⟨v0, hv0, rv0⟩ := atI_rep rx hk
                  cases rv0
                  refine ⟨p, ws, k, .int a, rfl, rfl, .inl (.inl hH), hv0, ρ2, e, S2, he2, R2, (PostS.st R2 he2 q).mono fun d S3 ρ3 H3 f3 R3 q v r => ?_⟩
                  cases d with
                  | int b =>
                    dsimp only at q
                    cases r
                    have ro3 := RepD.fr R2.free f3 _ _ ro2
                    refine ⟨a, b, rfl, rfl, ?_⟩
                    cases hn3 : S3[n]? with
                    | none => rw [hn3] at q; exact q.elim
                    | some ob3 =>
                      cases ob3 with
                      | lst ys =>
                        rw [hn3] at q
                        dsimp only at q
                        cases hk3 : ixN ys.length k with
                        | none => simp only [hk3] at q; exact q.elim
                        | some j =>
                          simp only [hk3] at q
                          obtain ⟨p', ws', e', ha', hH', rx'⟩ := loc_at R3 ro3 hn3
                          cases e'
                          have mp : p ∈ ρ3.l := List.mem_of_getElem? ha'
                          have f4 : Fr ρ3 H3 ρ3 (upd H3 p (.lst (ws'.set j (.int (f a b))))) := Fr.put mp
                          exact ⟨p, ws', k, j, rfl, rfl, hH', by rw [← rx'.length]; exact hk3, q ρ3 _ σ f4 (R3.put ha' (RepDs.set (.int _) j rx')) ((he2.fr R2.free f3).fr R3.free f4)⟩
                  | _ => exact q.elim
                | _ => exact q.elim
        | _ => exact q.elim
      | _ => exact q.elim⟩⟩
end
end M


set_option Elab.async false
set_option linter.all false
set_option maxRecDepth 100000
set_option maxHeartbeats 4000000
namespace M
open PySem PySem.Spec PyProof.Rows L2 RZ
variable [Tabs]
/-! ### a range kept as a value: rules on the heap (not yet in D) -/
def iRngV (te : TE) : TI := fun σ H R => te σ H fun v H1 => ∃ (a : Addr) (lo hi : Int), v = .ref a ∧ H1 a = some (.rng lo hi) ∧ (-(2 ^ 62) ≤ lo ∧ lo < 2 ^ 62 ∧ -(2 ^ 62) ≤ hi ∧ hi < 2 ^ 62) ∧ R (Itr lo (hi - lo).toNat) H1
theorem pi_rngV {X : Cx} {tg e : Expr} {te : TE} (he : PE X e te) : PI X tg e (iRngV te) := by
  refine ⟨fun pins s σ H R I h => ?_⟩
  refine thn (he.run pins s σ H _ I h) fun v s1 ⟨x, H1, I1, r1, q1⟩ => ?_
  obtain ⟨a, lo, hi, e, hq, ⟨b1, b2, b3, b4⟩, q⟩ := q1
  subst e
  cases r1
  obtain ⟨t, u, v, ho⟩ := I1.hok a _ hq
  refine wpAny_pyIter_range ho (small_one b1 b2 b3 b4) (pi_one (tk := s1.toks) I1 _ (turn_range _ lo (hi - lo).toNat) ?_ q)
  have e1 : lo + ((0 : Nat) : Int) * 1 = lo := by simp
  have e2 : (((hi - lo).toNat : Nat) : Int) - ((0 : Nat) : Int) = Builtin.Range.rangeSize lo hi 1 := by rw [rangeSize_one]; split <;> omega
  show IsRangeIter _ _ (lo + ((0 : Nat) : Int) * 1) ((((hi - lo).toNat : Nat) : Int) - ((0 : Nat) : Int)) 1
  rw [e1, e2]
  exact Heap.get?_push_size _ rfl
theorem cr_range1 {X : Cx} : CallR X (.type "range") (fun vs H Q => ∃ j, vs = [V.int j] ∧ ∀ p, H p = none → Q (.ref p) (upd H p (.rng 0 j))) := by
  intro pins s σ H vs us Q I r h
  obtain ⟨j, rfl, q⟩ := h
  obtain ⟨u1, rfl, rj⟩ := vals1 r
  obtain ⟨u, rfl⟩ := rj
  refine call_range_1 ⟨.ref s.heap.objs.size, upd H s.heap.objs.size (.rng 0 j), I.laid (t' := s.toks + 1 + 1) (fun b o e => Heap.get?_push_of_some _ e) (Nat.le_refl _) ?_, rfl, q _ (I.hok.fresh (Nat.le_refl _))⟩
  exact ⟨s.toks, u, s.toks + 1, Heap.get?_push_size _ rfl⟩
/-- range(j), kept -/
def dRng : List D → Store → Option D
  | [.int j], _ => if inR j then some (.rng 0 j) else none
  | _, _ => none
theorem cd_rng {X : Cx} : CallD X (.type "range") dRng := fun pins s σ ρ H S ds vs us Q I R r rv q => by
  unfold dRng at q
  split at q
  · rename_i j
    split at q
    · obtain ⟨v, rfl, r1⟩ := reps1 r
      cases r1
      exact cr_range1 pins s σ H _ us Q I rv ⟨j, rfl, fun p hp => q ρ _ (Fr.laid hp) (R.laid hp) _ (.rng upd_same)⟩
    · exact q.elim
  · exact q.elim
/-- a kept range, walked -/
def srcRg : D → Option Src
  | .rng lo hi => if inR lo && inR hi then some ⟨rng lo (hi - lo).toNat, []⟩ else none
  | _ => none
def mSrcRg (m : ME) : MI := fun e S => (m e S).bind fun d S1 => .of (srcRg d) S1
theorem im_rng {X : Cx} {W : WX} {tg e : Expr} {m : ME} (he : EM X W e m) : IM X W tg e (mSrcRg m) :=
  pi_imp (pi_rngV he) fun σ H R' ⟨ρ, e, S, he, R, q⟩ => ⟨ρ, e, S, he, R, (Post.bind q).mono fun d S1 ρ1 H1 f1 R1 q v r => by
    cases hk : srcRg d with
    | none => rw [hk] at q; exact q.elim
    | some src =>
      rw [hk] at q
      unfold srcRg at hk
      split at hk
      · rename_i lo hi
        split at hk
        · rename_i hb
          cases hk
          cases r with
          | rng hs =>
            simp only [inR, Bool.and_eq_true, decide_eq_true_eq] at hb
            exact ⟨_, lo, hi, rfl, hs, ⟨hb.1.1, hb.1.2, hb.2.1, hb.2.2⟩, q ρ1 H1 (Fr.refl _ _) R1 _ (jok_rng lo _)⟩
        · cases hk
      · cases hk⟩
end M


set_option Elab.async false
set_option linter.all false
set_option maxRecDepth 100000
set_option maxHeartbeats 1000000
namespace ZT
open PySem
open PySem.Sem (wp)
theorem typeCall_n (us : List Value) : checkTypeCall "zip" ⟨us, []⟩ = pure () := by kernel_rfl
theorem newCall_n (us : List Value) : checkBuiltinCall "zip.__new__" ⟨.type "zip" :: us, []⟩ = pure () := by
  cases us with
  | nil => kernel_rfl
  | cons a us => kernel_rfl
theorem args_init_n (obj : Value) (us : List Value) : argsOk "object.__init__" ⟨obj :: us, []⟩ := by
  unfold argsOk; rw [signature?_of (id := "object.__init__") (n := ['_', '_', 't', 'i', 'n', 'i', '_', '_']) (o := ['t', 'c', 'e', 'j', 'b', 'o']) (by kernel_rfl) F.owner_object]; kernel_rfl
section
variable {prog : Program} {w : World} {A : Around} {E : Value → Shared → Prop}
theorem wpAny_forIn {α β : Type} {M : Model} (f : α → β → Sem (ForInStep β)) (I : Nat → β → Shared → Prop) : ∀ (l : List α) (k : Nat) (b : β) (s : Shared), I k b s →
    (∀ i a b s, l[i]? = some a → I (k + i) b s → wpAny M A (f a b) (fun r s' => ∃ b', r = .yield b' ∧ I (k + i + 1) b' s') E s) → wpAny M A (forIn l b f) (fun b' s' => I (k + l.length) b' s') E s
  | [], k, b, s, h, _ => by
    rw [List.forIn_nil]
    exact wpAny_pure h
  | a :: l, k, b, s, h, st => by
    rw [List.forIn_cons]
    refine wpAny_bind (wpAny_mono (st 0 a b s rfl h) (fun r s' ⟨b', e, h'⟩ => ?_) fun _ _ x => x)
    subst e
    have z := wpAny_forIn f I l (k + 1) b' s' h' fun i a b s e q => by
      have := st (i + 1) a b s (by simpa using e) (by rw [show k + (i + 1) = k + 1 + i by omega]; exact q)
      rw [show k + (i + 1) = k + 1 + i by omega] at this
      exact this
    rw [show k + (a :: l).length = k + 1 + l.length by simp; omega]
    exact z
end
structure ZAp (z TI TO : Nat) (is ls : List Nat) : Prop where
  TIz : TI ≠ z
  TOz : TO ≠ z
  TITO : TI ≠ TO
  zi : z ∉ is
  TIi : TI ∉ is
  TOi : TO ∉ is
  nd : is.Nodup
  lz : ∀ l ∈ ls, l ≠ z ∧ l ≠ TO ∧ l ∉ is
  len : is.length = ls.length
structure ZSt (h : Heap) (z TI TO : Nat) (is ls : List Nat) (rows : List (Array Value)) (k : Nat) (f0 f1 : Value) : Prop where
  hz : h.get? z = some { cls := .type "zip", dict := none, data := .fields #[f0, f1, .bool false, .ref TI, .ref TO], slots := #[] }
  hTI : h.get? TI = some { cls := .type "tuple", data := .seq (is.map Value.ref).toArray }
  hTO : ∃ kept : Array Value, h.get? TO = some { cls := .type "tuple", data := .seq kept } ∧ kept.size = is.length
  it : ∀ (j : Nat) (i l : Nat), is[j]? = some i → ls[j]? = some l → h.IsTupleIter i l k
  tp : ∀ (j : Nat) (l : Nat) (r : Array Value), ls[j]? = some l → rows[j]? = some r → h.IsTuple l r
section
variable {prog : Program} {w : World} {A : Around} {E : Value → Shared → Prop} {s : Shared}
theorem wpAny_loadIfAlive {M : Model} {a : Nat} {Q : Option Obj → Shared → Prop} (h : Q (s.heap.get? a) s) : wpAny M A (loadIfAlive a) Q E s := fun _ _ _ => h
/-- the k-th of the j-th row -/
def cv (rows : List (Array Value)) (k j : Nat) : Value := ((rows[j]?.getD #[])[k]?).getD .none
def col (rows : List (Array Value)) (k : Nat) : List Value := (List.range rows.length).map (cv rows k)
theorem cv_of {rows : List (Array Value)} {k j : Nat} {r : Array Value} {x : Value} (h : rows[j]? = some r) (e : r[k]? = some x) : cv rows k j = x := by
  unfold cv; rw [h]; simp [e]
structure Mid (s0 : Heap) (z TO : Nat) (is ls : List Nat) (rows : List (Array Value)) (k j : Nat) (h : Heap) : Prop where
  it : ∀ (m : Nat) (i l : Nat), is[m]? = some i → ls[m]? = some l → h.IsTupleIter i l (if m < j then k + 1 else k)
  keep : ∀ c o, c ≠ z → c ≠ TO → c ∉ is → s0.get? c = some o → h.get? c = some o
  sz : h.objs.size = s0.objs.size
theorem Mid.step {s0 : Heap} {z TI TO : Nat} {is ls : List Nat} {rows : List (Array Value)} {k j : Nat} {h h' : Heap} {i l : Nat} (D : ZAp z TI TO is ls) (M : Mid s0 z TO is ls rows k j h) (hi : is[j]? = some i) (hl : ls[j]? = some l)
    (n : h'.IsTupleIter i l (k + 1)) (b : Heap.SameBut i h h') : Mid s0 z TO is ls rows k (j + 1) h' := by
  refine ⟨fun m i' l' e1 e2 => ?_, fun c o c1 c2 c3 e => b.extBut c o (fun q => c3 (by rw [q]; exact List.mem_of_getElem? hi)) (M.keep c o c1 c2 c3 e), b.1.trans M.sz⟩
  by_cases hm : m = j
  · subst hm
    rw [hi] at e1; rw [hl] at e2; cases e1; cases e2
    rw [if_pos (Nat.lt_succ_self _)]; exact n
  · have q := M.it m i' l' e1 e2
    have ne : i' ≠ i := fun z => hm (by
      subst z
      obtain ⟨h1, z1⟩ := List.getElem?_eq_some_iff.mp e1
      obtain ⟨h2, z2⟩ := List.getElem?_eq_some_iff.mp hi
      exact (List.getElem_inj D.nd).mp (z1.trans z2.symm))
    have e : (if m < j + 1 then k + 1 else k) = if m < j then k + 1 else k := by
      by_cases q : m < j
      · rw [if_pos q, if_pos (by omega)]
      · rw [if_neg q, if_neg (by omega)]
    rw [e]
    exact q.extBut b.extBut ne
theorem zip_next_first {z TI TO : Nat} {is ls : List Nat} {rows : List (Array Value)} {k : Nat} {Q : Value → Shared → Prop} (D : ZAp z TI TO is ls) (S : ZSt s.heap z TI TO is ls rows k .none (.bool false))
    (hl : ls.length = rows.length) (hne : is ≠ []) (hn : is.length ≤ sizeLine) (hk : ∀ r ∈ rows, k < r.size)
    (hQ : ∀ h', ZSt h' z TI TO is ls rows (k + 1) (rawInt s.heap.objs.size) (.bool false) → h'.get? s.heap.objs.size = some { cls := .type "tuple", data := .seq (col rows k).toArray } → h'.objs.size = s.heap.objs.size + 1 →
      (∀ c o, c ≠ z → c ≠ TO → c ∉ is → s.heap.get? c = some o → h'.get? c = some o) → Q (.ref s.heap.objs.size) { s with heap := h' }) :
    wpAny (model prog w) A (Builtin.«zip.__next__» ⟨[.ref z], []⟩) (fun fin s' => ∃ v, fin = .done (.ret v) ∧ Q v s') E s := by
  obtain ⟨hz, hTI, ⟨kept, hTO, hks⟩, hit, htp⟩ := S
  show wpAny _ _ (field (.ref z) 2 >>= _) _ _ _
  refine wpAny_bind (wpAny_field hz rfl (x := .bool false) rfl ?_)
  show wpAny _ _ (field (.ref z) 3 >>= _) _ _ _
  refine wpAny_bind (wpAny_field hz rfl (x := .ref TI) rfl ?_)
  refine wpAny_bind (wpAny_seqItems hTI rfl ?_)
  dsimp only
  rw [if_neg (by simpa using hne)]
  show wpAny _ _ (Builtin.SmallTypes.ownedTupleIsFree (.ref z) >>= _) _ _ _
  refine wpAny_bind ?_
  unfold Builtin.SmallTypes.ownedTupleIsFree
  refine wpAny_bind (wpAny_field hz rfl (x := .none) rfl (wpAny_pure ?_))
  simp only [if_true]
  refine wpAny_bind (wpAny_rule ?_)
  refine wpAny_bind (wpAny_field hz rfl (x := .ref TO) rfl ?_)
  refine wpAny_bind (wpAny_setField_rec hz (by simp) fun h₁ hz₁ hs₁ => ?_)
  replace hz₁ : h₁.get? z = some { cls := .type "zip", dict := none, data := .fields #[.ellipsis, .bool false, .bool false, .ref TI, .ref TO], slots := #[] } := hz₁
  refine wpAny_bind (wpAny_mono (wpAny_forIn _ (fun j b s' => b = (none, ()) ∧ ∃ h kept', s' = { s with heap := h } ∧ h.get? z = some { cls := .type "zip", dict := none, data := .fields #[.ellipsis, .bool false, .bool false, .ref TI, .ref TO], slots := #[] } ∧
      Mid s.heap z TO is ls rows k j h ∧ h.get? TO = some { cls := .type "tuple", data := .seq kept' } ∧ kept'.size = is.length ∧ ∀ m, m < j → kept'[m]? = some (cv rows k m)) _ 0 _ _ ?_ ?_) (fun b s' hb => ?_) fun _ _ x => x)
  · refine ⟨rfl, h₁, kept, rfl, hz₁, ⟨fun m i l e1 e2 => ?_, fun c o c1 c2 c3 e => hs₁.extBut c o c1 e, hs₁.1⟩, hs₁.extBut _ _ D.TOz hTO, hks, fun m hm => absurd hm (Nat.not_lt_zero _)⟩
    rw [if_neg (Nat.not_lt_zero _)]
    exact (hit m i l e1 e2).extBut hs₁.extBut fun q => D.zi (by rw [← q]; exact List.mem_of_getElem? e1)
  · intro j a b s' ha ⟨eb, h, kept', es, hz', M, hTO', hks', hkv⟩
    subst eb es
    rw [Nat.zero_add] at *
    rw [List.getElem?_zipIdx, List.getElem?_map] at ha
    cases hi : is[j]? with
    | none => rw [hi] at ha; cases ha
    | some i =>
      rw [hi] at ha
      cases ha
      have hj : j < is.length := (List.getElem?_eq_some_iff.mp hi).1
      have hjl : j < ls.length := by rw [← D.len]; exact hj
      have el : ls[j]? = some ls[j] := List.getElem?_eq_getElem hjl
      have er : rows[j]? = some rows[j] := List.getElem?_eq_getElem (by omega)
      have hkr := hk _ (List.getElem_mem (l := rows) (n := j) (by omega))
      have ex : rows[j][k]? = some rows[j][k] := Array.getElem?_eq_getElem hkr
      have lm := D.lz _ (List.getElem_mem hjl)
      have htl : h.IsTuple ls[j] rows[j] := by
        obtain ⟨o, ho, r⟩ := htp j _ _ el er
        exact ⟨o, M.keep _ o lm.1 lm.2.1 lm.2.2 ho, r⟩
      have hti := M.it j i _ hi el
      rw [if_neg (Nat.lt_irrefl _)] at hti
      have iz : i ≠ z := fun q => D.zi (by rw [← q]; exact List.mem_of_getElem? hi)
      have iTO : i ≠ TO := fun q => D.TOi (by rw [← q]; exact List.mem_of_getElem? hi)
      refine wpAny_bind (wpAny_onRaise ?_)
      show wpAny _ _ (Builtin.SmallTypes.nextOf (.ref i) >>= _) _ _ _
      refine wpAny_bind (wpAny_nextOf_tuple_item hti htl ex fun h₂ h1₂ hs₂ => wpAny_pure ?_)
      have hTO₂ := hs₂.extBut _ _ (Ne.symm iTO) hTO'
      refine wpAny_bind (wpAny_seqItems hTO₂ rfl ?_)
      dsimp only
      refine wpAny_bind (wpAny_updateSeq hTO₂ rfl ?_ (by omega) (by simp; omega))
      refine wpAny_bind (wpAny_letGo (wpAny_pure ?_))
      simp only [Nat.zero_add]
      have u3 : (h₂.update TO (Obj.mapSeq fun x => x.setIfInBounds j rows[j][k])).get? TO = some { cls := .type "tuple", data := .seq (kept'.setIfInBounds j rows[j][k]) } := by
        rw [Heap.get?_update_self _ hTO₂ rfl]; simp [Obj.mapSeq]
      have sb3 : Heap.SameBut TO h₂ (h₂.update TO (Obj.mapSeq fun x => x.setIfInBounds j rows[j][k])) := Heap.SameBut.update ..
      refine ⟨_, rfl, rfl, _, _, rfl, sb3.extBut _ _ (Ne.symm D.TOz) (hs₂.extBut _ _ (Ne.symm iz) hz'), ?_, u3, by simp [hks'], fun m hm => ?_⟩
      · have M2 := M.step D hi el h1₂ hs₂
        refine ⟨fun m i' l' e1 e2 => (M2.it m i' l' e1 e2).extBut sb3.extBut fun q => D.TOi (by rw [← q]; exact List.mem_of_getElem? e1), fun c o c1 c2 c3 e => sb3.extBut c o c2 (M2.keep c o c1 c2 c3 e), sb3.1.trans M2.sz⟩
      · rw [Array.getElem?_setIfInBounds]
        by_cases e : j = m
        · rw [if_pos e, if_pos (by omega), ← e, cv_of er ex]
        · rw [if_neg e]; exact hkv m (by omega)
  · obtain ⟨eb, h, kept', es, hz', M, hTO', hks', hkv⟩ := hb
    subst eb es
    dsimp only
    have ek : kept'.toList = col rows k := by
      apply List.ext_getElem?
      intro m
      rw [Array.getElem?_toList]
      by_cases hm : m < is.length
      · rw [hkv m (by simp; omega)]
        unfold col
        rw [List.getElem?_map, List.getElem?_range (by rw [← hl, ← D.len]; exact hm)]
        rfl
      · rw [Array.getElem?_eq_none (by omega), List.getElem?_eq_none (by unfold col; simp [← hl, ← D.len]; omega)]
    refine wpAny_bind (wpAny_seqItems hTO' rfl ?_)
    dsimp only
    refine wpAny_bind (wpAny_newTuple ?_ (by rw [Array.length_toList]; omega))
    have zlt : z < h.objs.size := Heap.lt_size hz'
    rw [ek]
    show wpAny _ _ (Builtin.SmallTypes.ownedTupleHandOut (.ref z) (.ref h.objs.size) >>= _) _ _ _
    refine wpAny_bind ?_
    unfold Builtin.SmallTypes.ownedTupleHandOut
    have hz₆ := Heap.get?_push_of_some { cls := .type "tuple", data := .seq (col rows k).toArray } hz'
    refine wpAny_bind (wpAny_setField_rec hz₆ (by simp) fun h₇ hz₇ hs₇ => ?_)
    refine wpAny_setField_rec hz₇ (by simp) fun h₈ hz₈ hs₈ => ?_
    have up : ∀ c o, c ≠ z → h.get? c = some o → h₈.get? c = some o := fun c o c1 e => hs₈.extBut _ _ c1 (hs₇.extBut _ _ c1 (Heap.get?_push_of_some _ e))
    have hT₈ : h₈.get? h.objs.size = some { cls := .type "tuple", data := .seq (col rows k).toArray } := hs₈.extBut _ _ (Nat.ne_of_gt zlt) (hs₇.extBut _ _ (Nat.ne_of_gt zlt) (Heap.get?_push_size _ rfl))
    have hz8 : h₈.objs.size = h.objs.size + 1 := by rw [hs₈.1, hs₇.1, Heap.size_push]
    refine wpAny_pure ⟨_, rfl, ?_⟩
    show Q (.ref h.objs.size) _
    have esz := M.sz
    rw [esz] at hz8 hT₈ ⊢
    replace hz₈ : h₈.get? z = some { cls := .type "zip", dict := none, data := .fields #[rawInt h.objs.size, .bool false, .bool false, .ref TI, .ref TO], slots := #[] } := hz₈
    rw [esz] at hz₈
    refine hQ h₈ ⟨hz₈, up _ _ D.TIz (M.keep _ _ D.TIz D.TITO D.TIi hTI), ⟨kept', up _ _ D.TOz hTO', hks'⟩, fun j i l e1 e2 => ?_, fun j l r e1 e2 => ?_⟩ hT₈ hz8 fun c o c1 c2 c3 e => up c o c1 (M.keep c o c1 c2 c3 e)
    · have q := M.it j i l e1 e2
      rw [if_pos (by have := (List.getElem?_eq_some_iff.mp e1).1; simp; omega)] at q
      exact q.at fun o e => up i o (fun q => D.zi (by rw [← q]; exact List.mem_of_getElem? e1)) e
    · have lm := D.lz _ (List.mem_of_getElem? e1)
      obtain ⟨o, ho, r'⟩ := htp j l r e1 e2
      exact ⟨o, up l o lm.1 (M.keep _ o lm.1 lm.2.1 lm.2.2 ho), r'⟩
/-- .. later, while the first tuple stands -/
theorem zip_next_later {z TI TO T0 : Nat} {b1 : Bool} {is ls : List Nat} {rows : List (Array Value)} {k : Nat} {Q : Value → Shared → Prop} (D : ZAp z TI TO is ls) (S : ZSt s.heap z TI TO is ls rows k (rawInt T0) (.bool b1)) (hT0 : ∃ o, s.heap.get? T0 = some o)
    (hl : ls.length = rows.length) (hne : is ≠ []) (hn : is.length ≤ sizeLine) (hk : ∀ r ∈ rows, k < r.size)
    (hQ : ∀ h', ZSt h' z TI TO is ls rows (k + 1) (rawInt T0) (.bool true) → h'.get? s.heap.objs.size = some { cls := .type "tuple", data := .seq (col rows k).toArray } → h'.objs.size = s.heap.objs.size + 1 →
      (∀ c o, c ≠ z → c ≠ TO → c ∉ is → s.heap.get? c = some o → h'.get? c = some o) → Q (.ref s.heap.objs.size) { s with heap := h' }) :
    wpAny (model prog w) A (Builtin.«zip.__next__» ⟨[.ref z], []⟩) (fun fin s' => ∃ v, fin = .done (.ret v) ∧ Q v s') E s := by
  obtain ⟨hz, hTI, ⟨kept, hTO, hks⟩, hit, htp⟩ := S
  obtain ⟨o0, ho0⟩ := hT0
  show wpAny _ _ (field (.ref z) 2 >>= _) _ _ _
  refine wpAny_bind (wpAny_field hz rfl (x := .bool false) rfl ?_)
  show wpAny _ _ (field (.ref z) 3 >>= _) _ _ _
  refine wpAny_bind (wpAny_field hz rfl (x := .ref TI) rfl ?_)
  refine wpAny_bind (wpAny_seqItems hTI rfl ?_)
  dsimp only
  rw [if_neg (by simpa using hne)]
  show wpAny _ _ (Builtin.SmallTypes.ownedTupleIsFree (.ref z) >>= _) _ _ _
  have owned : wpAny (model prog w) A (Builtin.SmallTypes.ownedTupleIsFree (.ref z)) (fun b s' => b = false ∧ ∃ h, s' = { s with heap := h } ∧ h.get? z = some { cls := .type "zip", dict := none, data := .fields #[rawInt T0, .bool true, .bool false, .ref TI, .ref TO], slots := #[] } ∧ Heap.SameBut z s.heap h) E s := by
    unfold Builtin.SmallTypes.ownedTupleIsFree
    refine wpAny_bind (wpAny_field hz rfl (x := rawInt T0) rfl ?_)
    show wpAny _ _ (loadIfAlive (Int.toNat T0) >>= _) _ _ _
    rw [Int.toNat_natCast]
    refine wpAny_bind (wpAny_loadIfAlive ?_)
    rw [ho0]
    show wpAny _ _ (field (.ref z) 1 >>= _) _ _ _
    refine wpAny_bind (wpAny_field hz rfl (x := .bool b1) rfl ?_)
    cases b1 with
    | true => exact wpAny_pure ⟨rfl, s.heap, rfl, hz, ⟨rfl, fun _ _ => rfl⟩⟩
    | false =>
      refine wpAny_bind (wpAny_setField_rec hz (by simp) fun h₁ hz₁ hs₁ => ?_)
      exact wpAny_pure ⟨rfl, h₁, rfl, hz₁, hs₁⟩
  refine wpAny_bind (wpAny_mono owned (fun b s' ⟨eb, h₁, es, hz₁, hs₁⟩ => ?_) fun _ _ x => x)
  subst eb es
  simp only [Bool.false_eq_true, if_false]
  rw [List.forIn_toArray]
  refine wpAny_bind (wpAny_mono (wpAny_forIn _ (fun j b s' => ∃ acc h, b = (none, acc) ∧ s' = { s with heap := h } ∧ h.get? z = some { cls := .type "zip", dict := none, data := .fields #[rawInt T0, .bool true, .bool false, .ref TI, .ref TO], slots := #[] } ∧
      Mid s.heap z TO is ls rows k j h ∧ h.get? TO = some { cls := .type "tuple", data := .seq kept } ∧ acc.size = j ∧ ∀ m, m < j → acc[m]? = some (cv rows k m)) _ 0 _ _ ?_ ?_) (fun b s' hb => ?_) fun _ _ x => x)
  · refine ⟨#[], h₁, rfl, rfl, hz₁, ⟨fun m i l e1 e2 => ?_, fun c o c1 c2 c3 e => hs₁.extBut c o c1 e, hs₁.1⟩, hs₁.extBut _ _ D.TOz hTO, rfl, fun m hm => absurd hm (Nat.not_lt_zero _)⟩
    rw [if_neg (Nat.not_lt_zero _)]
    exact (hit m i l e1 e2).extBut hs₁.extBut fun q => D.zi (by rw [← q]; exact List.mem_of_getElem? e1)
  · intro j a b s' ha ⟨acc, h, eb, es, hz', M, hTO', has, hkv⟩
    subst eb es
    rw [Nat.zero_add] at *
    rw [List.getElem?_map] at ha
    cases hi : is[j]? with
    | none => rw [hi] at ha; cases ha
    | some i =>
      rw [hi] at ha
      cases ha
      have hj : j < is.length := (List.getElem?_eq_some_iff.mp hi).1
      have hjl : j < ls.length := by rw [← D.len]; exact hj
      have el : ls[j]? = some ls[j] := List.getElem?_eq_getElem hjl
      have er : rows[j]? = some rows[j] := List.getElem?_eq_getElem (by omega)
      have hkr := hk _ (List.getElem_mem (l := rows) (n := j) (by omega))
      have ex : rows[j][k]? = some rows[j][k] := Array.getElem?_eq_getElem hkr
      have lm := D.lz _ (List.getElem_mem hjl)
      have htl : h.IsTuple ls[j] rows[j] := by
        obtain ⟨o, ho, r⟩ := htp j _ _ el er
        exact ⟨o, M.keep _ o lm.1 lm.2.1 lm.2.2 ho, r⟩
      have hti := M.it j i _ hi el
      rw [if_neg (Nat.lt_irrefl _)] at hti
      have iz : i ≠ z := fun q => D.zi (by rw [← q]; exact List.mem_of_getElem? hi)
      have iTO : i ≠ TO := fun q => D.TOi (by rw [← q]; exact List.mem_of_getElem? hi)
      refine wpAny_bind (wpAny_holding ?_)
      show wpAny _ _ (Builtin.SmallTypes.nextOf (.ref i) >>= _) _ _ _
      refine wpAny_bind (wpAny_nextOf_tuple_item hti htl ex fun h₂ h1₂ hs₂ => wpAny_pure ?_)
      refine wpAny_pure ⟨_, rfl, acc.push rows[j][k], h₂, rfl, rfl, hs₂.extBut _ _ (Ne.symm iz) hz', M.step D hi el h1₂ hs₂, hs₂.extBut _ _ (Ne.symm iTO) hTO', by rw [Array.size_push, has], fun m hm => ?_⟩
      rw [Array.getElem?_push]
      by_cases e : m = acc.size
      · rw [if_pos e, e, has, cv_of er ex]
      · rw [if_neg e]; exact hkv m (by omega)
  · obtain ⟨acc, h, eb, es, hz', M, hTO', has, hkv⟩ := hb
    subst eb es
    dsimp only
    rw [Nat.zero_add, List.length_map] at has
    have ek : acc.toList = col rows k := by
      apply List.ext_getElem?
      intro m
      rw [Array.getElem?_toList]
      by_cases hm : m < is.length
      · rw [hkv m (by simp; omega)]
        unfold col
        rw [List.getElem?_map, List.getElem?_range (by rw [← hl, ← D.len]; exact hm)]
        rfl
      · rw [Array.getElem?_eq_none (by omega), List.getElem?_eq_none (by unfold col; simp [← hl, ← D.len]; omega)]
    refine wpAny_bind (wpAny_newTuple ?_ (by rw [Array.length_toList]; omega))
    have zlt : z < h.objs.size := Heap.lt_size hz'
    rw [ek]
    refine wpAny_pure ⟨_, rfl, ?_⟩
    show Q (.ref h.objs.size) _
    have esz := M.sz
    have up : ∀ c o, h.get? c = some o → (h.push { cls := .type "tuple", data := .seq (col rows k).toArray }).get? c = some o := fun c o e => Heap.get?_push_of_some _ e
    have hT₈ : (h.push { cls := .type "tuple", data := .seq (col rows k).toArray }).get? h.objs.size = some { cls := .type "tuple", data := .seq (col rows k).toArray } := Heap.get?_push_size _ rfl
    have hz8 : (h.push { cls := .type "tuple", data := .seq (col rows k).toArray }).objs.size = h.objs.size + 1 := Heap.size_push ..
    rw [esz] at hz8 hT₈ ⊢
    refine hQ _ ⟨up _ _ hz', up _ _ (M.keep _ _ D.TIz D.TITO D.TIi hTI), ⟨kept, up _ _ hTO', hks⟩, fun j i l e1 e2 => ?_, fun j l r e1 e2 => ?_⟩ hT₈ hz8 fun c o c1 c2 c3 e => up c o (M.keep c o c1 c2 c3 e)
    · have q := M.it j i l e1 e2
      rw [if_pos (by have := (List.getElem?_eq_some_iff.mp e1).1; simp; omega)] at q
      exact q.at fun o e => up i o e
    · have lm := D.lz _ (List.mem_of_getElem? e1)
      obtain ⟨o, ho, r'⟩ := htp j l r e1 e2
      exact ⟨o, up l o (M.keep _ o lm.1 lm.2.1 lm.2.2 ho), r'⟩
/-- all rows are at their end -/
theorem zip_next_end {z TI TO : Nat} {f0 f1 : Value} {is ls : List Nat} {rows : List (Array Value)} {k : Nat} {Q : Fin → Shared → Prop} (hh : A.handled = none) (D : ZAp z TI TO is ls) (S : ZSt s.heap z TI TO is ls rows k f0 f1)
    (hf : (f0 = .none ∧ f1 = .bool false) ∨ ∃ (T0 : Nat) (b : Bool) (o : Obj), f0 = rawInt T0 ∧ f1 = .bool b ∧ s.heap.get? T0 = some o)
    (hl : ls.length = rows.length) (hk : ∀ r ∈ rows, k = r.size)
    (hE : ∀ h' e, (∀ c o, c ≠ z → c ≠ TO → c ∉ is → s.heap.get? c = some o → h'.get? c = some o) → (∃ o, h'.get? e = some o ∧ o.cls = .type "StopIteration") → E (.ref e) { s with heap := h' }) :
    wpAny (model prog w) A (Builtin.«zip.__next__» ⟨[.ref z], []⟩) Q E s := by
  obtain ⟨hz, hTI, ⟨kept, hTO, hks⟩, hit, htp⟩ := S
  show wpAny _ _ (field (.ref z) 2 >>= _) _ _ _
  refine wpAny_bind (wpAny_field hz rfl (x := .bool false) rfl ?_)
  show wpAny _ _ (field (.ref z) 3 >>= _) _ _ _
  refine wpAny_bind (wpAny_field hz rfl (x := .ref TI) rfl ?_)
  refine wpAny_bind (wpAny_seqItems hTI rfl ?_)
  dsimp only
  cases is with
  | nil =>
    rw [if_pos (by simp)]
    refine wpAny_bind (wpAny_rule (wpAny_bind ?_))
    unfold Builtin.SmallTypes.stopIteration
    show wpAny _ _ (newExc (.type "StopIteration") [] >>= _) _ _ _
    refine wpAny_bind ?_
    simp only [newExc, newTuple]
    refine wpAny_bind (wpAny_newObj_type ?_ (by size_fits))
    refine wpAny_bind (m := firstArgMember _ _) (wpAny_of_eq (a := Value.none) (by first | rfl | (simp only [firstArgMember]; rfl)) ?_)
    refine wpAny_newObj_type ?_ (by size_fits)
    simp only [raiseNew]
    refine wpAny_bind (wpAny_handled ?_)
    first | rw [show A.in1.handled = none from hh] | rw [hh]
    refine wpAny_bind (wpAny_pure (wpAny_throw ?_))
    exact hE _ _ (fun c o _ _ _ e => Heap.get?_push_of_some _ (Heap.get?_push_of_some _ e)) ⟨_, Heap.get?_push_size _ rfl, rfl⟩
  | cons i is =>
    rw [if_neg (by simp)]
    have hil : i ∈ i :: is := List.mem_cons_self
    have iz : i ≠ z := fun q => D.zi (by rw [← q]; exact hil)
    have hl0 : 0 < ls.length := by rw [← D.len]; simp
    have el : ls[0]? = some ls[0] := List.getElem?_eq_getElem hl0
    have er : rows[0]? = some rows[0] := List.getElem?_eq_getElem (by omega)
    have hkr := hk _ (List.getElem_mem (l := rows) (n := 0) (by omega))
    have lm := D.lz _ (List.getElem_mem hl0)
    have ex : rows[0][k]? = none := Array.getElem?_eq_none (by omega)
    show wpAny _ _ (Builtin.SmallTypes.ownedTupleIsFree (.ref z) >>= _) _ _ _
    rcases hf with ⟨rfl, rfl⟩ | ⟨T0, b1, o0, rfl, rfl, ho0⟩
    · refine wpAny_bind ?_
      unfold Builtin.SmallTypes.ownedTupleIsFree
      refine wpAny_bind (wpAny_field hz rfl (x := .none) rfl (wpAny_pure ?_))
      simp only [if_true]
      refine wpAny_bind (wpAny_rule ?_)
      refine wpAny_bind (wpAny_field hz rfl (x := .ref TO) rfl ?_)
      refine wpAny_bind (wpAny_setField_rec hz (by simp) fun h₁ hz₁ hs₁ => ?_)
      replace hz₁ : h₁.get? z = some { cls := .type "zip", dict := none, data := .fields #[.ellipsis, .bool false, .bool false, .ref TI, .ref TO], slots := #[] } := hz₁
      refine wpAny_bind ?_
      simp only [List.map_cons, List.zipIdx_cons, List.forIn_cons]
      refine wpAny_bind (wpAny_bind (wpAny_onRaise ?_))
      show wpAny _ _ (Builtin.SmallTypes.nextOf (.ref i) >>= _) _ _ _
      refine wpAny_bind (wpAny_nextOf_tuple_end hh ((hit 0 i _ rfl el).extBut hs₁.extBut iz) ((htp 0 _ _ el er).extBut hs₁.extBut lm.1) ex fun h₂ e hs₂ he => ?_)
      obtain ⟨oe, hoe, hce⟩ := he
      have hz₂ := hs₂ _ _ (Ne.symm iz) hz₁
      have hez : e ≠ z := fun x => by subst x; rw [hz₂] at hoe; cases hoe; simp at hce
      refine wpAny_setField_rec hz₂ (by simp) fun h₃ _ hs₃ => hE h₃ e (fun c o c1 _ c3 x => hs₃.extBut _ _ c1 (hs₂ _ _ (fun q => c3 (by rw [q]; exact hil)) (hs₁.extBut _ _ c1 x))) ⟨oe, hs₃.extBut _ _ hez hoe, hce⟩
    · have owned : wpAny (model prog w) A (Builtin.SmallTypes.ownedTupleIsFree (.ref z)) (fun b s' => b = false ∧ ∃ h, s' = { s with heap := h } ∧ Heap.SameBut z s.heap h) E s := by
        unfold Builtin.SmallTypes.ownedTupleIsFree
        refine wpAny_bind (wpAny_field hz rfl (x := rawInt T0) rfl ?_)
        show wpAny _ _ (loadIfAlive (Int.toNat T0) >>= _) _ _ _
        rw [Int.toNat_natCast]
        refine wpAny_bind (wpAny_loadIfAlive ?_)
        rw [ho0]
        show wpAny _ _ (field (.ref z) 1 >>= _) _ _ _
        refine wpAny_bind (wpAny_field hz rfl (x := .bool b1) rfl ?_)
        cases b1 with
        | true => exact wpAny_pure ⟨rfl, s.heap, rfl, ⟨rfl, fun _ _ => rfl⟩⟩
        | false =>
          refine wpAny_bind (wpAny_setField_rec hz (by simp) fun h₁ hz₁ hs₁ => ?_)
          exact wpAny_pure ⟨rfl, h₁, rfl, hs₁⟩
      refine wpAny_bind (wpAny_mono owned (fun b s' ⟨eb, h₁, es, hs₁⟩ => ?_) fun _ _ x => x)
      subst eb es
      simp only [Bool.false_eq_true, if_false]
      rw [List.forIn_toArray]
      refine wpAny_bind ?_
      simp only [List.map_cons, List.forIn_cons]
      refine wpAny_bind (wpAny_bind (wpAny_holding ?_))
      show wpAny _ _ (Builtin.SmallTypes.nextOf (.ref i) >>= _) _ _ _
      refine wpAny_bind (wpAny_nextOf_tuple_end hh ((hit 0 i _ rfl el).extBut hs₁.extBut iz) ((htp 0 _ _ el er).extBut hs₁.extBut lm.1) ex fun h₂ e hs₂ he => ?_)
      exact hE h₂ e (fun c o c1 _ c3 x => hs₂ _ _ (fun q => c3 (by rw [q]; exact hil)) (hs₁.extBut _ _ c1 x)) he
/-! zip(..) of tuples -/
theorem wpAny_iterAll {ls : List Nat} {rows : List (Array Value)} {Q : List Value → Shared → Prop} (hl : ls.length = rows.length) (htp : ∀ (j : Nat) (l : Nat) (r : Array Value), ls[j]? = some l → rows[j]? = some r → s.heap.IsTuple l r)
    (hQ : ∀ h' (is : List Nat), is.length = ls.length → (∀ i ∈ is, s.heap.objs.size ≤ i ∧ i < h'.objs.size) → is.Nodup → (∀ (j : Nat) (i l : Nat), is[j]? = some i → ls[j]? = some l → h'.IsTupleIter i l 0) →
      (∀ c o, s.heap.get? c = some o → h'.get? c = some o) → s.heap.objs.size ≤ h'.objs.size → Q (is.map Value.ref) { s with heap := h' }) :
    wpAny (model prog w) A (Builtin.SmallTypes.iterAll (ls.map Value.ref)) Q E s := by
  unfold Builtin.SmallTypes.iterAll
  refine wpAny_bind (wpAny_mono (wpAny_forIn _ (fun j (b : Array Value) s' => ∃ (h : Heap) (is : List Nat), b = (is.map Value.ref).toArray ∧ s' = { s with heap := h } ∧ is.length = j ∧ (∀ i ∈ is, s.heap.objs.size ≤ i ∧ i < h.objs.size) ∧ is.Nodup ∧
      (∀ (m : Nat) (i l : Nat), is[m]? = some i → ls[m]? = some l → h.IsTupleIter i l 0) ∧ (∀ c o, s.heap.get? c = some o → h.get? c = some o) ∧ s.heap.objs.size ≤ h.objs.size) _ 0 _ _ ?_ ?_) (fun b s' hb => ?_) fun _ _ x => x)
  · exact ⟨s.heap, [], rfl, rfl, rfl, (fun i z => by simp at z), List.nodup_nil, (fun m i l e => by simp at e), fun _ _ e => e, Nat.le_refl _⟩
  · intro j a b s' ha ⟨h, is, eb, es, hn, hb, nd, hit, hk, hsz⟩
    subst eb es
    rw [Nat.zero_add] at *
    rw [List.getElem?_map] at ha
    cases hi : ls[j]? with
    | none => rw [hi] at ha; cases ha
    | some l =>
      rw [hi] at ha
      cases ha
      have hj : j < ls.length := (List.getElem?_eq_some_iff.mp hi).1
      have er : rows[j]? = some rows[j] := List.getElem?_eq_getElem (by omega)
      obtain ⟨o, ho, r⟩ := htp j l _ hi er
      refine wpAny_bind (wpAny_holding (wpAny_pyIter_tuple (s := { s with heap := h }) ⟨o, hk _ _ ho, r⟩ (wpAny_pure ⟨_, rfl, _, is ++ [h.objs.size], by simp, rfl, by simp [hn], fun i m => ?_, ?_, fun m i l' e1 e2 => ?_, fun c o e => Heap.get?_push_of_some _ (hk c o e), by show _ ≤ (Heap.push _ _).objs.size; rw [Heap.size_push]; exact Nat.le_succ_of_le hsz⟩)))
      · show _ ∧ i < (Heap.push _ _).objs.size
        rw [Heap.size_push]
        rcases List.mem_append.mp m with m | m
        · have := hb i m; exact ⟨this.1, Nat.lt_succ_of_lt this.2⟩
        · rw [List.mem_singleton] at m; subst m; exact ⟨hsz, Nat.lt_succ_self _⟩
      · rw [List.nodup_append]
        exact ⟨nd, by simp, fun x hx y hy => by simp at hy; subst hy; exact Nat.ne_of_lt (hb x hx).2⟩
      · by_cases hm : m < is.length
        · rw [List.getElem?_append_left hm] at e1
          exact (hit m i l' e1 e2).at fun o e => Heap.get?_push_of_some _ e
        · have hme : m = is.length := by
            have := (List.getElem?_eq_some_iff.mp e1).1
            simp at this; omega
          subst hme
          rw [List.getElem?_append_right (Nat.le_refl _)] at e1
          simp at e1
          rw [hn, hi] at e2
          cases e2
          rw [← e1]
          exact ⟨_, Heap.get?_push_size _ rfl, rfl, rfl⟩
  · obtain ⟨h, is, eb, es, hn, hb', nd, hit, hk, hsz⟩ := hb
    subst eb es
    refine wpAny_pure ?_
    rw [Nat.zero_add, List.length_map] at hn
    exact hQ h is hn hb' nd hit hk hsz
end
end ZT

set_option Elab.async false
set_option linter.all false
set_option maxRecDepth 100000
set_option maxHeartbeats 1000000
namespace ZT
open PySem
open PySem.Sem (wp)
theorem meets_zip_n (ls : List Nat) (rows : List (Array Value)) (hl : ls.length = rows.length) (hn : ls.length ≤ sizeLine) :
    Meets (Builtin.«zip.__new__» ⟨.type "zip" :: ls.map Value.ref, []⟩) (fun _ R s => (∀ (j : Nat) (l : Nat) (r : Array Value), ls[j]? = some l → rows[j]? = some r → s.heap.IsTuple l r) ∧
      ∀ (h' : Heap) (is : List Nat), is.length = ls.length → (∀ i ∈ is, s.heap.objs.size ≤ i ∧ i < h'.objs.size) → is.Nodup → (∀ (j : Nat) (i l : Nat), is[j]? = some i → ls[j]? = some l → h'.IsTupleIter i l 0) →
      (∀ c o, s.heap.get? c = some o → h'.get? c = some o) → s.heap.objs.size ≤ h'.objs.size →
      R (.ok (.ret (.ref ((h'.push { cls := .type "tuple", data := .seq (is.map Value.ref).toArray }).push { cls := .type "tuple", data := .seq ((is.map Value.ref).map fun _ => Value.none).toArray }).objs.size)))
        { s with heap := ((h'.push { cls := .type "tuple", data := .seq (is.map Value.ref).toArray }).push { cls := .type "tuple", data := .seq ((is.map Value.ref).map fun _ => Value.none).toArray }).push { cls := .type "zip", data := .fields #[.none, .bool false, .bool false, .ref h'.objs.size, .ref (h'.push { cls := .type "tuple", data := .seq (is.map Value.ref).toArray }).objs.size] } }) :=
  .of_wp fun prog w A R s h => by
    obtain ⟨hp, g, d, tk, os⟩ := s; obtain ⟨htp, h⟩ := h
    have hsub := sub_zip
    have q : ∀ {A' : Around} {E : Value → Shared → Prop} {Q : List Value → Shared → Prop}, (∀ h' (is : List Nat), is.length = ls.length → (∀ i ∈ is, hp.objs.size ≤ i ∧ i < h'.objs.size) → is.Nodup → (∀ (j : Nat) (i l : Nat), is[j]? = some i → ls[j]? = some l → h'.IsTupleIter i l 0) →
      (∀ c o, hp.get? c = some o → h'.get? c = some o) → hp.objs.size ≤ h'.objs.size → Q (is.map Value.ref) ⟨h', g, d, tk, os⟩) → wpAny (model prog w) A' (Builtin.SmallTypes.iterAll (ls.map Value.ref)) Q E ⟨hp, g, d, tk, os⟩ := fun k => wpAny_iterAll (s := ⟨hp, g, d, tk, os⟩) hl htp k
    wp_walk using q
    intro h' is a1 a2 a3 a4 a5 a6
    refine wpAny_bind (wpAny_newTuple ?_ (by rw [List.length_map, a1]; exact hn))
    refine wpAny_bind (wpAny_newTuple ?_ (by rw [List.length_map, List.length_map, a1]; exact hn))
    unfold Builtin.SmallTypes.newRecord
    refine wpAny_bind (wpAny_newObj_type ?_ (Nat.le_trans (show 5 ≤ 6 by decide) (Nat.le_trans (show 6 ≤ sizeLine by decide) (Nat.le_add_right _ _))))
    exact wpAny_pure ⟨_, rfl, h h' is a1 a2 a3 a4 a5 a6⟩
section
variable {prog : Program} {w : World} {A : Around} {E : Value → Shared → Prop} {s : Shared}
theorem call_zip_n {ls : List Nat} {rows : List (Array Value)} {Q : Value → Shared → Prop} (hl : ls.length = rows.length) (hn : ls.length ≤ sizeLine)
    (htp : ∀ (j : Nat) (l : Nat) (r : Array Value), ls[j]? = some l → rows[j]? = some r → s.heap.IsTuple l r)
    (h : ∀ (h' : Heap) (z TI TO : Nat) (is : List Nat), ZAp z TI TO is ls → ZSt h' z TI TO is ls rows 0 .none (.bool false) → (∀ c o, s.heap.get? c = some o → h'.get? c = some o) →
      (s.heap.objs.size ≤ z ∧ z < h'.objs.size) → (s.heap.objs.size ≤ TI ∧ TI < h'.objs.size) → (s.heap.objs.size ≤ TO ∧ TO < h'.objs.size) → (∀ i ∈ is, s.heap.objs.size ≤ i ∧ i < h'.objs.size) → (∀ l ∈ ls, l < s.heap.objs.size) → s.heap.objs.size ≤ h'.objs.size → Q (.ref z) { s with heap := h' }) :
    wpAny (model prog w) A (call (.type "zip") (ls.map Value.ref)) Q E s := by
  refine callType_new F.called_zip (by decide) (typeCall_n _) (newCall_n _) (fun obj => args_init_n obj _) F.entry_zip_new
    (meets_zip_n ls rows hl hn) ⟨htp, fun h' is a1 a2 a3 a4 a5 a6 => ?_⟩
  have hll : ∀ l ∈ ls, l < s.heap.objs.size := fun l hm => by
    obtain ⟨j, hj, e⟩ := List.mem_iff_getElem.mp hm
    obtain ⟨o, ho, _⟩ := htp j l rows[j] (by rw [List.getElem?_eq_getElem hj, e]) (List.getElem?_eq_getElem (by omega))
    exact Heap.lt_size ho
  have k1 : ∀ c o, h'.get? c = some o → (((h'.push { cls := .type "tuple", data := .seq (is.map Value.ref).toArray }).push { cls := .type "tuple", data := .seq ((is.map Value.ref).map fun _ => Value.none).toArray }).push { cls := .type "zip", data := .fields #[.none, .bool false, .bool false, .ref h'.objs.size, .ref (h'.push { cls := .type "tuple", data := .seq (is.map Value.ref).toArray }).objs.size] }).get? c = some o := fun c o e => Heap.get?_push_of_some _ (Heap.get?_push_of_some _ (Heap.get?_push_of_some _ e))
  have z1 : (h'.push { cls := .type "tuple", data := .seq (is.map Value.ref).toArray }).objs.size = h'.objs.size + 1 := Heap.size_push ..
  have z2 : ((h'.push { cls := .type "tuple", data := .seq (is.map Value.ref).toArray }).push { cls := .type "tuple", data := .seq ((is.map Value.ref).map fun _ => Value.none).toArray }).objs.size = h'.objs.size + 2 := by rw [Heap.size_push, z1]
  have gZ := Heap.get?_push_size ((h'.push { cls := .type "tuple", data := .seq (is.map Value.ref).toArray }).push { cls := .type "tuple", data := .seq ((is.map Value.ref).map fun _ => Value.none).toArray }) (o := { cls := .type "zip", data := .fields #[.none, .bool false, .bool false, .ref h'.objs.size, .ref (h'.push { cls := .type "tuple", data := .seq (is.map Value.ref).toArray }).objs.size] }) rfl
  have gO := Heap.get?_push_of_some { cls := .type "zip", data := .fields #[.none, .bool false, .bool false, .ref h'.objs.size, .ref (h'.push { cls := .type "tuple", data := .seq (is.map Value.ref).toArray }).objs.size] } (Heap.get?_push_size (h'.push { cls := .type "tuple", data := .seq (is.map Value.ref).toArray }) (o := { cls := .type "tuple", data := .seq ((is.map Value.ref).map fun _ => Value.none).toArray }) rfl)
  have gT := Heap.get?_push_of_some { cls := .type "zip", data := .fields #[.none, .bool false, .bool false, .ref h'.objs.size, .ref (h'.push { cls := .type "tuple", data := .seq (is.map Value.ref).toArray }).objs.size] } (Heap.get?_push_of_some { cls := .type "tuple", data := .seq ((is.map Value.ref).map fun _ => Value.none).toArray } (Heap.get?_push_size h' (o := { cls := .type "tuple", data := .seq (is.map Value.ref).toArray }) rfl))
  show _ ∧ _
  generalize hH : (((h'.push { cls := .type "tuple", data := .seq (is.map Value.ref).toArray }).push { cls := .type "tuple", data := .seq ((is.map Value.ref).map fun _ => Value.none).toArray }).push { cls := .type "zip", data := .fields #[.none, .bool false, .bool false, .ref h'.objs.size, .ref (h'.push { cls := .type "tuple", data := .seq (is.map Value.ref).toArray }).objs.size] }) = hz at k1 gZ gO gT ⊢
  have zz : hz.objs.size = h'.objs.size + 3 := by rw [← hH, Heap.size_push, z2]
  rw [z2, z1] at gZ
  rw [z1] at gO
  rw [z2]
  refine ⟨⟨_, gZ, rfl⟩, h hz (h'.objs.size + 2) h'.objs.size (h'.objs.size + 1) is ⟨by omega, by omega, by omega, fun m => ?_, fun m => ?_, fun m => ?_, a3, fun l hm => ⟨?_, ?_, fun m => ?_⟩, a1⟩ ⟨gZ, gT, ⟨_, gO, by simp⟩, fun j i l e1 e2 => (a4 j i l e1 e2).at fun o e => k1 i o e, fun j l r e1 e2 => ?_⟩ (fun c o e => k1 c o (a5 c o e)) ⟨by omega, by omega⟩ ⟨by omega, by omega⟩ ⟨by omega, by omega⟩ (fun i m => ⟨(a2 i m).1, by have := (a2 i m).2; omega⟩) hll (by omega)⟩
  · have := (a2 _ m).2; omega
  · have := (a2 _ m).2; omega
  · have := (a2 _ m).2; omega
  · have := hll l hm; omega
  · have := hll l hm; omega
  · have := hll l hm; have := (a2 _ m).1; omega
  · obtain ⟨o, ho, r'⟩ := htp j l r e1 e2
    exact ⟨o, k1 l o (a5 l o ho), r'⟩
end
end ZT

set_option Elab.async false
set_option linter.all false
set_option maxRecDepth 100000
set_option maxHeartbeats 400000
namespace ZT
open PySem
open PySem.Sem (wp)
section
variable {prog : Program} {w : World} {A : Around} {E : Value → Shared → Prop} {s : Shared}
/-! what next(zip) gives, the tuples that were drawn being kept -/
structure Run (h0 h : Heap) (z TI TO S : Nat) (is ls : List Nat) (rows : List (Array Value)) (i : Nat) (acc : Array Value) : Prop where
  st : ∃ f0 f1, ZSt h z TI TO is ls rows i f0 f1 ∧ ((i = 0 ∧ f0 = .none ∧ f1 = .bool false) ∨ ∃ (T0 : Nat) (b : Bool) (o : Obj), f0 = rawInt T0 ∧ f1 = .bool b ∧ h.get? T0 = some o ∧ T0 ≠ S ∧ T0 ≠ z ∧ T0 ≠ TO ∧ T0 ∉ is)
  keep : ∀ c o, h0.get? c = some o → h.get? c = some o
  ts : ∃ Ts : List Nat, acc.toList = Ts.map Value.ref ∧ Ts.length = i ∧ Ts.Nodup ∧ ∀ j T, Ts[j]? = some T → h.get? T = some { cls := .type "tuple", data := .seq (col rows j).toArray } ∧ h0.objs.size ≤ T ∧ T ≠ S ∧ T ≠ z ∧ T ≠ TO ∧ T ∉ is
structure Set1 (h0 : Heap) (z TI TO S : Nat) (is ls : List Nat) (rows : List (Array Value)) (n : Nat) : Prop where
  ap : ZAp z TI TO is ls
  sz : S ≠ z ∧ S ≠ TI ∧ S ≠ TO ∧ S ∉ is ∧ S ∉ ls
  new : h0.objs.size ≤ z ∧ h0.objs.size ≤ TO ∧ (∀ i ∈ is, h0.objs.size ≤ i) ∧ h0.objs.size ≤ S
  len : ls.length = rows.length
  line : is.length ≤ sizeLine
  rows : ∀ r ∈ rows, r.size = n
  some : n = 0 ∨ is ≠ []
theorem Run.frame {h0 h h' : Heap} {z TI TO S : Nat} {is ls : List Nat} {rows : List (Array Value)} {i n : Nat} {acc : Array Value} (C : Set1 h0 z TI TO S is ls rows n) (R : Run h0 h z TI TO S is ls rows i acc) (k : ∀ b o, b ≠ S → h.get? b = some o → h'.get? b = some o) : Run h0 h' z TI TO S is ls rows i acc := by
  obtain ⟨⟨f0, f1, Z, c⟩, kp, Ts, t1, t2, t3, t4⟩ := R
  refine ⟨⟨f0, f1, ⟨k _ _ (Ne.symm C.sz.1) Z.hz, k _ _ (Ne.symm C.sz.2.1) Z.hTI, ?_, fun j i l e1 e2 => (Z.it j i l e1 e2).at fun o e => k i o (fun q => C.sz.2.2.2.1 (by rw [← q]; exact List.mem_of_getElem? e1)) e, fun j l r e1 e2 => ?_⟩, ?_⟩, fun c o e => k c o (fun q => ?_) (kp c o e), Ts, t1, t2, t3, fun j T e => ?_⟩
  · obtain ⟨kk, e, s⟩ := Z.hTO
    exact ⟨kk, k _ _ (Ne.symm C.sz.2.2.1) e, s⟩
  · obtain ⟨o, ho, r'⟩ := Z.tp j l r e1 e2
    exact ⟨o, k l o (fun q => C.sz.2.2.2.2 (by rw [← q]; exact List.mem_of_getElem? e1)) ho, r'⟩
  · rcases c with c | ⟨T0, b, o, c1, c2, c3, c4⟩
    · exact .inl c
    · exact .inr ⟨T0, b, o, c1, c2, k _ _ c4.1 c3, c4⟩
  · exact absurd (Heap.lt_size e) (Nat.not_lt.mpr (q ▸ C.new.2.2.2))
  · obtain ⟨a, b, c⟩ := t4 j T e
    exact ⟨k _ _ c.1 a, b, c⟩
theorem Run.item {h0 : Heap} {z TI TO S : Nat} {is ls : List Nat} {rows : List (Array Value)} {i n : Nat} {acc : Array Value} {Q : Option Value → Shared → Prop} (C : Set1 h0 z TI TO S is ls rows n) (R : Run h0 s.heap z TI TO S is ls rows i acc) (hi : i < n) (hS : ∃ o, s.heap.get? S = some o)
    (hQ : ∀ v h', Run h0 h' z TI TO S is ls rows (i + 1) (acc.push v) → h'.get? S = s.heap.get? S → Q (some v) { s with heap := h' }) : wpAny (model prog w) A (pyNext (.ref z)) Q E s := by
  obtain ⟨⟨f0, f1, Z, c⟩, kp, Ts, t1, t2, t3, t4⟩ := R
  obtain ⟨oS, hoS⟩ := hS
  have hne : is ≠ [] := C.some.resolve_left (by omega)
  have hk : ∀ r ∈ rows, i < r.size := fun r m => by rw [C.rows r m]; exact hi
  have hT : s.TypeIs (.ref z) "zip" := ⟨_, Z.hz, rfl⟩
  have big : ∀ {a o}, s.heap.get? a = some o → s.heap.objs.size ≠ a := fun e => Nat.ne_of_gt (Heap.lt_size e)
  have nz := big Z.hz
  obtain ⟨kk, eTO, sTO⟩ := id Z.hTO
  have nTO := big eTO
  have nS := big hoS
  have nis : s.heap.objs.size ∉ is := fun m => by
    obtain ⟨j, hj, e⟩ := List.mem_iff_getElem.mp m
    have hjl : j < ls.length := by rw [← C.ap.len]; exact hj
    obtain ⟨o, ho, _⟩ := Z.it j is[j] ls[j] (List.getElem?_eq_getElem hj) (List.getElem?_eq_getElem hjl)
    exact big ho (by rw [e])
  have h0s : h0.objs.size ≤ s.heap.objs.size := Nat.le_of_lt (Nat.lt_of_le_of_lt C.new.1 (Heap.lt_size Z.hz))
  have fin : ∀ h' f0' f1', ZSt h' z TI TO is ls rows (i + 1) f0' f1' → (∃ (T0 : Nat) (b : Bool) (o : Obj), f0' = rawInt T0 ∧ f1' = .bool b ∧ h'.get? T0 = some o ∧ T0 ≠ S ∧ T0 ≠ z ∧ T0 ≠ TO ∧ T0 ∉ is) → h'.get? s.heap.objs.size = some { cls := .type "tuple", data := .seq (col rows i).toArray } →
      (∀ c o, c ≠ z → c ≠ TO → c ∉ is → s.heap.get? c = some o → h'.get? c = some o) → Q (some (.ref s.heap.objs.size)) { s with heap := h' } := fun h' f0' f1' Z' c' g k => by
    refine hQ _ h' ⟨⟨f0', f1', Z', .inr c'⟩, fun c o e => ?_, Ts ++ [s.heap.objs.size], by simp [t1], by simp [t2], ?_, fun j T e => ?_⟩ ?_
    · have lt := Heap.lt_size e
      refine k c o (fun q => ?_) (fun q => ?_) (fun q => ?_) (kp c o e)
      · exact absurd lt (Nat.not_lt.mpr (q ▸ C.new.1))
      · exact absurd lt (Nat.not_lt.mpr (q ▸ C.new.2.1))
      · exact absurd lt (Nat.not_lt.mpr (C.new.2.2.1 c q))
    · rw [List.nodup_append]
      refine ⟨t3, by simp, fun x hx y hy => ?_⟩
      simp at hy; subst hy
      obtain ⟨j, hj, e⟩ := List.mem_iff_getElem.mp hx
      exact fun q => big (t4 j x (by rw [List.getElem?_eq_getElem hj, e])).1 q.symm
    · by_cases hj : j < Ts.length
      · rw [List.getElem?_append_left hj] at e
        obtain ⟨a, b, c⟩ := t4 j T e
        exact ⟨k _ _ c.2.1 c.2.2.1 c.2.2.2 a, b, c⟩
      · have ej : j = Ts.length := by
          have := (List.getElem?_eq_some_iff.mp e).1
          simp at this; omega
        subst ej
        rw [List.getElem?_append_right (Nat.le_refl _)] at e
        simp at e
        subst e
        rw [t2]
        exact ⟨g, h0s, nS, nz, nTO, nis⟩
    · rw [hoS]
      exact k S oS C.sz.1 C.sz.2.2.1 C.sz.2.2.2.1 hoS
  unfold pyNext
  rcases c with ⟨rfl, rfl, rfl⟩ | ⟨T0, b, o, rfl, rfl, c3, c4⟩
  · exact wpAny_bind (wpAny_attempt (wpAny_callSpecial?_slot (name := Str.ofString "__next__") hT F.slot_zip_next
      (wpAny_call_entry F.slot_zip_next hT F.entry_zip_next
        (zip_next_first C.ap Z C.len hne C.line hk fun h' a1 a2 a3 a4 => wpAny_pure (fin h' _ _ a1 ⟨_, false, _, rfl, rfl, a2, nS, nz, nTO, nis⟩ a2 a4)) (F.args_zip_next_1 _))))
  · exact wpAny_bind (wpAny_attempt (wpAny_callSpecial?_slot (name := Str.ofString "__next__") hT F.slot_zip_next
      (wpAny_call_entry F.slot_zip_next hT F.entry_zip_next
        (zip_next_later C.ap Z ⟨o, c3⟩ C.len hne C.line hk fun h' a1 a2 a3 a4 => wpAny_pure (fin h' _ _ a1 ⟨T0, true, o, rfl, rfl, a4 _ _ c4.2.1 c4.2.2.1 c4.2.2.2 c3, c4⟩ a2 a4)) (F.args_zip_next_1 _))))
theorem Run.done {h0 : Heap} {z TI TO S : Nat} {is ls : List Nat} {rows : List (Array Value)} {n : Nat} {acc : Array Value} {Q : Option Value → Shared → Prop} (hh : A.handled = none) (C : Set1 h0 z TI TO S is ls rows n) (R : Run h0 s.heap z TI TO S is ls rows n acc)
    (hQ : ∀ h', (∀ c o, h0.get? c = some o → h'.get? c = some o) → (∀ o, s.heap.get? S = some o → h'.get? S = some o) → (∃ Ts : List Nat, acc.toList = Ts.map Value.ref ∧ Ts.length = n ∧ Ts.Nodup ∧ ∀ j T, Ts[j]? = some T → h'.get? T = some { cls := .type "tuple", data := .seq (col rows j).toArray } ∧ h0.objs.size ≤ T) → Q none { s with heap := h' }) : wpAny (model prog w) A (pyNext (.ref z)) Q E s := by
  obtain ⟨⟨f0, f1, Z, c⟩, kp, Ts, t1, t2, t3, t4⟩ := R
  have hT : s.TypeIs (.ref z) "zip" := ⟨_, Z.hz, rfl⟩
  have hf : (f0 = .none ∧ f1 = .bool false) ∨ ∃ (T0 : Nat) (b : Bool) (o : Obj), f0 = rawInt T0 ∧ f1 = .bool b ∧ s.heap.get? T0 = some o := by
    rcases c with ⟨_, a, b⟩ | ⟨T0, b, o, a1, a2, a3, _⟩
    · exact .inl ⟨a, b⟩
    · exact .inr ⟨T0, b, o, a1, a2, a3⟩
  unfold pyNext
  refine wpAny_bind (wpAny_attempt (wpAny_callSpecial?_slot (name := Str.ofString "__next__") hT F.slot_zip_next
    (wpAny_call_entry F.slot_zip_next hT F.entry_zip_next (zip_next_end hh C.ap Z hf C.len (fun r m => (C.rows r m).symm) fun h' e hk he => ?_) (F.args_zip_next_1 _))))
  obtain ⟨o, ho, hc⟩ := he
  refine wpAny_bind (wpAny_isInstance (T := "StopIteration") (b := true) ⟨o, ho, hc⟩ isSubtype_stop ?_)
  refine wpAny_pure (hQ _ (fun c o e => ?_) (fun o e => hk S o C.sz.1 C.sz.2.2.1 C.sz.2.2.2.1 e) ⟨Ts, t1, t2, t3, fun j T e => ?_⟩)
  · have lt := Heap.lt_size e
    refine hk c o (fun q => ?_) (fun q => ?_) (fun q => ?_) (kp c o e)
    · exact absurd lt (Nat.not_lt.mpr (q ▸ C.new.1))
    · exact absurd lt (Nat.not_lt.mpr (q ▸ C.new.2.1))
    · exact absurd lt (Nat.not_lt.mpr (C.new.2.2.1 c q))
  · obtain ⟨a, b, c⟩ := t4 j T e
    exact ⟨hk _ _ c.2.1 c.2.2.1 c.2.2.2 a, b⟩
theorem loop_zip {R : Result → Shared → Prop} {h0 : Heap} {z TI TO S : Nat} {is ls : List Nat} {rows : List (Array Value)} {n : Nat} (hh : A.in1.handled = none) (C : Set1 h0 z TI TO S is ls rows n) (hn : n ≤ sizeLine) (res : Value) :
    ∀ (k i : Nat) (s : Shared) (acc : Array Value) (c : Nat), n - i = k → i ≤ n → Run h0 s.heap z TI TO S is ls rows i acc → s.heap.get? S = some { cls := .type "list", dict := none, data := .seq acc c, slots := #[] } →
    (∀ h' (acc' : Array Value) (c' : Nat), (∀ c o, h0.get? c = some o → h'.get? c = some o) → h'.get? S = some { cls := .type "list", dict := none, data := .seq acc' c', slots := #[] } →
      (∃ Ts : List Nat, acc'.toList = Ts.map Value.ref ∧ Ts.length = n ∧ Ts.Nodup ∧ ∀ j T, Ts[j]? = some T → h'.get? T = some { cls := .type "tuple", data := .seq (col rows j).toArray } ∧ h0.objs.size ≤ T) → R (.ok (.ret res)) { s with heap := h' }) →
    codeAny (model prog w) A (.builtin "list.extend.loop" ⟨[.ref S, .ref z, res], []⟩) R s := by
  intro k
  induction k with
  | zero =>
    intro i s acc c hk hi hst hS hR
    have hin : i = n := by omega
    subst hin
    refine codeAny_builtin F.entry_extend_loop ?_
    rw [Around.under_plainId F.plain_extend_loop _]
    show wpAny _ A.in1 (pyNext (.ref z) >>= _) _ _ s
    refine wpAny_bind (hst.done hh C fun h' k1 k2 t => ?_)
    exact wpAny_pure (hR h' acc c k1 (k2 _ hS) t)
  | succ k ih =>
    intro i s acc c hk hi hst hS hR
    refine codeAny_builtin F.entry_extend_loop ?_
    rw [Around.under_plainId F.plain_extend_loop _]
    show wpAny _ A.in1 (pyNext (.ref z) >>= _) _ _ s
    refine wpAny_bind (hst.item C (by omega) ⟨_, hS⟩ fun v h' st' eS => ?_)
    have hS' := eS.trans hS
    have hsz : acc.size = i := by
      obtain ⟨Ts, t1, t2, _⟩ := hst.ts
      rw [← Array.length_toList, t1, List.length_map, t2]
    show wpAny _ A.in1 (updateSeq S (·.push v) >>= _) _ _ _
    refine wpAny_bind ?_
    refine wpAny_updateSeq hS' rfl (wpAny_pure ⟨plainId_quiet F.plain_extend_loop _, ih (i + 1) _ (acc.push v) _ (by omega) (by omega) (st'.frame C fun b o hb e => (Heap.get?_update_other _ _ (Ne.symm hb)).trans e) (Heap.get?_update_self _ hS' rfl) fun h'' acc' c' k1 hS'' t => hR h'' acc' c' k1 hS'' t⟩)
      (by rw [hsz]; omega) (by show (acc.push v).size ≤ sizeLine + 1; rw [Array.size_push, hsz]; omega)
end
end ZT

set_option Elab.async false
set_option linter.all false
set_option maxRecDepth 100000
set_option maxHeartbeats 400000
namespace ZT
open PySem
open PySem.Sem (wp)
section
variable {prog : Program} {w : World} {A : Around} {E : Value → Shared → Prop} {s : Shared}
theorem zip_no_len : typeLookup (.type "zip") "__len__" = pure none := by rw [typeLookup_type, builtinLookup_eq_fast]; kernel_rfl
theorem zip_no_hint : typeLookup (.type "zip") "__length_hint__" = pure none := by rw [typeLookup_type, builtinLookup_eq_fast]; kernel_rfl
theorem pyIter_zip {z : Nat} {o : Obj} {Q : Value → Shared → Prop} (hz : s.heap.get? z = some o) (hc : o.cls = .type "zip") (h : Q (.ref z) s) : wpAny (model prog w) A (pyIter (.ref z)) Q E s := by
  have hT : s.TypeIs (.ref z) "zip" := ⟨_, hz, hc⟩
  refine wpAny_pyIter_slot hT F.slot_zip_iter (wpAny_call_entry F.slot_zip_iter hT F.entry_zip_iter ?_ (F.args_zip_iter_1 _))
  show wpAny _ _ (ret (.ref z)) _ _ s
  exact wpAny_pure ⟨_, rfl, "zip", _, hT, F.slot_zip_next.lookup, h⟩
theorem collect_zip {h0 : Heap} {z TI TO : Nat} {is ls : List Nat} {rows : List (Array Value)} {n : Nat} {Q : List Value → Shared → Prop} (hh : A.handled = none) (C : Set1 h0 z TI TO s.heap.objs.size is ls rows n) (hn : n ≤ sizeLine) (Z : ZSt s.heap z TI TO is ls rows 0 .none (.bool false)) (hk : ∀ c o, h0.get? c = some o → s.heap.get? c = some o)
    (hQ : ∀ h' (Ts : List Nat), (∀ c o, h0.get? c = some o → h'.get? c = some o) → Ts.length = n → Ts.Nodup → (∀ j T, Ts[j]? = some T → h'.get? T = some { cls := .type "tuple", data := .seq (col rows j).toArray } ∧ h0.objs.size ≤ T) → Q (Ts.map Value.ref) { s with heap := h' }) :
    wpAny (model prog w) A (collect (.ref z)) Q E s := by
  have hSI : s.heap.objs.size ≠ z := C.sz.1
  unfold collect
  refine wpAny_bind (wpAny_runValue (codeAny_builtin F.entry_proto_collect ?_))
  rw [Around.under_plainId F.plain_proto_collect _]
  show wpAny _ A.in1 (newList [] >>= fun l => again (.builtin "list.__iadd__" ⟨[l, .ref z], []⟩)) _ _ s
  refine wpAny_bind (wpAny_newObj_type ?_)
  refine wpAny_pure ⟨plainId_quiet F.plain_list_iadd _, codeAny_builtin F.entry_list_iadd ?_⟩
  rw [Around.under_plainId F.plain_list_iadd _]
  show wpAny _ A.in1 (Builtin.List.listExtendWith (.ref s.heap.objs.size) (.ref z) (.ref s.heap.objs.size)) _ _ _
  unfold Builtin.List.listExtendWith
  have hz1 : (s.heap.push { cls := .type "list", data := .seq ([] : List Value).toArray }).get? z = some _ := Heap.get?_push_of_some _ Z.hz
  have hT : ({ s with heap := s.heap.push { cls := .type "list", data := .seq ([] : List Value).toArray } } : Shared).TypeIs (.ref z) "zip" := ⟨_, hz1, rfl⟩
  refine wpAny_bind (wpAny_typeOf hT ?_)
  have h1 : Builtin.List.listSameRef (.ref s.heap.objs.size) (.ref z) = false := by simp [Builtin.List.listSameRef, hSI]
  have h2 : (Value.type "zip" == Value.type "list") = false := by decide
  have h3 : (Value.type "zip" == Value.type "tuple") = false := by decide
  simp only [h1, h2, h3, Bool.or_false, Bool.false_eq_true, if_false]
  refine wpAny_bind (pyIter_zip (s := { s with heap := s.heap.push { cls := .type "list", data := .seq ([] : List Value).toArray } }) hz1 rfl ?_)
  refine wpAny_bind (wpAny_holding ?_)
  unfold Builtin.List.listLengthHint
  refine wpAny_bind (wpAny_specialOf hT zip_no_len ?_)
  show wpAny _ A.in1 (specialOf (Value.ref z) (Str.ofString "__length_hint__") >>= _) _ _ _
  refine wpAny_bind (wpAny_specialOf hT zip_no_hint ?_)
  refine wpAny_pure ?_
  show wpAny _ A.in1 (rule "list.extend.makes-room" >>= fun _ => Builtin.List.listTouch (.ref s.heap.objs.size) >>= fun _ =>
    again (.builtin "list.extend.loop" ⟨[.ref s.heap.objs.size, .ref z, .ref s.heap.objs.size], []⟩)) _ _ _
  refine wpAny_bind (wpAny_rule ?_)
  have hS₁ : (s.heap.push { cls := .type "list", data := .seq ([] : List Value).toArray }).get? s.heap.objs.size = some { cls := .type "list", data := .seq ([] : List Value).toArray } := Heap.get?_push_size _ rfl
  refine wpAny_bind ?_
  show wpAny _ A.in1 (updateSeq s.heap.objs.size (·.push .none) >>= fun _ => updateSeq s.heap.objs.size (·.pop)) _ _ _
  refine wpAny_bind (wpAny_updateSeq hS₁ rfl ?_)
  have hS₂ := Heap.get?_update_self (Obj.mapSeq (·.push Value.none)) hS₁ rfl
  refine wpAny_updateSeq hS₂ rfl ?_
  have hS₃ := Heap.get?_update_self (Obj.mapSeq (·.pop)) hS₂ rfl
  have oth : ∀ b o, b ≠ s.heap.objs.size → s.heap.get? b = some o →
      (((s.heap.push { cls := .type "list", data := .seq ([] : List Value).toArray }).update s.heap.objs.size (Obj.mapSeq (·.push Value.none))).update s.heap.objs.size (Obj.mapSeq (·.pop))).get? b = some o :=
    fun b o hb e => (Heap.get?_update_other _ _ (Ne.symm hb)).trans ((Heap.get?_update_other _ _ (Ne.symm hb)).trans (Heap.get?_push_of_some _ e))
  have R0 : Run h0 s.heap z TI TO s.heap.objs.size is ls rows 0 #[] := ⟨⟨_, _, Z, .inl ⟨rfl, rfl, rfl⟩⟩, hk, [], rfl, rfl, List.nodup_nil, fun j T e => by simp at e⟩
  refine wpAny_pure ⟨plainId_quiet F.plain_extend_loop _, loop_zip (A := A) hh C hn _ n 0 _ _ _ rfl (Nat.zero_le _) (R0.frame C oth) hS₃ fun h' acc' c' k1 hS' ⟨Ts, t1, t2, t3, t4⟩ => ?_⟩
  show wpAny _ A (load s.heap.objs.size >>= _) _ _ _
  refine wpAny_bind (wpAny_load hS' ?_)
  refine wpAny_pure ?_
  show Q acc'.toList _
  rw [t1]
  exact hQ h' Ts k1 t2 t3 t4
end
end ZT

set_option Elab.async false
set_option linter.all false
set_option maxRecDepth 100000
set_option maxHeartbeats 400000
namespace ZT
open PySem
open PySem.Sem (wp)
theorem meets_tuple_zip {h0 : Heap} {z TI TO : Nat} {is ls : List Nat} {rows : List (Array Value)} {n : Nat} (hn : n ≤ sizeLine) :
    Meets (Builtin.«tuple.__new__» ⟨[.type "tuple", .ref z], []⟩)
      (fun A R s => (A.handled = none ∧ Set1 h0 z TI TO s.heap.objs.size is ls rows n ∧ ZSt s.heap z TI TO is ls rows 0 .none (.bool false) ∧ (∀ c o, h0.get? c = some o → s.heap.get? c = some o)) ∧
        ∀ (h' : Heap) (Ts : List Nat), (∀ c o, h0.get? c = some o → h'.get? c = some o) → Ts.length = n → Ts.Nodup → (∀ j T, Ts[j]? = some T → h'.get? T = some { cls := .type "tuple", data := .seq (col rows j).toArray } ∧ h0.objs.size ≤ T) →
          R (.ok (.ret (.ref h'.objs.size))) { s with heap := h'.push { cls := .type "tuple", data := .seq (Ts.map Value.ref).toArray } }) :=
  .of_wp fun prog w A R s h => by
    obtain ⟨hp, g, d, tk, os⟩ := s; obtain ⟨⟨hh, C, Z, hk⟩, h⟩ := h
    have hsub := sub_tuple_self
    have hinit := init_tuple_lookup
    have hmh := madeHere_tuple
    have hT : Shared.TypeIs ⟨hp, g, d, tk, os⟩ (.ref z) "zip" := ⟨_, Z.hz, rfl⟩
    have q : ∀ {Q : List Value → Shared → Prop} {E : Value → Shared → Prop}, (∀ h' (Ts : List Nat), (∀ c o, h0.get? c = some o → h'.get? c = some o) → Ts.length = n → Ts.Nodup → (∀ j T, Ts[j]? = some T → h'.get? T = some { cls := .type "tuple", data := .seq (col rows j).toArray } ∧ h0.objs.size ≤ T) → Q (Ts.map Value.ref) ⟨h', g, d, tk, os⟩) →
      wpAny (model prog w) A.in1 (collect (.ref z)) Q E ⟨hp, g, d, tk, os⟩ := fun k => collect_zip (s := ⟨hp, g, d, tk, os⟩) hh C hn Z hk k
    have Zz := Z.hz
    wp_walk using AutoSeq1.wpAny_loadPart' Zz, wpAny_typeOf hT, q
    intro h' Ts k1 t2 t3 t4
    show wpAny _ _ (Builtin.Tuple.tupleExact (Ts.map Value.ref).toArray >>= fun v => ret v) _ _ _
    unfold Builtin.Tuple.tupleExact
    refine wpAny_bind (wpAny_newObj_type ?_ (by show (Ts.map Value.ref).toArray.size ≤ sizeLine; rw [List.size_toArray, List.length_map, t2]; exact hn))
    exact wpAny_pure ⟨_, rfl, h h' Ts k1 t2 t3 t4⟩
section
variable {prog : Program} {w : World} {A : Around} {E : Value → Shared → Prop} {s : Shared}
theorem call_tuple_zip {h0 : Heap} {z TI TO : Nat} {is ls : List Nat} {rows : List (Array Value)} {n : Nat} {Q : Value → Shared → Prop} (hn : n ≤ sizeLine) (hh : A.handled = none) (C : Set1 h0 z TI TO s.heap.objs.size is ls rows n) (Z : ZSt s.heap z TI TO is ls rows 0 .none (.bool false)) (hk : ∀ c o, h0.get? c = some o → s.heap.get? c = some o)
    (hQ : ∀ (h' : Heap) (Ts : List Nat), (∀ c o, h0.get? c = some o → h'.get? c = some o) → Ts.length = n → Ts.Nodup → (∀ j T, Ts[j]? = some T → h'.get? T = some { cls := .type "tuple", data := .seq (col rows j).toArray } ∧ h0.objs.size ≤ T) →
      Q (.ref h'.objs.size) { s with heap := h'.push { cls := .type "tuple", data := .seq (Ts.map Value.ref).toArray } }) :
    wpAny (model prog w) A (call (.type "tuple") [.ref z]) Q E s :=
  callType_new F.called_tuple (by decide) (F.typeCall_tuple_1 _) (F.newCall_tuple_1 _) (fun obj => F.args_object_init_2 obj _) F.entry_tuple_new
    (meets_tuple_zip hn) ⟨⟨hh, C, Z, hk⟩, fun h' Ts a b c d => ⟨⟨_, Heap.get?_push_size _ rfl, rfl⟩, hQ h' Ts a b c d⟩⟩
end
end ZT


set_option Elab.async false
set_option linter.all false
set_option maxRecDepth 100000
set_option maxHeartbeats 1000000
/-! tuple(zip(*e)): the rows of a tuple, turned -/
namespace M
open PySem PySem.Spec PyProof.Rows L2 ZT
def updL (H : Hp) : List (Nat × List V) → Hp
  | [] => H
  | p :: L => upd (updL H L) p.1 (.tup p.2)
theorem updL_none {H : Hp} {a : Nat} : ∀ {L : List (Nat × List V)}, a ∉ L.map (·.1) → H a = none → updL H L a = none
  | [], _, h => h
  | p :: L, m, h => by
    simp only [List.map_cons, List.mem_cons, not_or] at m
    unfold updL
    rw [upd_ne m.1]; exact updL_none m.2 h
theorem updL_ne {H : Hp} {a : Nat} : ∀ {L : List (Nat × List V)}, a ∉ L.map (·.1) → updL H L a = H a
  | [], _ => rfl
  | p :: L, m => by
    simp only [List.map_cons, List.mem_cons, not_or] at m
    unfold updL
    rw [upd_ne m.1]; exact updL_ne m.2
section
variable {X : Cx} {pins : List (Addr × Obj)} {σ : L2.St} {H : Hp} {s : Shared}
theorem inv_laidMany (I : Inv X pins σ H s) : ∀ (L : List (Nat × List V)) (h' : Heap), (∀ b u, s.heap.get? b = some u → h'.get? b = some u) → (L.map (·.1)).Nodup →
    (∀ p ∈ L, s.heap.get? p.1 = none ∧ H p.1 = none ∧ p.2.length ≤ sizeLine ∧ ∃ us, Vals p.2 us ∧ h'.get? p.1 = some { cls := .type "tuple", data := .seq us.toArray }) → Inv X pins σ (updL H L) { s with heap := h' }
  | [], h', k, _, _ => I.kept (t' := s.toks) k
  | p :: L, h', k, nd, q => by
    simp only [List.map_cons, List.nodup_cons] at nd
    obtain ⟨G, g1, g2⟩ := restrict h' fun b => decide (b ≠ p.1)
    obtain ⟨q1, q2, q3, us, q4, q5⟩ := q p List.mem_cons_self
    have gk : ∀ b, b ≠ p.1 → G.get? b = h'.get? b := fun b hb => g1 b (decide_eq_true hb)
    have ga : G.get? p.1 = none := g2 p.1 (decide_eq_false fun z => z rfl)
    have I1 := inv_laidMany I L G (fun b u e => (gk b fun z => by rw [z, q1] at e; cases e).trans (k b u e)) nd.2 fun r m => by
      obtain ⟨r1, r2, r3, us, r4, r5⟩ := q r (List.mem_cons_of_mem _ m)
      exact ⟨r1, r2, r3, us, r4, (gk _ fun z => nd.1 (by rw [← z]; exact List.mem_map_of_mem m)).trans r5⟩
    exact I1.laidN (t' := s.toks) (fun b u e => by
      have hb : b ≠ p.1 := fun z => by
        have e : G.get? b = some u := e
        rw [z, ga] at e; cases e
      rw [← gk b hb]; exact e) ga (updL_none nd.1 q2) ⟨q3, us, q4, ⟨_, q5, rfl, _, rfl⟩⟩
theorem rowsC (I : Inv X pins σ H s) : ∀ (rs : List Addr) (rows : List (List V)), rs.length = rows.length → (∀ (j : Nat) (r : Addr) (ws : List V), rs[j]? = some r → rows[j]? = some ws → SqT X.K H r ws) →
    ∃ cs : List (Array Value), cs.length = rows.length ∧ (∀ (j : Nat) (r : Addr) (c : Array Value), rs[j]? = some r → cs[j]? = some c → s.heap.IsTuple r c) ∧ (∀ (j : Nat) (ws : List V) (c : Array Value), rows[j]? = some ws → cs[j]? = some c → Vals ws c.toList) ∧ ∀ ws ∈ rows, ws.length ≤ sizeLine
  | [], [], _, _ => ⟨[], rfl, fun j r c e => by simp at e, fun j r c e => by simp at e, fun _ m => nomatch m⟩
  | [], _ :: _, h, _ => by simp at h
  | _ :: _, [], h, _ => by simp at h
  | r :: rs, ws :: rows, h, q => by
    obtain ⟨cs, c1, c2, c3, c4⟩ := rowsC I rs rows (by simpa using h) fun j r ws a b => q (j + 1) r ws (by simpa using a) (by simpa using b)
    obtain ⟨its, rv, p, hz⟩ := I.tuple (q 0 r ws rfl rfl)
    refine ⟨its.toArray :: cs, by simp [c1], fun j r' c a b => ?_, fun j ws' c a b => ?_, fun w m => ?_⟩
    · cases j with
      | zero => simp at a b; subst a b; exact p
      | succ j => exact c2 j r' c (by simpa using a) (by simpa using b)
    · cases j with
      | zero => simp at a b; subst a b; exact rv
      | succ j => exact c3 j ws' c (by simpa using a) (by simpa using b)
    · rcases List.mem_cons.mp m with e | m
      · subst e; exact hz
      · exact c4 w m
end
/-- the k-th of each row -/
def colV (rows : List (List V)) (k : Nat) : List V := rows.map fun ws => (ws[k]?).getD .non
theorem col_map (cs : List (Array Value)) (k : Nat) : col cs k = cs.map fun c => (c[k]?).getD .none := by
  apply List.ext_getElem?
  intro m
  unfold col
  rw [List.getElem?_map, List.getElem?_map]
  by_cases hm : m < cs.length
  · rw [List.getElem?_range hm, List.getElem?_eq_getElem hm]
    simp [cv, List.getElem?_eq_getElem hm]
  · rw [List.getElem?_eq_none (by simp; omega), List.getElem?_eq_none (by omega)]; rfl
theorem col_vals {k : Nat} : ∀ {rows : List (List V)} {cs : List (Array Value)}, cs.length = rows.length → (∀ (j : Nat) (ws : List V) (c : Array Value), rows[j]? = some ws → cs[j]? = some c → Vals ws c.toList) → (∀ ws ∈ rows, k < ws.length) → Vals (colV rows k) (cs.map fun c => (c[k]?).getD .none)
  | [], [], _, _, _ => .nil
  | [], _ :: _, h, _, _ => by simp at h
  | _ :: _, [], h, _, _ => by simp at h
  | ws :: rows, c :: cs, h, q, l => by
    refine .cons ?_ (col_vals (by simpa using h) (fun j ws c a b => q (j + 1) ws c (by simpa using a) (by simpa using b)) fun w m => l w (List.mem_cons_of_mem _ m))
    have hk := l ws List.mem_cons_self
    obtain ⟨u, e, r⟩ := (q 0 ws c rfl rfl).get (List.getElem?_eq_getElem hk)
    rw [Array.getElem?_toList] at e
    show RelV ((ws[k]?).getD .non) ((c[k]?).getD .none)
    rw [List.getElem?_eq_getElem hk, e]; exact r
theorem vals_refs : ∀ {rs : List Addr} {us : List Value}, Vals (rs.map V.ref) us → us = rs.map Value.ref
  | [], _, h => by cases h; rfl
  | r :: rs, _, h => by
    cases h with
    | cons a b => rw [vals_refs b]; cases a; rfl
theorem vals_of_refs : ∀ (rs : List Addr), Vals (rs.map V.ref) (rs.map Value.ref)
  | [] => .nil
  | r :: rs => .cons rfl (vals_of_refs rs)
def tTurned (K : PySem.W.Frag) (te : TE) : TE := fun σ H Q => te σ H fun v H1 => ∃ (a : Addr) (n : Nat) (rs : List Addr) (rows : List (List V)), v = .ref a ∧ SqT K H1 a (rs.map V.ref) ∧ rs.length = rows.length ∧
  (∀ (j : Nat) (r : Addr) (ws : List V), rs[j]? = some r → rows[j]? = some ws → SqT K H1 r ws) ∧ (∀ ws ∈ rows, ws.length = n) ∧ (n = 0 ∨ rows ≠ []) ∧
  ∀ (Ts : List Nat) (p : Nat), Ts.length = n → Ts.Nodup → (∀ T ∈ Ts, H1 T = none) → H1 p = none → p ∉ Ts → Q (.ref p) (upd (updL H1 (Ts.zip ((List.range n).map (colV rows)))) p (.tup (Ts.map V.ref)))
section
variable {X : Cx} {e : Expr}
theorem keeper_ty {M : Model} (T : String) (h : Heap) : PySem.W.Looks M h (keeperOf (.type T)) .machine := .of_pure rfl
theorem zip_fst {α β : Type} : ∀ {l : List α} {m : List β}, l.length = m.length → (l.zip m).map (·.1) = l
  | [], _, _ => by simp
  | _ :: _, [], h => by simp at h
  | a :: l, b :: m, h => by simp; exact zip_fst (by simpa using h)
theorem pe_turned {te : TE} {p p2 p3 pos pos2 : Pos} (hg : Gl X "tuple") (hm : X.mg "tuple" = none) (hg2 : Gl X "zip") (hm2 : X.mg "zip" = none) (hc : X.calm = true) (he : PE X e te)
    (hst : starEach [.Starred e p3] X.env = [(true, eval e X.env)] := by rfl)
    (hs2 : starEach [.Call (.Name "zip" p2) [.Starred e p3] [] pos2] X.env = (false, eval (.Call (.Name "zip" p2) [.Starred e p3] [] pos2) X.env) :: starEach [] X.env := by rfl) :
    PE X (.Call (.Name "tuple" p) [.Call (.Name "zip" p2) [.Starred e p3] [] pos2] [] pos) (tTurned X.K te) := by
  refine ⟨fun pins s σ H Q I h => ?_⟩
  have zipCall : ∀ {Q' : Value → Shared → Prop} {E : Value → Shared → Prop} {s : Shared}, wpAny (model X.prog X.w) X.A (eval e X.env) (fun v s₁ => PySem.W.StarOf (model X.prog X.w) X.A E v (fun vs s₂ => wpAny (model X.prog X.w) X.A (call (.type "zip") ([] ++ vs)) Q' E s₂) s₁) E s →
      wpAny (model X.prog X.w) X.A (callWith pos2 (.type "zip") [] (backTo pos2 (starEach [.Starred e p3] X.env)) []) Q' E s := fun h => by
    rw [hst]
    exact PySem.W.ks_call (P := fun _ => True) rfl (fun h _ => ⟨_, .inr (.inl rfl), keeper_ty "zip" h⟩) (PySem.W.ks_lone (show wpAny _ _ _ (fun v s₁ => PySem.W.StarOf _ _ _ v (fun vs s₂ => True ∧ wpAny _ _ (call (.type "zip") ([] ++ vs)) _ _ s₂) s₁) _ _ by simpa only [true_and] using h))
  refine Call_ (ld_blt I hg hm (by rfl) (PyProof.Rows.callWith_type1 (args_cons (Call_ (ld_blt I hg2 hm2 PyProof.Rows.boot_zip (zipCall (thn (he.run pins s σ H _ I h) fun u s1 ⟨v, H1, I1, r1, q1⟩ => ?_)))) hs2) hs2 rfl))
  obtain ⟨a, n, rs, rows, ev, hq, hl, hrow, hn, hne, q⟩ := q1
  subst ev
  obtain rfl : u = Value.ref a := r1
  refine star_tup I1 hq fun us s2 I2 rv => ?_
  obtain rfl := vals_refs rv
  obtain ⟨cs, c1, c2, c3, c4⟩ := rowsC I2 rs rows hl hrow
  obtain ⟨_, rv', _, hz⟩ := I2.tuple hq
  rw [List.length_map] at hz
  have hnl : n ≤ sizeLine := by
    rcases hne with z | z
    · rw [z]; exact Nat.zero_le _
    · cases rows with
      | nil => exact absurd rfl z
      | cons w rows => rw [← hn w List.mem_cons_self]; exact c4 w List.mem_cons_self
  have hcn : ∀ c ∈ cs, c.size = n := fun c m => by
    obtain ⟨j, hj, ej⟩ := List.mem_iff_getElem.mp m
    have hj' : j < rows.length := by omega
    have w := c3 j rows[j] c (List.getElem?_eq_getElem hj') (by rw [List.getElem?_eq_getElem hj, ej])
    have := w.length
    rw [hn _ (List.getElem_mem hj'), Array.length_toList] at this
    exact this.symm
  rw [List.nil_append]
  refine call_zip_n (ls := rs) (rows := cs) (by omega) hz (fun j l r a b => c2 j l r a b) fun h' z TI TO is D Z k b1 b2 b3 b4 b5 b6 => args_nil ?_
  have C : Set1 s2.heap z TI TO h'.objs.size is rs cs n := by
    refine ⟨D, ⟨Nat.ne_of_gt b1.2, Nat.ne_of_gt b2.2, Nat.ne_of_gt b3.2, fun m => Nat.lt_irrefl _ (b4 _ m).2, fun m => Nat.lt_irrefl _ (Nat.lt_of_lt_of_le (b5 _ m) b6)⟩, ⟨b1.1, b3.1, fun i m => (b4 i m).1, b6⟩, by omega, by rw [D.len]; exact hz, hcn, ?_⟩
    rcases hne with e | e
    · exact .inl e
    · refine .inr fun e' => e ?_
      have := D.len
      rw [e'] at this
      exact List.eq_nil_of_length_eq_zero (by simp at this; omega)
  refine call_tuple_zip (s := { s2 with heap := h' }) (h0 := s2.heap) hnl (I2.ok.hd hc) C Z k fun h'' Ts k2 t1 t2 t3 => ?_
  have cl : ((List.range n).map (colV rows)).length = n := by simp
  have fresh : ∀ T, s2.heap.objs.size ≤ T → H1 T = none := fun T h => I2.hok.fresh h
  have memT : ∀ T ∈ Ts, s2.heap.objs.size ≤ T ∧ T < h''.objs.size := fun T m => by
    obtain ⟨j, hj, ej⟩ := List.mem_iff_getElem.mp m
    have w := t3 j T (by rw [List.getElem?_eq_getElem hj, ej])
    exact ⟨w.2, Heap.lt_size w.1⟩
  have I3 : Inv X pins σ (updL H1 (Ts.zip ((List.range n).map (colV rows)))) { s2 with heap := h'' } := by
    refine inv_laidMany I2 _ h'' k2 ?_ fun pr m => ?_
    · rw [zip_fst (by rw [cl, t1])]; exact t2
    · obtain ⟨j, hj, ej⟩ := List.mem_iff_getElem.mp m
      have hjT : j < Ts.length := by rw [List.length_zip] at hj; omega
      have hjn : j < n := by omega
      rw [List.getElem_zip] at ej
      rw [← ej]
      have w := t3 j Ts[j] (List.getElem?_eq_getElem hjT)
      refine ⟨?_, fresh _ w.2, ?_, _, ?_, w.1⟩
      · exact Heap.get?_none_of_le w.2
      · simp [colV]; omega
      · show Vals (((List.range n).map (colV rows))[j]) _
        rw [List.getElem_map, List.getElem_range, col_map]
        exact col_vals c1 c3 fun ws m => by rw [hn ws m]; exact hjn
  have I4 := I3.laid (t' := s2.toks) (h' := h''.push { cls := .type "tuple", data := .seq (Ts.map Value.ref).toArray }) (a := h''.objs.size) (o := .tup (Ts.map V.ref)) (fun b u e => Heap.get?_push_of_some _ e) (Nat.le_refl _) ⟨by rw [List.length_map, t1]; exact hnl, Ts.map Value.ref, vals_of_refs Ts, ⟨_, Heap.get?_push_size _ rfl, rfl, _, rfl⟩⟩
  have pT : h''.objs.size ∉ Ts := fun m => Nat.lt_irrefl _ (memT _ m).2
  have fp : H1 h''.objs.size = none := by
    rw [← updL_ne (H := H1) (L := Ts.zip ((List.range n).map (colV rows))) (by rw [zip_fst (by rw [cl, t1])]; exact pT)]
    exact I3.hok.fresh (Nat.le_refl _)
  exact ⟨.ref h''.objs.size, _, I4, rfl, q Ts h''.objs.size t1 t2 (fun T m => fresh T (memT T m).1) fp pT⟩
end
/-! the mirror -/
/-- the rows of a tuple of tuples -/
def rowsOf : List D → Option (List (List D))
  | [] => some []
  | .tup xs :: ds => (rowsOf ds).map (xs :: ·)
  | _ :: _ => none
def colD (rows : List (List D)) (k : Nat) : List D := rows.map fun ws => (ws[k]?).getD .non
def turnR : List (List D) → Option (List D)
  | [] => some []
  | r :: rows => if (rows.all fun w => w.length == r.length) = true then some ((List.range r.length).map fun k => .tup (colD (r :: rows) k)) else none
def dTurn (d : D) (_ : Store) : Option D := match d with
  | .tup ds => ((rowsOf ds).bind turnR).map .tup
  | _ => none
variable [Tabs]
theorem rows_rep {K : PySem.W.Frag} {ρ : Rh} {H : Hp} : ∀ {ds : List D} {vs : List V} {rows : List (List D)}, RepDs K ρ H ds vs → rowsOf ds = some rows → ∃ (rs : List Addr) (wv : List (List V)), vs = rs.map V.ref ∧ rs.length = wv.length ∧ rows.length = wv.length ∧
    (∀ (j : Nat) (r : Addr) (ws : List V), rs[j]? = some r → wv[j]? = some ws → SqT K H r ws) ∧ (∀ (j : Nat) (xs : List D) (ws : List V), rows[j]? = some xs → wv[j]? = some ws → RepDs K ρ H xs ws)
  | [], _, rows, h, e => by
    cases h; cases e
    exact ⟨[], [], rfl, rfl, rfl, (fun j r ws e => by simp at e), fun j r ws e => by simp at e⟩
  | d :: ds, _, rows, h, e => by
    cases h with
    | cons h1 h2 =>
      cases d with
      | tup xs =>
        unfold rowsOf at e
        cases e2 : rowsOf ds with
        | none => rw [e2] at e; cases e
        | some rw' =>
          rw [e2] at e
          cases e
          obtain ⟨rs, wv, q1, q2, q3, q4, q5⟩ := rows_rep h2 e2
          cases h1 with
          | @tup a ws _ hs hd =>
            refine ⟨a :: rs, ws :: wv, by rw [q1]; rfl, by simp [q2], by simp [q3], fun j r w e1 e2 => ?_, fun j x w e1 e2 => ?_⟩
            · cases j with
              | zero => simp at e1 e2; subst e1 e2; exact hs
              | succ j => exact q4 j r w (by simpa using e1) (by simpa using e2)
            · cases j with
              | zero => simp at e1 e2; subst e1 e2; exact hd
              | succ j => exact q5 j x w (by simpa using e1) (by simpa using e2)
      | _ => cases e
theorem col_rep {K : PySem.W.Frag} {ρ : Rh} {H : Hp} {k : Nat} : ∀ {rows : List (List D)} {wv : List (List V)}, rows.length = wv.length → (∀ (j : Nat) (xs : List D) (ws : List V), rows[j]? = some xs → wv[j]? = some ws → RepDs K ρ H xs ws) → RepDs K ρ H (colD rows k) (colV wv k)
  | [], [], _, _ => .nil
  | [], _ :: _, h, _ => by simp at h
  | _ :: _, [], h, _ => by simp at h
  | xs :: rows, ws :: wv, h, q => by
    refine .cons ?_ (col_rep (by simpa using h) fun j x w a b => q (j + 1) x w (by simpa using a) (by simpa using b))
    have r := q 0 xs ws rfl rfl
    have hl := r.length
    show RepD K ρ H ((xs[k]?).getD .non) ((ws[k]?).getD .non)
    by_cases hk : k < xs.length
    · obtain ⟨v, a, b⟩ := r.get (List.getElem?_eq_getElem hk)
      rw [List.getElem?_eq_getElem hk, a]; exact b
    · rw [List.getElem?_eq_none (by omega), List.getElem?_eq_none (by omega)]; exact .non
/-- new tuples are laid, one by one -/
theorem laidL {K : PySem.W.Frag} {ρ : Rh} {H : Hp} {S : Store} (R : Rel K ρ H S) : ∀ (Ts : List Nat) (cd : List (List D)) (cw : List (List V)), Ts.length = cw.length → cd.length = cw.length → Ts.Nodup → (∀ T ∈ Ts, H T = none) → (∀ (j : Nat) (xs : List D) (ws : List V), cd[j]? = some xs → cw[j]? = some ws → RepDs K ρ H xs ws) →
    Fr ρ H ρ (updL H (Ts.zip cw)) ∧ Rel K ρ (updL H (Ts.zip cw)) S ∧ RepDs K ρ (updL H (Ts.zip cw)) (cd.map .tup) (Ts.map V.ref)
  | [], [], [], _, _, _, _, _ => ⟨Fr.refl _ _, R, .nil⟩
  | [], [], _ :: _, h, _, _, _, _ => by simp at h
  | [], _ :: _, [], _, h, _, _, _ => by simp at h
  | [], _ :: _, _ :: _, h, _, _, _, _ => by simp at h
  | _ :: _, [], [], h, _, _, _, _ => by simp at h
  | _ :: _, [], _ :: _, _, h, _, _, _ => by simp at h
  | _ :: _, _ :: _, [], h, _, _, _, _ => by simp at h
  | T :: Ts, xs :: cd, ws :: cw, h1, h2, nd, hn, q => by
    simp only [List.nodup_cons] at nd
    obtain ⟨f, R', r⟩ := laidL R Ts cd cw (by simpa using h1) (by simpa using h2) nd.2 (fun T m => hn T (List.mem_cons_of_mem _ m)) fun j x w a b => q (j + 1) x w (by simpa using a) (by simpa using b)
    have hT : updL H (Ts.zip cw) T = none := updL_none (by rw [zip_fst (by simpa using h1)]; exact nd.1) (hn T List.mem_cons_self)
    have f2 : Fr ρ (updL H (Ts.zip cw)) ρ (updL H ((T :: Ts).zip (ws :: cw))) := Fr.laid hT
    refine ⟨f.trans f2, R'.laid hT, .cons ?_ (RepDs.fr R'.free f2 _ _ r)⟩
    exact .tup (SqT.of upd_same) (RepDs.fr R'.free f2 _ _ (RepDs.fr R.free f _ _ (q 0 xs ws rfl rfl)))
section
variable {X : Cx} {W : WX} {e : Expr} {m : ME}
theorem em_turned {p p2 p3 pos pos2 : Pos} (hg : Gl X "tuple") (hm : X.mg "tuple" = none) (hg2 : Gl X "zip") (hm2 : X.mg "zip" = none) (hc : X.calm = true) (he : EM X W e m)
    (hst : starEach [.Starred e p3] X.env = [(true, eval e X.env)] := by rfl)
    (hs2 : starEach [.Call (.Name "zip" p2) [.Starred e p3] [] pos2] X.env = (false, eval (.Call (.Name "zip" p2) [.Starred e p3] [] pos2) X.env) :: starEach [] X.env := by rfl) :
    EM X W (.Call (.Name "tuple" p) [.Call (.Name "zip" p2) [.Starred e p3] [] pos2] [] pos) (mUn dTurn m) :=
  pe_imp (pe_turned hg hm hg2 hm2 hc he hst hs2) fun σ H Q h => tE_then (f := fun x e S => .of (dTurn x S) S) (fun ρ H d v e S he R r q => by
    have q := PostE.of (σ := σ) q
    cases d with
    | tup ds =>
      cases r with
      | @tup a vs _ hs hd =>
        simp only [dTurn] at q
        cases hr : rowsOf ds with
        | none => rw [hr] at q; exact q.elim
        | some rows =>
          rw [hr] at q
          simp only [Option.bind_some] at q
          obtain ⟨rs, wv, e1, e2, e3, e4, e5⟩ := rows_rep hd hr
          subst e1
          cases rows with
          | nil =>
            have hw : wv = [] := List.eq_nil_of_length_eq_zero (by simpa using e3.symm)
            subst hw
            refine ⟨a, 0, rs, [], rfl, hs, e2, e4, fun _ z => (nomatch z), .inl rfl, fun Ts p t1 t2 t3 t4 t5 => ?_⟩
            obtain rfl := List.eq_nil_of_length_eq_zero t1
            exact q ρ _ (Fr.laid t4) (R.laid t4) _ (.tup (SqT.of upd_same) .nil)
          | cons r0 rows =>
            simp only [turnR] at q
            by_cases hall : (rows.all fun w => w.length == r0.length) = true
            · rw [if_pos hall] at q
              have hlen : ∀ xs ∈ r0 :: rows, xs.length = r0.length := fun xs m => by
                rcases List.mem_cons.mp m with z | z
                · rw [z]
                · exact eq_of_beq (List.all_eq_true.mp hall xs z)
              refine ⟨a, r0.length, rs, wv, rfl, hs, e2, e4, fun ws m => ?_, .inr fun z => by rw [z] at e3; simp at e3, fun Ts p t1 t2 t3 t4 t5 => ?_⟩
              · obtain ⟨j, hj, ej⟩ := List.mem_iff_getElem.mp m
                have hj' : j < (r0 :: rows).length := by rw [e3]; exact hj
                have := (e5 j _ ws (List.getElem?_eq_getElem hj') (by rw [List.getElem?_eq_getElem hj, ej])).length
                rw [← this]; exact hlen _ (List.getElem_mem hj')
              · obtain ⟨f, R', rr⟩ := laidL R Ts ((List.range r0.length).map (colD (r0 :: rows))) ((List.range r0.length).map (colV wv)) (by simpa using t1) (by simp) t2 t3 fun j xs ws a b => by
                  rw [List.getElem?_map] at a b
                  cases hj : (List.range r0.length)[j]? with
                  | none => rw [hj] at a; cases a
                  | some j' =>
                    rw [hj] at a b
                    cases a; cases b
                    exact col_rep e3 e5
                have hp : updL H (Ts.zip ((List.range r0.length).map (colV wv))) p = none := updL_none (by rw [zip_fst (by simpa using t1)]; exact t5) t4
                have f2 := Fr.laid (ρ := ρ) (o := .tup (Ts.map V.ref)) hp
                refine q ρ _ (f.trans f2) (R'.laid hp) _ (.tup (SqT.of upd_same) ?_)
                have rr2 := RepDs.fr R'.free f2 _ _ rr
                rw [List.map_map] at rr2
                exact rr2
            · rw [if_neg hall] at q; exact q.elim
    | _ => exact q.elim) h
end
end M


set_option Elab.async false
set_option linter.all false
set_option maxRecDepth 100000
set_option maxHeartbeats 4000000
/-! Plain lemmas: what the mirrors come to. -/
namespace M
open PySem PySem.Spec PyProof.Rows L2
section
variable [Tabs]
abbrev I (l : List Int) : List D := l.map D.int
/-- a picture -/
abbrev pic (a : List (List Int)) : D := .tup (a.map fun r => .tup (I r))
/-! ### the combinators -/
variable {e : Env} {S : Store} {d : D} {a b c : ME} {g : DOp} {i j : Nat}
@[simp] theorem x_mC : mC d e S = .ok d S := rfl
@[simp] theorem x_mVar : mVar i e S = (match e[i]? with | some (some d) => .ok d S | _ => .bad) := rfl
@[simp] theorem x_mBin : mBin g a b e S = (a e S).bind fun x S1 => (b e S1).bind fun y S2 => .of (g x y S2) S2 := rfl
@[simp] theorem x_mNil : mNil e S = .ok [] S := rfl
@[simp] theorem x_mCons {r : MA} : mCons a r e S = (a e S).bind fun d S1 => (r e S1).bind fun ds S2 => .ok (d :: ds) S2 := rfl
@[simp] theorem x_mCall {h : List D → Store → Option D} {m : MA} : mCall h m e S = (m e S).bind fun ds S1 => .of (h ds S1) S1 := rfl
@[simp] theorem x_mCallN {h : List D → Store → Option (List D)} {m : MA} : mCallN h m e S = (m e S).bind fun ds S1 => .of (h ds S1) S1 := rfl
@[simp] theorem x_mCallF {n : Nat} {h : List D → Store → Res D} {m : MA} : mCallF n h m e S = (m e S).bind fun ds S1 => if ds.length = n then h ds S1 else .bad := rfl
@[simp] theorem x_asV {m : MA} : asV m e S = (m e S).bind fun ds S1 => .ok (.lst ds) S1 := rfl
@[simp] theorem x_asL {m : MA} : asL m e S = (m e S).bind fun ds S1 => .ok (.loc S1.length) (S1 ++ [.lst ds]) := rfl
@[simp] theorem x_mLst {m : MA} : mLst m e S = (m e S).bind fun ds S1 => .of (if ds.length ≤ sizeLine then some ds else none) S1 := rfl
@[simp] theorem x_mTup {m : MA} : mTup m e S = (m e S).bind fun ds S1 => .of (if ds.length ≤ sizeLine then some (.tup ds) else none) S1 := rfl
@[simp] theorem x_mB {m : ME} : mB m e S = (m e S).bind fun d S1 => .of (bOf d) S1 := rfl
@[simp] theorem x_bOf {k : Bool} : bOf (.bl k) = some k := rfl
@[simp] theorem x_mTru {m : ME} : mTru m e S = (m e S).bind fun d S1 => .of (truOf S1 d) S1 := rfl
@[simp] theorem x_truB {k : Bool} : truOf S (.bl k) = some k := rfl
@[simp] theorem x_mAnd {s t : MT} : mAnd s t e S = (s e S).bind fun c S1 => if c = true then t e S1 else .ok false S1 := rfl
@[simp] theorem x_mOr {s t : MT} : mOr s t e S = (s e S).bind fun c S1 => if c = true then .ok true S1 else t e S1 := rfl
@[simp] theorem x_mNot {s : MT} : mNot s e S = (s e S).bind fun c S1 => .ok (!c) S1 := rfl
@[simp] theorem x_mIte {t : MT} : mIte t a b e S = (t e S).bind fun c S1 => if c = true then a e S1 else b e S1 := rfl
@[simp] theorem x_mAndV : mAndV a b e S = (a e S).bind fun d S1 => match d with | .bl c => if c = true then b e S1 else .ok (.bl false) S1 | _ => .bad := rfl
@[simp] theorem x_mOrV : mOrV a b e S = (a e S).bind fun d S1 => match d with | .bl c => if c = true then .ok (.bl true) S1 else b e S1 | _ => .bad := rfl
@[simp] theorem x_mNotV : mNotV a e S = (a e S).bind fun d S1 => match d with | .bl c => .ok (.bl (!c)) S1 | _ => .bad := rfl
@[simp] theorem x_mUn {h : D → Store → Option D} : mUn h a e S = (a e S).bind fun x S1 => .of (h x S1) S1 := rfl
@[simp] theorem x_mChain {g' : DOp} : mChain g g' a b c e S = (a e S).bind fun x S1 => (b e S1).bind fun y S2 => (Res.of (g x y S2) S2).bind fun k S3 => match k with
  | .bl t => if t = true then (c e S3).bind fun z S4 => .of (g' y z S4) S4 else .ok (.bl false) S3
  | _ => .bad := by
  unfold mChain
  rfl
@[simp] theorem x_sSeq {p q : MS} : sSeq p q e S = (match p e S with | some (.nx, e1, S1) => q e1 S1 | r => r) := rfl
@[simp] theorem x_sRet : sRet a e S = (a e S).st e fun d S1 => some (.rt d, e, S1) := rfl
@[simp] theorem x_sSet {h : MG} : sSet h a e S = (a e S).st e fun d S1 => (h d e S1).bind fun e1 => some (.nx, e1, S1) := rfl
@[simp] theorem x_sExpr : sExpr a e S = (a e S).st e fun _ S1 => some (.nx, e, S1) := rfl
@[simp] theorem x_sIf {t : MT} {p q : MS} : sIf t p q e S = (t e S).st e fun c S1 => if c = true then p e S1 else q e S1 := rfl
@[simp] theorem x_sSkip : sSkip e S = some (.nx, e, S) := rfl
@[simp] theorem x_gN : gN i d e S = some (e.set i (some d)) := rfl
@[simp] theorem x_gTup {n : Nat} {r : List D → Env → Store → Option Env} {ds : List D} : gTup n r (.tup ds) e S = if ds.length = n then r ds e S else none := rfl
@[simp] theorem x_gLst {n : Nat} {r : List D → Env → Store → Option Env} {ds : List D} : gLst n r (.lst ds) e S = if ds.length = n then r ds e S else none := rfl
@[simp] theorem x_gCons {h : MG} {r : List D → Env → Store → Option Env} {ds : List D} : gCons h r (d :: ds) e S = (h d e S).bind fun e1 => r ds e1 S := rfl
@[simp] theorem x_gNil : gNil [] e S = some e := rfl
@[simp] theorem x_mMeth {T : String} {h : MtF} {m : MA} : mMeth T h a m e S = (a e S).bind fun d S1 => if rcv T S1 d = true then (m e S1).bind fun ds S2 => .ofS (h d ds S2) else .bad := rfl
@[simp] theorem x_mSrc : mSrc a e S = (a e S).bind fun d S1 => .of (srcOf S1 d) S1 := rfl
@[simp] theorem x_mSrcA {f : List D → Store → Option Src} {m : MA} : mSrcA f m e S = (m e S).bind fun ds S1 => .of (f ds S1) S1 := rfl
@[simp] theorem x_mSlice {lo hi : MO} : mSlice a lo hi e S = (a e S).bind fun d S1 => (lo e S1).bind fun l S2 => (hi e S2).bind fun h S3 => .of (dSlice d l h S3) S3 := rfl
@[simp] theorem x_mNo : mNo e S = .ok none S := rfl
@[simp] theorem x_mPart : mPart a e S = (a e S).bind fun d S1 => .of ((iOf d).map some) S1 := rfl
@[simp] theorem x_iOf {k : Int} : iOf (.int k) = some k := rfl
/-! ### operations on ints -/
variable {x y : Int}
@[simp] theorem x_add : dAdd (.int x) (.int y) S = some (.int (x + y)) := rfl
@[simp] theorem x_sub : dSub (.int x) (.int y) S = some (.int (x - y)) := rfl
theorem x_mul (h : x.natAbs < 2 ^ 64 ∨ y.natAbs < 2 ^ 64) : dMul (.int x) (.int y) S = some (.int (x * y)) := if_pos h
theorem x_mod (h : 0 < y) : dMod (.int x) (.int y) S = some (.int (x % y)) := if_pos h
theorem x_fdiv (h : 0 < y ∧ y < 1073741824) : dFdiv (.int x) (.int y) S = some (.int (x / y)) := if_pos h
@[simp] theorem x_neg : dNeg (.int x) S = some (.int (-x)) := rfl
@[simp] theorem x_lt : dLt (.int x) (.int y) S = some (.bl (decide (x < y))) := rfl
@[simp] theorem x_le : dLe (.int x) (.int y) S = some (.bl (decide (x ≤ y))) := rfl
@[simp] theorem x_gt : dGt (.int x) (.int y) S = some (.bl (decide (y < x))) := rfl
@[simp] theorem x_ge : dGe (.int x) (.int y) S = some (.bl (decide (y ≤ x))) := rfl
@[simp] theorem x_int : dInt [.int x] S = some (.int x) := rfl
@[simp] theorem x_abs : dAbs [.int x] S = some (.int (if x < 0 then -x else x)) := rfl
theorem eqvAll_I : ∀ (l m : List Int), PyData.eqvAll (l.map PyData.int) (m.map PyData.int) = decide (l = m)
  | [], [] => rfl
  | [], _ :: _ => rfl
  | _ :: _, [] => rfl
  | x :: l, y :: m => by
    simp only [List.map_cons, PyData.eqvAll, PyData.eqv, eqvAll_I l m, List.cons.injEq, Bool.decide_and]
    by_cases h : x = y <;> simp [h]
theorem eqvAll_P : ∀ (l m : List (List Int)), PyData.eqvAll (l.map fun r => .tuple (r.map PyData.int)) (m.map fun r => .tuple (r.map PyData.int)) = decide (l = m)
  | [], [] => rfl
  | [], _ :: _ => rfl
  | _ :: _, [] => rfl
  | x :: l, y :: m => by
    simp only [List.map_cons, PyData.eqvAll, PyData.eqv, eqvAll_I, eqvAll_P l m, List.cons.injEq, Bool.decide_and]
theorem toPys_I : ∀ l : List Int, toPys0 (I l) = some (l.map PyData.int)
  | [] => by simp [toPys0]
  | x :: l => by
    have := toPys_I l
    simp only [I] at this
    simp [toPys0, toPy0, this]
theorem toPys_P : ∀ a : List (List Int), toPys0 (a.map fun r => .tup (I r)) = some (a.map fun r => .tuple (r.map PyData.int))
  | [] => by simp [toPys0]
  | x :: l => by
    have := toPys_P l
    have h2 := toPys_I x
    simp only [I] at this h2
    simp [toPys0, toPy0, this, h2]
theorem can_I : ∀ l : List Int, PyData.canLayAll0 (l.map PyData.int) = true
  | [] => by simp [PyData.canLayAll0]
  | x :: l => by simp [PyData.canLayAll0, PyData.canLay0, can_I l]
theorem dep_I : ∀ l : List Int, PyData.depthAll (l.map PyData.int) = 0
  | [] => by simp [PyData.depthAll]
  | x :: l => by simp [PyData.depthAll, PyData.depth, dep_I l]
theorem can_P : ∀ l : List (List Int), PyData.canLayAll0 (l.map fun r => .tuple (r.map PyData.int)) = true
  | [] => by simp [PyData.canLayAll0]
  | x :: l => by simp [PyData.canLayAll0, PyData.canLay0, can_P l, can_I]
theorem dep_P : ∀ l : List (List Int), PyData.depthAll (l.map fun r => .tuple (r.map PyData.int)) ≤ 1
  | [] => by simp [PyData.depthAll]
  | x :: l => by
    have := dep_P l
    simp [PyData.depthAll, PyData.depth, dep_I]; omega
theorem shp_P (l : List (List Int)) : SeqAt.shaped (.tuple (l.map fun r => .tuple (r.map PyData.int))) = true := by
  have := dep_P l
  unfold SeqAt.shaped
  rw [Bool.and_eq_true]
  exact ⟨by simp [PyData.canLay0, can_P], decide_eq_true (by simp [PyData.depth]; omega)⟩
theorem shp_L (l : List Int) : SeqAt.shaped (.list (l.map PyData.int)) = true := by
  unfold SeqAt.shaped
  rw [Bool.and_eq_true]
  exact ⟨by simp [PyData.canLay0, can_I], decide_eq_true (by simp [PyData.depth, dep_I])⟩
theorem shp_T (l : List Int) : SeqAt.shaped (.tuple (l.map PyData.int)) = true := by
  unfold SeqAt.shaped
  rw [Bool.and_eq_true]
  exact ⟨by simp [PyData.canLay0, can_I], decide_eq_true (by simp [PyData.depth, dep_I])⟩
@[simp] theorem x_eqI : dEq (.int x) (.int y) S = some (.bl (decide (x = y))) := by
  have h1 : ∀ z : Int, SeqAt.shaped (.int z) = true := fun z => rfl
  unfold dEq
  simp only [toPy, toPy0, h1, PyData.eqv]
  by_cases h : x = y <;> simp [h]
@[simp] theorem x_neI : dNe (.int x) (.int y) S = some (.bl (!decide (x = y))) := by simp [dNe, dNot]
@[simp] theorem x_eqP (p q : List (List Int)) : dEq (.tup (p.map fun r => .tup (I r))) (.tup (q.map fun r => .tup (I r))) S = some (.bl (decide (p = q))) := by
  unfold dEq
  simp only [toPy, toPy0, toPys_P, Option.map_some, shp_P, PyData.eqv, eqvAll_P]
  simp
@[simp] theorem x_neP (p q : List (List Int)) : dNe (.tup (p.map fun r => .tup (I r))) (.tup (q.map fun r => .tup (I r))) S = some (.bl (!decide (p = q))) := by simp only [dNe, x_eqP]; rfl
@[simp] theorem x_eqL (p q : List Int) : dEq (.lst (I p)) (.lst (I q)) S = some (.bl (decide (p = q))) := by
  unfold dEq
  simp only [toPy, toPy0, toPys_I, Option.map_some, shp_L, PyData.eqv, eqvAll_I]
  simp
@[simp] theorem x_neL (p q : List Int) : dNe (.lst (I p)) (.lst (I q)) S = some (.bl (!decide (p = q))) := by simp only [dNe, x_eqL]; rfl
@[simp] theorem x_eqStr (p q : Str) : dEq (.str p) (.str q) S = some (.bl (decide (p = q))) := rfl
@[simp] theorem x_neStr (p q : Str) : dNe (.str p) (.str q) S = some (.bl (!decide (p = q))) := rfl
@[simp] theorem x_eqB (p q : Bool) : dEq (.bl p) (.bl q) S = some (.bl (decide (p = q))) := by cases p <;> cases q <;> rfl
@[simp] theorem x_neB (p q : Bool) : dNe (.bl p) (.bl q) S = some (.bl (!decide (p = q))) := by cases p <;> cases q <;> rfl
/-! ### comprehensions, all -/
variable {t : MG} {me : ME} {xs : List D}
theorem lc_pure (f : D → D) : ∀ (ds : List D), (∀ d ∈ ds, ∃ e1, t d e S = some e1 ∧ me e1 S = .ok (f d) S) → lcM ⟨xs, []⟩ t mYes me e ds S = .ok (ds.map f) S
  | [], _ => by simp [lcM]
  | d :: ds, h => by
    obtain ⟨e1, h1, h2⟩ := h d (by simp)
    have ih := lc_pure f ds fun d hd => h d (List.mem_cons_of_mem _ hd)
    simp [lcM, h1, h2, mYes, ih]
/-- a comprehension whose elements change the store: St l goes to St l' -/
theorem lc_run {α : Type} {P : D → Prop} (St : α → Store) : ∀ (ds : List D) (l : α), (∀ d ∈ ds, ∀ l, ∃ e1 y l', t d e (St l) = some e1 ∧ P y ∧ me e1 (St l) = .ok y (St l')) → ∃ ys l', ys.length = ds.length ∧ (∀ y ∈ ys, P y) ∧ lcM ⟨xs, []⟩ t mYes me e ds (St l) = .ok ys (St l')
  | [], l, _ => ⟨[], l, rfl, by simp, by simp [lcM]⟩
  | d :: ds, l, h => by
    obtain ⟨e1, y, l1, h1, hp, h2⟩ := h d (by simp) l
    obtain ⟨ys, l2, hl, hP, ih⟩ := lc_run St ds l1 fun d hd => h d (List.mem_cons_of_mem _ hd)
    refine ⟨y :: ys, l2, by simp [hl], fun z hz => ?_, by simp [lcM, h1, h2, mYes, ih]⟩
    rcases List.mem_cons.mp hz with rfl | hz
    · exact hp
    · exact hP z hz
theorem all_pure : ∀ (ds : List D), (∀ d ∈ ds, ∃ e1, t d e S = some e1 ∧ me e1 S = .ok (.bl true) S) → allM ⟨xs, []⟩ t me e false ds S = .ok (.bl true) S
  | [], _ => by simp [allM]
  | d :: ds, h => by
    obtain ⟨e1, h1, h2⟩ := h d (by simp)
    have ih := all_pure ds fun d hd => h d (List.mem_cons_of_mem _ hd)
    simp [allM, h1, h2, ih]
@[simp] theorem x_mLc {mi : MI} {mt : MT} {vs : List Nat} : mLc mi t mt me vs e S = (mi e S).bind fun src S1 => if src.xs.length ≤ sizeLine then lcM src t mt me (wipeE e vs) src.xs S1 else .bad := rfl
@[simp] theorem x_mAll {mi : MI} {k : Bool} {vs : List Nat} : mAll k mi t me vs e S = (mi e S).bind fun src S1 => allM src t me (wipeE e vs) k src.xs S1 := rfl
theorem cls_I (n : Nat) : ∀ l : List Int, cls n (I l) = true
  | [] => rfl
  | _ :: l => by simp only [I, List.map_cons, cls, cl, Bool.true_and]; exact cls_I n l
theorem cls_P (n : Nat) : ∀ l : List (List Int), cls n (l.map fun r => .tup (I r)) = true
  | [] => rfl
  | r :: l => by simp only [List.map_cons, cls, cl, cls_I, Bool.true_and]; exact cls_P n l
/-- a call that leaves the store as it was -/
theorem retV_id {h : List D → Store → Res D} {ds : List D} {d : D} (hh : h ds S = .ok d S) (hc : clS S.length S = true) (hd : cl S.length d = true) : retV h ds S = .ok d S := by
  unfold retV
  rw [hh]
  simp only [List.take_length, hc, if_true]
  have : fz S.length S d = some d := by
    cases d <;> simp only [fz, hd, if_true]
    case loc n => simp [cl] at hd; simp [hd]
  rw [this]
theorem retV_ok {h : List D → Store → Res D} {ds : List D} {S' : Store} {d d' : D} (hh : h ds S = .ok d S') (hc : clS S.length (S'.take S.length) = true) (hf : fz S.length S' d = some d') : retV h ds S = .ok d' (S'.take S.length) := by
  unfold retV
  rw [hh]
  simp only [hc, if_true, hf]
section
variable {t : MG} {me : ME} {xs : List D}
theorem lc_map {α : Type} (ι f : α → D) : ∀ (as : List α), (∀ x ∈ as, ∃ e1, t (ι x) e S = some e1 ∧ me e1 S = .ok (f x) S) → lcM ⟨xs, []⟩ t mYes me e (as.map ι) S = .ok (as.map f) S
  | [], _ => by simp [lcM]
  | d :: ds, h => by
    obtain ⟨e1, h1, h2⟩ := h d (by simp)
    have ih := lc_map ι f ds fun d hd => h d (List.mem_cons_of_mem _ hd)
    simp [lcM, h1, h2, mYes, ih]
theorem all_map {α : Type} (ι : α → D) : ∀ (as : List α), (∀ x ∈ as, ∃ e1, t (ι x) e S = some e1 ∧ me e1 S = .ok (.bl true) S) → allM ⟨xs, []⟩ t me e false (as.map ι) S = .ok (.bl true) S
  | [], _ => by simp [allM]
  | d :: ds, h => by
    obtain ⟨e1, h1, h2⟩ := h d (by simp)
    have ih := all_map ι ds fun d hd => h d (List.mem_cons_of_mem _ hd)
    simp [allM, h1, h2, ih]
theorem zip_map {α β : Type} (ι : α → D) (κ : β → D) : ∀ (as : List α) (bs : List β), zipD (as.map ι) (bs.map κ) = (as.zip bs).map fun p => .tup [ι p.1, κ p.2]
  | [], _ => by simp [zipD]
  | _ :: _, [] => by simp [zipD]
  | a :: as, b :: bs => by simp [zipD, zip_map ι κ as bs]
variable {mi : MI} {vs : List Nat} {ys : List D} {S' : Store} {a : ME} {n : Nat}
theorem sz (h : n ≤ 100000) : n ≤ sizeLine := Nat.le_trans h (by decide)
theorem lc_ok (hi : mi e S = .ok ⟨xs, []⟩ S) (hz : xs.length ≤ 100000) (h : lcM ⟨xs, []⟩ t mYes me (wipeE e vs) xs S = .ok ys S') : mLc mi t mYes me vs e S = .ok ys S' := by
  rw [x_mLc, hi, Res.bind_ok]
  have : (Src.mk xs []).xs.length ≤ sizeLine := sz hz
  rw [if_pos this]
  exact h
theorem all_ok {k : Bool} {r : D} (hi : mi e S = .ok ⟨xs, []⟩ S) (h : allM ⟨xs, []⟩ t me (wipeE e vs) k xs S = .ok r S') : mAll k mi t me vs e S = .ok r S' := by
  rw [x_mAll, hi, Res.bind_ok]
  exact h
theorem src_tup (h : a e S = .ok (.tup xs) S') : mSrc a e S = .ok ⟨xs, []⟩ S' := by rw [x_mSrc, h]; rfl
theorem src_lst (h : a e S = .ok (.lst xs) S') : mSrc a e S = .ok ⟨xs, []⟩ S' := by rw [x_mSrc, h]; rfl
theorem src_str {x : Str} (h : a e S = .ok (.str x) S') : mSrc a e S = .ok ⟨strItems x, []⟩ S' := by rw [x_mSrc, h]; rfl
theorem src_zipT {m : MA} {ys : List D} (h : m e S = .ok [.tup xs, .tup ys] S') : mSrcA srcZip m e S = .ok ⟨zipD xs ys, []⟩ S' := by rw [x_mSrcA, h]; rfl
theorem tuple_ok {m : MA} (h : m e S = .ok ys S') : mCall dTuple (mCons (asV m) mNil) e S = .ok (.tup ys) S' := by
  rw [x_mCall, x_mCons, x_asV, h]; rfl
theorem slice_ok {lo hi : MO} {d r : D} {l h : Option Int} (ha : a e S = .ok d S) (hl : lo e S = .ok l S) (hh : hi e S = .ok h S) (hs : dSlice d l h S = some r) : mSlice a lo hi e S = .ok r S := by
  rw [x_mSlice, ha, Res.bind_ok, hl, Res.bind_ok, hh, Res.bind_ok, hs]; rfl
theorem part_ok {k : Int} (ha : a e S = .ok (.int k) S) : mPart a e S = .ok (some k) S := by rw [x_mPart, ha]; rfl
def cutG {α : Type} (xs : List α) (lo hi : Option Int) : List α := (xs.drop (HT.sIx xs.length 0 lo)).take (HT.sIx xs.length xs.length hi - HT.sIx xs.length 0 lo)
theorem cutD_map {α : Type} (ι : α → D) (as : List α) (lo hi : Option Int) : cutD (as.map ι) lo hi = (cutG as lo hi).map ι := by
  unfold cutD cutG
  rw [List.length_map, List.map_take, List.map_drop]
theorem cut_nat {α : Type} (as : List α) (a k : Nat) : cutG as (some (a : Int)) (some ((a : Int) + (k : Int))) = (as.drop a).take k := by
  have h2 : ((a : Int) + (k : Int)) = ((a + k : Nat) : Int) := by omega
  unfold cutG
  rw [h2, HT.sIx_nat, HT.sIx_nat]
  rcases Nat.le_total a as.length with h | h
  · rw [Nat.min_eq_left h]
    rcases Nat.le_total (a + k) as.length with g | g
    · rw [Nat.min_eq_left g]; congr 1; omega
    · rw [Nat.min_eq_right g, List.take_of_length_le (by simp), List.take_of_length_le (by simp; omega)]
  · rw [Nat.min_eq_right h, List.drop_of_length_le (Nat.le_refl _), List.drop_of_length_le h]; simp
theorem len_tup : dLen [.tup xs] S = some (.int xs.length) := rfl
theorem len_lst : dLen [.lst xs] S = some (.int xs.length) := rfl
theorem cat_tup {ys : List D} (h : xs.length + ys.length ≤ 100000) : dAdd (.tup xs) (.tup ys) S = some (.tup (xs ++ ys)) := if_pos (sz h)
end
/-! ### steps -/
section
variable {p q : MS} {e1 : Env} {S1 S' : Store} {n : Nat} {ds : List D} {m : ME} {t : MT} {k : Int}
theorem seq_nx (h : p e S = some (.nx, e1, S1)) : sSeq p q e S = q e1 S1 := by rw [x_sSeq, h]
theorem seq_rt {r : D} (h : p e S = some (.rt r, e1, S1)) : sSeq p q e S = some (.rt r, e1, S1) := by rw [x_sSeq, h]
theorem run_rt {b : MS} {e' : Env} (h : b (ds.map some ++ List.replicate (n - ds.length) none) S = some (.rt d, e', S')) : runF n b ds S = .ok d S' := by
  unfold runF
  rw [h]
theorem set_ok {i : Nat} (h : m e S = .ok d S1) : sSet (gN i) m e S = some (.nx, e.set i (some d), S1) := by rw [x_sSet, h]; rfl
theorem setg_ok {g : MG} (h : m e S = .ok d S1) (hg : g d e S1 = some e1) : sSet g m e S = some (.nx, e1, S1) := by rw [x_sSet, h, Res.st_ok, hg]; rfl
theorem ret_ok (h : m e S = .ok d S1) : sRet m e S = some (.rt d, e, S1) := by rw [x_sRet, h]; rfl
theorem expr_ok (h : m e S = .ok d S1) : sExpr m e S = some (.nx, e, S1) := by rw [x_sExpr, h]; rfl
theorem if_t (h : t e S = .ok true S1) : sIf t p q e S = p e S1 := by rw [x_sIf, h]; rfl
theorem if_f (h : t e S = .ok false S1) : sIf t p q e S = q e S1 := by rw [x_sIf, h]; rfl
theorem if_b {c : Bool} (h : t e S = .ok c S1) : sIf t p q e S = if c = true then p e S1 else q e S1 := by rw [x_sIf, h]; rfl
theorem var_ok {i : Nat} (h : e[i]? = some (some d)) : mVar i e S = .ok d S := by rw [x_mVar, h]
theorem cons_ok {ma : ME} {mr : MA} {S2 : Store} {ds : List D} (h : ma e S = .ok d S1) (hr : mr e S1 = .ok ds S2) : mCons ma mr e S = .ok (d :: ds) S2 := by rw [x_mCons, h, Res.bind_ok, hr]; rfl
theorem one_ok {ma : ME} (h : ma e S = .ok d S1) : mCons ma mNil e S = .ok [d] S1 := by rw [x_mCons, h]; rfl
theorem callF_ok {mr : MA} {h : List D → Store → Res D} {S2 : Store} {ds : List D} {r : D} (ha : mr e S = .ok ds S1) (hh : h ds S1 = .ok r S2) (hl : ds.length = n := by rfl) : mCallF n h mr e S = .ok r S2 := by rw [x_mCallF, ha, Res.bind_ok, if_pos hl, hh]
theorem call_ok {mr : MA} {h : List D → Store → Option D} {ds : List D} {r : D} (ha : mr e S = .ok ds S1) (hh : h ds S1 = some r) : mCall h mr e S = .ok r S1 := by rw [x_mCall, ha, Res.bind_ok, hh]; rfl
theorem bin_ok {ma mb : ME} {g : DOp} {S2 : Store} {u v r : D} (ha : ma e S = .ok u S1) (hb : mb e S1 = .ok v S2) (hg : g u v S2 = some r) : mBin g ma mb e S = .ok r S2 := by rw [x_mBin, ha, Res.bind_ok, hb, Res.bind_ok, hg]; rfl
theorem b_ok {ma : ME} {c : Bool} (ha : ma e S = .ok (.bl c) S1) : mB ma e S = .ok c S1 := by rw [x_mB, ha]; rfl
theorem tup_ok {mr : MA} {ds : List D} (ha : mr e S = .ok ds S1) (hl : ds.length ≤ sizeLine) : mTup mr e S = .ok (.tup ds) S1 := by rw [x_mTup, ha, Res.bind_ok, if_pos hl]; rfl
theorem lst_ok {mr : MA} {ds : List D} (ha : mr e S = .ok ds S1) (hl : ds.length ≤ sizeLine) : mLst mr e S = .ok ds S1 := by rw [x_mLst, ha, Res.bind_ok, if_pos hl]; rfl
theorem asV_ok {mr : MA} {ds : List D} (ha : mr e S = .ok ds S1) : asV mr e S = .ok (.lst ds) S1 := by rw [x_asV, ha]; rfl
theorem eqc_t {i : Nat} {c : Int} (h : e[i]? = some (some (.int k))) (hk : k = c) : mB (mBin dEq (mVar i) (mC (.int c))) e S = .ok true S := by rw [b_ok (bin_ok (var_ok h) rfl x_eqI), decide_eq_true hk]
theorem eqc_f {i : Nat} {c : Int} (h : e[i]? = some (some (.int k))) (hk : ¬ k = c) : mB (mBin dEq (mVar i) (mC (.int c))) e S = .ok false S := by rw [b_ok (bin_ok (var_ok h) rfl x_eqI), decide_eq_false hk]
theorem if_skip {b : MS} (h : t e S = .ok false S1) : sIf t b sSkip e S = some (.nx, e, S1) := by rw [x_sIf, h]; rfl
theorem eqc {i : Nat} {c : Int} (h : e[i]? = some (some (.int k))) : mB (mBin dEq (mVar i) (mC (.int c))) e S = .ok (decide (k = c)) S := b_ok (bin_ok (var_ok h) rfl (x_eqI))
end
end
end M


set_option Elab.async false
set_option linter.all false
set_option maxRecDepth 100000
set_option maxHeartbeats 4000000
/-! Plain lemmas, second part. -/
namespace M
open PySem PySem.Spec PyProof.Rows L2
section
variable [Tabs]
theorem at_nat (xs : List D) (i : Nat) (d : D) (h : xs[i]? = some d) : atI xs (i : Int) = some d := by
  obtain ⟨hi, _⟩ := List.getElem?_eq_some_iff.mp h
  unfold atI ixN
  rw [if_pos (show (0 : Int) ≤ (i : Int) by omega), if_pos (show (i : Int) < (xs.length : Int) by omega)]
  show xs[(i : Int).toNat]? = some d
  rw [Int.toNat_natCast]
  exact h
theorem ix_tup (xs : List D) (i : Nat) (d : D) (S : Store) (h : xs[i]? = some d) : dIx (.tup xs) (.int i) S = some d := at_nat xs i d h
theorem ix_lst (xs : List D) (i : Nat) (d : D) (S : Store) (h : xs[i]? = some d) : dIx (.lst xs) (.int i) S = some d := at_nat xs i d h
theorem ix0 (x : D) (xs : List D) (S : Store) : dIx (.tup (x :: xs)) (.int 0) S = some x := ix_tup (x :: xs) 0 x S rfl
theorem ix0l (x : D) (xs : List D) (S : Store) : dIx (.lst (x :: xs)) (.int 0) S = some x := ix_lst (x :: xs) 0 x S rfl
variable {xs ds : List D} {g : MG} {b : MS} {d : D} {e e1 e2 : Env} {S S1 S2 : Store}
theorem for_nil : M.forM ⟨xs, []⟩ g b [] e S = some (.nx, e, S) := by
  unfold M.forM
  rw [if_pos (Src.ok_nil _ _)]
theorem for_cons (hg : g d e S = some e1) (hb : b e1 S = some (.nx, e2, S2)) : M.forM ⟨xs, []⟩ g b (d :: ds) e S = M.forM ⟨xs, []⟩ g b ds e2 S2 := by
  conv => lhs; unfold M.forM
  rw [if_pos (Src.ok_nil _ _), hg, Option.bind_some, hb]
  rfl
theorem for_ok {mi : MI} {r : Option (Fl × Env × Store)} (hi : mi e S = .ok ⟨xs, []⟩ S1) (h : M.forM ⟨xs, []⟩ g b xs e S1 = r) : sFor mi g b e S = r := by
  unfold sFor
  rw [hi]
  exact h
theorem set_last {α : Type} (xs : List α) (x y : α) : (xs ++ [x]).set xs.length y = xs ++ [y] := by
  rw [List.set_append_right _ _ (Nat.le_refl _)]; simp
theorem get_last {α : Type} (xs : List α) (x : α) : (xs ++ [x])[xs.length]? = some x := by simp
theorem ext_last {xs ys : List D} (h : xs.length + ys.length ≤ 100000) : gExtend (.loc S.length) [.lst ys] (S ++ [.lst xs]) = some (.non, S ++ [.lst (xs ++ ys)]) := by
  unfold gExtend
  simp only [get_last, seqOf', lstOf']
  rw [if_pos (sz h), set_last]
theorem app_last {xs : List D} {y : D} (h : xs.length < 100000) : gAppend (.loc S.length) [y] (S ++ [.lst xs]) = some (.non, S ++ [.lst (xs ++ [y])]) := by
  unfold gAppend
  simp only [get_last]
  rw [if_pos (Nat.lt_of_lt_of_le h (by decide)), set_last]
theorem rcv_last {xs : List D} : rcv "list" (S ++ [.lst xs]) (.loc S.length) = true := by
  simp [rcv, lstOf]
theorem meth_ok {T : String} {a : ME} {m : MA} {h : MtF} {ds : List D} {r : D} (ha : a e S = .ok d S) (hr : rcv T S d = true) (hm : m e S = .ok ds S1) (hh : h d ds S1 = some (r, S2)) : mMeth T h a m e S = .ok r S2 := by
  rw [x_mMeth, ha, Res.bind_ok, if_pos hr, hm, Res.bind_ok, hh]
  rfl
theorem asL_ok {m : MA} {ds : List D} (ha : m e S = .ok ds S1) : asL m e S = .ok (.loc S1.length) (S1 ++ [.lst ds]) := by rw [x_asL, ha]; rfl
theorem ints_I : ∀ l : List Int, intsOf (I l) = some l
  | [] => rfl
  | x :: l => by
    show (intsOf (I l)).map (x :: ·) = _
    rw [ints_I l]
    rfl
theorem strs_S : ∀ l : List Str, strsOf (l.map D.str) = some l
  | [] => rfl
  | x :: l => by
    show (strsOf (l.map D.str)).map (x :: ·) = _
    rw [strs_S l]
    rfl
theorem sum_I (l : List Int) : dSum [.lst (I l)] S = some (.int l.sum) := by
  show ((intsOf (I l))).map _ = _
  rw [ints_I]
  rfl
/-- the greatest, of one at least -/
def mx : List Int → Int
  | [] => 0
  | x :: xs => xs.foldl max x
theorem mx_le : ∀ (l : List Int), ∀ y ∈ l, y ≤ mx l
  | [], _, h => by simp at h
  | x :: xs, y, h => by
    rcases List.mem_cons.mp h with rfl | h
    · exact (foldl_max xs _).1
    · exact (foldl_max xs x).2.1 y h
theorem mx_mem : ∀ (l : List Int), l ≠ [] → mx l ∈ l
  | [], h => absurd rfl h
  | x :: xs, _ => by
    rcases (foldl_max xs x).2.2 with h | h
    · simp [mx, h]
    · exact List.mem_cons_of_mem _ h
theorem mx_iff {l : List Int} (h : l ≠ []) (m : Int) : mx l = m ↔ m ∈ l ∧ ∀ y ∈ l, y ≤ m :=
  ⟨fun e => e ▸ ⟨mx_mem l h, mx_le l⟩, fun ⟨a, b⟩ => Int.le_antisymm (b _ (mx_mem l h)) (mx_le l _ a)⟩
theorem max_I (l : List Int) (h : l ≠ []) : dMax [.lst (I l)] S = some (.int (mx l)) := by
  show ((intsOf (I l)).bind maxI).map _ = _
  rw [ints_I]
  cases l with
  | nil => exact absurd rfl h
  | cons x xs => rfl
end
end M


set_option Elab.async false
set_option linter.all false
set_option maxRecDepth 100000
set_option maxHeartbeats 4000000
/-! Texts: lines put together and cut. -/
namespace M
open PySem PySem.Spec PyProof.Rows L2
open Builtin Builtin.Str StrLaws
abbrev tl (s : PySem.Str) : List Nat := s.cps.toList
def mk (l : List Nat) : PySem.Str := ⟨l.toArray⟩
@[simp] theorem tl_mk (l : List Nat) : tl (mk l) = l := rfl
theorem mk_tl (s : PySem.Str) : mk (tl s) = s := by cases s; simp [mk, tl]
theorem mk_len (l : List Nat) : (mk l).length = l.length := by simp [mk, PySem.Str.length]
theorem mk_app (l m : List Nat) : mk l ++ mk m = mk (l ++ m) := Str.ext' (by simp [mk, Str.cps_append])
theorem tl_inj {s t : PySem.Str} (h : tl s = tl t) : s = t := by rw [← mk_tl s, ← mk_tl t, h]
theorem join_nil : ∀ ys : List PySem.Str, Txt.join (mk []) ys = mk (ys.map tl).flatten := by
  intro ys
  have h : ∀ ys : List PySem.Str, PySem.Str.join (mk []) ys = mk (ys.map tl).flatten := by
    intro ys
    induction ys with
    | nil => rfl
    | cons x ys ih =>
      cases ys with
      | nil => simp [PySem.Str.join, mk_tl]
      | cons y ys =>
        show x ++ mk [] ++ PySem.Str.join (mk []) (y :: ys) = _
        rw [ih]
        apply tl_inj
        simp [tl, mk, Str.cps_append]
  show glued _ _ = _
  rw [glued_eq_join, h]
theorem occ_all (s sub : PySem.Str) (hi limit : Nat) (hs : 1 ≤ sub.length) (h1 : sub.length ≤ 1) : ∀ (k lo : Nat) (st : Array Nat × Nat), st.snd ≤ lo → st.fst.size + k ≤ limit →
    (forIn (List.range' lo k) st (occBody s sub hi limit)).run.fst.toList = st.fst.toList ++ (List.range' lo k).filter (fun i => decide (i + sub.length ≤ hi) && subAt s sub i)
  | 0, lo, st, _, _ => by simp
  | k + 1, lo, st, h2, h3 => by
    rw [List.range'_succ, List.forIn_cons]
    unfold occBody
    by_cases hc : lo + sub.length ≤ hi ∧ subAt s sub lo = true
    · have c1 : (((st.fst.size < limit ∧ st.snd ≤ lo) ∧ lo + sub.length ≤ hi) ∧ subAt s sub lo = true) := ⟨⟨⟨by omega, h2⟩, hc.1⟩, hc.2⟩
      rw [if_pos c1]
      have ih := occ_all s sub hi limit hs h1 k (lo + 1) (st.fst.push lo, lo + sub.length) (by simp; omega) (by simp; omega)
      refine Eq.trans ih ?_
      have : (decide (lo + sub.length ≤ hi) && subAt s sub lo) = true := by simp [hc.1, hc.2]
      simp only [List.filter_cons, this, if_true, Array.toList_push, List.append_assoc, List.singleton_append]
    · have c2 : ¬ (((st.fst.size < limit ∧ st.snd ≤ lo) ∧ lo + sub.length ≤ hi) ∧ subAt s sub lo = true) := fun h => hc ⟨h.1.2, h.2⟩
      rw [if_neg c2]
      have ih := occ_all s sub hi limit hs h1 k (lo + 1) (st.fst, st.snd) (by simp; omega) (by simp; omega)
      refine Eq.trans ih ?_
      have : (decide (lo + sub.length ≤ hi) && subAt s sub lo) = false := by
        rw [Bool.and_eq_false_iff]
        by_cases h : lo + sub.length ≤ hi
        · exact .inr (by simpa [h] using hc)
        · exact .inl (by simp [h])
      simp only [List.filter_cons, this]
      rfl
/-- cut at each c -/
def splitL (c : Nat) : List Nat → List Nat → List (List Nat)
  | acc, [] => [acc]
  | acc, x :: xs => if x = c then acc :: splitL c [] xs else splitL c (acc ++ [x]) xs
theorem parts_L (c : Nat) (L : List Nat) : ∀ (xs : List Nat) (a p : Nat) (acc : List Nat), a ≤ p → L.drop p = xs → acc = (L.drop a).take (p - a) →
    partsFrom (mk L) 1 a ((List.range' p xs.length).filter (fun i => L[i]? == some c)) = (splitL c acc xs).map mk
  | [], a, p, acc, h1, h2, h3 => by
    have hp : L.length ≤ p := by simpa using h2
    simp only [List.length_nil, List.range'_zero, List.filter_nil, partsFrom, splitL, List.map_cons, List.map_nil]
    congr 1
    apply tl_inj
    show (strSub (mk L) a (mk L).length).cps.toList = acc
    rw [strSub_toList, h3, mk_len]
    show ((tl (mk L)).drop a).take _ = _
    rw [tl_mk, List.take_of_length_le (by simp), List.take_of_length_le (by simp; omega)]
  | x :: xs, a, p, acc, h1, h2, h3 => by
    have hp : L[p]? = some x := by
      have := congrArg (fun l => l[0]?) h2
      simpa using this
    have hd : L.drop (p + 1) = xs := by
      have := congrArg List.tail h2
      simpa using this
    rw [List.length_cons, List.range'_succ, List.filter_cons, hp]
    by_cases hx : x = c
    · subst hx
      rw [if_pos (by simp), splitL, if_pos rfl, List.map_cons]
      show strSub (mk L) a p :: partsFrom (mk L) 1 (p + 1) _ = _
      rw [parts_L x L xs (p + 1) (p + 1) [] (Nat.le_refl _) hd (by simp)]
      congr 1
      apply tl_inj
      show (strSub (mk L) a p).cps.toList = acc
      rw [strSub_toList, h3]
      rfl
    · rw [if_neg (by simpa using hx), splitL, if_neg hx]
      refine parts_L c L xs a (p + 1) _ (by omega) hd ?_
      rw [h3]
      have h5 : p - a < (L.drop a).length := by
        have := (List.getElem?_eq_some_iff.mp hp).1
        simp; omega
      have e : p + 1 - a = p - a + 1 := by omega
      rw [e, List.take_succ]
      congr 1
      have : (L.drop a)[p - a]? = some x := by rw [List.getElem?_drop]; rw [← hp]; congr 1; omega
      rw [this]
      rfl
theorem split_L (c : Nat) (hc : c < 256) (L : List Nat) (h0 : L ≠ []) : Txt.split (mk L) (mk [c]) = (splitL c [] L).map mk := by
  have hl : (mk L).length = L.length := mk_len L
  have hk : Builtin.Str.strKind (mk [c]) = 1 := by simp [Builtin.Str.strKind, mk, hc]
  have hk2 : 1 ≤ Builtin.Str.strKind (mk L) := by unfold Builtin.Str.strKind; split <;> (try split) <;> omega
  have hn : 1 ≤ L.length := by cases L with
    | nil => exact absurd rfl h0
    | cons => simp
  have e1 : (decide ((mk L).length < (mk [c]).length) || decide (Builtin.Str.strKind (mk L) < Builtin.Str.strKind (mk [c]))) = false := by
    rw [hl, mk_len, hk, Bool.or_eq_false_iff]
    exact ⟨decide_eq_false (by simp; omega), decide_eq_false (by omega)⟩
  have occ : occurrences (mk L) (mk [c]) 0 (mk L).length ((mk L).length + 1) = (List.range' 0 L.length).filter (fun i => L[i]? == some c) := by
    rw [occ_eq, occ_all (mk L) (mk [c]) (mk L).length ((mk L).length + 1) (by rw [mk_len]; simp) (by rw [mk_len]; simp) ((mk L).length + 1 - 0) 0 (#[], 0) (Nat.le_refl _) (by simp), hl]
    have e2 : L.length + 1 - 0 = L.length + 1 := by omega
    rw [e2, List.range'_concat, List.filter_append]
    have e3 : (List.filter (fun i => decide (i + (mk [c]).length ≤ L.length) && subAt (mk L) (mk [c]) i) [0 + 1 * L.length]) = [] := by
      simp [mk_len]
      intro h
      omega
    rw [e3, List.append_nil]
    simp only [List.nil_append]
    apply List.filter_congr
    intro i hi
    have hi' : i < L.length := by simpa using hi
    rw [subAt_eq, mk_len]
    show (_ && (List.take _ (List.drop i (tl (mk L))) == tl (mk [c]))) = _
    rw [tl_mk, tl_mk]
    have : List.take 1 (List.drop i L) = [L[i]] := by
      rw [List.drop_eq_getElem_cons hi']
      rfl
    have e4 : decide (i + [c].length ≤ L.length) = true := by simp; omega
    rw [e4, Bool.true_and]
    show (List.take 1 (List.drop i L) == [c]) = _
    rw [this, List.getElem?_eq_getElem hi']
    simp
  have key : partsFrom (mk L) 1 0 (occurrences (mk L) (mk [c]) 0 (mk L).length ((mk L).length + 1)) = (splitL c [] L).map mk := by
    rw [occ]
    exact parts_L c L L 0 0 [] (Nat.le_refl _) rfl (by simp)
  unfold Txt.split
  rw [if_neg (by rw [e1]; simp)]
  split
  · rename_i h
    have h' : occurrences (mk L) (mk [c]) 0 (mk L).length ((mk L).length + 1) = [] := by simpa using h
    rw [h'] at key
    rw [← key]
    show [mk L] = [strSub (mk L) 0 (mk L).length]
    rw [sub_whole]
  · rw [partsBetween_eq]
    exact key
theorem splitL_line (c : Nat) : ∀ (l rest acc : List Nat), c ∉ l → splitL c acc (l ++ c :: rest) = (acc ++ l) :: splitL c [] rest
  | [], rest, acc, _ => by simp [splitL]
  | x :: l, rest, acc, h => by
    have hx : ¬ x = c := fun e => h (by simp [e])
    rw [List.cons_append, splitL, if_neg hx, splitL_line c l rest _ (fun hm => h (List.mem_cons_of_mem _ hm))]
    simp
theorem splitL_end (c : Nat) : ∀ (l acc : List Nat), c ∉ l → splitL c acc l = [acc ++ l]
  | [], acc, _ => by simp [splitL]
  | x :: l, acc, h => by
    have hx : ¬ x = c := fun e => h (by simp [e])
    rw [splitL, if_neg hx, splitL_end c l _ (fun hm => h (List.mem_cons_of_mem _ hm))]
    simp
/-- the lines, each with its end, but for the last end -/
theorem splitL_lines (c : Nat) : ∀ (ls : List (List Nat)), ls ≠ [] → (∀ l ∈ ls, c ∉ l) → splitL c [] ((ls.map (· ++ [c])).flatten.dropLast) = ls
  | [], h, _ => absurd rfl h
  | [l], _, h => by
    simp only [List.map_cons, List.map_nil, List.flatten_cons, List.flatten_nil, List.append_nil, List.dropLast_concat]
    rw [splitL_end c l [] (h l (by simp))]
    rfl
  | l :: m :: ls, _, h => by
    have hne : ((m :: ls).map (· ++ [c])).flatten ≠ [] := by simp
    rw [List.map_cons, List.flatten_cons, List.append_assoc, List.singleton_append, List.dropLast_append_of_ne_nil (by simp), List.dropLast_cons_of_ne_nil hne, splitL_line c l _ _ (h l (by simp)),
      splitL_lines c (m :: ls) (by simp) (fun x hx => h x (List.mem_cons_of_mem _ hx))]
    rfl
end M


set_option Elab.async false
set_option linter.all false
set_option maxRecDepth 100000
set_option maxHeartbeats 4000000
/-! What every law has: its draws, one taken, likeness; and plain lemmas of these. -/
namespace M
open PySem PySem.Spec PyProof.Rows L2
noncomputable def b__law_draws_1 : MS := (sSeq (sSet (gN 4) (mBin dMod (mCall dInt (mCons (mBin dAdd (mBin dMul (mVar 3) (mC (.int 48271))) (mC (.int 11))) mNil)) (mC (.int 2147483647)))) (sSeq (sExpr (mMeth "list" gAppend (mVar 1) (mCons (mBin dMod (mCall dInt (mCons (mBin dAdd (mBin dMul (mVar 4) (mC (.int 69621))) (mVar 3)) mNil)) (mC (.int 2147483629))) mNil))) (sSeq (sExpr (mMeth "list" gAppend (mVar 1) (mCons (mBin dMod (mCall dInt (mCons (mBin dAdd (mVar 4) (mBin dFdiv (mVar 3) (mC (.int 7)))) mNil)) (mC (.int 1000003))) mNil))) (sSet (gN 3) (mC (.int 0))))))
noncomputable def b__law_draws_2 : MS := (sSeq (sExpr (mMeth "list" gAppend (mVar 1) (mCons (mBin dMod (mCall dInt (mCons (mVar 3) mNil)) (mC (.int 997))) mNil))) (sSet (gN 3) (mBin dFdiv (mVar 3) (mC (.int 997)))))
noncomputable def l__law_draws_3 : MS := (sIf (mB (mBin dGt (mVar 3) (mC (.int 0)))) b__law_draws_2 sSkip)
noncomputable def l__law_draws_4 : MS := (sSeq (sSet (gN 3) (mCall dAbs (mCons (mVar 2) mNil))) (sSeq (sIf (mB (mBin dLt (mVar 3) (mBin dPow (mC (.int 10)) (mC (.int 18))))) b__law_draws_1 sSkip) (sFor (mSrcA srcR1 (mCons (mC (.int 60)) mNil)) (gN 5) l__law_draws_3)))
noncomputable def b__law_draws_5 : MS := (sSet (gN 6) (mBin dAdd (mC (.int 1)) (mCall dAbs (mCons (mBin dIx (mVar 0) (mC (.int 0))) mNil))))
noncomputable def l__law_draws_6 : MS := (sSeq (sSet (gN 6) (mBin dMod (mCall dInt (mCons (mBin dAdd (mBin dMul (mVar 6) (mC (.int 48271))) (mC (.int 69621))) mNil)) (mC (.int 2147483647)))) (sExpr (mMeth "list" gAppend (mVar 1) (mCons (mBin dFdiv (mVar 6) (mC (.int 5))) mNil))))
noncomputable def b__law_draws : MS := (sSeq (sSet (gN 1) (asL (mLst mNil))) (sSeq (sFor (mSrc (mVar 0)) (gN 2) l__law_draws_4) (sSeq (sSet (gN 6) (mC (.int 1))) (sSeq (sIf (mB (mBin dGt (mCall dLen (mCons (mVar 0) mNil)) (mC (.int 0)))) b__law_draws_5 sSkip) (sSeq (sFor (mSrcA srcR1 (mCons (mC (.int 900)) mNil)) (gN 5) l__law_draws_6) (sRet (asL (mListRev (mVar 1)))))))))
noncomputable def m__law_draws : List D → Store → Res D := retK (runF 7 b__law_draws)
noncomputable def b__law_take : MS := (sSeq (sIf (mB (mBin dEq (mCall dLen (mCons (mVar 0) mNil)) (mC (.int 0)))) (sRet (mC (.int 0))) sSkip) (sRet (mBin dMod (mCall dInt (mCons (mMeth "list" gPop (mVar 0) mNil) mNil)) (mVar 1))))
noncomputable def m__law_take : List D → Store → Res D := retV (runF 2 b__law_take)
noncomputable def t__law_alike_1 (g : List D → Store → Res D) : MT := (mNot (mTru (mCallF 2 g (mCons (mBin dIx (mVar 0) (mVar 2)) (mCons (mBin dIx (mVar 1) (mVar 2)) mNil)))))
noncomputable def b__law_alike_2 (g : List D → Store → Res D) : MS := (sSeq (sIf (mOr (mB (mBin dNe (mCall dIsInst (mCons (mVar 0) (mCons (mC (.ty "list")) mNil))) (mCall dIsInst (mCons (mVar 1) (mCons (mC (.ty "list")) mNil))))) (mB (mBin dNe (mCall dIsInst (mCons (mVar 0) (mCons (mC (.ty "tuple")) mNil))) (mCall dIsInst (mCons (mVar 1) (mCons (mC (.ty "tuple")) mNil)))))) (sRet (mC (.bl false))) sSkip) (sRet (mAndV (mBin dEq (mCall dLen (mCons (mVar 0) mNil)) (mCall dLen (mCons (mVar 1) mNil))) (mBin dEq (asV (mLc (mSrcA srcR1 (mCons (mCall dLen (mCons (mVar 1) mNil)) mNil)) (gN 2) (t__law_alike_1 g) (mVar 2) [2])) (asV (mLst mNil))))))
noncomputable def b__law_alike_3 (g : List D → Store → Res D) : MS := (sRet (mBin dIs (mVar 0) (mC .non)))
noncomputable def b__law_alike_4 (g : List D → Store → Res D) : MS := (sRet (mAndV (mCall dIsInst (mCons (mVar 0) (mCons (mC (.ty "bool")) mNil))) (mAndV (mCall dIsInst (mCons (mVar 1) (mCons (mC (.ty "bool")) mNil))) (mBin dEq (mVar 0) (mVar 1)))))
noncomputable def b__law_alike_5 (g : List D → Store → Res D) : MS := (sRet (mAndV (mCall dIsInst (mCons (mVar 0) (mCons (mC (.ty "int")) mNil))) (mBin dEq (mVar 0) (mVar 1))))
noncomputable def b__law_alike (g : List D → Store → Res D) : MS := (sSeq (sIf (mOr (mTru (mCall dIsInst (mCons (mVar 1) (mCons (mC (.ty "list")) mNil)))) (mTru (mCall dIsInst (mCons (mVar 1) (mCons (mC (.ty "tuple")) mNil))))) (b__law_alike_2 g) sSkip) (sSeq (sIf (mB (mBin dIs (mVar 1) (mC .non))) (b__law_alike_3 g) sSkip) (sSeq (sIf (mOr (mTru (mCall dIsInst (mCons (mVar 1) (mCons (mC (.ty "bool")) mNil)))) (mTru (mCall dIsInst (mCons (mVar 0) (mCons (mC (.ty "bool")) mNil))))) (b__law_alike_4 g) sSkip) (sSeq (sIf (mTru (mCall dIsInst (mCons (mVar 1) (mCons (mC (.ty "int")) mNil)))) (b__law_alike_5 g) sSkip) (sRet (mAndV (mCall dIsInst (mCons (mVar 0) (mCons (mC (.ty "str")) mNil))) (mBin dEq (mVar 0) (mVar 1))))))))
noncomputable def r__law_alike : Nat → List D → Store → Res D
  | 0 => fun _ _ => .bad
  | n + 1 => retV (runF 3 (b__law_alike (r__law_alike n)))
noncomputable def m__law_alike := r__law_alike 8
section
variable [Tabs]
/-- the store of the law: the draws that are left -/
abbrev St (l : List Int) : Store := [OB.lst (I l)]
theorem clS_St (l : List Int) (n : Nat) : clS n (St l) = true := by simp [clS, clO, cls_I]
theorem take_ex (b : Int) (hb : 0 < b) (l : List Int) : ∃ k l', 0 ≤ k ∧ k < b ∧ m__law_take [.loc 0, .int b] (St l) = .ok (.int k) (St l') := by
  rcases List.eq_nil_or_concat l with rfl | ⟨l', x, rfl⟩
  · refine ⟨0, [], Int.le_refl _, hb, ?_⟩
    refine (retV_ok (d := .int 0) (S' := St []) ?_ (clS_St _ _) rfl).trans rfl
    simp [runF, b__law_take, dLen, seqOf, lstOf]
  · refine ⟨x % b, l', Int.emod_nonneg _ (by omega), Int.emod_lt_of_pos _ hb, ?_⟩
    refine (retV_ok (d := .int (x % b)) (S' := St l') ?_ (clS_St _ _) rfl).trans rfl
    have h0 : ¬ ((l'.length : Int) + 1 = 0) := by omega
    simp [runF, b__law_take, dLen, seqOf, lstOf, rcv, gPop, x_mod hb, h0]
theorem a1 {w : Nat} (h : w ≤ 40) : w ≤ sizeLine := Nat.le_trans h (by decide)
theorem a2 {w : Nat} (h : w ≤ 40) : M.inR (w : Int) = true := by
  unfold M.inR
  rw [decide_eq_true_eq]
  constructor <;> omega
theorem a3 {w : Nat} {S : Store} (hr : M.inR (w : Int) = true) : srcR1 [.int w] S = some ⟨rng 0 w, []⟩ := by
      simp only [srcR1, hr, if_true, Int.toNat_natCast]
theorem a4 {w : Nat} (hw : w ≤ 40) : (rng 0 w).length ≤ sizeLine := by rw [rng, List.length_map, List.length_range]; exact a1 hw
theorem a5 {w : Nat} {ys : List D} (hl : ys.length = (rng 0 w).length) : ys.length = w := by simpa [rng] using hl
theorem a6 {ys : List D} {l' : List Int} : dTuple [.lst ys] (St l') = some (.tup ys) := rfl
theorem t1 (ys xs : List D) (e : M.Env) (me : ME) (s v : Nat) (S S' : Store) (hz : xs.length ≤ sizeLine) (h : lcM ⟨xs, []⟩ (gN s) mYes me (wipeE e [s]) xs S = .ok ys S') (s1 : (mSrcA srcR1 (mCons (mVar v) mNil)) e S = .ok ⟨xs, []⟩ S) :
   (mCall dTuple (mCons (asV (mLc (mSrcA srcR1 (mCons (mVar v) mNil)) (gN s) mYes me [s])) mNil)) e S = .ok (.tup ys) S' := by
  have s2 : (mLc (mSrcA srcR1 (mCons (mVar v) mNil)) (gN s) mYes me [s]) e S = .ok ys S' := by rw [x_mLc, s1, Res.bind_ok, if_pos hz, h]
  have h5 : dTuple [.lst ys] S' = some (.tup ys) := rfl
  simp only [x_mCall, x_mCons, x_asV, s2, Res.bind_ok, x_mNil, h5, Res.of_some]
theorem rng_mem {n : Nat} {d : D} (h : d ∈ rng 0 n) : ∃ j : Int, d = .int j := by
  obtain ⟨i, _, rfl⟩ := List.mem_map.mp h
  exact ⟨_, rfl⟩
theorem t2 {P : D → Prop} (me : ME) (e : M.Env) (v s w : Nat) (hc : ∀ (j : Int) l, ∃ y l', P y ∧ me ((wipeE e [s]).set s (some (.int j))) (St l) = .ok y (St l')) (l : List Int) :
  ∃ ys l', ys.length = (rng 0 w).length ∧ (∀ y ∈ ys, P y) ∧ lcM ⟨rng 0 w, []⟩ (gN s) mYes me (wipeE e [s]) (rng 0 w) (St l) = .ok ys (St l') := by
  apply lc_run (t := gN s) (me := me) (e := wipeE e [s]) (xs := rng 0 w) (P := P) St (rng 0 w) l
  intro d hd l
  obtain ⟨j, hj⟩ := rng_mem hd
  obtain ⟨y, l', hp, hy⟩ := hc j l
  rw [hj]
  exact ⟨_, y, l', rfl, hp, hy⟩
theorem t3a (e : M.Env) (v : Nat) (d : D) (hv : e[v]? = some (some d)) (S : Store) : mVar v e S = .ok d S := by
  simp only [x_mVar, hv]
theorem t3b (e : M.Env) (d : D) (a : ME) (S : Store) (src : Src) (f : List D → Store → Option Src) (h1 : a e S = .ok d S) (h2 : f [d] S = some src) : (mSrcA f (mCons a mNil)) e S = .ok src S := by
  simp only [x_mSrcA, x_mCons, h1, Res.bind_ok, x_mNil, h2, Res.of_some]
theorem t3 (e : M.Env) (v w : Nat) (hv : e[v]? = some (some (.int w))) (hw : w ≤ 40) (S : Store) : (mSrcA srcR1 (mCons (mVar v) mNil)) e S = .ok ⟨rng 0 w, []⟩ S :=
  t3b e (.int w) _ S _ _ (t3a e v _ hv S) (a3 (a2 hw))
theorem grid1 {P : D → Prop} (me : ME) (e : M.Env) (v s w : Nat) (hw : w ≤ 40) (hv : e[v]? = some (some (.int w))) (hc : ∀ (j : Int) l, ∃ y l', P y ∧ me ((wipeE e [s]).set s (some (.int j))) (St l) = .ok y (St l')) (l : List Int) :
    ∃ ys l', ys.length = w ∧ (∀ y ∈ ys, P y) ∧ (mCall dTuple (mCons (asV (mLc (mSrcA srcR1 (mCons (mVar v) mNil)) (gN s) mYes me [s])) mNil)) e (St l) = .ok (.tup ys) (St l') := by
  obtain ⟨ys, l', h1, h2, h3⟩ := t2 me e v s w hc l
  exact ⟨ys, l', a5 h1, h2, t1 ys (rng 0 w) e me s v (St l) (St l') (a4 hw) h3 (t3 e v w hv hw (St l))⟩
theorem ints_of {P : Int → Prop} : ∀ {ys : List D}, (∀ y ∈ ys, ∃ x, y = .int x ∧ P x) → ∃ r, ys = I r ∧ ∀ x ∈ r, P x
  | [], _ => ⟨[], rfl, by simp⟩
  | y :: ys, h => by
    obtain ⟨x, rfl, hx⟩ := h y (by simp)
    obtain ⟨r, rfl, hr⟩ := ints_of fun z hz => h z (List.mem_cons_of_mem _ hz)
    refine ⟨x :: r, rfl, fun z hz => ?_⟩
    rcases List.mem_cons.mp hz with rfl | hz
    · exact hx
    · exact hr z hz
theorem rows_of {P : List Int → Prop} : ∀ {ys : List D}, (∀ y ∈ ys, ∃ r, y = .tup (I r) ∧ P r) → ∃ a : List (List Int), ys = a.map (fun r => .tup (I r)) ∧ ∀ r ∈ a, P r
  | [], _ => ⟨[], rfl, by simp⟩
  | y :: ys, h => by
    obtain ⟨x, rfl, hx⟩ := h y (by simp)
    obtain ⟨r, rfl, hr⟩ := rows_of fun z hz => h z (List.mem_cons_of_mem _ hz)
    refine ⟨x :: r, rfl, fun z hz => ?_⟩
    rcases List.mem_cons.mp hz with rfl | hz
    · exact hx
    · exact hr z hz
def ab (x : Int) : Int := if x < 0 then -x else x
theorem for_ex {xs : List D} {g : MG} {b : MS} (Inv : Nat → M.Env → Store → Prop) : ∀ (ds : List D) (k : Nat) (e : M.Env) (S : Store), Inv k e S →
    (∀ d ∈ ds, ∀ k' e S, k' < k + ds.length → Inv k' e S → ∃ e1 e2 S2, g d e S = some e1 ∧ b e1 S = some (.nx, e2, S2) ∧ Inv (k' + 1) e2 S2) → ∃ e' S', Inv (k + ds.length) e' S' ∧ M.forM ⟨xs, []⟩ g b ds e S = some (.nx, e', S')
  | [], k, e, S, h, _ => ⟨e, S, h, for_nil⟩
  | d :: ds, k, e, S, h, hs => by
    obtain ⟨e1, e2, S2, h1, h2, h3⟩ := hs d (by simp) k e S (by simp) h
    obtain ⟨e', S', h4, h5⟩ := for_ex Inv ds (k + 1) e2 S2 h3 fun d hd k' e S hk => hs d (List.mem_cons_of_mem _ hd) k' e S (by simp only [List.length_cons]; omega)
    refine ⟨e', S', ?_, (for_cons h1 h2).trans h5⟩
    have : k + 1 + ds.length = k + (d :: ds).length := by simp; omega
    rwa [this] at h4
theorem src_rng (n : Nat) (h : n ≤ 100000) {e : M.Env} {S : Store} {m : ME} (hm : m e S = .ok (.int n) S) : mSrcA srcR1 (mCons m mNil) e S = .ok ⟨rng 0 n, []⟩ S := by
  have hr : M.inR (n : Int) = true := by
    unfold M.inR
    rw [decide_eq_true_eq]
    constructor <;> omega
  rw [x_mSrcA, one_ok hm, Res.bind_ok, a3 hr]
  rfl
theorem rng_len (n : Nat) : (rng 0 n).length = n := by rw [rng, List.length_map, List.length_range]
theorem app_st {e : M.Env} {me : ME} {l : List Int} {v : Int} (h1 : e[1]? = some (some (.loc 0))) (h2 : me e (St l) = .ok (.int v) (St l)) (hl : l.length < 100000) :
    sExpr (mMeth "list" gAppend (mVar 1) (mCons me mNil)) e (St l) = some (.nx, e, St (l ++ [v])) := by
  have h3 := app_last (S := []) (xs := I l) (y := .int v) (by rw [I, List.length_map]; exact hl)
  refine expr_ok (d := .non) (meth_ok (var_ok h1) (rcv_last (S := [])) (one_ok h2) (h3.trans ?_))
  rw [St, I, I, List.map_append]
  rfl
theorem mulc (x : Int) (c : Int) (hc : c.natAbs < 2 ^ 64) (S : Store) : dMul (.int x) (.int c) S = some (.int (x * c)) := x_mul (.inr hc)
theorem in_loop (o0 o2 : D) (e4 e6 : Option D) (left : Int) (l : List Int) (e5 : Option D) (hl : l.length ≤ 50000) :
    ∃ e' l', e'[0]? = some (some o0) ∧ e'[1]? = some (some (.loc 0)) ∧ e'.length = 7 ∧ l'.length ≤ l.length + 60 ∧
      sFor (mSrcA srcR1 (mCons (mC (.int 60)) mNil)) (gN 5) l__law_draws_3 [some o0, some (.loc 0), some o2, some (.int left), e4, e5, e6] (St l) = some (.nx, e', St l') := by
  obtain ⟨e', S', ⟨lf, l', e5', h1, rfl, rfl⟩, h2⟩ := for_ex (xs := rng 0 60) (g := gN 5) (b := l__law_draws_3) (fun k e S => ∃ left l' e5, l'.length ≤ l.length + k ∧ e = [some o0, some (.loc 0), some o2, some (.int left), e4, e5, e6] ∧ S = St l') (rng 0 60) 0
    [some o0, some (.loc 0), some o2, some (.int left), e4, e5, e6] (St l) ⟨left, l, e5, Nat.le_refl _, rfl, rfl⟩ (by
      rintro d hd k e S hk ⟨left, l', e5, hl', rfl, rfl⟩
      rw [rng_len] at hk
      by_cases h0 : 0 < left
      · refine ⟨_, [some o0, some (.loc 0), some o2, some (.int (left / 997)), e4, some d, e6], St (l' ++ [left % 997]), rfl, ?_, _, _, _, ?_, rfl, rfl⟩
        · refine (if_t (b_ok (c := true) (bin_ok (var_ok rfl) rfl ?_))).trans ?_
          · rw [x_gt, decide_eq_true h0]
          · refine (seq_nx (app_st rfl (bin_ok (call_ok (one_ok (var_ok rfl)) x_int) rfl (x_mod (by decide))) (by omega))).trans ?_
            exact set_ok (bin_ok (var_ok rfl) rfl (x_fdiv (by decide)))
        · simp only [List.length_append, List.length_singleton]; omega
      · refine ⟨_, [some o0, some (.loc 0), some o2, some (.int left), e4, some d, e6], St l', rfl, if_skip (b_ok (c := false) (bin_ok (var_ok rfl) rfl ?_)), _, _, _, ?_, rfl, rfl⟩
        · rw [x_gt, decide_eq_false h0]
        · omega)
  refine ⟨_, l', rfl, rfl, rfl, ?_, for_ok (src_rng 60 (by decide) rfl) h2⟩
  rw [rng_len] at h1
  omega
theorem x_pow {x y : Int} {S : Store} (h : 0 ≤ y ∧ y ≤ 1000000 ∧ x.natAbs < 2 ^ 64) : dPow (.int x) (.int y) S = some (.int (x ^ y.toNat)) := if_pos h
theorem num_step (o0 : D) (n : Int) (e3 e4 e5 e6 : Option D) (l : List Int) (hl : l.length ≤ 40000) :
    ∃ e' l', e'[0]? = some (some o0) ∧ e'[1]? = some (some (.loc 0)) ∧ e'.length = 7 ∧ l'.length ≤ l.length + 62 ∧
      l__law_draws_4 [some o0, some (.loc 0), some (.int n), e3, e4, e5, e6] (St l) = some (.nx, e', St l') := by
  have s1 : sSet (gN 3) (mCall dAbs (mCons (mVar 2) mNil)) [some o0, some (.loc 0), some (.int n), e3, e4, e5, e6] (St l) = some (.nx, [some o0, some (.loc 0), some (.int n), some (.int (ab n)), e4, e5, e6], St l) :=
    set_ok (call_ok (one_ok (var_ok rfl)) x_abs)
  have hp : ∀ (e : M.Env) (S : Store), mBin dPow (mC (.int 10)) (mC (.int 18)) e S = .ok (.int (10 ^ 18)) S := fun e S => bin_ok rfl rfl (x_pow (by decide))
  by_cases h0 : ab n < 10 ^ 18
  · obtain ⟨e', l', a0, a1, a2, a3, hi⟩ := in_loop o0 (.int n) (some (.int ((ab n * 48271 + 11) % 2147483647))) e6 0 (l ++ [((ab n * 48271 + 11) % 2147483647 * 69621 + ab n) % 2147483629] ++ [((ab n * 48271 + 11) % 2147483647 + ab n / 7) % 1000003]) e5
      (by simp only [List.length_append, List.length_singleton]; omega)
    refine ⟨e', l', a0, a1, a2, ?_, ?_⟩
    · simp only [List.length_append, List.length_singleton] at a3; omega
    refine (seq_nx s1).trans ((seq_nx (e1 := [some o0, some (.loc 0), some (.int n), some (.int 0), some (.int ((ab n * 48271 + 11) % 2147483647)), e5, e6]) (S1 := St (l ++ [((ab n * 48271 + 11) % 2147483647 * 69621 + ab n) % 2147483629] ++ [((ab n * 48271 + 11) % 2147483647 + ab n / 7) % 1000003])) ?_).trans hi)
    refine (if_t (b_ok (c := true) (bin_ok (var_ok rfl) (hp _ _) ?_))).trans ?_
    · rw [x_lt, decide_eq_true h0]
    refine (seq_nx (set_ok (bin_ok (call_ok (one_ok (bin_ok (bin_ok (var_ok rfl) rfl (mulc _ _ (by decide) _)) rfl x_add)) x_int) rfl (x_mod (by decide))))).trans ?_
    refine (seq_nx (app_st rfl (bin_ok (call_ok (one_ok (bin_ok (bin_ok (var_ok rfl) rfl (mulc _ _ (by decide) _)) (var_ok rfl) x_add)) x_int) rfl (x_mod (by decide))) (by omega))).trans ?_
    refine (seq_nx (app_st rfl (bin_ok (call_ok (one_ok (bin_ok (var_ok rfl) (bin_ok (var_ok rfl) rfl (x_fdiv (by decide))) x_add)) x_int) rfl (x_mod (by decide))) (by simp only [List.length_append, List.length_singleton]; omega))).trans ?_
    exact set_ok rfl
  · obtain ⟨e', l', a0, a1, a2, a3, hi⟩ := in_loop o0 (.int n) e4 e6 (ab n) l e5 (by omega)
    refine ⟨e', l', a0, a1, a2, by omega, ?_⟩
    refine (seq_nx s1).trans ((seq_nx (if_skip (b_ok (c := false) (bin_ok (var_ok rfl) (hp _ _) ?_)))).trans hi)
    rw [x_lt, decide_eq_false h0]
theorem env7 {e : M.Env} {o0 o1 : D} (h0 : e[0]? = some (some o0)) (h1 : e[1]? = some (some o1)) (hl : e.length = 7) : ∃ e2 e3 e4 e5 e6, e = [some o0, some o1, e2, e3, e4, e5, e6] := by
  match e, hl with
  | [a, b, c, d, f, g, h], _ =>
    simp at h0 h1
    subst h0 h1
    exact ⟨c, d, f, g, h, rfl⟩
theorem draws_ex (ns : List Int) (hn : ns.length ≤ 63) : ∃ l, m__law_draws [.fro (I ns)] [] = .ok (.loc 0) (St l) := by
  suffices hs : ∃ l l' e', b__law_draws [some (.fro (I ns)), none, none, none, none, none, none] [] = some (.rt (.loc 1), e', [OB.lst (I l), OB.lst (I l')]) by
    obtain ⟨l, l', e', h⟩ := hs
    refine ⟨l', ?_⟩
    show retK (runF 7 b__law_draws) _ _ = _
    unfold retK
    have : runF 7 b__law_draws [.fro (I ns)] [] = .ok (.loc 1) [OB.lst (I l), OB.lst (I l')] := run_rt (e' := e') h
    rw [this]
    simp [clS, cls_I]
  obtain ⟨e1, S1, ⟨l1, hl1, g0, g1, g2, rfl⟩, hf1⟩ := for_ex (xs := I ns) (g := gN 2) (b := l__law_draws_4) (fun k e S => ∃ l, l.length ≤ 62 * k ∧ e[0]? = some (some (.fro (I ns))) ∧ e[1]? = some (some (.loc 0)) ∧ e.length = 7 ∧ S = St l) (I ns) 0
    [some (.fro (I ns)), some (.loc 0), none, none, none, none, none] (St []) ⟨[], Nat.zero_le _, rfl, rfl, rfl, rfl⟩ (by
      rintro d hd k e S hk ⟨l, hl, h0, h1, h2, rfl⟩
      obtain ⟨n, _, rfl⟩ := List.mem_map.mp hd
      simp only [I, List.length_map] at hk
      obtain ⟨e2, e3, e4, e5, e6, rfl⟩ := env7 h0 h1 h2
      obtain ⟨e', l', a0, a1, a2, a3, hi⟩ := num_step (.fro (I ns)) n e3 e4 e5 e6 l (by omega)
      exact ⟨_, e', St l', rfl, hi, l', by omega, a0, a1, a2, rfl⟩)
  obtain ⟨b2, b3, b4, b5, b6, rfl⟩ := env7 g0 g1 g2
  simp only [I, List.length_map, Nat.zero_add] at hl1
  have tail : ∀ (st : Int), ∃ l l' e', sSeq (sFor (mSrcA srcR1 (mCons (mC (.int 900)) mNil)) (gN 5) l__law_draws_6) (sRet (asL (mListRev (mVar 1)))) [some (.fro (I ns)), some (.loc 0), b2, b3, b4, b5, some (.int st)] (St l1) = some (.rt (.loc 1), e', [OB.lst (I l), OB.lst (I l')]) := by
    intro st
    obtain ⟨e', S', ⟨st', l2, b5', hl2, rfl, rfl⟩, hf2⟩ := for_ex (xs := rng 0 900) (g := gN 5) (b := l__law_draws_6) (fun k e S => ∃ st l b5, l.length ≤ l1.length + k ∧ e = [some (.fro (I ns)), some (.loc 0), b2, b3, b4, b5, some (.int st)] ∧ S = St l) (rng 0 900) 0
      [some (.fro (I ns)), some (.loc 0), b2, b3, b4, b5, some (.int st)] (St l1) ⟨st, l1, b5, Nat.le_refl _, rfl, rfl⟩ (by
        rintro d hd k e S hk ⟨st, l, b5, hl, rfl, rfl⟩
        rw [rng_len] at hk
        refine ⟨_, _, St (l ++ [(st * 48271 + 69621) % 2147483647 / 5]), rfl, ?_, (st * 48271 + 69621) % 2147483647, _, some d, ?_, rfl, rfl⟩
        · refine (seq_nx (set_ok (bin_ok (call_ok (one_ok (bin_ok (bin_ok (var_ok rfl) rfl (mulc _ _ (by decide) _)) rfl x_add)) x_int) rfl (x_mod (by decide))))).trans ?_
          exact app_st rfl (bin_ok (var_ok rfl) rfl (x_fdiv (by decide))) (by omega)
        · simp only [List.length_append, List.length_singleton]; omega)
    refine ⟨l2, l2.reverse, _, (seq_nx (for_ok (src_rng 900 (by decide) rfl) hf2)).trans (ret_ok ?_)⟩
    refine (asL_ok (S1 := St l2) (ds := (I l2).reverse) ?_).trans ?_
    · rfl
    · rw [← List.map_reverse]; rfl
  have hlen : dLen [.fro (I ns)] (St l1) = some (.int ns.length) := by
    show some (D.int ((I ns).length : Int)) = _
    rw [I, List.length_map]
  by_cases hp : 0 < (ns.length : Int)
  · cases ns with
    | nil => simp at hp
    | cons n ns =>
      obtain ⟨l, l', e', ht⟩ := tail (1 + ab n)
      refine ⟨l, l', e', (seq_nx (set_ok (asL_ok (lst_ok rfl (a1 (by decide)))))).trans ((seq_nx (for_ok (S1 := St []) (xs := I (n :: ns)) rfl hf1)).trans ((seq_nx (set_ok rfl)).trans ((seq_nx ?_).trans ht)))⟩
      refine (if_t (b_ok (c := true) (bin_ok (call_ok (one_ok (var_ok rfl)) hlen) rfl ?_))).trans ?_
      · rw [x_gt, decide_eq_true hp]
      · exact set_ok (bin_ok rfl (call_ok (one_ok (bin_ok (var_ok rfl) rfl (at_nat (I (n :: ns)) 0 _ rfl))) x_abs) x_add)
  · obtain ⟨l, l', e', ht⟩ := tail 1
    refine ⟨l, l', e', (seq_nx (set_ok (asL_ok (lst_ok rfl (a1 (by decide)))))).trans ((seq_nx (for_ok (S1 := St []) (xs := I ns) rfl hf1)).trans ((seq_nx (set_ok rfl)).trans ((seq_nx (if_skip ?_)).trans ht)))⟩
    refine b_ok (c := false) (bin_ok (call_ok (one_ok (var_ok rfl)) hlen) rfl ?_)
    rw [x_gt, decide_eq_false hp]
theorem or_ff {s t : MT} (hs : s e S = .ok false S) (ht : t e S = .ok false S) : mOr s t e S = .ok false S := by rw [x_mOr, hs, Res.bind_ok]; exact ht
theorem ne_ff {x y : ME} {u v : D} (hx : x e S = .ok u S) (hy : y e S = .ok v S) (hd : dNe u v S = some (.bl false)) : mB (mBin dNe x y) e S = .ok false S := b_ok (bin_ok hx hy hd)
theorem neI {x y : Int} (h : x = y) : dNe (.int x) (.int y) S = some (.bl false) := by rw [x_neI, decide_eq_true h]; rfl
theorem neB {x y : Bool} (h : x = y) : dNe (.bl x) (.bl y) S = some (.bl false) := by rw [x_neB, decide_eq_true h]; rfl
theorem neL {x y : List Int} (h : x = y) : dNe (.lst (I x)) (.lst (I y)) S = some (.bl false) := by rw [x_neL, decide_eq_true h]; rfl
theorem neP {x y : List (List Int)} (h : x = y) : dNe (pic x) (pic y) S = some (.bl false) := by rw [x_neP, decide_eq_true h]; rfl
theorem neS {x y : PySem.Str} (h : x = y) : dNe (.str x) (.str y) S = some (.bl false) := by rw [x_neStr, decide_eq_true h]; rfl
theorem gt_ff {x y : ME} {u v : Int} (hx : x e S = .ok (.int u) S) (hy : y e S = .ok (.int v) S) (hd : u ≤ v) : mB (mBin dGt x y) e S = .ok false S := b_ok (bin_ok hx hy (by rw [x_gt, decide_eq_false (by omega)]))
/-- a function that only returns -/
theorem ret_fn {n : Nat} {m : ME} {ds : List D} {d : D} (hS : clS S.length S = true) (h : m (ds.map some ++ List.replicate (n - ds.length) none) S = .ok d S) (hd : cl S.length d = true) : retV (runF n (sRet m)) ds S = .ok d S :=
  retV_id (run_rt (ret_ok h)) hS hd
theorem take_nat (n : Nat) (hn : 0 < n) (l : List Int) : ∃ (k : Nat) (l' : List Int), k < n ∧ m__law_take [.loc 0, .int (n : Int)] (St l) = .ok (.int (k : Int)) (St l') := by
  obtain ⟨k, l', k0, k1, q⟩ := take_ex (n : Int) (by omega) l
  obtain ⟨m, rfl⟩ := Int.eq_ofNat_of_zero_le k0
  exact ⟨m, l', by omega, q⟩
end
end M


set_option Elab.async false
set_option linter.all false
set_option maxRecDepth 100000
set_option maxHeartbeats 4000000
namespace M.Lf
open PySem PySem.Spec PyProof.Rows L2 M
noncomputable def b_whole : MS := (sRet (mIte (mAnd (mB (mBin dGt (mCall dLen (mCons (mVar 0) mNil)) (mC (.int 0)))) (mB (mBin dGt (mCall dLen (mCons (mBin dIx (mVar 0) (mC (.int 0))) mNil)) (mC (.int 0))))) (mVar 0) (mTup mNil)))
noncomputable def m_whole : List D → Store → Res D := retV (runF 1 b_whole)
noncomputable def e_lifted_rows_1 : ME := (mCallF 1 m_lifted (mCons (mVar 2) mNil))
noncomputable def e_lifted_rows_2 : ME := (mBin dIx (mVar 5) (mC (.int 0)))
noncomputable def e_lifted_rows_3 : ME := (mBin dIx (mVar 5) (mC (.int 1)))
noncomputable def b_lifted_rows : MS := (sSeq (sSet (gN 1) (asV (mLc (mSrc (mVar 0)) (gN 2) mYes e_lifted_rows_1 [2]))) (sSeq (sPar 3 4 (mCons (mCall dTuple (mCons (asV (mLc (mSrc (mVar 1)) (gN 5) mYes e_lifted_rows_2 [5])) mNil)) (mCons (mCall dTuple (mCons (asV (mLc (mSrc (mVar 1)) (gN 5) mYes e_lifted_rows_3 [5])) mNil)) mNil))) (sRet (mTup (mCons (mCallF 1 m_whole (mCons (mVar 3) mNil)) (mCons (mCallF 1 m_whole (mCons (mVar 4) mNil)) mNil))))))
noncomputable def m_lifted_rows : List D → Store → Res D := retV (runF 6 b_lifted_rows)
noncomputable def b_turned : MS := (sRet (mUn dTurn (mVar 0)))
noncomputable def m_turned : List D → Store → Res D := retV (runF 1 b_turned)
noncomputable def l_lifted_field_1 : MS := (sSeq (sSet (gN 5) (mCallF 1 m_lifted_rows (mCons (mCallF 1 m_turned (mCons (mVar 4) mNil)) mNil))) (sExpr (mMeth "list" gExtend (mVar 3) (mCons (asV (mLst (mCons (mCallF 1 m_turned (mCons (mBin dIx (mVar 5) (mC (.int 0))) mNil)) (mCons (mCallF 1 m_turned (mCons (mBin dIx (mVar 5) (mC (.int 1))) mNil)) mNil)))) mNil))))
noncomputable def b_lifted_field : MS := (sSeq (sSet (gTup 2 (gCons (gN 1) (gCons (gN 2) gNil))) (mCallF 1 m_lifted_rows (mCons (mVar 0) mNil))) (sSeq (sSet (gN 3) (asL (mLst mNil))) (sSeq (sFor (mSrc (mTup (mCons (mVar 1) (mCons (mVar 2) mNil)))) (gN 4) l_lifted_field_1) (sRet (mCall dTuple (mCons (mVar 3) mNil))))))
noncomputable def m_lifted_field : List D → Store → Res D := retV (runF 6 b_lifted_field)
noncomputable def e_lowered_rows_1 : ME := (mCallF 2 m_lowered (mCons (mVar 2) (mCons (mVar 3) mNil)))
noncomputable def b_lowered_rows : MS := (sSeq (sIf (mB (mBin dEq (mCall dLen (mCons (mVar 1) mNil)) (mC (.int 0)))) (sRet (mVar 0)) sSkip) (sRet (mCall dTuple (mCons (asV (mLc (mSrcA srcZip (mCons (mVar 0) (mCons (mVar 1) mNil))) (gTup 2 (gCons (gN 2) (gCons (gN 3) gNil))) mYes e_lowered_rows_1 [2, 3])) mNil))))
noncomputable def m_lowered_rows : List D → Store → Res D := retV (runF 4 b_lowered_rows)
noncomputable def b_lowered_field : MS := (sSeq (sSet (gN 2) (mCallF 1 m_turned (mCons (mCallF 2 m_lowered_rows (mCons (mCallF 1 m_turned (mCons (mVar 0) mNil)) (mCons (mCallF 1 m_turned (mCons (mBin dIx (mVar 1) (mC (.int 0))) mNil)) mNil))) mNil))) (sSeq (sSet (gN 3) (mCallF 1 m_turned (mCons (mCallF 2 m_lowered_rows (mCons (mCallF 1 m_turned (mCons (mBin dIx (mVar 1) (mC (.int 1))) mNil)) (mCons (mCallF 1 m_turned (mCons (mBin dIx (mVar 1) (mC (.int 2))) mNil)) mNil))) mNil))) (sRet (mCallF 2 m_lowered_rows (mCons (mVar 2) (mCons (mVar 3) mNil))))))
noncomputable def m_lowered_field : List D → Store → Res D := retV (runF 4 b_lowered_field)
noncomputable def l_field_tower_1 : MS := (sSeq (sSet (gN 4) (mCallF 1 m_lifted_field (mCons (mVar 0) mNil))) (sSeq (sSet (gN 0) (mBin dIx (mVar 4) (mC (.int 0)))) (sExpr (mMeth "list" gAppend (mVar 2) (mCons (mSlice (mVar 4) (mPart (mC (.int 1))) mNo) mNil)))))
noncomputable def b_field_tower : MS := (sSeq (sExpr (mCallF 1 m_check_levels (mCons (mVar 1) mNil))) (sSeq (sSet (gN 2) (asL (mLst mNil))) (sSeq (sFor (mSrcA srcR1 (mCons (mVar 1) mNil)) (gN 3) l_field_tower_1) (sRet (mTup (mCons (mVar 0) (mCons (mCall dTuple (mCons (mVar 2) mNil)) mNil)))))))
noncomputable def m_field_tower : List D → Store → Res D := retV (runF 5 b_field_tower)
noncomputable def l_field_of_1 : MS := (sSet (gN 1) (mCallF 2 m_lowered_field (mCons (mVar 1) (mCons (mVar 2) mNil))))
noncomputable def b_field_of : MS := (sSeq (sSet (gN 1) (mBin dIx (mVar 0) (mC (.int 0)))) (sSeq (sFor (mSrc (mUn dRev (mBin dIx (mVar 0) (mC (.int 1))))) (gN 2) l_field_of_1) (sRet (mVar 1))))
noncomputable def m_field_of : List D → Store → Res D := retV (runF 3 b_field_of)
noncomputable def e_lean_field_tower_1 : ME := (mCallF 2 m_lean_row (mCons (mVar 5) (mCons (mVar 4) mNil)))
noncomputable def e_lean_field_tower_2 : ME := (mCall dTuple (mCons (asV (mLc (mSrc (mVar 6)) (gN 5) mYes e_lean_field_tower_1 [5])) mNil))
noncomputable def l_lean_field_tower_3 : MS := (sExpr (mMeth "list" gAppend (mVar 2) (mCons (mCall dTuple (mCons (asV (mLc (mSrc (mVar 3)) (gN 6) mYes e_lean_field_tower_2 [6])) mNil)) mNil)))
noncomputable def b_lean_field_tower : MS := (sSeq (sExpr (mCallF 2 m_check_planes (mCons (mVar 1) (mCons (mCall dLen (mCons (mBin dIx (mVar 0) (mC (.int 1))) mNil)) mNil)))) (sSeq (sSet (gN 2) (asL (mLst mNil))) (sSeq (sFor (mSrcA srcZip (mCons (mBin dIx (mVar 0) (mC (.int 1))) (mCons (mVar 1) mNil))) (gTup 2 (gCons (gN 3) (gCons (gN 4) gNil))) l_lean_field_tower_3) (sRet (mTup (mCons (mBin dIx (mVar 0) (mC (.int 0))) (mCons (mCall dTuple (mCons (mVar 2) mNil)) mNil)))))))
noncomputable def m_lean_field_tower : List D → Store → Res D := retV (runF 7 b_lean_field_tower)
noncomputable def b_shown_field : MS := (sSeq (sExpr (mCallF 2 m_check_planes (mCons (mVar 1) (mCons (mC .non) mNil)))) (sRet (mCallF 1 m_field_of (mCons (mCallF 2 m_lean_field_tower (mCons (mCallF 2 m_field_tower (mCons (mVar 0) (mCons (mCall dLen (mCons (mVar 1) mNil)) mNil))) (mCons (mVar 1) mNil))) mNil))))
noncomputable def m_shown_field : List D → Store → Res D := retV (runF 2 b_shown_field)
noncomputable def l_square_offsets_1 : MS := (sSeq (sSet (gN 8) (mBin dSub (mBin dFdiv (mVar 6) (mC (.int 2))) (mBin dFdiv (mVar 7) (mC (.int 2))))) (sExpr (mMeth "list" gExtend (mVar 3) (mCons (asV (mLst (mCons (mVar 8) (mCons (mBin dSub (mBin dAdd (mVar 8) (mVar 7)) (mVar 6)) mNil)))) mNil))))
noncomputable def b_square_offsets : MS := (sSeq (sSet (gN 3) (asL (mLst mNil))) (sSeq (sPar 4 5 (mCons (mBin dSub (mVar 0) (mBin dFdiv (mVar 1) (mC (.int 2)))) (mCons (mBin dSub (mCallF 2 m_lean (mCons (mVar 0) (mCons (mVar 2) mNil))) (mBin dFdiv (mCallF 2 m_lean (mCons (mVar 1) (mCons (mVar 2) mNil))) (mC (.int 2)))) mNil))) (sSeq (sFor (mSrc (mTup (mCons (mTup (mCons (mVar 4) (mCons (mVar 5) mNil))) (mCons (mTup (mCons (mBin dAdd (mVar 4) (mVar 1)) (mCons (mBin dAdd (mVar 5) (mCallF 2 m_lean (mCons (mVar 1) (mCons (mVar 2) mNil)))) mNil))) mNil)))) (gTup 2 (gCons (gN 6) (gCons (gN 7) gNil))) l_square_offsets_1) (sRet (mVar 3)))))
noncomputable def m_square_offsets : List D → Store → Res D := retV (runF 9 b_square_offsets)
noncomputable def e_field_spans_1 : ME := (mCallF 2 m_pair_offsets (mCons (mVar 3) (mCons (mVar 0) mNil)))
noncomputable def e_field_spans_2 : ME := (mCallF 3 m_square_offsets (mCons (mVar 5) (mCons (mVar 6) (mCons (mVar 0) mNil))))
noncomputable def e_field_spans_3 : ME := (mBin dIx (mVar 5) (mBin dFdiv (mVar 8) (mC (.int 2))))
noncomputable def e_field_spans_4 : ME := (mBin dIx (mVar 5) (mVar 8))
noncomputable def l_field_spans_5 : MS := (sSeq (sSet (gN 9) (asV (mLc (mSrc (mVar 2)) (gN 5) mYes e_field_spans_3 [5]))) (sSeq (sSet (gN 10) (asV (mLc (mSrc (mVar 4)) (gN 5) mYes e_field_spans_4 [5]))) (sExpr (mMeth "list" gAppend (mVar 7) (mCons (mTup (mCons (mBin dAdd (mCall dMin (mCons (mVar 9) mNil)) (mCall dMin (mCons (mVar 10) mNil))) (mCons (mBin dAdd (mCall dMax (mCons (mVar 9) mNil)) (mCall dMax (mCons (mVar 10) mNil))) mNil))) mNil)))))
noncomputable def b_field_spans : MS := (sSeq (sExpr (mCallF 1 m_check_plane (mCons (mVar 0) mNil))) (sSeq (sSet (gN 1) (mCall dRng (mCons (mBin dShl (mC (.int 2)) (mVar 0)) mNil))) (sSeq (sSet (gN 2) (asV (mLc (mSrcRg (mVar 1)) (gN 3) mYes e_field_spans_1 [3]))) (sSeq (sSet (gN 4) (asV (mLc2 (mSrcRg (mVar 1)) (gN 5) mYes (mSrcRg (mVar 1)) (gN 6) mYes e_field_spans_2 [5, 6] [6]))) (sSeq (sSet (gN 7) (asL (mLst mNil))) (sSeq (sFor (mSrcA srcR1 (mCons (mC (.int 4)) mNil)) (gN 8) l_field_spans_5) (sRet (mCall dTuple (mCons (mVar 7) mNil)))))))))
noncomputable def m_field_spans : List D → Store → Res D := retV (runF 11 b_field_spans)
noncomputable def e_field_bounds_1 : ME := (mCallF 1 m_field_spans (mCons (mVar 1) mNil))
noncomputable def b_field_bounds : MS := (sSeq (sExpr (mCallF 2 m_check_planes (mCons (mVar 0) (mCons (mC .non) mNil)))) (sRet (mCallF 1 m_sums_of (mCons (asV (mLc (mSrc (mVar 0)) (gN 1) mYes e_field_bounds_1 [1])) mNil))))
noncomputable def m_field_bounds : List D → Store → Res D := retV (runF 2 b_field_bounds)
noncomputable def e_shown_picture_1 : ME := (mCall dMin (mCons (mCall dMax (mCons (mVar 3) (mCons (mC (.int 0)) mNil))) (mCons (mC (.int 15)) mNil)))
noncomputable def e_shown_picture_2 : ME := (mCall dTuple (mCons (asV (mLc (mSrc (mVar 4)) (gN 3) mYes e_shown_picture_1 [3])) mNil))
noncomputable def b_shown_picture : MS := (sSeq (sSet (gN 2) (mCallF 2 m_shown_field (mCons (mVar 0) (mCons (mVar 1) mNil)))) (sRet (mCall dTuple (mCons (asV (mLc (mSrc (mVar 2)) (gN 4) mYes e_shown_picture_2 [4])) mNil))))
noncomputable def m_shown_picture : List D → Store → Res D := retV (runF 5 b_shown_picture)
end M.Lf


set_option Elab.async false
set_option linter.all false
set_option maxRecDepth 100000
set_option maxHeartbeats 4000000
/-! Rows lifted, plainly. -/
namespace M.Lf
/-- sums and differences -/
def lift : List Int → List Int × List Int
  | a :: b :: r => ((a + (b - a) / 2) :: (lift r).1, (b - a) :: (lift r).2)
  | [a] => ([a], [])
  | [] => ([], [])
def lower : List Int → List Int → List Int
  | s :: S, d :: D => (s - d / 2) :: (s - d / 2 + d) :: lower S D
  | S, [] => S
  | [], _ :: _ => []
theorem lift_cons (a b : Int) (r : List Int) : lift (a :: b :: r) = ((a + (b - a) / 2) :: (lift r).1, (b - a) :: (lift r).2) := rfl
theorem lower_cons (s d : Int) (S D : List Int) : lower (s :: S) (d :: D) = (s - d / 2) :: (s - d / 2 + d) :: lower S D := rfl
def raise (m : Int) (r : List Int) : List Int := r.map (· + m)
theorem lower_nil (S : List Int) : lower S [] = S := by cases S <;> rfl
theorem lower_lift : ∀ r : List Int, lower (lift r).1 (lift r).2 = r
  | [] => rfl
  | [a] => rfl
  | a :: b :: r => by
    have ih := lower_lift r
    show lower ((a + (b - a) / 2) :: (lift r).1) ((b - a) :: (lift r).2) = _
    rw [lower_cons, ih]
    congr 1
    · omega
    · congr 1
      omega
theorem lift_raise (m : Int) : ∀ r : List Int, lift (raise m r) = (raise m (lift r).1, (lift r).2)
  | [] => rfl
  | [a] => rfl
  | a :: b :: r => by
    have ih := lift_raise m r
    have e : raise m (a :: b :: r) = (a + m) :: (b + m) :: raise m r := rfl
    rw [e, lift_cons, lift_cons, ih]
    have h1 : b + m - (a + m) = b - a := by omega
    rw [h1]
    refine Prod.ext ?_ rfl
    show (a + m + (b - a) / 2) :: raise m (lift r).1 = (a + (b - a) / 2 + m) :: raise m (lift r).1
    congr 1
    omega
theorem lower_raise (m : Int) : ∀ S D : List Int, lower (raise m S) D = raise m (lower S D)
  | s :: S, d :: D => by
    have ih := lower_raise m S D
    show lower ((s + m) :: raise m S) (d :: D) = raise m (lower (s :: S) (d :: D))
    rw [lower_cons, lower_cons, ih]
    show _ = (s - d / 2 + m) :: (s - d / 2 + d + m) :: raise m (lower S D)
    congr 1
    · omega
    · congr 1
      omega
  | S, [] => by rw [lower_nil, lower_nil]
  | [], _ :: _ => rfl
theorem lift_app : ∀ r o : List Int, r.length % 2 = 0 → lift (r ++ o) = ((lift r).1 ++ (lift o).1, (lift r).2 ++ (lift o).2)
  | [], o, _ => rfl
  | [a], o, h => by simp at h
  | a :: b :: r, o, h => by
    have ih := lift_app r o (by simp only [List.length_cons] at h; omega)
    show lift (a :: b :: (r ++ o)) = _
    rw [lift_cons, lift_cons, ih]
    rfl
theorem lift_len : ∀ r : List Int, (lift r).1.length = (r.length + 1) / 2 ∧ (lift r).2.length = r.length / 2
  | [] => ⟨rfl, rfl⟩
  | [a] => by simp [lift]
  | a :: b :: r => by
    have ih := lift_len r
    simp only [lift, List.length_cons]
    omega
theorem lower_app : ∀ S D S' D' : List Int, S.length = D.length → lower (S ++ S') (D ++ D') = lower S D ++ lower S' D'
  | [], [], S', D', _ => rfl
  | s :: S, d :: D, S', D', h => by
    have ih := lower_app S D S' D' (by simpa using h)
    show lower (s :: (S ++ S')) (d :: (D ++ D')) = _
    rw [lower_cons, lower_cons, ih]
    rfl
  | [], _ :: _, _, _, h => by simp at h
  | _ :: _, [], _, _, h => by simp at h
theorem lower_len : ∀ S D : List Int, D.length ≤ S.length → (lower S D).length = S.length + D.length
  | s :: S, d :: D, h => by
    have ih := lower_len S D (by simpa using h)
    simp only [lower, List.length_cons, ih]
    omega
  | S, [], _ => by rw [lower_nil]; rfl
  | [], _ :: _, h => by simp at h
/-! ### towers -/
def tow : Nat → List Int → List Int × List (List Int)
  | 0, r => (r, [])
  | n + 1, r => ((tow n (lift r).1).1, (lift r).2 :: (tow n (lift r).1).2)
def rowOf : List Int → List (List Int) → List Int
  | s, [] => s
  | s, d :: ds => lower (rowOf s ds) d
theorem row_tow : ∀ (n : Nat) (r : List Int), rowOf (tow n r).1 (tow n r).2 = r
  | 0, r => rfl
  | n + 1, r => by
    show lower (rowOf (tow n (lift r).1).1 (tow n (lift r).1).2) (lift r).2 = r
    rw [row_tow n, lower_lift]
theorem tow_len : ∀ (n : Nat) (r : List Int), (tow n r).2.length = n
  | 0, r => rfl
  | n + 1, r => by simp only [tow, List.length_cons, tow_len n]
theorem tow_raise (m : Int) : ∀ (n : Nat) (r : List Int), tow n (raise m r) = (raise m (tow n r).1, (tow n r).2)
  | 0, r => rfl
  | n + 1, r => by
    unfold tow
    rw [lift_raise]
    simp only
    rw [tow_raise m n]
theorem row_raise (m : Int) : ∀ (ds : List (List Int)) (s : List Int), rowOf (raise m s) ds = raise m (rowOf s ds)
  | [], s => rfl
  | d :: ds, s => by
    show lower (rowOf (raise m s) ds) d = raise m (lower (rowOf s ds) d)
    rw [row_raise m ds s, lower_raise]
/-- both lists of rows side by side -/
def side (a b : List (List Int)) : List (List Int) := List.zipWith (· ++ ·) a b
theorem pow_half {n k : Nat} (h : k % 2 ^ (n + 1) = 0) : k % 2 = 0 ∧ k / 2 % 2 ^ n = 0 := by
  obtain ⟨q, rfl⟩ := Nat.dvd_of_mod_eq_zero h
  rw [Nat.pow_succ, Nat.mul_assoc, Nat.mul_comm (2 ^ n), Nat.mul_assoc]
  refine ⟨by omega, ?_⟩
  rw [Nat.mul_div_cancel_left _ (by decide), Nat.mul_comm]
  exact Nat.mul_mod_right _ _
theorem tow_app : ∀ (n : Nat) (r o : List Int), r.length % 2 ^ n = 0 → tow n (r ++ o) = ((tow n r).1 ++ (tow n o).1, side (tow n r).2 (tow n o).2)
  | 0, r, o, _ => rfl
  | n + 1, r, o, h => by
    obtain ⟨h1, h2⟩ := pow_half h
    have hl := lift_len r
    have ih := tow_app n (lift r).1 (lift o).1 (by rw [hl.1, show (r.length + 1) / 2 = r.length / 2 by omega]; exact h2)
    unfold tow
    rw [lift_app r o h1]
    simp only
    rw [ih]
    rfl
/-! ### planes left out -/
def lean (n : Int) (p : Nat) : Int := if p = 0 then n else n / 2 ^ p * 2 ^ p + 2 ^ p / 2
def leanRows : List (List Int) → List Nat → List (List Int)
  | r :: rs, p :: ps => r.map (lean · p) :: leanRows rs ps
  | _, _ => []
theorem leanRows_cons (r : List Int) (rs : List (List Int)) (p : Nat) (ps : List Nat) : leanRows (r :: rs) (p :: ps) = r.map (lean · p) :: leanRows rs ps := rfl
def shown (r : List Int) (ps : List Nat) : List Int := rowOf (tow ps.length r).1 (leanRows (tow ps.length r).2 ps)
theorem shown_raise (m : Int) (r : List Int) (ps : List Nat) : shown (raise m r) ps = raise m (shown r ps) := by
  unfold shown
  rw [tow_raise]
  exact row_raise m _ _
/-- lengths of the rows of a tower fit -/
def Fits : Nat → List (List Int) → Prop
  | _, [] => True
  | k, d :: ds => 2 * d.length = k ∧ Fits d.length ds
theorem fits_tow : ∀ (n : Nat) (r : List Int), r.length % 2 ^ n = 0 → Fits r.length (tow n r).2 ∧ (tow n r).1.length = r.length / 2 ^ n
  | 0, r, _ => ⟨trivial, by simp [tow]⟩
  | n + 1, r, h => by
    obtain ⟨h1, h2⟩ := pow_half h
    have hl := lift_len r
    have e : (lift r).1.length = r.length / 2 := by rw [hl.1]; omega
    have ih := fits_tow n (lift r).1 (by rw [e]; exact h2)
    refine ⟨⟨by show 2 * (lift r).2.length = _; rw [hl.2]; omega, ?_⟩, ?_⟩
    · show Fits (lift r).2.length (tow n (lift r).1).2
      rw [hl.2, ← e]
      exact ih.1
    · show (tow n (lift r).1).1.length = _
      rw [ih.2, e, Nat.div_div_eq_div_mul, Nat.pow_succ, Nat.mul_comm 2]
theorem fits_lean : ∀ (ds : List (List Int)) (ps : List Nat) (k : Nat), ds.length = ps.length → Fits k ds → Fits k (leanRows ds ps)
  | [], [], k, _, _ => trivial
  | d :: ds, p :: ps, k, h, f => ⟨by rw [List.length_map]; exact f.1, by rw [List.length_map]; exact fits_lean ds ps _ (by simpa using h) f.2⟩
  | [], _ :: _, k, h, _ => by simp at h
  | _ :: _, [], k, h, _ => by simp at h
theorem row_len : ∀ (ds : List (List Int)) (s : List Int) (k : Nat), Fits k ds → s.length * 2 ^ ds.length = k → (rowOf s ds).length = k
  | [], s, k, _, h => by simpa [rowOf] using h
  | d :: ds, s, k, f, h => by
    have e : s.length * 2 ^ ds.length = d.length := by
      have h := h
      rw [List.length_cons, Nat.pow_succ, ← Nat.mul_assoc, ← f.1] at h
      omega
    have ih := row_len ds s d.length f.2 e
    show (lower (rowOf s ds) d).length = k
    rw [lower_len _ _ (by omega), ih, ← f.1]
    omega
theorem row_app : ∀ (ds ds' : List (List Int)) (s s' : List Int) (k : Nat), ds.length = ds'.length → Fits k ds → s.length * 2 ^ ds.length = k → rowOf (s ++ s') (side ds ds') = rowOf s ds ++ rowOf s' ds'
  | [], [], s, s', _, _, _, _ => rfl
  | d :: ds, d' :: ds', s, s', k, hl, f, h => by
    have e : s.length * 2 ^ ds.length = d.length := by
      have h := h
      rw [List.length_cons, Nat.pow_succ, ← Nat.mul_assoc, ← f.1] at h
      omega
    have ih := row_app ds ds' s s' d.length (by simpa using hl) f.2 e
    show lower (rowOf (s ++ s') (side ds ds')) (d ++ d') = lower (rowOf s ds) d ++ lower (rowOf s' ds') d'
    rw [ih, lower_app _ _ _ _ (row_len ds s d.length f.2 e)]
  | [], _ :: _, _, _, _, h, _, _ => by simp at h
  | _ :: _, [], _, _, _, h, _, _ => by simp at h
theorem lean_side : ∀ (a b : List (List Int)) (ps : List Nat), a.length = ps.length → b.length = ps.length → leanRows (side a b) ps = side (leanRows a ps) (leanRows b ps)
  | [], [], [], _, _ => rfl
  | x :: a, y :: b, p :: ps, h, g => by
    have ih := lean_side a b ps (by simpa using h) (by simpa using g)
    show leanRows ((x ++ y) :: side a b) (p :: ps) = (x.map (lean · p) ++ y.map (lean · p)) :: side (leanRows a ps) (leanRows b ps)
    rw [leanRows_cons, ih, List.map_append]
  | [], _ :: _, [], _, h => by simp at h
  | _ :: _, [], [], h, _ => by simp at h
  | [], _, _ :: _, h, _ => by simp at h
  | _ :: _, [], _ :: _, _, h => by simp at h
  | _ :: _, _ :: _, [], h, _ => by simp at h
theorem lean_len : ∀ (ds : List (List Int)) (ps : List Nat), ds.length = ps.length → (leanRows ds ps).length = ps.length
  | [], [], _ => rfl
  | d :: ds, p :: ps, h => by simp only [leanRows, List.length_cons, lean_len ds ps (by simpa using h)]
  | [], _ :: _, h => by simp at h
  | _ :: _, [], h => by simp at h
theorem shown_app (r o : List Int) (ps : List Nat) (h : r.length % 2 ^ ps.length = 0) : shown (r ++ o) ps = shown r ps ++ shown o ps := by
  unfold shown
  have f := fits_tow ps.length r h
  rw [tow_app ps.length r o h, lean_side _ _ ps (tow_len _ _) (tow_len _ _)]
  refine row_app _ _ _ _ r.length (by rw [lean_len _ _ (tow_len _ _), lean_len _ _ (tow_len _ _)]) (fits_lean _ _ _ (tow_len _ _) f.1) ?_
  rw [lean_len _ _ (tow_len _ _), f.2]
  exact Nat.div_mul_cancel (Nat.dvd_of_mod_eq_zero h)
theorem lean_zero : ∀ (ds : List (List Int)), leanRows ds (List.replicate ds.length 0) = ds
  | [] => rfl
  | d :: ds => by
    show leanRows (d :: ds) (0 :: List.replicate ds.length 0) = _
    rw [leanRows_cons, lean_zero ds]
    congr 1
    exact List.map_id d
theorem shown_zero (n : Nat) (r : List Int) : shown r (List.replicate n 0) = r := by
  unfold shown
  rw [List.length_replicate]
  have e := lean_zero (tow n r).2
  rw [tow_len] at e
  rw [e, row_tow]
/-! ### how far the shown row is off -/
def off1 (d : Int) (p : Nat) : Int := d / 2 - lean d p / 2
def off2 (d : Int) (p : Nat) : Int := off1 d p + lean d p - d
/-- the offsets hang on the rest alone -/
theorem off_rest (d : Int) : ∀ p : Nat, p ≤ 4 → off1 d p = off1 (d % 2 ^ p) p ∧ off2 d p = off2 (d % 2 ^ p) p := by
  intro p hp
  have : p = 0 ∨ p = 1 ∨ p = 2 ∨ p = 3 ∨ p = 4 := by omega
  have l1 : ∀ x : Int, lean x 1 = x / 2 * 2 + 1 := fun x => rfl
  have l2 : ∀ x : Int, lean x 2 = x / 4 * 4 + 2 := fun x => rfl
  have l3 : ∀ x : Int, lean x 3 = x / 8 * 8 + 4 := fun x => rfl
  have l4 : ∀ x : Int, lean x 4 = x / 16 * 16 + 8 := fun x => rfl
  have l0 : ∀ x : Int, lean x 0 = x := fun x => rfl
  rcases this with rfl | rfl | rfl | rfl | rfl
  · show off1 d 0 = off1 (d % 1) 0 ∧ off2 d 0 = off2 (d % 1) 0
    simp only [off1, off2, l0]; omega
  · show off1 d 1 = off1 (d % 2) 1 ∧ off2 d 1 = off2 (d % 2) 1
    simp only [off1, off2, l1]; omega
  · show off1 d 2 = off1 (d % 4) 2 ∧ off2 d 2 = off2 (d % 4) 2
    simp only [off1, off2, l2]; omega
  · show off1 d 3 = off1 (d % 8) 3 ∧ off2 d 3 = off2 (d % 8) 3
    simp only [off1, off2, l3]; omega
  · show off1 d 4 = off1 (d % 16) 4 ∧ off2 d 4 = off2 (d % 16) 4
    simp only [off1, off2, l4]; omega
/-- near: in each place between lo and hi -/
def Near (lo hi : Int) : List Int → List Int → Prop
  | a :: x, b :: y => (lo ≤ a - b ∧ a - b ≤ hi) ∧ Near lo hi x y
  | [], [] => True
  | _, _ => False
theorem near_refl : ∀ r : List Int, Near 0 0 r r
  | [] => trivial
  | a :: r => ⟨by omega, near_refl r⟩
end M.Lf


set_option Elab.async false
set_option linter.all false
set_option maxRecDepth 100000
set_option maxHeartbeats 4000000
namespace M.Mk
open PySem PySem.Spec PyProof.Rows L2 M
noncomputable def b_is_number : MS := (sRet (mAndV (mCall dIsInst (mCons (mVar 0) (mCons (mC (.ty "int")) mNil))) (mAndV (mNotV (mCall dIsInst (mCons (mVar 0) (mCons (mC (.ty "bool")) mNil)))) (mChain dLe dLe (mVar 1) (mVar 0) (mVar 2)))))
noncomputable def m_is_number : List D → Store → Res D := retV (runF 3 b_is_number)
noncomputable def e_are_bits_1 : ME := (mBin dIn (mVar 1) (mC (.str "01")))
noncomputable def b_are_bits : MS := (sRet (mAndV (mCall dIsInst (mCons (mVar 0) (mCons (mC (.ty "str")) mNil))) (mAll false (mSrc (mVar 0)) (gN 1) e_are_bits_1 [1])))
noncomputable def m_are_bits : List D → Store → Res D := retV (runF 2 b_are_bits)
noncomputable def e_written_1 : ME := (mIte (mB (mBin dEq (mBin dAnd (mBin dShr (mVar 0) (mVar 2)) (mC (.int 1))) (mC (.int 1)))) (mC (.str "1")) (mC (.str "0")))
noncomputable def b_written : MS := (sRet (mMeth "str" (gStr hJoin) (mC (.str "")) (mCons (asV (mLc (mSrcA srcR3 (mCons (mBin dSub (mVar 1) (mC (.int 1))) (mCons (mUn dNeg (mC (.int 1))) (mCons (mUn dNeg (mC (.int 1))) mNil)))) (gN 2) mYes e_written_1 [2])) mNil)))
noncomputable def m_written : List D → Store → Res D := retV (runF 3 b_written)
noncomputable def l_read_number_1 : MS := (sSet (gN 1) (mBin dAdd (mBin dMul (mC (.int 2)) (mVar 1)) (mIte (mB (mBin dEq (mVar 2) (mC (.str "1")))) (mC (.int 1)) (mC (.int 0)))))
noncomputable def b_read_number : MS := (sSeq (sSet (gN 1) (mC (.int 0))) (sSeq (sFor (mSrc (mVar 0)) (gN 2) l_read_number_1) (sRet (mVar 1))))
noncomputable def m_read_number : List D → Store → Res D := retV (runF 3 b_read_number)
noncomputable def b_check_1 : MS := (sSet (gN 1) (mBin dXor (mVar 1) (mC (.int 7))))
noncomputable def l_check_2 : MS := (sSeq (sSet (gN 3) (mBin dAnd (mBin dShr (mVar 1) (mBin dSub (mC (.int 8)) (mC (.int 1)))) (mC (.int 1)))) (sSeq (sSet (gN 1) (mBin dMod (mBin dShl (mVar 1) (mC (.int 1))) (mBin dShl (mC (.int 1)) (mC (.int 8))))) (sIf (mB (mBin dNe (mVar 3) (mIte (mB (mBin dEq (mVar 2) (mC (.str "1")))) (mC (.int 1)) (mC (.int 0))))) b_check_1 sSkip)))
noncomputable def b_check : MS := (sSeq (sSet (gN 1) (mC (.int 0))) (sSeq (sFor (mSrc (mVar 0)) (gN 2) l_check_2) (sRet (mCallF 2 m_written (mCons (mVar 1) (mCons (mC (.int 8)) mNil))))))
noncomputable def m_check : List D → Store → Res D := retV (runF 4 b_check)
noncomputable def b_data_length : MS := (sRet (mBin dMul (mBin dFdiv (mBin dSub (mBin dAdd (mBin dAdd (mBin dAdd (mC (.int 8)) (mVar 0)) (mC (.int 8))) (mC (.int 7))) (mC (.int 1))) (mC (.int 7))) (mC (.int 7))))
noncomputable def m_data_length : List D → Store → Res D := retV (runF 1 b_data_length)
noncomputable def b_body_length : MS := (sRet (mBin dMul (mBin dFdiv (mCallF 1 m_data_length (mCons (mVar 0) mNil)) (mC (.int 7))) (mBin dAdd (mC (.int 7)) (mC (.int 1)))))
noncomputable def m_body_length : List D → Store → Res D := retV (runF 1 b_body_length)
noncomputable def e_body_1 : ME := (mBin dAdd (mSlice (mVar 3) (mPart (mVar 4)) (mPart (mBin dAdd (mVar 4) (mC (.int 7))))) (mC (.str "1")))
noncomputable def b_body : MS := (sSeq (sSet (gN 2) (mBin dAdd (mCallF 2 m_written (mCons (mVar 0) (mCons (mC (.int 8)) mNil))) (mVar 1))) (sSeq (sSet (gN 3) (mBin dAdd (mVar 2) (mCallF 1 m_check (mCons (mVar 2) mNil)))) (sSeq (sSet (gN 3) (mBin dAdd (mVar 3) (mBin dMul (mC (.str "0")) (mBin dSub (mCallF 1 m_data_length (mCons (mCall dLen (mCons (mVar 1) mNil)) mNil)) (mCall dLen (mCons (mVar 3) mNil)))))) (sRet (mMeth "str" (gStr hJoin) (mC (.str "")) (mCons (asV (mLc (mSrcA srcR3 (mCons (mC (.int 0)) (mCons (mCall dLen (mCons (mVar 3) mNil)) (mCons (mC (.int 7)) mNil)))) (gN 4) mYes e_body_1 [4])) mNil))))))
noncomputable def m_body : List D → Store → Res D := retV (runF 5 b_body)
noncomputable def e_write_1 : ME := (mBin dAdd (mC (.str "000000001")) (mCallF 2 m_body (mCons (mVar 1) (mCons (mVar 2) mNil))))
noncomputable def b_write : MS := (sRet (mMeth "str" (gStr hJoin) (mC (.str "")) (mCons (asV (mLc (mSrc (mVar 0)) (gTup 2 (gCons (gN 1) (gCons (gN 2) gNil))) mYes e_write_1 [1, 2])) mNil)))
noncomputable def m_write : List D → Store → Res D := retV (runF 3 b_write)
noncomputable def e_unit_in_1 : ME := (mSlice (mVar 0) (mPart (mVar 5)) (mPart (mBin dAdd (mBin dAdd (mVar 5) (mC (.int 7))) (mC (.int 1)))))
noncomputable def e_unit_in_2 : ME := (mBin dEq (mBin dIx (mVar 6) (mC (.int 7))) (mC (.str "1")))
noncomputable def e_unit_in_3 : ME := (mSlice (mVar 6) mNo (mPart (mC (.int 7))))
noncomputable def b_unit_in : MS := (sSeq (sSet (gN 3) (mBin dAdd (mVar 1) (mCallF 1 m_body_length (mCons (mVar 2) mNil)))) (sSeq (sIf (mOr (mB (mBin dGt (mVar 3) (mCall dLen (mCons (mVar 0) mNil)))) (mAnd (mB (mBin dLt (mVar 3) (mCall dLen (mCons (mVar 0) mNil)))) (mNot (mTru (mMeth "str" (gStr hStarts) (mVar 0) (mCons (mC (.str "000000001")) (mCons (mVar 3) mNil))))))) (sRet (mC .non)) sSkip) (sSeq (sSet (gN 4) (asV (mLc (mSrcA srcR3 (mCons (mVar 1) (mCons (mVar 3) (mCons (mBin dAdd (mC (.int 7)) (mC (.int 1))) mNil)))) (gN 5) mYes e_unit_in_1 [5]))) (sSeq (sIf (mNot (mTru (mAll false (mSrc (mVar 4)) (gN 6) e_unit_in_2 [6]))) (sRet (mC .non)) sSkip) (sSeq (sSet (gN 7) (mMeth "str" (gStr hJoin) (mC (.str "")) (mCons (asV (mLc (mSrc (mVar 4)) (gN 6) mYes e_unit_in_3 [6])) mNil))) (sSeq (sPar 8 9 (mCons (mSlice (mVar 7) mNo (mPart (mBin dAdd (mC (.int 8)) (mVar 2)))) (mCons (mSlice (mVar 7) (mPart (mBin dAdd (mC (.int 8)) (mVar 2))) mNo) mNil))) (sSeq (sIf (mB (mBin dNe (mVar 9) (mBin dAdd (mCallF 1 m_check (mCons (mVar 8) mNil)) (mBin dMul (mC (.str "0")) (mBin dSub (mCall dLen (mCons (mVar 9) mNil)) (mC (.int 8))))))) (sRet (mC .non)) sSkip) (sRet (mTup (mCons (mCallF 1 m_read_number (mCons (mSlice (mVar 8) mNo (mPart (mC (.int 8)))) mNil)) (mCons (mSlice (mVar 8) (mPart (mC (.int 8))) mNo) mNil)))))))))))
noncomputable def m_unit_in : List D → Store → Res D := retV (runF 10 b_unit_in)
noncomputable def b_read_1 : MS := (sSeq (sExpr (mMeth "list" gAppend (mVar 2) (mCons (mVar 4) mNil))) (sAug 3 (fun i j => i + j) (mBin dSub (mBin dAdd (mCall dLen (mCons (mC (.str "000000001")) mNil)) (mCallF 1 m_body_length (mCons (mVar 1) mNil))) (mC (.int 1)))))
noncomputable def l_read_2 : MS := (sSeq (sSet (gN 4) (mCallF 3 m_unit_in (mCons (mVar 0) (mCons (mBin dAdd (mVar 3) (mCall dLen (mCons (mC (.str "000000001")) mNil))) (mCons (mVar 1) mNil))))) (sSeq (sIf (mB (mBin dIsNot (mVar 4) (mC .non))) b_read_1 sSkip) (sSet (gN 3) (mMeth "str" (gStr hFind) (mVar 0) (mCons (mC (.str "000000001")) (mCons (mBin dAdd (mVar 3) (mC (.int 1))) mNil))))))
noncomputable def t_read_3 : MT := (mB (mBin dGe (mVar 3) (mC (.int 0))))
noncomputable def b_read : MS := (sSeq (sIf (mNot (mTru (mCallF 1 m_are_bits (mCons (mVar 0) mNil)))) sNever sSkip) (sSeq (sIf (mNot (mTru (mCallF 3 m_is_number (mCons (mVar 1) (mCons (mC (.int 1)) (mCons (mC (.int 400)) mNil)))))) sNever sSkip) (sSeq (sPar 2 3 (mCons (asL (mLst mNil)) (mCons (mMeth "str" (gStr hFind) (mVar 0) (mCons (mC (.str "000000001")) mNil)) mNil))) (sSeq (sWhile (2^40) t_read_3 l_read_2) (sRet (mCall dTuple (mCons (mVar 2) mNil)))))))
noncomputable def m_read : List D → Store → Res D := retV (runF 5 b_read)
end M.Mk


set_option Elab.async false
set_option linter.all false
set_option maxRecDepth 100000
set_option maxHeartbeats 4000000
/-! Codes: how plain Lean data stand as values; equality, membership, likeness. -/
namespace M
open PySem PySem.Spec PyProof.Rows L2
section
variable [Tabs]
theorem cl_py : ∀ {n : Nat}, (∀ (d : D) (p : PyData), toPy0 d = some p → cl n d = true) ∧ ∀ (ds : List D) (ps : List PyData), toPys0 ds = some ps → cls n ds = true := by
  intro n
  refine ⟨?_, ?_⟩
  · intro d
    refine D.rec (motive_1 := fun d => ∀ p, toPy0 d = some p → cl n d = true) (motive_2 := fun ds => ∀ ps, toPys0 ds = some ps → cls n ds = true) ?_ ?_ ?_ ?_ ?_ ?_ ?_ ?_ ?_ ?_ ?_ ?_ ?_ d
    all_goals (intros; try rfl)
    · rename_i xs ih p h
      simp only [toPy0, Option.map_eq_some_iff] at h
      obtain ⟨ps, h, _⟩ := h
      simp only [cl]; exact ih ps h
    · rename_i xs ih p h
      simp only [toPy0, Option.map_eq_some_iff] at h
      obtain ⟨ps, h, _⟩ := h
      simp only [cl]; exact ih ps h
    · rename_i h; simp [toPy0] at h
    · rename_i h; simp [toPy0] at h
    · rename_i h1 h2 ps h
      simp only [toPys0] at h
      split at h
      · rename_i a b
        simp only [cls, h1 _ a, h2 _ b, Bool.and_self]
      · cases h
  · intro ds
    refine D.rec_1 (motive_1 := fun d => ∀ p, toPy0 d = some p → cl n d = true) (motive_2 := fun ds => ∀ ps, toPys0 ds = some ps → cls n ds = true) ?_ ?_ ?_ ?_ ?_ ?_ ?_ ?_ ?_ ?_ ?_ ?_ ?_ ds
    all_goals (intros; try rfl)
    · rename_i xs ih p h
      simp only [toPy0, Option.map_eq_some_iff] at h
      obtain ⟨ps, h, _⟩ := h
      simp only [cl]; exact ih ps h
    · rename_i xs ih p h
      simp only [toPy0, Option.map_eq_some_iff] at h
      obtain ⟨ps, h, _⟩ := h
      simp only [cl]; exact ih ps h
    · rename_i h; simp [toPy0] at h
    · rename_i h; simp [toPy0] at h
    · rename_i h1 h2 ps h
      simp only [toPys0] at h
      split at h
      · rename_i a b
        simp only [cls, h1 _ a, h2 _ b, Bool.and_self]
      · cases h
/-- how data of a type stand as values -/
structure Cd (α : Type) where
  d : α → D
  p : α → PyData
  k : Nat
  to : ∀ x, toPy0 (d x) = some (p x)
  can : ∀ x, (p x).canLay0 = true
  dep : ∀ x, (p x).depth ≤ k
  eqv : ∀ x y, PyData.eqv (p x) (p y) = true ↔ x = y
namespace Cd
variable {α β γ : Type}
theorem cl (c : Cd α) (n : Nat) (x : α) : M.cl n (c.d x) = true := cl_py.1 _ _ (c.to x)
theorem cls (c : Cd α) (n : Nat) (l : List α) : M.cls n (l.map c.d) = true := by
  induction l with
  | nil => rfl
  | cons x l ih => simp only [List.map_cons, M.cls, c.cl, ih, Bool.and_self]
theorem fz (c : Cd α) (n : Nat) (S : Store) (x : α) : M.fz n S (c.d x) = some (c.d x) := by
  have h1 := c.cl n x
  have h2 := c.to x
  cases hd : c.d x with
  | loc m => rw [hd] at h2; simp [toPy0] at h2
  | _ => rw [hd] at h1; simp only [M.fz, h1, if_true]
theorem shp (c : Cd α) (hk : c.k ≤ 64) (x : α) : SeqAt.shaped (c.p x) = true := by
  unfold SeqAt.shaped
  rw [Bool.and_eq_true]
  exact ⟨c.can x, decide_eq_true (Nat.le_trans (c.dep x) hk)⟩
theorem toPy (c : Cd α) (S : Store) (x : α) : M.toPy S (c.d x) = some (c.p x) := by
  have h2 := c.to x
  cases hd : c.d x with
  | loc m => rw [hd] at h2; simp [toPy0] at h2
  | _ => rw [hd] at h2; exact h2
theorem eqd (c : Cd α) [DecidableEq α] (x y : α) : PyData.eqv (c.p x) (c.p y) = decide (x = y) := by
  by_cases h : x = y
  · rw [decide_eq_true h, (c.eqv x y).mpr h]
  · rw [decide_eq_false h]
    cases q : PyData.eqv (c.p x) (c.p y) with
    | false => rfl
    | true => exact absurd ((c.eqv x y).mp q) h
theorem dEq (c : Cd α) [DecidableEq α] (hk : c.k ≤ 64) (x y : α) (S : Store) : M.dEq (c.d x) (c.d y) S = some (.bl (decide (x = y))) := by
  by_cases h : ∃ a b, c.d x = .str a ∧ c.d y = .str b
  · obtain ⟨a, b, ha, hb⟩ := h
    have h1 := c.to x
    have h2 := c.to y
    rw [ha] at h1
    rw [hb] at h2
    simp only [toPy0, Option.some.injEq] at h1 h2
    have h3 := c.eqd x y
    rw [← h1, ← h2] at h3
    simp only [PyData.eqv] at h3
    rw [ha, hb, ← h3]
    show some (D.bl (decide (a = b))) = _
    by_cases e : a = b <;> simp [e]
  · rw [dEq_gen h, c.toPy, c.toPy]
    dsimp only
    rw [if_pos ⟨c.shp hk x, c.shp hk y⟩, c.eqd]
theorem dNe (c : Cd α) [DecidableEq α] (hk : c.k ≤ 64) (x y : α) (S : Store) : M.dNe (c.d x) (c.d y) S = some (.bl (!decide (x = y))) := by
  unfold M.dNe
  rw [c.dEq hk]
  rfl
/-- one, told by another -/
def of (c : Cd α) (f : β → α) (hf : ∀ x y, f x = f y → x = y) : Cd β where
  d := fun x => c.d (f x)
  p := fun x => c.p (f x)
  k := c.k
  to := fun x => c.to _
  can := fun x => c.can _
  dep := fun x => c.dep _
  eqv := fun x y => ⟨fun h => hf _ _ ((c.eqv _ _).mp h), fun h => (c.eqv _ _).mpr (by rw [h])⟩
def int : Cd Int where
  d := .int
  p := .int
  k := 0
  to := fun _ => rfl
  can := fun _ => rfl
  dep := fun _ => Nat.le_refl _
  eqv := fun x y => by simp [PyData.eqv]
def bl : Cd Bool where
  d := .bl
  p := .bool
  k := 0
  to := fun _ => rfl
  can := fun _ => rfl
  dep := fun _ => Nat.le_refl _
  eqv := fun x y => by simp [PyData.eqv]
/-- texts of given signs -/
def txt (f : α → Nat) (hf : ∀ x y, f x = f y → x = y) (hb : ∀ x, f x < 0x110000) : Cd (List α) where
  d := fun l => .str (M.mk (l.map f))
  p := fun l => .str (M.mk (l.map f))
  k := 0
  to := fun _ => rfl
  can := fun l => by
    show (M.mk (l.map f)).cps.all (· < 0x110000) = true
    simp [M.mk, hb]
  dep := fun _ => Nat.le_refl _
  eqv := fun x y => by
    simp only [PyData.eqv, beq_iff_eq]
    constructor
    · intro h0
      have h : x.map f = y.map f := by have h := congrArg tl h0; simpa only [tl, M.mk] using h
      clear h0
      revert y
      induction x with
      | nil => intro y h; cases y with
        | nil => rfl
        | cons _ _ => simp at h
      | cons a l ih => intro y h; cases y with
        | nil => simp at h
        | cons b m =>
          simp only [List.map_cons, List.cons.injEq] at h
          rw [hf _ _ h.1, ih m h.2]
    · rintro rfl; rfl
theorem toS (c : Cd α) : ∀ l : List α, toPys0 (l.map c.d) = some (l.map c.p)
  | [] => by simp [toPys0]
  | x :: l => by simp [toPys0, c.to, toS c l]
theorem canS (c : Cd α) : ∀ l : List α, PyData.canLayAll0 (l.map c.p) = true
  | [] => by simp [PyData.canLayAll0]
  | x :: l => by simp [PyData.canLayAll0, c.can, canS c l]
theorem depS (c : Cd α) : ∀ l : List α, PyData.depthAll (l.map c.p) ≤ c.k
  | [] => by simp [PyData.depthAll]
  | x :: l => by
    have h1 := depS c l
    have h2 := c.dep x
    simp only [List.map_cons, PyData.depthAll]; omega
theorem eqS (c : Cd α) : ∀ l m : List α, PyData.eqvAll (l.map c.p) (m.map c.p) = true ↔ l = m
  | [], [] => by simp [PyData.eqvAll]
  | [], _ :: _ => by simp [PyData.eqvAll]
  | _ :: _, [] => by simp [PyData.eqvAll]
  | x :: l, y :: m => by simp only [List.map_cons, PyData.eqvAll, Bool.and_eq_true, c.eqv, eqS c l m, List.cons.injEq]
/-- tuples of such -/
def tup (c : Cd α) : Cd (List α) where
  d := fun l => .tup (l.map c.d)
  p := fun l => .tuple (l.map c.p)
  k := c.k + 1
  to := fun l => by simp only [toPy0, c.toS, Option.map_some]
  can := fun l => by simp only [PyData.canLay0, c.canS]
  dep := fun l => by have := c.depS l; simp only [PyData.depth]; omega
  eqv := fun x y => by simp only [PyData.eqv, c.eqS]
/-- lists of such -/
def lst (c : Cd α) : Cd (List α) where
  d := fun l => .lst (l.map c.d)
  p := fun l => .list (l.map c.p)
  k := c.k + 1
  to := fun l => by simp only [toPy0, c.toS, Option.map_some]
  can := fun l => by simp only [PyData.canLay0, c.canS]
  dep := fun l => by have := c.depS l; simp only [PyData.depth]; omega
  eqv := fun x y => by simp only [PyData.eqv, c.eqS]
/-- pairs -/
def pair (c : Cd α) (c' : Cd β) : Cd (α × β) where
  d := fun x => .tup [c.d x.1, c'.d x.2]
  p := fun x => .tuple [c.p x.1, c'.p x.2]
  k := max c.k c'.k + 1
  to := fun l => by simp only [toPy0, toPys0, c.to, c'.to, Option.map_some]
  can := fun l => by simp only [PyData.canLay0, PyData.canLayAll0, c.can, c'.can, Bool.and_self]
  dep := fun l => by have := c.dep l.1; have := c'.dep l.2; simp only [PyData.depth, PyData.depthAll]; omega
  eqv := fun x y => by simp only [PyData.eqv, PyData.eqvAll, c.eqv, c'.eqv, Bool.and_eq_true, Prod.ext_iff, and_true]
/-- three -/
def tri (c : Cd α) (c' : Cd β) (c'' : Cd γ) : Cd (α × β × γ) where
  d := fun x => .tup [c.d x.1, c'.d x.2.1, c''.d x.2.2]
  p := fun x => .tuple [c.p x.1, c'.p x.2.1, c''.p x.2.2]
  k := max c.k (max c'.k c''.k) + 1
  to := fun l => by simp only [toPy0, toPys0, c.to, c'.to, c''.to, Option.map_some]
  can := fun l => by simp only [PyData.canLay0, PyData.canLayAll0, c.can, c'.can, c''.can, Bool.and_self]
  dep := fun l => by have := c.dep l.1; have := c'.dep l.2.1; have := c''.dep l.2.2; simp only [PyData.depth, PyData.depthAll]; omega
  eqv := fun x y => by simp only [PyData.eqv, PyData.eqvAll, c.eqv, c'.eqv, c''.eqv, Bool.and_eq_true, Prod.ext_iff, and_true]
theorem any_mem (c : Cd α) [DecidableEq α] (x : α) : ∀ l : List α, (l.map c.p).any (fun z => PyData.eqv z (c.p x)) = decide (x ∈ l)
  | [] => by simp
  | y :: l => by
    simp only [List.map_cons, List.any_cons, any_mem c x l, c.eqd, List.mem_cons, Bool.decide_or]
    congr 1
    by_cases h : y = x
    · rw [decide_eq_true h, decide_eq_true h.symm]
    · rw [decide_eq_false h, decide_eq_false fun z => h z.symm]
theorem dIn_lst (c : Cd α) [DecidableEq α] (hk : c.k ≤ 63) (x : α) (l : List α) (S : Store) : M.dIn (c.d x) (.lst (l.map c.d)) S = some (.bl (decide (x ∈ l))) := by
  have h1 : M.toPy S (.lst (l.map c.d)) = some (.list (l.map c.p)) := (lst c).toPy S l
  have e := dIn_gen (x := c.d x) (y := .lst (l.map c.d)) (S := S) (by rintro ⟨a, b, _, h⟩; cases h)
  rw [e, c.toPy, h1]
  dsimp only
  rw [if_pos ⟨c.shp (by omega) x, (lst c).shp (show c.k + 1 ≤ 64 by omega) l⟩, c.any_mem]
theorem dIn_tup (c : Cd α) [DecidableEq α] (hk : c.k ≤ 63) (x : α) (l : List α) (S : Store) : M.dIn (c.d x) (.tup (l.map c.d)) S = some (.bl (decide (x ∈ l))) := by
  have h1 : M.toPy S (.tup (l.map c.d)) = some (.tuple (l.map c.p)) := (tup c).toPy S l
  have e := dIn_gen (x := c.d x) (y := .tup (l.map c.d)) (S := S) (by rintro ⟨a, b, _, h⟩; cases h)
  rw [e, c.toPy, h1]
  dsimp only
  have h2 := (lst c).shp (show c.k + 1 ≤ 64 by omega) l
  rw [if_pos ⟨c.shp (by omega) x, h2⟩, c.any_mem]
end Cd
/-! ### likeness of one with itself -/
mutual
/-- plain data, so deep at most -/
def pl : Nat → D → Bool
  | _, .non => true
  | _, .bl _ => true
  | _, .int _ => true
  | _, .str _ => true
  | n + 1, .tup xs => decide (xs.length ≤ 100000) && pls n xs
  | n + 1, .lst xs => decide (xs.length ≤ 100000) && pls n xs
  | _, _ => false
def pls : Nat → List D → Bool
  | _, [] => true
  | n, d :: ds => pl n d && pls n ds
end
theorem pls_at : ∀ {n : Nat} {ds : List D} {d : D}, pls n ds = true → d ∈ ds → pl n d = true
  | n, d' :: ds, d, h, m => by
    simp only [pls, Bool.and_eq_true] at h
    rcases List.mem_cons.mp m with rfl | m
    · exact h.1
    · exact pls_at h.2 m
theorem lcM_none {src : List D} {t : MG} {mt : MT} {me : ME} {e : Env} {S : Store} : ∀ (ds : List D), (∀ d ∈ ds, ∃ e1, t d e S = some e1 ∧ mt e1 S = .ok false S) → lcM ⟨src, []⟩ t mt me e ds S = .ok [] S
  | [], _ => by unfold lcM; rw [if_pos (Src.ok_nil _ _)]
  | d :: ds, h => by
    obtain ⟨e1, h1, h2⟩ := h d (by simp)
    unfold lcM
    rw [if_pos (Src.ok_nil _ _), h1]
    dsimp only
    rw [h2, noEx_ok, Res.bind_ok, if_neg (by decide)]
    exact lcM_none ds fun d hd => h d (List.mem_cons_of_mem _ hd)
theorem alike_refl {S : Store} (hS : clS S.length S = true) : ∀ (n : Nat) (d : D), pl n d = true → r__law_alike (n + 1) [d, d] S = .ok (.bl true) S := by
  intro n
  induction n with
  | zero =>
    intro d h
    show retV (runF 3 (b__law_alike (r__law_alike 0))) [d, d] S = _
    refine retV_id ?_ hS rfl
    cases d with
    | non => simp [runF, b__law_alike, b__law_alike_3, dIsInst, tyName, isT, dIs, isNon]
    | bl b => simp [runF, b__law_alike, b__law_alike_4, dIsInst, tyName, isT, dIs, isNon]
    | int i => simp [runF, b__law_alike, b__law_alike_5, dIsInst, tyName, isT, dIs, isNon]
    | str x => simp [runF, b__law_alike, dIsInst, tyName, isT, dIs, isNon]
    | _ => simp [pl] at h
  | succ n ih =>
    intro d h
    show retV (runF 3 (b__law_alike (r__law_alike (n + 1)))) [d, d] S = _
    refine retV_id ?_ hS rfl
    cases d with
    | non => simp [runF, b__law_alike, b__law_alike_3, dIsInst, tyName, isT, dIs, isNon]
    | bl b => simp [runF, b__law_alike, b__law_alike_4, dIsInst, tyName, isT, dIs, isNon]
    | int i => simp [runF, b__law_alike, b__law_alike_5, dIsInst, tyName, isT, dIs, isNon]
    | str x => simp [runF, b__law_alike, dIsInst, tyName, isT, dIs, isNon]
    | tup xs =>
      simp only [pl, Bool.and_eq_true, decide_eq_true_eq] at h
      have e1 : mLc (mSrcA srcR1 (mCons (mCall dLen (mCons (mVar 1) mNil)) mNil)) (gN 2) (t__law_alike_1 (r__law_alike (n + 1))) (mVar 2) [2] [some (.tup xs), some (.tup xs), none] S = .ok [] S := by
        have h1 : mSrcA srcR1 (mCons (mCall dLen (mCons (mVar 1) mNil)) mNil) [some (.tup xs), some (.tup xs), none] S = .ok ⟨rng 0 xs.length, []⟩ S := src_rng _ h.1 (call_ok (one_ok (var_ok rfl)) rfl)
        rw [x_mLc, h1, Res.bind_ok, if_pos (sz (by rw [rng_len]; exact h.1))]
        refine lcM_none _ fun d hd => ?_
        obtain ⟨i, hi, rfl⟩ := List.mem_map.mp hd
        have hi := List.mem_range.mp hi
        have hx : xs[i]? = some xs[i] := List.getElem?_eq_getElem hi
        have hz : ((0 : Int) + (i : Nat)) = (i : Int) := by omega
        rw [hz]
        refine ⟨_, rfl, ?_⟩
        have q := ih xs[i] (pls_at h.2 (List.getElem_mem hi))
        have v2 : ∀ S, (mVar 2) [some (.tup xs), some (.tup xs), some (.int (i : Int))] S = .ok (.int (i : Int)) S := fun S => rfl
        have q2 : mCallF 2 (r__law_alike (n + 1)) (mCons (mBin dIx (mVar 0) (mVar 2)) (mCons (mBin dIx (mVar 1) (mVar 2)) mNil)) [some (.tup xs), some (.tup xs), some (.int (i : Int))] S = .ok (.bl true) S :=
          callF_ok (cons_ok (bin_ok (var_ok rfl) (v2 _) (ix_tup xs i _ _ hx)) (one_ok (bin_ok (var_ok rfl) (v2 _) (ix_tup xs i _ _ hx)))) q
        show mNot (mTru _) _ _ = _
        rw [x_mNot, x_mTru]
        show ((mCallF 2 (r__law_alike (n + 1)) (mCons (mBin dIx (mVar 0) (mVar 2)) (mCons (mBin dIx (mVar 1) (mVar 2)) mNil)) [some (.tup xs), some (.tup xs), some (.int (i : Int))] S).bind _).bind _ = _
        rw [q2]; rfl
      have c1 : (mOr (mTru (mCall dIsInst (mCons (mVar 1) (mCons (mC (.ty "list")) mNil)))) (mTru (mCall dIsInst (mCons (mVar 1) (mCons (mC (.ty "tuple")) mNil))))) [some (.tup xs), some (.tup xs), none] S = .ok true S := by
        simp [dIsInst, tyName, isT]
      have c2 : (mOr (mB (mBin dNe (mCall dIsInst (mCons (mVar 0) (mCons (mC (.ty "list")) mNil))) (mCall dIsInst (mCons (mVar 1) (mCons (mC (.ty "list")) mNil))))) (mB (mBin dNe (mCall dIsInst (mCons (mVar 0) (mCons (mC (.ty "tuple")) mNil))) (mCall dIsInst (mCons (mVar 1) (mCons (mC (.ty "tuple")) mNil)))))) [some (.tup xs), some (.tup xs), none] S = .ok false S := by
        simp [dIsInst, tyName, isT]
      refine run_rt (e' := [some (.tup xs), some (.tup xs), none]) (seq_rt ((if_t c1).trans ((seq_nx (if_skip c2)).trans (ret_ok ?_))))
      rw [x_mAndV, bin_ok (call_ok (one_ok (var_ok rfl)) len_tup) (call_ok (one_ok (var_ok rfl)) len_tup) x_eqI, Res.bind_ok, decide_eq_true rfl]
      exact bin_ok (asV_ok e1) (asV_ok (lst_ok rfl (Nat.zero_le _))) (x_eqL [] [])
    | lst xs =>
      simp only [pl, Bool.and_eq_true, decide_eq_true_eq] at h
      have e1 : mLc (mSrcA srcR1 (mCons (mCall dLen (mCons (mVar 1) mNil)) mNil)) (gN 2) (t__law_alike_1 (r__law_alike (n + 1))) (mVar 2) [2] [some (.lst xs), some (.lst xs), none] S = .ok [] S := by
        have h1 : mSrcA srcR1 (mCons (mCall dLen (mCons (mVar 1) mNil)) mNil) [some (.lst xs), some (.lst xs), none] S = .ok ⟨rng 0 xs.length, []⟩ S := src_rng _ h.1 (call_ok (one_ok (var_ok rfl)) rfl)
        rw [x_mLc, h1, Res.bind_ok, if_pos (sz (by rw [rng_len]; exact h.1))]
        refine lcM_none _ fun d hd => ?_
        obtain ⟨i, hi, rfl⟩ := List.mem_map.mp hd
        have hi := List.mem_range.mp hi
        have hx : xs[i]? = some xs[i] := List.getElem?_eq_getElem hi
        have hz : ((0 : Int) + (i : Nat)) = (i : Int) := by omega
        rw [hz]
        refine ⟨_, rfl, ?_⟩
        have q := ih xs[i] (pls_at h.2 (List.getElem_mem hi))
        have v2 : ∀ S, (mVar 2) [some (.lst xs), some (.lst xs), some (.int (i : Int))] S = .ok (.int (i : Int)) S := fun S => rfl
        have q2 : mCallF 2 (r__law_alike (n + 1)) (mCons (mBin dIx (mVar 0) (mVar 2)) (mCons (mBin dIx (mVar 1) (mVar 2)) mNil)) [some (.lst xs), some (.lst xs), some (.int (i : Int))] S = .ok (.bl true) S :=
          callF_ok (cons_ok (bin_ok (var_ok rfl) (v2 _) (ix_lst xs i _ _ hx)) (one_ok (bin_ok (var_ok rfl) (v2 _) (ix_lst xs i _ _ hx)))) q
        show mNot (mTru _) _ _ = _
        rw [x_mNot, x_mTru]
        show ((mCallF 2 (r__law_alike (n + 1)) (mCons (mBin dIx (mVar 0) (mVar 2)) (mCons (mBin dIx (mVar 1) (mVar 2)) mNil)) [some (.lst xs), some (.lst xs), some (.int (i : Int))] S).bind _).bind _ = _
        rw [q2]; rfl
      have c1 : (mOr (mTru (mCall dIsInst (mCons (mVar 1) (mCons (mC (.ty "list")) mNil)))) (mTru (mCall dIsInst (mCons (mVar 1) (mCons (mC (.ty "tuple")) mNil))))) [some (.lst xs), some (.lst xs), none] S = .ok true S := by
        simp [dIsInst, tyName, isT]
      have c2 : (mOr (mB (mBin dNe (mCall dIsInst (mCons (mVar 0) (mCons (mC (.ty "list")) mNil))) (mCall dIsInst (mCons (mVar 1) (mCons (mC (.ty "list")) mNil))))) (mB (mBin dNe (mCall dIsInst (mCons (mVar 0) (mCons (mC (.ty "tuple")) mNil))) (mCall dIsInst (mCons (mVar 1) (mCons (mC (.ty "tuple")) mNil)))))) [some (.lst xs), some (.lst xs), none] S = .ok false S := by
        simp [dIsInst, tyName, isT]
      refine run_rt (e' := [some (.lst xs), some (.lst xs), none]) (seq_rt ((if_t c1).trans ((seq_nx (if_skip c2)).trans (ret_ok ?_))))
      rw [x_mAndV, bin_ok (call_ok (one_ok (var_ok rfl)) len_lst) (call_ok (one_ok (var_ok rfl)) len_lst) x_eqI, Res.bind_ok, decide_eq_true rfl]
      exact bin_ok (asV_ok e1) (asV_ok (lst_ok rfl (Nat.zero_le _))) (x_eqL [] [])
    | _ => simp [pl] at h
end
end M


set_option Elab.async false
set_option linter.all false
set_option maxRecDepth 100000
set_option maxHeartbeats 4000000
/-! Plain lemmas: loops, texts' methods, the store with one more. -/
namespace M
open PySem PySem.Spec PyProof.Rows L2
section
variable [Tabs]
mutual
theorem cl_mono {n m : Nat} (h : n ≤ m) : ∀ d : D, cl n d = true → cl m d = true
  | .tup xs, e => by simp only [cl] at e ⊢; exact cls_mono h xs e
  | .lst xs, e => by simp only [cl] at e ⊢; exact cls_mono h xs e
  | .fro xs, e => by simp only [cl] at e ⊢; exact cls_mono h xs e
  | .loc k, e => by simp only [cl, decide_eq_true_eq] at e ⊢; omega
  | .non, _ => rfl
  | .bl _, _ => rfl
  | .int _, _ => rfl
  | .str _, _ => rfl
  | .ty _, _ => rfl
  | .rng _ _, _ => rfl
  | .ref _, _ => rfl
theorem cls_mono {n m : Nat} (h : n ≤ m) : ∀ ds : List D, cls n ds = true → cls m ds = true
  | [], _ => rfl
  | d :: ds, e => by
    simp only [cls, Bool.and_eq_true] at e ⊢
    exact ⟨cl_mono h d e.1, cls_mono h ds e.2⟩
end
theorem clS_push {S : Store} {ds : List D} (hS : clS S.length S = true) (hd : cls (S.length + 1) ds = true) : clS (S ++ [OB.lst ds]).length (S ++ [OB.lst ds]) = true := by
  rw [List.length_append, List.length_singleton]
  unfold clS at hS ⊢
  rw [List.all_append, Bool.and_eq_true]
  refine ⟨?_, by simpa [clO] using hd⟩
  rw [List.all_eq_true] at hS ⊢
  intro o ho
  have := hS o ho
  cases o with
  | lst xs => exact cls_mono (Nat.le_succ _) xs this
theorem str_ok {S S1 : Store} {T : String} {e : M.Env} {x : PySem.Str} {m : MA} {ma : ME} {h : PySem.Str → List D → Store → Option D} {ds : List D} {r : D} (hT : (T == "str") = true) (ha : ma e S = .ok (.str x) S) (hm : m e S = .ok ds S1) (hh : h x ds S1 = some r) : mMeth T (gStr h) ma m e S = .ok r S1 := by
  refine meth_ok (S1 := S1) (S2 := S1) ha ?_ hm (r := r) ?_
  · exact hT
  · show (h x ds S1).map _ = _
    rw [hh]
    rfl
theorem srcA_ok {S : Store} {f : List D → Store → Option Src} {m : MA} {e : M.Env} {ds : List D} {src : Src} (h : m e S = .ok ds S) (hf : f ds S = some src) : mSrcA f m e S = .ok src S := by rw [x_mSrcA, h, Res.bind_ok, hf]; rfl
theorem par_ok {S : Store} {e : M.Env} {i j : Nat} {a b : ME} {u v : D} {S1 S2 : Store} (ha : a e S = .ok u S1) (hb : b e S1 = .ok v S2) : sPar i j (mCons a (mCons b mNil)) e S = some (.nx, (e.set i (some u)).set j (some v), S2) := by
  show (mCons a (mCons b mNil) e S).st e _ = _
  rw [cons_ok ha (one_ok hb)]
  rfl
theorem rngC_eq (lo c : Int) (n : Nat) : rngC lo c n = (List.range n).map fun (i : Nat) => D.int (lo + (i : Int) * c) := rfl
theorem rngC_len (lo c : Int) (n : Nat) : (rngC lo c n).length = n := by simp [rngC]
theorem whl_go {c : MT} {b : MS} {n : Nat} {e e2 : M.Env} {S S1 S2 : Store} (h : c e S = .ok true S1) (hb : b e S1 = some (.nx, e2, S2)) : whileM c b (n + 1) e S = whileM c b n e2 S2 := by
  conv => lhs; unfold whileM
  rw [h]
  show stepF (b e S1) (whileM c b n) = _
  rw [hb]
  rfl
theorem whl_no {c : MT} {b : MS} {n : Nat} {e : M.Env} {S S1 : Store} (h : c e S = .ok false S1) : whileM c b (n + 1) e S = some (.nx, e, S1) := by
  unfold whileM
  rw [h]
  rfl
theorem aug_ok {e : M.Env} {S S1 : Store} {i : Nat} {f : Int → Int → Int} {m : ME} {x y z : Int} (hx : e[i]? = some (some (.int x))) (hm : m e S = .ok (.int y) S1) (hz : f x y = z) : sAug i f m e S = some (.nx, e.set i (some (.int z)), S1) := by
  unfold sAug
  rw [hx]
  dsimp only
  rw [hm]
  show some _ = _
  rw [hz]
theorem put_ok {e : M.Env} {S S1 S2 S3 : Store} {mo mi me : ME} {d : D} {n : Nat} {k : Int} {xs : List D} {j : Nat} (hm : me e S = .ok d S1) (ho : mo e S1 = .ok (.loc n) S2) (hi : mi e S2 = .ok (.int k) S3) (hs : S3[n]? = some (.lst xs)) (hj : ixN xs.length k = some j) : sPut mo mi me e S = some (.nx, e, S3.set n (.lst (xs.set j d))) := by
  unfold sPut
  simp only [hm, Res.st_ok, ho, hi, hs, hj]
theorem src_rng' (n : Nat) (h : n ≤ 100000) {e : M.Env} {S S1 : Store} {m : ME} (hm : m e S = .ok (.int n) S1) : mSrcA srcR1 (mCons m mNil) e S = .ok ⟨rng 0 n, []⟩ S1 := by
  have hr : M.inR (n : Int) = true := by
    unfold M.inR
    rw [decide_eq_true_eq]
    constructor <;> omega
  rw [x_mSrcA, one_ok hm, Res.bind_ok, a3 hr]
  rfl
theorem rng_map (n : Nat) : rng 0 n = (List.range n).map fun (i : Nat) => D.int (i : Int) := by
  unfold rng
  apply List.map_congr_left
  intro i _
  congr 1; omega
/-- a draw, whatever else stands in the store -/
theorem take_exG (b : Int) (hb : 0 < b) (l : List Int) (R : Store) (hR : clS (R.length + 1) R = true) : ∃ k l', 0 ≤ k ∧ k < b ∧ m__law_take [.loc 0, .int b] (OB.lst (I l) :: R) = .ok (.int k) (OB.lst (I l') :: R) := by
  have hc : ∀ l : List Int, clS (R.length + 1) (OB.lst (I l) :: R) = true := fun l => by
    unfold clS at hR ⊢
    rw [List.all_cons, Bool.and_eq_true]
    exact ⟨by simp only [clO]; exact cls_I _ _, hR⟩
  have ht : ∀ l : List Int, (OB.lst (I l) :: R).take (R.length + 1) = OB.lst (I l) :: R := fun l => List.take_of_length_le (by simp)
  rcases List.eq_nil_or_concat l with rfl | ⟨l', x, rfl⟩
  · refine ⟨0, [], Int.le_refl _, hb, ?_⟩
    refine (retV_ok (d := .int 0) (S' := OB.lst (I []) :: R) ?_ (by rw [List.length_cons, ht]; exact hc _) rfl).trans (by rw [List.length_cons, ht])
    simp [runF, b__law_take, dLen, seqOf, lstOf]
  · refine ⟨x % b, l', Int.emod_nonneg _ (by omega), Int.emod_lt_of_pos _ hb, ?_⟩
    refine (retV_ok (d := .int (x % b)) (S' := OB.lst (I l') :: R) ?_ (by rw [List.length_cons, ht]; exact hc _) rfl).trans (by rw [List.length_cons, ht])
    have h0 : ¬ ((l'.length : Int) + 1 = 0) := by omega
    simp [runF, b__law_take, dLen, seqOf, lstOf, rcv, gPop, x_mod hb, h0]
theorem take_natG (n : Nat) (hn : 0 < n) (l : List Int) (R : Store) (hR : clS (R.length + 1) R = true) : ∃ (k : Nat) (l' : List Int), k < n ∧ m__law_take [.loc 0, .int (n : Int)] (OB.lst (I l) :: R) = .ok (.int (k : Int)) (OB.lst (I l') :: R) := by
  obtain ⟨k, l', k0, k1, q⟩ := take_exG (n : Int) (by omega) l R hR
  obtain ⟨m, rfl⟩ := Int.eq_ofNat_of_zero_le k0
  exact ⟨m, l', by omega, q⟩
theorem x_mLc' {mi : MI} {g : MG} {mt : MT} {me : ME} {vs : List Nat} {e : M.Env} {S S1 : Store} {xs : List D} (hi : mi e S = .ok ⟨xs, []⟩ S1) (hz : xs.length ≤ 100000) : mLc mi g mt me vs e S = lcM ⟨xs, []⟩ g mt me (wipeE e vs) xs S1 := by
  unfold mLc
  rw [hi, Res.bind_ok, if_pos (sz hz)]
/-- a comprehension with a test, pure -/
theorem lc_filter {α : Type} {src : List D} {t : MG} {mt : MT} {me : ME} {e : M.Env} {S : Store} (ι f : α → D) (p : α → Bool) : ∀ (as : List α), (∀ x ∈ as, ∃ e1, t (ι x) e S = some e1 ∧ mt e1 S = .ok (p x) S ∧ (p x = true → me e1 S = .ok (f x) S)) → lcM ⟨src, []⟩ t mt me e (as.map ι) S = .ok ((as.filter p).map f) S
  | [], _ => by rw [List.map_nil]; unfold lcM; rw [if_pos (Src.ok_nil _ _)]; rfl
  | x :: as, h => by
    obtain ⟨e1, h1, h2, h3⟩ := h x (by simp)
    have ih := lc_filter (src := src) ι f p as fun y hy => h y (List.mem_cons_of_mem _ hy)
    rw [List.map_cons]
    unfold lcM
    rw [if_pos (Src.ok_nil _ _), h1]
    dsimp only
    rw [h2, noEx_ok, Res.bind_ok]
    cases hp : p x with
    | false => rw [if_neg (by decide), ih, List.filter_cons_of_neg (by rw [hp]; decide)]
    | true => rw [if_pos rfl, h3 hp, noEx_ok, Res.bind_ok, ih, Res.bind_ok, List.filter_cons_of_pos hp]; rfl
/-- .. the store changes -/
theorem lc_runF {α : Type} {P : D → Prop} {src : List D} {t : MG} {mt : MT} {me : ME} {e : M.Env} (St : α → Store) : ∀ (ds : List D) (l : α), (∀ d ∈ ds, ∀ l, ∃ e1 b l', t d e (St l) = some e1 ∧ mt e1 (St l) = .ok b (St l') ∧ (b = true → ∃ y l'', P y ∧ me e1 (St l') = .ok y (St l''))) → ∃ ys l', ys.length ≤ ds.length ∧ (∀ y ∈ ys, P y) ∧ lcM ⟨src, []⟩ t mt me e ds (St l) = .ok ys (St l')
  | [], l, _ => ⟨[], l, Nat.le_refl _, by simp, by unfold lcM; rw [if_pos (Src.ok_nil _ _)]⟩
  | d :: ds, l, h => by
    obtain ⟨e1, b, l', h1, h2, h3⟩ := h d (by simp) l
    unfold lcM
    rw [if_pos (Src.ok_nil _ _), h1]
    dsimp only
    rw [h2, noEx_ok, Res.bind_ok]
    cases b with
    | false =>
      rw [if_neg (by decide)]
      obtain ⟨ys, l2, g1, g2, g3⟩ := lc_runF (src := src) St ds l' fun d hd => h d (List.mem_cons_of_mem _ hd)
      exact ⟨ys, l2, by simp; omega, g2, g3⟩
    | true =>
      obtain ⟨y, l1, py, h4⟩ := h3 rfl
      rw [if_pos rfl, h4, noEx_ok, Res.bind_ok]
      obtain ⟨ys, l2, g1, g2, g3⟩ := lc_runF (src := src) St ds l1 fun d hd => h d (List.mem_cons_of_mem _ hd)
      refine ⟨y :: ys, l2, by simp; omega, fun z hz => ?_, by rw [g3]; rfl⟩
      rcases List.mem_cons.mp hz with rfl | hz
      · exact py
      · exact g2 z hz
/-- numbers as values -/
abbrev nI (ps : List Nat) : List D := ps.map fun (p : Nat) => D.int (p : Int)
theorem nI_I (ps : List Nat) : nI ps = I (ps.map fun (p : Nat) => (p : Int)) := by rw [I, List.map_map]; rfl
theorem cls_nI (n : Nat) (ps : List Nat) : cls n (nI ps) = true := by rw [nI_I]; exact cls_I _ _
theorem nats_of {P : Nat → Prop} : ∀ {ys : List D}, (∀ y ∈ ys, ∃ x : Nat, y = .int (x : Int) ∧ P x) → ∃ r : List Nat, ys = nI r ∧ ∀ x ∈ r, P x
  | [], _ => ⟨[], rfl, by simp⟩
  | y :: ys, h => by
    obtain ⟨x, rfl, hx⟩ := h y (by simp)
    obtain ⟨r, rfl, hr⟩ := nats_of fun z hz => h z (List.mem_cons_of_mem _ hz)
    refine ⟨x :: r, rfl, fun z hz => ?_⟩
    rcases List.mem_cons.mp hz with rfl | hz
    · exact hx
    · exact hr z hz
theorem alike_ok {S : Store} (hS : clS S.length S = true) (d : D) (h : pl 7 d = true) : m__law_alike [d, d] S = .ok (.bl true) S := alike_refl hS 7 d h
end
end M


set_option Elab.async false
set_option linter.all false
set_option maxRecDepth 100000
set_option maxHeartbeats 4000000
/-! Bits: texts of noughts and ones. -/
namespace M
open PySem PySem.Spec PyProof.Rows L2
open Builtin.Str StrLaws
theorem slice_cut (x : PySem.Str) (lo hi : Option Int) : Txt.slice x lo hi = cutS x lo hi := by
  rw [← sliceText_cut]
  rfl
def bc (b : Bool) : Nat := cond b 49 48
theorem bc_inj : ∀ x y, bc x = bc y → x = y := by decide
theorem bc_lt : ∀ x, bc x < 0x110000 := by decide
def cod (l : List Bool) : List Nat := l.map bc
@[simp] theorem cod_len (l : List Bool) : (cod l).length = l.length := by simp [cod]
theorem cod_inj {l m : List Bool} (h : cod l = cod m) : l = m := by
  induction l generalizing m with
  | nil => cases m with
    | nil => rfl
    | cons => simp [cod] at h
  | cons a l ih => cases m with
    | nil => simp [cod] at h
    | cons b m =>
      simp only [cod, List.map_cons, List.cons.injEq] at h
      rw [bc_inj _ _ h.1, ih h.2]
/-- bits as a text -/
def bs (l : List Bool) : D := .str (mk (cod l))
section
variable [Tabs]
/-- their code -/
def cB : Cd (List Bool) := Cd.txt bc bc_inj bc_lt
theorem cB_d (l : List Bool) : cB.d l = bs l := rfl
theorem bs_slen (l : List Bool) : (mk (cod l)).length = l.length := by rw [mk_len, cod_len]
variable {S : Store} {l m : List Bool}
theorem bs_len (h : l.length ≤ 100000) : dLen [bs l] S = some (.int l.length) := by
  show (if (mk (cod l)).length ≤ sizeLine then some (D.int (mk (cod l)).length) else none) = _
  rw [bs_slen, if_pos (sz h)]
theorem bs_add (h : l.length + m.length ≤ 100000) : dAdd (bs l) (bs m) S = some (bs (l ++ m)) := by
  show (if (mk (cod l)).length + (mk (cod m)).length ≤ sizeLine then some (D.str (mk (cod l) ++ mk (cod m))) else none) = _
  rw [bs_slen, bs_slen, if_pos (sz h), mk_app, bs, cod, cod, cod, List.map_append]
theorem bs_ix {i : Nat} {b : Bool} (h : l.length ≤ 100000) (hb : l[i]? = some b) : dIx (bs l) (.int i) S = some (bs [b]) := by
  show (if (mk (cod l)).length ≤ sizeLine then (atI (tl (mk (cod l))) (i : Int)).map fun c => D.str ⟨#[c]⟩ else none) = _
  rw [bs_slen, if_pos (sz h)]
  have : atI (tl (mk (cod l))) (i : Int) = some (bc b) := by
    have hi := (List.getElem?_eq_some_iff.mp hb).1
    unfold atI ixN
    rw [if_pos (show (0 : Int) ≤ (i : Int) by omega), if_pos (show (i : Int) < ((tl (mk (cod l))).length : Int) by simp; omega)]
    show (cod l)[(i : Int).toNat]? = _
    rw [Int.toNat_natCast, cod, List.getElem?_map, hb]
    rfl
  rw [this]
  rfl
theorem bs_slice (lo hi : Option Int) (h : l.length ≤ 100000) : dSlice (bs l) lo hi S = some (bs (cutG l lo hi)) := by
  show (if (mk (cod l)).length ≤ sizeLine then some (D.str (Txt.slice (mk (cod l)) lo hi)) else none) = _
  rw [bs_slen, if_pos (sz h), slice_cut]
  unfold cutS bs cutG
  rw [bs_slen]
  congr 2
  show mk _ = mk _
  rw [show (mk (cod l)).cps.toList = cod l from rfl, cod, cod, List.map_take, List.map_drop]
theorem cut_to {α : Type} (as : List α) (k : Nat) : cutG as none (some (k : Int)) = as.take k := by
  unfold cutG
  rw [HT.sIx_none, HT.sIx_nat, List.drop_zero, Nat.sub_zero]
  rcases Nat.le_total k as.length with h | h
  · rw [Nat.min_eq_left h]
  · rw [Nat.min_eq_right h, List.take_length, List.take_of_length_le h]
theorem cut_from {α : Type} (as : List α) (k : Nat) : cutG as (some (k : Int)) none = as.drop k := by
  unfold cutG
  rw [HT.sIx_none, HT.sIx_nat]
  rcases Nat.le_total k as.length with h | h
  · rw [Nat.min_eq_left h, List.take_of_length_le (by simp)]
  · rw [Nat.min_eq_right h, List.drop_length, List.drop_of_length_le h]; simp
theorem cut_two {α : Type} (as : List α) (a b : Nat) : cutG as (some (a : Int)) (some (b : Int)) = (as.drop a).take (b - a) := by
  rcases Nat.le_total a b with h | h
  · have := cut_nat as a (b - a)
    rwa [show ((a : Int) + ((b - a : Nat) : Int)) = (b : Int) by omega] at this
  · unfold cutG
    rw [HT.sIx_nat, HT.sIx_nat, show b - a = 0 by omega, show min b as.length - min a as.length = 0 by omega]
    simp
theorem bs_items : srcOf S (bs l) = some ⟨l.map fun b => bs [b], []⟩ := by
  show some (Src.mk (strItems (mk (cod l))) []) = _
  congr 2
  show List.map _ (cod l) = _
  rw [cod, List.map_map]
  rfl
theorem bs_join : ∀ (ls : List (List Bool)), (ls.map List.length).sum ≤ 16777216 → hJoin (mk []) [.lst (ls.map bs)] S = some (bs ls.flatten) := by
  intro ls h
  have h1 : strsOf (ls.map bs) = some (ls.map fun l => mk (cod l)) := by
    have := strs_S (ls.map fun l => mk (cod l))
    rwa [List.map_map] at this
  show ((some (ls.map bs)).bind strsOf).bind _ = _
  rw [Option.bind_some, h1, Option.bind_some]
  have h2 : (((ls.map fun l => mk (cod l)).map (·.length)).sum + (ls.map fun l => mk (cod l)).length * (mk []).length) ≤ 16777216 := by
    rw [List.map_map]
    have : (ls.map ((fun x => x.length) ∘ fun l => mk (cod l))) = ls.map List.length := List.map_congr_left fun l _ => bs_slen l
    rw [this]
    simpa [mk_len] using h
  rw [if_pos h2, join_nil, List.map_map]
  have : (ls.map (tl ∘ fun l => mk (cod l))).flatten = cod ls.flatten := by
    rw [cod, List.map_flatten]
    rfl
  rw [this]
  rfl
theorem bs_nil : (.str "" : D) = bs [] := rfl
theorem bs_0 : (.str "0" : D) = bs [false] := by unfold bs; congr 1
theorem bs_1 : (.str "1" : D) = bs [true] := by unfold bs; congr 1
theorem bs_01 : (.str "01" : D) = bs [false, true] := by unfold bs; congr 1
theorem bs_in (b : Bool) : dIn (bs [b]) (bs [false, true]) S = some (.bl true) := by
  show some (D.bl (!(occurrences (mk (cod [false, true])) (mk [bc b]) 0 (mk (cod [false, true])).length 1).isEmpty)) = _
  have : (!(occurrences (mk (cod [false, true])) (mk [bc b]) 0 (mk (cod [false, true])).length 1).isEmpty) = decide (bc b ∈ cod [false, true]) := SX.in_one (cod [false, true]) (bc b)
  rw [this]
  cases b <;> rfl
theorem bs_eq : dEq (bs l) (bs m) S = some (.bl (decide (l = m))) := cB.dEq (by decide) l m S
theorem bs_ne : dNe (bs l) (bs m) S = some (.bl (!decide (l = m))) := cB.dNe (by decide) l m S
theorem bs_mul0 (k : Nat) (h : k ≤ 100000) : dMul (bs [false]) (.int k) S = some (bs (List.replicate k false)) := by
  unfold bs
  simp only [dMul]
  rw [if_pos (by rw [bs_slen, Int.toNat_natCast]; refine ⟨by omega, by omega, by simp; omega⟩)]
  unfold Txt.mul
  congr 2
  by_cases h0 : (k : Int) < 1
  · rw [if_pos h0]
    have : k = 0 := by omega
    subst this
    rfl
  · rw [if_neg h0]
    by_cases h1 : ((k : Int) == 1 || (mk (cod [false])).length == 0) = true
    · rw [if_pos h1]
      have : k = 1 := by
        rw [bs_slen] at h1
        simp at h1
        omega
      subst this
      rfl
    · rw [if_neg h1, Int.toNat_natCast]
      have key : ∀ (k : Nat) (a : Array Nat), (List.replicate k (mk (cod [false])).cps).foldl (· ++ ·) a = a ++ (List.replicate k 48).toArray := by
        intro k
        induction k with
        | zero => intro a; simp
        | succ k ih =>
          intro a
          rw [List.replicate_succ, List.foldl_cons, ih]
          apply Array.ext'
          simp [mk, cod, bc, List.replicate_succ]
      rw [key, mk, cod, List.map_replicate]
      simp [bc]
theorem bs_int (b : Bool) : dInt [bs [b]] S = some (.int (if b then 1 else 0)) := by
  cases b
  · have : PySem.intText? (mk (cod [false])) = some 0 := by decide +kernel
    show (if (mk (cod [false])).length ≤ 640 then (PySem.intText? (mk (cod [false]))).map D.int else none) = _
    rw [bs_slen, if_pos (by decide), this]; rfl
  · have : PySem.intText? (mk (cod [true])) = some 1 := by decide +kernel
    show (if (mk (cod [true])).length ≤ 640 then (PySem.intText? (mk (cod [true]))).map D.int else none) = _
    rw [bs_slen, if_pos (by decide), this]; rfl
theorem bs_str (b : Bool) : dStr [.int (if b then 1 else 0)] S = some (bs [b]) := by
  cases b
  · show (if (0 : Int).natAbs < 2 ^ 1000 then some (D.str (toString (0 : Int))) else none) = _
    rw [if_pos (by decide)]
    have : (toString (0 : Int) : PySem.Str) = mk (cod [false]) := by decide +kernel
    rw [this]; rfl
  · show (if (1 : Int).natAbs < 2 ^ 1000 then some (D.str (toString (1 : Int))) else none) = _
    rw [if_pos (by decide)]
    have : (toString (1 : Int) : PySem.Str) = mk (cod [true]) := by decide +kernel
    rw [this]; rfl
/-! parts that stand in bits -/
/-- m stands in l at i -/
def Sat (l m : List Bool) (i : Nat) : Prop := (l.drop i).take m.length = m
instance (l m : List Bool) (i : Nat) : Decidable (Sat l m i) := inferInstanceAs (Decidable (_ = _))
theorem Sat.le {i : Nat} (h : Sat l m i) (hm : m ≠ []) : i + m.length ≤ l.length := by
  have := congrArg List.length h
  have h2 : 0 < m.length := List.length_pos_iff.mpr hm
  simp only [List.length_take, List.length_drop] at this
  omega
theorem sat_sub (i : Nat) : subAt (mk (cod l)) (mk (cod m)) i = decide (Sat l m i) := by
  rw [subAt_eq, show (mk (cod l)).cps.toList = cod l from rfl, show (mk (cod m)).cps.toList = cod m from rfl, bs_slen]
  have e : List.take m.length (List.drop i (cod l)) = cod ((l.drop i).take m.length) := by rw [cod, cod, List.map_take, List.map_drop]
  rw [e]
  by_cases h : Sat l m i
  · rw [decide_eq_true h, show (l.drop i).take m.length = m from h]; simp
  · rw [decide_eq_false h]
    rw [beq_eq_false_iff_ne]
    exact fun z => h (cod_inj z)
theorem at_sat (hm : m ≠ []) (i : Nat) : At (mk (cod l)) (mk (cod m)) (mk (cod l)).length i ↔ Sat l m i := by
  unfold At
  rw [sat_sub, bs_slen, bs_slen, decide_eq_true_eq]
  exact ⟨fun h => h.2, fun h => ⟨h.le hm, h⟩⟩
/-- the first place from lo on at which m stands, or none -/
def fstAt (l m : List Bool) (lo : Nat) : Option Nat := (List.range' lo (l.length + 1 - lo)).find? fun i => decide (Sat l m i)
theorem fstAt_some {lo i : Nat} : fstAt l m lo = some i → lo ≤ i ∧ Sat l m i ∧ ∀ k, lo ≤ k → k < i → ¬ Sat l m k := by
  intro h
  unfold fstAt at h
  rw [List.find?_range'_eq_some] at h
  obtain ⟨h1, h2, h3⟩ := h
  simp only [decide_eq_true_eq, List.mem_range'_1, Bool.not_eq_true', decide_eq_false_iff_not] at h1 h2 h3
  exact ⟨h2.1, h1, fun k k1 k2 => h3 k k1 k2⟩
theorem fstAt_none {lo : Nat} (hm : m ≠ []) : fstAt l m lo = none → ∀ k, lo ≤ k → ¬ Sat l m k := by
  intro h k hk hs
  unfold fstAt at h
  rw [List.find?_eq_none] at h
  have := hs.le hm
  have h2 : 0 < m.length := List.length_pos_iff.mpr hm
  exact h k (by rw [List.mem_range'_1]; omega) (decide_eq_true hs)
theorem fstAt_of {lo i : Nat} (hm : m ≠ []) (h1 : lo ≤ i) (h2 : Sat l m i) (h3 : ∀ k, lo ≤ k → k < i → ¬ Sat l m k) : fstAt l m lo = some i := by
  cases h : fstAt l m lo with
  | none => exact absurd h2 (fstAt_none hm h i h1)
  | some j =>
    obtain ⟨a, b, c⟩ := fstAt_some h
    rcases Nat.lt_trichotomy i j with z | z | z
    · exact absurd h2 (c i h1 z)
    · rw [z]
    · exact absurd b (h3 j a z)
theorem fstAt_no {lo : Nat} (h : ∀ k, lo ≤ k → ¬ Sat l m k) : fstAt l m lo = none := by
  cases e : fstAt l m lo with
  | none => rfl
  | some j =>
    obtain ⟨a, b, c⟩ := fstAt_some e
    exact absurd b (h j a)
def plc : Option Nat → Int
  | some i => i
  | none => -1
theorem bs_find (hm : m ≠ []) (lo : Nat) : hFind (mk (cod l)) [bs m, .int lo] S = some (.int (plc (fstAt l m lo))) := by
  show some (D.int (Txt.find3 (mk (cod l)) (mk (cod m)) (lo : Int))) = _
  congr 2
  unfold Txt.find3
  have hf : fromIndex (mk (cod l)).length (lo : Int) = lo := by
    unfold fromIndex
    rw [if_neg (by omega)]
    omega
  rw [hf]
  rcases occ_head_from (mk (cod l)) (mk (cod m)) lo 1 (Nat.le_refl _) with ⟨e, h⟩ | ⟨i, r, e, h1, h2, h3⟩
  · rw [e, fstAt_no fun k hk hs => h k hk ((at_sat hm k).mpr hs)]
    rfl
  · rw [e, fstAt_of hm h1 ((at_sat hm i).mp h2) fun k k1 k2 hs => h3 k k1 k2 ((at_sat hm k).mpr hs)]
    rfl
theorem bs_find0 (hm : m ≠ []) : hFind (mk (cod l)) [bs m] S = some (.int (plc (fstAt l m 0))) := by
  rw [← bs_find (S := S) hm 0]
  show some (D.int (Txt.find (mk (cod l)) (mk (cod m)))) = some (D.int (Txt.find3 (mk (cod l)) (mk (cod m)) 0))
  rfl
theorem bs_starts (i : Nat) (hi : i + m.length ≤ l.length ∨ m ≠ []) : hStarts (mk (cod l)) [bs m, .int i] S = some (.bl (decide (Sat l m i))) := by
  show some (D.bl (Txt.startswith3 (mk (cod l)) (mk (cod m)) (i : Int))) = _
  congr 2
  unfold Txt.startswith3
  have hf : fromIndex (mk (cod l)).length (i : Int) = i := by
    unfold fromIndex
    rw [if_neg (by omega)]
    omega
  rw [hf, sat_sub, bs_slen, bs_slen]
  by_cases h : Sat l m i
  · have : i + m.length ≤ l.length := by
      rcases hi with hi | hi
      · exact hi
      · exact h.le hi
    simp [h, this]
  · simp [h]
end
end M


set_option Elab.async false
set_option linter.all false
set_option maxRecDepth 100000
set_option maxHeartbeats 4000000
/-! The rest by x^8 + x^2 + x + 1, plainly. -/
namespace M.Mk
abbrev B8 := BitVec 8
def step (r : B8) (b : Bool) : B8 := (r <<< 1) ^^^ (if (r.msb ^^ b) then 7#8 else 0#8)
def run (r : B8) (l : List Bool) : B8 := l.foldl step r
def crc (l : List Bool) : B8 := run 0#8 l
/-- its signs, the highest first -/
def sg8 (r : B8) : List Bool := [r.getLsbD 7, r.getLsbD 6, r.getLsbD 5, r.getLsbD 4, r.getLsbD 3, r.getLsbD 2, r.getLsbD 1, r.getLsbD 0]
theorem sg8_len (r : B8) : (sg8 r).length = 8 := rfl
theorem all8 {P : B8 → Prop} [DecidablePred P] (h : (List.range 256).all (fun n => decide (P (BitVec.ofNat 8 n))) = true) (r : B8) : P r := by
  have h1 := List.all_eq_true.mp h r.toNat (List.mem_range.mpr r.isLt)
  rw [decide_eq_true_eq, BitVec.ofNat_toNat, BitVec.setWidth_eq] at h1
  exact h1
theorem step_xor (a b : B8) (x y : Bool) : step (a ^^^ b) (x ^^ y) = step a x ^^^ step b y := by
  unfold step
  rw [BitVec.shiftLeft_xor_distrib, BitVec.msb_xor]
  apply BitVec.eq_of_getLsbD_eq
  intro i hi
  cases a.msb <;> cases b.msb <;> cases x <;> cases y <;> simp <;> (try (cases (a <<< 1).getLsbD i <;> cases (b <<< 1).getLsbD i <;> cases (7#8).getLsbD i <;> simp))
theorem run_xor : ∀ (l m : List Bool) (a b : B8), l.length = m.length → run (a ^^^ b) (List.zipWith (· ^^ ·) l m) = run a l ^^^ run b m
  | [], [], a, b, _ => rfl
  | x :: l, y :: m, a, b, h => by
    show run (step (a ^^^ b) (x ^^ y)) (List.zipWith _ l m) = run (step a x) l ^^^ run (step b y) m
    rw [step_xor, run_xor l m _ _ (by simpa using h)]
  | [], _ :: _, _, _, h => by simp at h
  | _ :: _, [], _, _, h => by simp at h
theorem crc_xor (l m : List Bool) (h : l.length = m.length) : crc (List.zipWith (· ^^ ·) l m) = crc l ^^^ crc m := by
  have := run_xor l m 0#8 0#8 h
  simpa [crc] using this
theorem run_app (r : B8) (l m : List Bool) : run r (l ++ m) = run (run r l) m := by simp [run, List.foldl_append]
theorem crc_app (l m : List Bool) : crc (l ++ m) = run (crc l) m := run_app _ l m
theorem step_inj0 : ∀ r : B8, step r false = 0#8 → r = 0#8 := all8 (P := fun r => step r false = 0#8 → r = 0#8) (by decide +kernel)
theorem step_00 : step 0#8 false = 0#8 := by decide
theorem run_zeros (r : B8) : ∀ k, run r (List.replicate k false) = 0#8 ↔ r = 0#8
  | 0 => Iff.rfl
  | k + 1 => by
    rw [List.replicate_succ]
    show run (step r false) _ = _ ↔ _
    rw [run_zeros (step r false) k]
    exact ⟨step_inj0 r, fun h => by rw [h]; rfl⟩
theorem run_zeros0 (k : Nat) : run 0#8 (List.replicate k false) = 0#8 := (run_zeros 0#8 k).mpr rfl
/-- the check of what has its check behind it -/
theorem run_own : ∀ r : B8, run r (sg8 r) = 0#8 := all8 (P := fun r => run r (sg8 r) = 0#8) (by decide +kernel)
theorem crc_own (l : List Bool) : crc (l ++ sg8 (crc l)) = 0#8 := by rw [crc_app, run_own]
theorem sg8_zero : sg8 0#8 = List.replicate 8 false := by decide
theorem sg8_inj : ∀ a b : B8, sg8 a = sg8 b → a = b := by
  intro a b h
  simp only [sg8, List.cons.injEq, and_true] at h
  obtain ⟨h7, h6, h5, h4, h3, h2, h1, h0⟩ := h
  apply BitVec.eq_of_getLsbD_eq
  intro i hi
  match i, hi with
  | 0, _ => exact h0
  | 1, _ => exact h1
  | 2, _ => exact h2
  | 3, _ => exact h3
  | 4, _ => exact h4
  | 5, _ => exact h5
  | 6, _ => exact h6
  | 7, _ => exact h7
theorem sg8_xor (a b : B8) : sg8 (a ^^^ b) = List.zipWith (· ^^ ·) (sg8 a) (sg8 b) := by
  simp [sg8]
/-! even and odd -/
def par (l : List Bool) : Bool := l.foldl (· ^^ ·) false
theorem par_from (l : List Bool) (a : Bool) : l.foldl (· ^^ ·) a = (a ^^ par l) := by
  induction l generalizing a with
  | nil => simp [par]
  | cons x l ih =>
    have h1 := ih (a ^^ x)
    have h2 := ih (false ^^ x)
    simp only [par, List.foldl_cons] at *
    rw [h1, h2]
    simp [Bool.xor_assoc]
theorem par_cons (x : Bool) (l : List Bool) : par (x :: l) = (x ^^ par l) := by
  show l.foldl _ (false ^^ x) = _
  rw [par_from]; simp
theorem par_step : ∀ r : B8, ∀ b : Bool, par (sg8 (step r b)) = (par (sg8 r) ^^ b) := all8 (P := fun r => ∀ b : Bool, par (sg8 (step r b)) = (par (sg8 r) ^^ b)) (by decide +kernel)
theorem par_run : ∀ (l : List Bool) (r : B8), par (sg8 (run r l)) = (par (sg8 r) ^^ par l)
  | [], r => by simp [run, par]
  | x :: l, r => by
    show par (sg8 (run (step r x) l)) = _
    rw [par_run l, par_step, par_cons, Bool.xor_assoc]
/-- what has an odd number of ones has a rest -/
theorem odd_ne {l : List Bool} (h : par l = true) : crc l ≠ 0#8 := by
  intro e
  have h1 := par_run l 0#8
  have e' : run 0#8 l = 0#8 := e
  rw [e', h] at h1
  exact absurd h1 (by decide)
/-! few ones in a row of eight -/
theorem eight_ne (l : List Bool) (h : l.length = 8) (e : crc l = 0#8) : l = List.replicate 8 false := by
  match l, h with
  | [a, b, c, d, f, g, i, j], _ =>
    have key : ∀ a b c d f g i j : Bool, crc [a, b, c, d, f, g, i, j] = 0#8 → [a, b, c, d, f, g, i, j] = List.replicate 8 false := by decide +kernel
    exact key a b c d f g i j e
theorem crc_zeros_app (k : Nat) (l : List Bool) : crc (List.replicate k false ++ l) = crc l := by rw [crc_app, crc, run_zeros0]; rfl
theorem crc_app_zeros (k : Nat) (l : List Bool) : crc (l ++ List.replicate k false) = 0#8 ↔ crc l = 0#8 := by rw [crc_app, run_zeros]
/-- within eight places -/
theorem burst_ne {p q : Nat} {l : List Bool} (h : l.length = 8) (hn : l ≠ List.replicate 8 false) : crc (List.replicate p false ++ l ++ List.replicate q false) ≠ 0#8 := by
  intro e
  rw [crc_app_zeros, crc_zeros_app] at e
  exact hn (eight_ne l h e)
/-! two ones -/
def it : Nat → B8 → B8
  | 0, r => r
  | k + 1, r => it k (step r false)
theorem run_rep : ∀ (k : Nat) (r : B8), run r (List.replicate k false) = it k r
  | 0, _ => rfl
  | k + 1, r => by rw [List.replicate_succ]; show run (step r false) _ = _; rw [run_rep k]; rfl
theorem far_all : ∀ d < 126, step (it d (step 0#8 true)) true ≠ 0#8 := by decide +kernel
theorem far_127 : step (it 126 (step 0#8 true)) true = 0#8 := by decide +kernel
theorem two_crc (p d q : Nat) : crc (List.replicate p false ++ true :: (List.replicate d false ++ true :: List.replicate q false)) = 0#8 ↔ step (it d (step 0#8 true)) true = 0#8 := by
  rw [crc_zeros_app]
  show run (step 0#8 true) _ = _ ↔ _
  rw [run_app, run_rep]
  show run (step (it d (step 0#8 true)) true) _ = _ ↔ _
  rw [run_zeros]
/-! marks in a row of places -/
/-- ones at these places -/
def ind (n : Nat) (ps : List Nat) : List Bool := (List.range n).map fun k => decide (k ∈ ps)
theorem ind_len (n : Nat) (ps : List Nat) : (ind n ps).length = n := by simp [ind]
theorem ind_get {n : Nat} {ps : List Nat} {k : Nat} (h : k < n) : (ind n ps)[k]? = some (decide (k ∈ ps)) := by simp [ind, List.getElem?_range h]
theorem ind_none (n : Nat) : ind n [] = List.replicate n false := by
  apply List.ext_getElem?
  intro i
  by_cases h : i < n
  · rw [ind_get h]; simp [h]
  · rw [List.getElem?_eq_none (by rw [ind_len]; omega), List.getElem?_eq_none (by simp; omega)]
theorem par_app (l m : List Bool) : par (l ++ m) = (par l ^^ par m) := by
  induction l with
  | nil => simp [par]
  | cons x l ih => rw [List.cons_append, par_cons, par_cons, ih, Bool.xor_assoc]
theorem par_rep (k : Nat) : par (List.replicate k false) = false := by
  induction k with
  | zero => rfl
  | succ k ih => rw [List.replicate_succ, par_cons, ih]; rfl
theorem ind_one {n p : Nat} (h : p < n) : ind n [p] = List.replicate p false ++ true :: List.replicate (n - p - 1) false := by
  apply List.ext_getElem?
  intro i
  by_cases hi : i < n
  · rw [ind_get hi]
    rcases Nat.lt_trichotomy i p with z | z | z
    · rw [List.getElem?_append_left (by simpa using z)]
      simp [z]; omega
    · subst z
      rw [List.getElem?_append_right (by simp)]
      simp
    · rw [List.getElem?_append_right (by simp; omega), List.length_replicate, show i - p = (i - p - 1) + 1 by omega, List.getElem?_cons_succ, List.getElem?_replicate, if_pos (by omega)]
      simp; omega
  · rw [List.getElem?_eq_none (by rw [ind_len]; omega), List.getElem?_eq_none (by simp; omega)]
theorem ind_two {n p q : Nat} (h : p < q) (hq : q < n) : ind n [p, q] = List.replicate p false ++ true :: (List.replicate (q - p - 1) false ++ true :: List.replicate (n - q - 1) false) := by
  apply List.ext_getElem?
  intro i
  by_cases hi : i < n
  · rw [ind_get hi]
    rcases Nat.lt_trichotomy i p with z | z | z
    · rw [List.getElem?_append_left (by simpa using z)]
      simp [z]; omega
    · subst z
      rw [List.getElem?_append_right (by simp)]
      simp
    · rw [List.getElem?_append_right (by simp; omega), List.length_replicate, show i - p = (i - p - 1) + 1 by omega, List.getElem?_cons_succ]
      rcases Nat.lt_trichotomy i q with y | y | y
      · rw [List.getElem?_append_left (by simp; omega), List.getElem?_replicate, if_pos (by omega)]
        simp; omega
      · subst y
        rw [List.getElem?_append_right (by simp)]
        simp
      · rw [List.getElem?_append_right (by simp; omega), List.length_replicate, show i - p - 1 - (q - p - 1) = (i - q - 1) + 1 by omega, List.getElem?_cons_succ, List.getElem?_replicate, if_pos (by omega)]
        simp; omega
  · rw [List.getElem?_eq_none (by rw [ind_len]; omega), List.getElem?_eq_none (by simp; omega)]
theorem ind_swap (n p q : Nat) : ind n [p, q] = ind n [q, p] := by
  unfold ind
  apply List.map_congr_left
  intro k _
  simp [Or.comm]
theorem ind_cons (n p : Nat) (ps : List Nat) (h : p ∉ ps) : ind n (p :: ps) = List.zipWith (· ^^ ·) (ind n [p]) (ind n ps) := by
  apply List.ext_getElem?
  intro i
  by_cases hi : i < n
  · rw [ind_get hi, List.getElem?_zipWith, ind_get hi, ind_get hi]
    by_cases h1 : i = p
    · subst h1; simp [h]
    · simp [h1]
  · rw [List.getElem?_eq_none (by rw [ind_len]; omega), List.getElem?_eq_none (by simp [ind_len]; omega)]
theorem par_xor : ∀ (l m : List Bool), l.length = m.length → par (List.zipWith (· ^^ ·) l m) = (par l ^^ par m)
  | [], [], _ => rfl
  | x :: l, y :: m, h => by
    rw [List.zipWith_cons_cons, par_cons, par_cons, par_cons, par_xor l m (by simpa using h)]
    cases x <;> cases y <;> cases par l <;> cases par m <;> rfl
  | [], _ :: _, h => by simp at h
  | _ :: _, [], h => by simp at h
theorem par_ind (n : Nat) : ∀ (ps : List Nat), ps.Nodup → (∀ p ∈ ps, p < n) → par (ind n ps) = decide (ps.length % 2 = 1)
  | [], _, _ => by rw [ind_none, par_rep]; rfl
  | p :: ps, hn, hl => by
    have hp := hl p (by simp)
    rw [ind_cons n p ps (List.nodup_cons.mp hn).1, par_xor _ _ (by rw [ind_len, ind_len]), par_ind n ps (List.nodup_cons.mp hn).2 fun q hq => hl q (List.mem_cons_of_mem _ hq),
      ind_one hp, par_app, par_rep, par_cons, par_rep]
    by_cases h : ps.length % 2 = 1
    · have : ¬ ((p :: ps).length % 2 = 1) := by simp; omega
      rw [decide_eq_true h, decide_eq_false this]; rfl
    · have : (p :: ps).length % 2 = 1 := by simp; omega
      rw [decide_eq_false h, decide_eq_true this]; rfl
/-- two places less than 127 apart -/
theorem pair_ne {n p q : Nat} (h : p ≠ q) (hp : p < n) (hq : q < n) (hd : p < q + 127) (hd2 : q < p + 127) : crc (ind n [p, q]) ≠ 0#8 := by
  rcases Nat.lt_or_gt_of_ne h with z | z
  · rw [ind_two z hq]
    intro e
    exact far_all _ (by omega) ((two_crc _ _ _).mp e)
  · rw [ind_swap, ind_two z hp]
    intro e
    exact far_all _ (by omega) ((two_crc _ _ _).mp e)
theorem pair_127 {n p : Nat} (hq : p + 127 < n) : crc (ind n [p, p + 127]) = 0#8 := by
  rw [ind_two (by omega) hq, two_crc, show p + 127 - p - 1 = 126 by omega]
  exact far_127
/-- one to three places -/
theorem few_ne {n : Nat} (hn : n ≤ 127) {ps : List Nat} (hd : ps.Nodup) (hl : ∀ p ∈ ps, p < n) (h1 : 1 ≤ ps.length) (h3 : ps.length ≤ 3) : crc (ind n ps) ≠ 0#8 := by
  by_cases ho : ps.length % 2 = 1
  · exact odd_ne (by rw [par_ind n ps hd hl, decide_eq_true ho])
  · match ps, hd, hl, ho, h1, h3 with
    | [p, q], hd, hl, _, _, _ =>
      have a := hl p (by simp)
      have b := hl q (by simp)
      have : p ≠ q := by
        intro e; subst e
        simp at hd
      exact pair_ne this a b (by omega) (by omega)
    | [_], _, _, ho, _, _ => simp at ho
    | [_, _, _], _, _, ho, _, _ => simp at ho
    | [], _, _, _, h1, _ => simp at h1
/-- within eight places from p on -/
theorem near_ne {n p : Nat} {ps : List Nat} (hp : p + 8 ≤ n) (hne : ps ≠ []) (hl : ∀ k ∈ ps, p ≤ k ∧ k < p + 8) : crc (ind n ps) ≠ 0#8 := by
  have e : ind n ps = List.take (p + 8) (List.replicate p false ++ (ind n ps).drop p) ++ List.replicate (n - p - 8) false := by
    apply List.ext_getElem?
    intro i
    have hlen : (List.take (p + 8) (List.replicate p false ++ (ind n ps).drop p)).length = p + 8 := by simp [ind_len]; omega
    by_cases hi : i < n
    · rw [ind_get hi]
      by_cases h8 : i < p + 8
      · rw [List.getElem?_append_left (by rw [hlen]; exact h8), List.getElem?_take, if_pos h8]
        by_cases hpi : i < p
        · rw [List.getElem?_append_left (by simpa using hpi)]
          simp [hpi]
          intro h; have := hl i h; omega
        · rw [List.getElem?_append_right (by simp; omega), List.length_replicate, List.getElem?_drop, show p + (i - p) = i by omega, ind_get hi]
      · rw [List.getElem?_append_right (by rw [hlen]; omega), List.getElem?_replicate, if_pos (by rw [hlen]; omega)]
        simp
        intro h; have := hl i h; omega
    · rw [List.getElem?_eq_none (by rw [ind_len]; omega), List.getElem?_eq_none (by simp [ind_len]; omega)]
  have e2 : List.take (p + 8) (List.replicate p false ++ (ind n ps).drop p) = List.replicate p false ++ ((ind n ps).drop p).take 8 := by
    rw [List.take_append, List.length_replicate, List.take_of_length_le (by simp), show p + 8 - p = 8 by omega]
  have e3 : ind n ps = List.replicate p false ++ ((ind n ps).drop p).take 8 ++ List.replicate (n - p - 8) false := by rw [← e2]; exact e
  rw [e3]
  refine burst_ne (by simp [ind_len]; omega) ?_
  intro h
  obtain ⟨k, hk⟩ : ∃ k, k ∈ ps := by
    cases ps with
    | nil => exact absurd rfl hne
    | cons k _ => exact ⟨k, by simp⟩
  have h1 := hl k hk
  have h2 : (((ind n ps).drop p).take 8)[k - p]? = some true := by
    rw [List.getElem?_take, if_pos (by omega), List.getElem?_drop, show p + (k - p) = k by omega, ind_get (by omega), decide_eq_true hk]
  rw [h, List.getElem?_replicate, if_pos (by omega)] at h2
  cases h2
/-! places turned -/
def flp (l : List Bool) (ps : List Nat) : List Bool := List.zipWith (· ^^ ·) l (ind l.length ps)
theorem flp_len (l : List Bool) (ps : List Nat) : (flp l ps).length = l.length := by simp [flp, ind_len]
theorem flp_get (l : List Bool) (ps : List Nat) (k : Nat) : (flp l ps)[k]? = l[k]?.map fun b => b ^^ decide (k ∈ ps) := by
  unfold flp
  rw [List.getElem?_zipWith]
  by_cases h : k < l.length
  · rw [ind_get h, List.getElem?_eq_getElem h]; rfl
  · rw [List.getElem?_eq_none (by omega)]; rfl
theorem crc_flp (l : List Bool) (ps : List Nat) : crc (flp l ps) = crc l ^^^ crc (ind l.length ps) := crc_xor _ _ (by rw [ind_len])
theorem flp_ne {l : List Bool} {ps : List Nat} (h : crc l = 0#8) (hi : crc (ind l.length ps) ≠ 0#8) : crc (flp l ps) ≠ 0#8 := by
  rw [crc_flp, h]; simpa using hi
end M.Mk


set_option Elab.async false
set_option linter.all false
set_option maxRecDepth 100000
set_option maxHeartbeats 4000000
/-! Numbers as bits, checks, bodies, streams of units: what the functions come to. -/
namespace M.Mk
open PySem PySem.Spec PyProof.Rows L2 M
section
variable [Tabs]
variable {S : Store} {l m : List Bool}
theorem join1 (h : l.length ≤ 100000) : hJoin (mk []) [.lst (l.map fun b => bs [b])] S = some (bs l) := by
  have e := bs_join (S := S) (l.map fun b => [b]) (by
    rw [List.map_map]
    have : ∀ l : List Bool, (l.map (List.length ∘ fun b => [b])).sum = l.length := by
      intro l
      induction l with
      | nil => rfl
      | cons x l ih => simp [ih]; omega
    rw [this]; omega)
  rw [List.map_map] at e
  have e2 : (l.map fun b => [b]).flatten = l := by
    clear e h
    induction l with
    | nil => rfl
    | cons x l ih => simp [ih]
  rw [e2] at e
  exact e
/-- a number by so many signs -/
def wr (n many : Nat) : List Bool := (List.range many).map fun i => n.testBit (many - 1 - i)
theorem wr_len (n many : Nat) : (wr n many).length = many := by simp [wr]
theorem e_empty : (("" : PySem.Str)) = mk [] := rfl
theorem shr_ok (n p : Nat) : dShr (.int (n : Int)) (.int (p : Int)) S = some (.int ((n / 2 ^ p : Nat) : Int)) := by
  have e : dShr (.int (n : Int)) (.int (p : Int)) S = if (0 : Int) ≤ (p : Int) then some (.int ((n : Int) / 2 ^ (p : Int).toNat)) else none := rfl
  rw [e, if_pos (by omega), Int.toNat_natCast]
  congr 2
theorem and1_ok (n : Nat) : dAnd (.int (n : Int)) (.int 1) S = some (.int ((n % 2 : Nat) : Int)) := by
  show some (D.int (Builtin.bitAnd (n : Int) 1)) = _
  have := Bits.bitAnd_mask (x := (n : Int)) 1 (by omega)
  rw [show ((2 : Int) ^ 1 - 1) = 1 by decide] at this
  rw [this]
  congr 2
theorem written_ok (hS : clS S.length S = true) (n many : Nat) (hm : many ≤ 10000) : m_written [.int n, .int many] S = .ok (bs (wr n many)) S := by
  refine ret_fn hS (str_ok rfl (x := mk []) (by rw [x_mC, e_empty]) (one_ok (asV_ok (ds := (wr n many).map fun b => bs [b]) (lc_ok (xs := rngC ((many : Int) - 1) (-1) many) ?_ ?_ ?_))) (join1 (by rw [wr_len]; omega))) rfl
  · have := src_down (S := S) (i := (many : Int) - 1) (j := -1) (by omega) (by omega) (by omega) (by omega)
    rw [show (((many : Int) - 1) - -1).toNat = many by omega] at this
    have ha : (mCons (mBin dSub (mVar 1) (mC (.int 1))) (mCons (mUn dNeg (mC (.int 1))) (mCons (mUn dNeg (mC (.int 1))) mNil))) [some (.int n), some (.int many), none] S = .ok [.int ((many : Int) - 1), .int (-1), .int (-1)] S :=
      cons_ok (bin_ok (var_ok rfl) rfl x_sub) (cons_ok rfl (one_ok rfl))
    exact srcA_ok ha this
  · simp [rngC]; omega
  · rw [rngC, wr, List.map_map]
    refine lc_map (f := fun i => bs [n.testBit (many - 1 - i)]) (fun i : Nat => D.int (((many : Int) - 1) + (i : Int) * (-1))) _ fun i hi => ⟨_, rfl, ?_⟩
    have hi := List.mem_range.mp hi
    have e1 : (((many : Int) - 1) + (i : Int) * (-1)) = ((many - 1 - i : Nat) : Int) := by omega
    rw [e1]
    have hb : (mB (mBin dEq (mBin dAnd (mBin dShr (mVar 0) (mVar 2)) (mC (.int 1))) (mC (.int 1)))) [some (.int n), some (.int many), some (.int ((many - 1 - i : Nat) : Int))] S = .ok (n.testBit (many - 1 - i)) S := by
      refine b_ok (bin_ok (bin_ok (bin_ok (var_ok rfl) (var_ok rfl) (shr_ok _ _)) rfl (and1_ok _)) rfl ?_)
      rw [x_eqI, Nat.testBit_eq_decide_div_mod_eq]
      congr 2
      by_cases h : n / 2 ^ (many - 1 - i) % 2 = 1
      · rw [decide_eq_true h, decide_eq_true (by omega)]
      · rw [decide_eq_false h, decide_eq_false (by omega)]
    show (mIte _ _ _) _ S = _
    rw [x_mIte]
    show ((mB (mBin dEq (mBin dAnd (mBin dShr (mVar 0) (mVar 2)) (mC (.int 1))) (mC (.int 1)))) [some (.int n), some (.int many), some (.int ((many - 1 - i : Nat) : Int))] S).bind _ = _
    rw [hb, Res.bind_ok]
    cases n.testBit (many - 1 - i)
    · rw [if_neg (by decide), x_mC, bs_0]
    · rw [if_pos rfl, x_mC, bs_1]
theorem wr_sg8 : ∀ r : B8, wr r.toNat 8 = sg8 r := all8 (P := fun r => wr r.toNat 8 = sg8 r) (by decide +kernel)
/-- the number that bits tell -/
def num (l : List Bool) : Nat := l.foldl (fun a b => 2 * a + b.toNat) 0
theorem num_wr : ∀ n < 256, num (wr n 8) = n := by decide +kernel
theorem for_map {α : Type} {xs : List D} {g : MG} {b : MS} (ι : α → D) (Env' : List α → M.Env) (hstep : ∀ (a : α) (done : List α), ∃ e1, g (ι a) (Env' done) S = some e1 ∧ b e1 S = some (.nx, Env' (done ++ [a]), S)) : ∀ (as done : List α), M.forM ⟨xs, []⟩ g b (as.map ι) (Env' done) S = some (.nx, Env' (done ++ as), S)
  | [], done => by rw [List.map_nil, for_nil, List.append_nil]
  | a :: as, done => by
    obtain ⟨e1, h1, h2⟩ := hstep a done
    rw [List.map_cons, for_cons h1 h2, for_map ι Env' hstep as]
    simp
theorem eq1_ok (b : Bool) : dEq (bs [b]) (.str "1") S = some (.bl b) := by
  rw [bs_1, bs_eq]
  cases b <;> rfl
theorem sign_ok {e : M.Env} {i : Nat} {b : Bool} (h : e[i]? = some (some (bs [b]))) : (mIte (mB (mBin dEq (mVar i) (mC (.str "1")))) (mC (.int 1)) (mC (.int 0))) e S = .ok (.int (b.toNat : Int)) S := by
  have h1 : (mB (mBin dEq (mVar i) (mC (.str "1")))) e S = .ok b S := b_ok (bin_ok (var_ok h) rfl (eq1_ok b))
  rw [x_mIte, h1, Res.bind_ok]
  cases b <;> rfl
theorem read_number_ok (hS : clS S.length S = true) (hl : l.length ≤ 60) : m_read_number [bs l] S = .ok (.int (num l)) S := by
  have hf : ∀ (l : List Bool) (a : Nat) (o : Option D), a < 2 ^ 61 → l.length ≤ 60 → True := fun _ _ _ _ _ => trivial
  have hstep : ∀ (l : List Bool) (a : Nat) (L : D) (o : Option D), ∃ o', M.forM ⟨l.map fun b => bs [b], []⟩ (gN 2) l_read_number_1 (l.map fun b => bs [b]) [some L, some (.int a), o] S = some (.nx, [some L, some (.int ((l.foldl (fun a b => 2 * a + b.toNat) a : Nat) : Int)), o'], S) := by
    intro l
    suffices h : ∀ (xs : List D) (l : List Bool) (a : Nat) (L : D) (o : Option D), ∃ o', M.forM ⟨xs, []⟩ (gN 2) l_read_number_1 (l.map fun b => bs [b]) [some L, some (.int a), o] S = some (.nx, [some L, some (.int ((l.foldl (fun a b => 2 * a + b.toNat) a : Nat) : Int)), o'], S) from fun a L o => h _ l a L o
    intro xs l
    induction l with
    | nil => intro a L o; exact ⟨o, for_nil⟩
    | cons b l ih =>
      intro a L o
      obtain ⟨o', h⟩ := ih (2 * a + b.toNat) L (some (bs [b]))
      refine ⟨o', ?_⟩
      rw [List.map_cons]
      refine (for_cons (e1 := [some L, some (.int a), some (bs [b])]) (e2 := [some L, some (.int ((2 * a + b.toNat : Nat) : Int)), some (bs [b])]) (S2 := S) rfl ?_).trans h
      refine set_ok ?_
      have hc : (mIte (mB (mBin dEq (mVar 2) (mC (.str "1")))) (mC (.int 1)) (mC (.int 0))) [some L, some (.int a), some (bs [b])] S = .ok (.int (b.toNat : Int)) S := sign_ok rfl
      refine bin_ok (bin_ok rfl (var_ok rfl) (x_mul (.inl (by decide)))) hc (x_add.trans ?_)
      congr 2
  obtain ⟨o', h⟩ := hstep l 0 (bs l) none
  refine retV_id (run_rt (e' := [some (bs l), some (.int (num l : Int)), o']) ?_) hS rfl
  refine (seq_nx (set_ok rfl)).trans ((seq_nx (for_ok (S1 := S) (xs := l.map fun b => bs [b]) ?_ h)).trans (ret_ok (var_ok rfl)))
  rw [x_mSrc, var_ok (d := bs l) rfl, Res.bind_ok, bs_items]; rfl
theorem step_nat : ∀ r : B8, ∀ b : Bool, (step r b).toNat = (if r.toNat / 128 % 2 = b.toNat then r.toNat * 2 % 256 else (r.toNat * 2 % 256) ^^^ 7) :=
  all8 (P := fun r => ∀ b : Bool, (step r b).toNat = (if r.toNat / 128 % 2 = b.toNat then r.toNat * 2 % 256 else (r.toNat * 2 % 256) ^^^ 7)) (by decide +kernel)
theorem shl_ok (n p : Nat) (hp : p ≤ 1000) (hn : n < 2 ^ 60) : dShl (.int (n : Int)) (.int (p : Int)) S = some (.int ((n * 2 ^ p : Nat) : Int)) := by
  simp only [dShl]
  rw [if_pos ⟨by omega, by omega, by omega⟩, Int.toNat_natCast]
  congr 2
theorem check_ok (hS : clS S.length S = true) (hl : l.length ≤ 100000) : m_check [bs l] S = .ok (bs (sg8 (crc l))) S := by
  have hstep : ∀ (xs : List D) (l : List Bool) (r : B8) (L : D) (o o2 : Option D), ∃ o' o2', M.forM ⟨xs, []⟩ (gN 2) l_check_2 (l.map fun b => bs [b]) [some L, some (.int (r.toNat : Int)), o, o2] S = some (.nx, [some L, some (.int ((run r l).toNat : Int)), o', o2'], S) := by
    intro xs l
    induction l with
    | nil => intro r L o o2; exact ⟨o, o2, for_nil⟩
    | cons b l ih =>
      intro r L o o2
      have hlt := r.isLt
      obtain ⟨o', o2', h⟩ := ih (step r b) L (some (bs [b])) (some (.int ((r.toNat / 128 % 2 : Nat) : Int)))
      refine ⟨o', o2', ?_⟩
      rw [List.map_cons]
      refine (for_cons (e1 := [some L, some (.int (r.toNat : Int)), some (bs [b]), o2]) (e2 := [some L, some (.int ((step r b).toNat : Int)), some (bs [b]), some (.int ((r.toNat / 128 % 2 : Nat) : Int))]) (S2 := S) rfl ?_).trans h
      have s1 : (sSet (gN 3) (mBin dAnd (mBin dShr (mVar 1) (mBin dSub (mC (.int 8)) (mC (.int 1)))) (mC (.int 1)))) [some L, some (.int (r.toNat : Int)), some (bs [b]), o2] S = some (.nx, [some L, some (.int (r.toNat : Int)), some (bs [b]), some (.int ((r.toNat / 128 % 2 : Nat) : Int))], S) :=
        set_ok (bin_ok (bin_ok (var_ok rfl) (v := .int ((7 : Nat) : Int)) rfl (shr_ok r.toNat 7)) rfl (and1_ok _))
      have s2 : (sSet (gN 1) (mBin dMod (mBin dShl (mVar 1) (mC (.int 1))) (mBin dShl (mC (.int 1)) (mC (.int 8))))) [some L, some (.int (r.toNat : Int)), some (bs [b]), some (.int ((r.toNat / 128 % 2 : Nat) : Int))] S = some (.nx, [some L, some (.int ((r.toNat * 2 % 256 : Nat) : Int)), some (bs [b]), some (.int ((r.toNat / 128 % 2 : Nat) : Int))], S) := by
        refine set_ok (bin_ok (bin_ok (var_ok rfl) rfl (shl_ok r.toNat 1 (by decide) (by omega))) (bin_ok (u := .int ((1 : Nat) : Int)) (v := .int ((8 : Nat) : Int)) rfl rfl (shl_ok 1 8 (by decide) (by decide))) ?_)
        rw [x_mod (by decide)]
        congr 2
      refine (seq_nx s1).trans ((seq_nx s2).trans ?_)
      have hc : (mIte (mB (mBin dEq (mVar 2) (mC (.str "1")))) (mC (.int 1)) (mC (.int 0))) [some L, some (.int ((r.toNat * 2 % 256 : Nat) : Int)), some (bs [b]), some (.int ((r.toNat / 128 % 2 : Nat) : Int))] S = .ok (.int (b.toNat : Int)) S := sign_ok rfl
      have ht : (mB (mBin dNe (mVar 3) (mIte (mB (mBin dEq (mVar 2) (mC (.str "1")))) (mC (.int 1)) (mC (.int 0))))) [some L, some (.int ((r.toNat * 2 % 256 : Nat) : Int)), some (bs [b]), some (.int ((r.toNat / 128 % 2 : Nat) : Int))] S = .ok (!decide (((r.toNat / 128 % 2 : Nat) : Int) = (b.toNat : Int))) S := b_ok (bin_ok (var_ok rfl) hc x_neI)
      rw [if_b ht, step_nat]
      by_cases hq : r.toNat / 128 % 2 = b.toNat
      · rw [if_pos hq, decide_eq_true (by omega)]
        rfl
      · rw [if_neg hq, decide_eq_false (by omega)]
        unfold b_check_1
        refine set_ok (bin_ok (var_ok rfl) rfl ?_)
        show some (D.int (Builtin.bitXor ((r.toNat * 2 % 256 : Nat) : Int) 7)) = _
        rw [Bits.bitXor_pp (by omega) (by decide)]
        rfl
  obtain ⟨o', o2', h⟩ := hstep (l.map fun b => bs [b]) l 0#8 (bs l) none none
  refine retV_id (run_rt (e' := [some (bs l), some (.int ((crc l).toNat : Int)), o', o2']) ?_) hS rfl
  refine (seq_nx (set_ok rfl)).trans ((seq_nx (for_ok (S1 := S) (xs := l.map fun b => bs [b]) ?_ h)).trans (ret_ok (callF_ok (cons_ok (var_ok rfl) (one_ok rfl)) ?_)))
  · rw [x_mSrc, var_ok (d := bs l) rfl, Res.bind_ok, bs_items]; rfl
  · have := written_ok hS (crc l).toNat 8 (by decide)
    rw [wr_sg8] at this
    exact this
/-! lengths -/
def dl (p : Nat) : Nat := (p + 22) / 7 * 7
def bl (p : Nat) : Nat := (p + 22) / 7 * 8
theorem data_length_ok (hS : clS S.length S = true) (p : Nat) : m_data_length [.int p] S = .ok (.int (dl p : Int)) S := by
  refine ret_fn hS (bin_ok (bin_ok (bin_ok (bin_ok (bin_ok (bin_ok rfl (var_ok rfl) x_add) rfl x_add) rfl x_add) rfl x_sub) rfl (x_fdiv (by decide))) rfl ((mulc _ _ (by decide) _).trans ?_)) rfl
  congr 2
  unfold dl
  have : (8 + (p : Int) + 8 + 7 - 1) = ((p + 22 : Nat) : Int) := by omega
  rw [this]
  omega
theorem body_length_ok (hS : clS S.length S = true) (p : Nat) : m_body_length [.int p] S = .ok (.int (bl p : Int)) S := by
  refine ret_fn hS (bin_ok (bin_ok (callF_ok (one_ok (var_ok rfl)) (data_length_ok hS p)) rfl (x_fdiv (by decide))) rfl ((mulc _ _ (by decide) _).trans ?_)) rfl
  congr 2
  unfold dl bl
  omega
/-! bodies -/
def told (n : Nat) (p : List Bool) : List Bool := wr n 8 ++ p
def datum (n : Nat) (p : List Bool) : List Bool := told n p ++ sg8 (crc (told n p)) ++ List.replicate (dl p.length - (p.length + 16)) false
/-- groups of seven, each with a one behind -/
def grp (k : Nat) (l : List Bool) : List Bool := ((List.range k).map fun i => (l.drop (7 * i)).take 7 ++ [true]).flatten
def bdy (n : Nat) (p : List Bool) : List Bool := grp ((p.length + 22) / 7) (datum n p)
theorem told_len (n : Nat) (p : List Bool) : (told n p).length = p.length + 8 := by simp [told, wr_len]; omega
theorem datum_len (n : Nat) (p : List Bool) : (datum n p).length = dl p.length := by
  simp only [datum, List.length_append, told_len, sg8_len, List.length_replicate]
  unfold dl; omega
theorem grp_len : ∀ (k : Nat) (l : List Bool), 7 * k ≤ l.length → (grp k l).length = 8 * k := by
  intro k l
  unfold grp
  induction k with
  | zero => intro _; rfl
  | succ k ih =>
    intro h
    rw [List.range_succ, List.map_append, List.flatten_append, List.length_append, ih (by omega)]
    simp
    omega
theorem bdy_len (n : Nat) (p : List Bool) : (bdy n p).length = bl p.length := by
  unfold bdy
  rw [grp_len _ _ (by rw [datum_len]; unfold dl; omega)]
  unfold bl; omega
theorem body_ok (hS : clS S.length S = true) (n : Nat) (p : List Bool) (hp : p.length ≤ 400) : m_body [.int n, bs p] S = .ok (bs (bdy n p)) S := by
  have h0 : dl p.length ≤ 500 ∧ p.length + 16 ≤ dl p.length := by unfold dl; omega
  have hd := datum_len n p
  have ht := told_len n p
  refine retV_id (run_rt (e' := [some (.int n), some (bs p), some (bs (told n p)), some (bs (datum n p)), none]) ?_) hS rfl
  refine (seq_nx (e1 := [some (.int n), some (bs p), some (bs (told n p)), none, none]) (S1 := S) (set_ok (bin_ok (callF_ok (cons_ok (var_ok rfl) (one_ok rfl)) (written_ok hS n 8 (by decide))) (var_ok rfl) (bs_add (by rw [wr_len]; omega))))).trans ?_
  refine (seq_nx (set_ok (bin_ok (var_ok rfl) (callF_ok (one_ok (var_ok rfl)) (check_ok hS (by omega))) (bs_add (by rw [ht, sg8_len]; omega))))).trans ?_
  have hz : dSub (.int (dl p.length : Int)) (.int ((told n p ++ sg8 (crc (told n p))).length : Int)) S = some (.int ((dl p.length - (p.length + 16) : Nat) : Int)) := by
    rw [x_sub, List.length_append, ht, sg8_len]
    congr 2
    omega
  refine (seq_nx (e1 := [some (.int n), some (bs p), some (bs (told n p)), some (bs (datum n p)), none]) (S1 := S) (set_ok (bin_ok (var_ok rfl) (bin_ok (u := bs [false]) (by rw [x_mC, bs_0]) (bin_ok (callF_ok (one_ok (call_ok (one_ok (var_ok rfl)) (bs_len (by omega)))) (data_length_ok hS _)) (call_ok (one_ok (var_ok rfl)) (bs_len (by simp only [List.length_append, ht, sg8_len]; omega))) hz) (bs_mul0 _ (by omega))) (bs_add (by simp only [List.length_append, ht, sg8_len, List.length_replicate]; omega))))).trans ?_
  have hsum : ∀ k, (((List.range k).map fun i => ((datum n p).drop (7 * i)).take 7 ++ [true]).map List.length).sum ≤ 8 * k := by
    intro k
    induction k with
    | zero => simp
    | succ k ih =>
      rw [List.range_succ, List.map_append, List.map_append, List.sum_append_nat]
      simp only [List.map_cons, List.map_nil, List.sum_cons, List.sum_nil, List.length_append, List.length_take, List.length_singleton]
      omega
  refine ret_ok (str_ok rfl (x := mk []) (by rw [x_mC, e_empty]) (one_ok (asV_ok (ds := ((List.range ((p.length + 22) / 7)).map fun i => ((datum n p).drop (7 * i)).take 7 ++ [true]).map bs) (lc_ok (xs := rngC 0 7 ((p.length + 22) / 7)) ?_ ?_ ?_))) (bs_join _ ?_))
  · refine srcA_ok (cons_ok rfl (cons_ok (call_ok (one_ok (var_ok rfl)) (bs_len (by omega))) (one_ok rfl))) ((src_up (by decide) (by decide) (by decide) (by decide) (by omega) (by omega)).trans ?_)
    rw [hd]
    congr 3
    unfold dl; omega
  · rw [rngC_len]; omega
  · rw [rngC_eq, List.map_map]
    refine lc_map (f := fun i => bs (((datum n p).drop (7 * i)).take 7 ++ [true])) (fun i : Nat => D.int (0 + (i : Int) * 7)) _ fun i hi => ⟨_, rfl, ?_⟩
    have hi := List.mem_range.mp hi
    have e1 : ((0 : Int) + (i : Int) * 7) = ((7 * i : Nat) : Int) := by omega
    rw [e1]
    refine bin_ok (u := bs (((datum n p).drop (7 * i)).take 7)) (slice_ok (var_ok rfl) (part_ok (var_ok rfl)) (part_ok (bin_ok (var_ok rfl) rfl x_add)) ?_) (v := bs [true]) (by rw [x_mC, bs_1]) (bs_add (by simp; omega))
    rw [bs_slice _ _ (by omega)]
    exact congrArg (fun l => some (bs l)) (cut_nat (datum n p) (7 * i) 7)
  · have := hsum ((p.length + 22) / 7); omega
/-! streams -/
def mark : List Bool := [false, false, false, false, false, false, false, false, true]
theorem e_mark : (("000000001" : PySem.Str)) = mk (cod mark) := by decide +kernel
theorem bs_mark : (.str "000000001" : D) = bs mark := by unfold bs; rw [← e_mark]
/-- bodies behind marks -/
def strm (cs : List (List Bool)) : List Bool := (cs.map fun c => mark ++ c).flatten
def uD (u : Nat × List Bool) : D := .tup [.int (u.1 : Int), bs u.2]
def bd (u : Nat × List Bool) : List Bool := bdy u.1 u.2
theorem write_ok (hS : clS S.length S = true) (us : List (Nat × List Bool)) (hu : ∀ u ∈ us, u.2.length ≤ 400) (hl : us.length ≤ 20) : m_write [.tup (us.map uD)] S = .ok (bs (strm (us.map bd))) S := by
  have hsum : ∀ us : List (Nat × List Bool), (∀ u ∈ us, u.2.length ≤ 400) → ((us.map fun u => mark ++ bd u).map List.length).sum ≤ 600 * us.length := by
    intro us
    induction us with
    | nil => simp
    | cons u us ih =>
      intro h
      have h1 := ih fun v hv => h v (List.mem_cons_of_mem _ hv)
      have h2 := h u (by simp)
      have h3 : (bd u).length ≤ 500 := by unfold bd; rw [bdy_len]; unfold bl; omega
      simp only [List.map_cons, List.sum_cons, List.length_append, List.length_cons] at h1 ⊢
      have : mark.length = 9 := rfl
      omega
  have h9 := hsum us hu
  refine ret_fn hS (str_ok rfl (x := mk []) (by rw [x_mC, e_empty]) (one_ok (asV_ok (ds := (us.map fun u => mark ++ bd u).map bs) (lc_ok (src_tup (var_ok rfl)) ?_ ?_))) ((bs_join _ (by omega)).trans ?_)) rfl
  · rw [List.length_map]; omega
  · rw [List.map_map]
    refine lc_map (f := fun u => bs (mark ++ bd u)) uD us fun u hm => ⟨_, rfl, ?_⟩
    have h2 := hu u hm
    have h3 : (bd u).length ≤ 500 := by unfold bd; rw [bdy_len]; unfold bl; omega
    refine bin_ok (u := bs mark) (by rw [x_mC, bs_mark]) (callF_ok (cons_ok (var_ok rfl) (one_ok (var_ok rfl))) (body_ok hS u.1 u.2 h2)) (bs_add ?_)
    show 9 + (bd u).length ≤ 100000
    omega
  · rw [strm, List.map_map]; rfl
/-- the groups of a body without their ones -/
def ung (k : Nat) (c : List Bool) : List Bool := ((List.range k).map fun i => (c.drop (8 * i)).take 7).flatten
/-- what a body tells -/
def parse (many : Nat) (c : List Bool) : Option (Nat × List Bool) :=
  let d := ung ((many + 22) / 7) c
  let t := d.take (8 + many)
  if d.drop (8 + many) = sg8 (crc t) ++ List.replicate ((d.drop (8 + many)).length - 8) false then some (num (t.take 8), t.drop 8) else none
/-- each group ends with a one -/
def Ones (many : Nat) (c : List Bool) : Prop := c.length = bl many ∧ ∀ g, g < (many + 22) / 7 → c[8 * g + 7]? = some true
def oD : Option (Nat × List Bool) → D
  | none => .non
  | some u => uD u
theorem ung_len : ∀ (k : Nat) (c : List Bool), 8 * k ≤ c.length → (ung k c).length = 7 * k := by
  intro k c
  unfold ung
  induction k with
  | zero => intro _; rfl
  | succ k ih =>
    intro h
    rw [List.range_succ, List.map_append, List.flatten_append, List.length_append, ih (by omega)]
    simp
    omega
theorem unit_in_ok (hS : clS S.length S = true) (l : List Bool) (place many : Nat) (hm : many ≤ 400) (hl : l.length ≤ 20000) (he : place + bl many ≤ l.length) (hn : place + bl many = l.length ∨ Sat l mark (place + bl many))
    (ho : Ones many ((l.drop place).take (bl many))) : m_unit_in [bs l, .int place, .int many] S = .ok (oD (parse many ((l.drop place).take (bl many)))) S := by
  generalize hG : (many + 22) / 7 = G at *
  have hb : bl many = 8 * G := by unfold bl; omega
  generalize hc : (l.drop place).take (bl many) = c at *
  have hcl := ho.1
  have hd := ung_len G c (by omega)
  have hgr : ∀ i, i < G → (l.drop (place + 8 * i)).take 8 = (c.drop (8 * i)).take 8 := by
    intro i hi
    rw [← hc, List.drop_take, List.take_take, List.drop_drop, Nat.min_eq_left (by omega)]
  have cl : ∀ o, M.cl S.length (oD o) = true := by
    intro o
    cases o <;> rfl
  suffices h : ∃ e', b_unit_in [some (bs l), some (.int place), some (.int many), none, none, none, none, none, none, none] S = some (.rt (oD (parse many c)), e', S) by
    obtain ⟨e', h⟩ := h
    exact retV_id (run_rt (e' := e') h) hS (cl _)
  have s1 : (sSet (gN 3) (mBin dAdd (mVar 1) (mCallF 1 m_body_length (mCons (mVar 2) mNil)))) [some (bs l), some (.int place), some (.int many), none, none, none, none, none, none, none] S = some (.nx, [some (bs l), some (.int place), some (.int many), some (.int ((place + bl many : Nat) : Int)), none, none, none, none, none, none], S) :=
    set_ok (bin_ok (var_ok rfl) (callF_ok (one_ok (var_ok rfl)) (body_length_ok hS many)) x_add)
  unfold b_unit_in
  rw [seq_nx s1, seq_nx (if_skip (S1 := S) ?c1)]
  case c1 =>
    have a1 : (mB (mBin dGt (mVar 3) (mCall dLen (mCons (mVar 0) mNil)))) [some (bs l), some (.int place), some (.int many), some (.int ((place + bl many : Nat) : Int)), none, none, none, none, none, none] S = .ok false S := by
      refine b_ok (bin_ok (var_ok rfl) (call_ok (one_ok (var_ok rfl)) (bs_len (by omega))) (x_gt.trans ?_))
      rw [decide_eq_false (by omega)]
    have a2 : (mB (mBin dLt (mVar 3) (mCall dLen (mCons (mVar 0) mNil)))) [some (bs l), some (.int place), some (.int many), some (.int ((place + bl many : Nat) : Int)), none, none, none, none, none, none] S = .ok (decide (place + bl many < l.length)) S := by
      refine b_ok (bin_ok (var_ok rfl) (call_ok (one_ok (var_ok rfl)) (bs_len (by omega))) (x_lt.trans ?_))
      congr 2
      simp; omega
    have a3 : (mMeth "str" (gStr hStarts) (mVar 0) (mCons (mC (.str "000000001")) (mCons (mVar 3) mNil))) [some (bs l), some (.int place), some (.int many), some (.int ((place + bl many : Nat) : Int)), none, none, none, none, none, none] S = .ok (.bl (decide (Sat l mark (place + bl many)))) S :=
      str_ok rfl (x := mk (cod l)) (var_ok rfl) (cons_ok (d := bs mark) (by rw [x_mC, bs_mark]) (one_ok (var_ok rfl))) (bs_starts _ (.inr (by decide)))
    rw [x_mOr, a1, Res.bind_ok, if_neg (by decide), x_mAnd, a2, Res.bind_ok]
    rcases hn with hn | hn
    · rw [if_neg (by simp; omega)]
    · split
      · rw [x_mNot, x_mTru, a3, Res.bind_ok, decide_eq_true hn]; rfl
      · rfl
  have s2 : (sSet (gN 4) (asV (mLc (mSrcA srcR3 (mCons (mVar 1) (mCons (mVar 3) (mCons (mBin dAdd (mC (.int 7)) (mC (.int 1))) mNil)))) (gN 5) mYes e_unit_in_1 [5]))) [some (bs l), some (.int place), some (.int many), some (.int ((place + bl many : Nat) : Int)), none, none, none, none, none, none] S =
      some (.nx, [some (bs l), some (.int place), some (.int many), some (.int ((place + bl many : Nat) : Int)), some (.lst (((List.range G).map fun i => (c.drop (8 * i)).take 8).map bs)), none, none, none, none, none], S) := by
    refine set_ok (asV_ok (lc_ok (xs := rngC place 8 G) ?_ ?_ ?_))
    · refine srcA_ok (cons_ok (var_ok rfl) (cons_ok (var_ok rfl) (one_ok (bin_ok rfl rfl x_add)))) ((src_up (by decide) (by decide) (by omega) (by omega) (by omega) (by omega)).trans ?_)
      rw [hb]
      congr 3
      omega
    · rw [rngC_len]; omega
    · rw [rngC_eq, List.map_map]
      refine lc_map (f := fun i => bs ((c.drop (8 * i)).take 8)) (fun i : Nat => D.int ((place : Int) + (i : Int) * 8)) _ fun i hi => ⟨_, rfl, ?_⟩
      have hi := List.mem_range.mp hi
      have e1 : ((place : Int) + (i : Int) * 8) = ((place + 8 * i : Nat) : Int) := by omega
      rw [e1, ← hgr i hi]
      refine slice_ok (var_ok rfl) (part_ok (var_ok rfl)) (part_ok (bin_ok (bin_ok (var_ok rfl) rfl x_add) rfl x_add)) ?_
      rw [bs_slice _ _ (by omega), show (((place + 8 * i : Nat) : Int) + 7 + 1) = ((place + 8 * i : Nat) : Int) + ((8 : Nat) : Int) by omega, cut_nat]
  rw [seq_nx s2, seq_nx (if_skip (S1 := S) ?c2)]
  case c2 =>
    have : (mAll false (mSrc (mVar 4)) (gN 6) e_unit_in_2 [6]) [some (bs l), some (.int place), some (.int many), some (.int ((place + bl many : Nat) : Int)), some (.lst (((List.range G).map fun i => (c.drop (8 * i)).take 8).map bs)), none, none, none, none, none] S = .ok (.bl true) S := by
      refine all_ok (src_lst (var_ok rfl)) ?_
      rw [List.map_map]
      refine all_map (fun i => bs ((c.drop (8 * i)).take 8)) _ fun i hi => ⟨_, rfl, ?_⟩
      have hi := List.mem_range.mp hi
      refine bin_ok (bin_ok (u := bs ((c.drop (8 * i)).take 8)) (var_ok rfl) (v := .int ((7 : Nat) : Int)) rfl (bs_ix (b := true) (by simp; omega) ?_)) rfl (eq1_ok true)
      rw [List.getElem?_take, if_pos (by decide), List.getElem?_drop]
      exact ho.2 i (by omega)
    rw [x_mNot, x_mTru, this]; rfl
  have s3 : (sSet (gN 7) (mMeth "str" (gStr hJoin) (mC (.str "")) (mCons (asV (mLc (mSrc (mVar 4)) (gN 6) mYes e_unit_in_3 [6])) mNil))) [some (bs l), some (.int place), some (.int many), some (.int ((place + bl many : Nat) : Int)), some (.lst (((List.range G).map fun i => (c.drop (8 * i)).take 8).map bs)), none, none, none, none, none] S =
      some (.nx, [some (bs l), some (.int place), some (.int many), some (.int ((place + bl many : Nat) : Int)), some (.lst (((List.range G).map fun i => (c.drop (8 * i)).take 8).map bs)), none, none, some (bs (ung G c)), none, none], S) := by
    have hsum : (((List.range G).map fun i => (c.drop (8 * i)).take 7).map List.length).sum ≤ 16777216 := by
      have : (((List.range G).map fun i => (c.drop (8 * i)).take 7).map List.length).sum = (ung G c).length := by rw [ung, List.length_flatten]
      omega
    refine set_ok (str_ok rfl (x := mk []) (by rw [x_mC, e_empty]) (one_ok (asV_ok (ds := ((List.range G).map fun i => (c.drop (8 * i)).take 7).map bs) (lc_ok (src_lst (var_ok rfl)) ?_ ?_))) (bs_join _ hsum))
    · simp; omega
    · rw [List.map_map, List.map_map]
      refine lc_map (f := fun i => bs ((c.drop (8 * i)).take 7)) (fun i => bs ((c.drop (8 * i)).take 8)) _ fun i hi => ⟨_, rfl, ?_⟩
      refine slice_ok (var_ok rfl) rfl (part_ok (k := ((7 : Nat) : Int)) rfl) ?_
      rw [bs_slice _ _ (by simp; omega), cut_to, List.take_take]
      rfl
  rw [seq_nx s3]
  have s4 : (sPar 8 9 (mCons (mSlice (mVar 7) mNo (mPart (mBin dAdd (mC (.int 8)) (mVar 2)))) (mCons (mSlice (mVar 7) (mPart (mBin dAdd (mC (.int 8)) (mVar 2))) mNo) mNil))) [some (bs l), some (.int place), some (.int many), some (.int ((place + bl many : Nat) : Int)), some (.lst (((List.range G).map fun i => (c.drop (8 * i)).take 8).map bs)), none, none, some (bs (ung G c)), none, none] S =
      some (.nx, [some (bs l), some (.int place), some (.int many), some (.int ((place + bl many : Nat) : Int)), some (.lst (((List.range G).map fun i => (c.drop (8 * i)).take 8).map bs)), none, none, some (bs (ung G c)), some (bs ((ung G c).take (8 + many))), some (bs ((ung G c).drop (8 + many)))], S) := by
    refine par_ok (slice_ok (var_ok rfl) rfl (part_ok (k := ((8 + many : Nat) : Int)) (bin_ok rfl (var_ok rfl) x_add)) ?_) (slice_ok (var_ok rfl) (part_ok (k := ((8 + many : Nat) : Int)) (bin_ok rfl (var_ok rfl) x_add)) rfl ?_)
    · rw [bs_slice _ _ (by omega), cut_to]
    · rw [bs_slice _ _ (by omega), cut_from]
  rw [seq_nx s4]
  generalize ht : (ung G c).take (8 + many) = t
  generalize hbh : (ung G c).drop (8 + many) = bh
  have htl : t.length = 8 + many := by rw [← ht, List.length_take]; omega
  have hbl : bh.length = 7 * G - (8 + many) := by rw [← hbh, List.length_drop]; omega
  have hp : parse many c = if bh = sg8 (crc t) ++ List.replicate (bh.length - 8) false then some (num (t.take 8), t.drop 8) else none := by
    unfold parse
    simp only [hG, ht, hbh]
  have c5 : ∀ e : M.Env, e[8]? = some (some (bs t)) → e[9]? = some (some (bs bh)) → (mB (mBin dNe (mVar 9) (mBin dAdd (mCallF 1 m_check (mCons (mVar 8) mNil)) (mBin dMul (mC (.str "0")) (mBin dSub (mCall dLen (mCons (mVar 9) mNil)) (mC (.int 8))))))) e S = .ok (!decide (bh = sg8 (crc t) ++ List.replicate (bh.length - 8) false)) S := by
    intro e h8 h9
    have q1 : mCallF 1 m_check (mCons (mVar 8) mNil) e S = .ok (bs (sg8 (crc t))) S := callF_ok (one_ok (var_ok h8)) (check_ok hS (by omega))
    have q2 : mCall dLen (mCons (mVar 9) mNil) e S = .ok (.int (bh.length : Int)) S := call_ok (one_ok (var_ok h9)) (bs_len (by omega))
    have q3 : mBin dSub (mCall dLen (mCons (mVar 9) mNil)) (mC (.int 8)) e S = .ok (.int ((bh.length - 8 : Nat) : Int)) S := bin_ok q2 rfl (x_sub.trans (congrArg (fun z => some (D.int z)) (by omega)))
    have q4 : mBin dMul (mC (.str "0")) (mBin dSub (mCall dLen (mCons (mVar 9) mNil)) (mC (.int 8))) e S = .ok (bs (List.replicate (bh.length - 8) false)) S := bin_ok (u := bs [false]) (by rw [x_mC, bs_0]) q3 (bs_mul0 _ (by omega))
    exact b_ok (bin_ok (var_ok h9) (bin_ok q1 q4 (bs_add (by simp only [sg8_len, List.length_replicate]; omega))) bs_ne)
  by_cases hq : bh = sg8 (crc t) ++ List.replicate (bh.length - 8) false
  · rw [hp, if_pos hq]
    refine ⟨_, (seq_nx (if_skip (S1 := S) ((c5 _ rfl rfl).trans ?_))).trans (ret_ok ?_)⟩
    · rw [decide_eq_true hq]; rfl
    · refine tup_ok (cons_ok (callF_ok (one_ok (d := bs (t.take 8)) (slice_ok (var_ok rfl) rfl (part_ok (k := ((8 : Nat) : Int)) rfl) ?_)) (read_number_ok hS (by simp; omega))) (one_ok (slice_ok (var_ok rfl) (part_ok (k := ((8 : Nat) : Int)) rfl) rfl ?_))) (by show 2 ≤ sizeLine; decide)
      · rw [bs_slice _ _ (by omega), cut_to]
      · rw [bs_slice _ _ (by omega), cut_from]
  · rw [hp, if_neg hq]
    refine ⟨_, seq_rt ((if_t ((c5 _ rfl rfl).trans ?_)).trans (ret_ok rfl))⟩
    rw [decide_eq_false hq]; rfl
end
end M.Mk


set_option Elab.async false
set_option linter.all false
set_option maxRecDepth 100000
set_option maxHeartbeats 4000000
/-! Rows lifted: what the functions come to. -/
namespace M.Lf
open PySem PySem.Spec PyProof.Rows L2 M
section
variable [Tabs]
variable {S : Store}
theorem rngC_succ (lo c : Int) (n : Nat) : rngC lo c (n + 1) = .int lo :: rngC (lo + c) c n := by
  rw [rngC_eq, rngC_eq, List.range_succ_eq_map, List.map_cons, List.map_map]
  congr 1
  · congr 1; omega
  · apply List.map_congr_left
    intro i _
    simp only [Function.comp]
    congr 1
    rw [show ((i + 1 : Nat) : Int) = (i : Int) + 1 by omega, Int.add_mul]
    omega
/-! two lists -/
theorem get_a {A B : List D} : (S ++ [OB.lst A, OB.lst B])[S.length]? = some (OB.lst A) := by simp
theorem get_b {A B : List D} : (S ++ [OB.lst A, OB.lst B])[S.length + 1]? = some (OB.lst B) := by
  rw [List.getElem?_append_right (by omega), show S.length + 1 - S.length = 1 by omega]; rfl
theorem rcv_at {n : Nat} {xs : List D} (h : S[n]? = some (.lst xs)) : rcv "list" S (.loc n) = true := by simp [rcv, lstOf, h]
theorem app_a {A B : List D} {y : D} (h : A.length < 100000) : gAppend (.loc S.length) [y] (S ++ [.lst A, .lst B]) = some (.non, S ++ [.lst (A ++ [y]), .lst B]) := by
  unfold gAppend
  simp only [get_a]
  rw [if_pos (Nat.lt_of_lt_of_le h (by decide)), List.set_append_right _ _ (Nat.le_refl _), Nat.sub_self]
  rfl
theorem app_b {A B : List D} {y : D} (h : B.length < 100000) : gAppend (.loc (S.length + 1)) [y] (S ++ [.lst A, .lst B]) = some (.non, S ++ [.lst A, .lst (B ++ [y])]) := by
  unfold gAppend
  simp only [get_b]
  rw [if_pos (Nat.lt_of_lt_of_le h (by decide)), List.set_append_right _ _ (by omega), show S.length + 1 - S.length = 1 by omega]
  rfl
theorem len_at {n : Nat} {xs : List D} (h : S[n]? = some (.lst xs)) : dLen [.loc n] S = some (.int xs.length) := by
  show (seqOf S (.loc n)).map _ = _
  have : seqOf S (.loc n) = some xs := by simp [seqOf, lstOf, h]
  rw [this]; rfl
theorem last_at {n : Nat} {xs : List D} {d : D} (h : S[n]? = some (.lst (xs ++ [d]))) : dIx (.loc n) (.int (-1)) S = some d := by
  show (seqOf S (.loc n)).bind (fun xs => atI xs (-1)) = _
  have : seqOf S (.loc n) = some (xs ++ [d]) := by simp [seqOf, lstOf, h]
  rw [this, Option.bind_some]
  unfold atI ixN
  rw [if_neg (by decide), if_pos (by simp; omega)]
  have : ((-1 : Int) + ((xs ++ [d]).length : Int)).toNat = xs.length := by simp; omega
  rw [this]
  simp
theorem ixT {r : List Int} {k : Nat} {a : Int} (h : r[k]? = some a) : dIx (.tup (I r)) (.int (k : Int)) S = some (.int a) := ix_tup _ k _ _ (by rw [List.getElem?_map, h]; rfl)
theorem I_snoc (A : List Int) (x : Int) : I (A ++ [x]) = I A ++ [.int x] := by simp
theorem lift_turn (dn r A B : List Int) (a b : Int) (i : Nat) (hi : dn.length = 2 * i) (h1 : A.length < 90000) (h2 : B.length < 90000) :
    l_lifted_1 [some (.tup (I (dn ++ a :: b :: r))), some (.loc S.length), some (.loc (S.length + 1)), some (.int ((2 * i : Nat) : Int))] (S ++ [.lst (I A), .lst (I B)]) =
      some (.nx, [some (.tup (I (dn ++ a :: b :: r))), some (.loc S.length), some (.loc (S.length + 1)), some (.int ((2 * i : Nat) : Int))], S ++ [.lst (I (A ++ [a + (b - a) / 2])), .lst (I (B ++ [b - a]))]) := by
  have ha : (dn ++ a :: b :: r)[2 * i]? = some a := by rw [List.getElem?_append_right (by omega), show 2 * i - dn.length = 0 by omega]; rfl
  have hb : (dn ++ a :: b :: r)[2 * i + 1]? = some b := by rw [List.getElem?_append_right (by omega), show 2 * i + 1 - dn.length = 1 by omega]; rfl
  unfold l_lifted_1
  have s1 : sExpr (mMeth "list" gAppend (mVar 2) (mCons (mBin dSub (mBin dIx (mVar 0) (mBin dAdd (mVar 3) (mC (.int 1)))) (mBin dIx (mVar 0) (mVar 3))) mNil)) [some (.tup (I (dn ++ a :: b :: r))), some (.loc S.length), some (.loc (S.length + 1)), some (.int ((2 * i : Nat) : Int))] (S ++ [.lst (I A), .lst (I B)]) =
      some (.nx, [some (.tup (I (dn ++ a :: b :: r))), some (.loc S.length), some (.loc (S.length + 1)), some (.int ((2 * i : Nat) : Int))], S ++ [.lst (I A), .lst (I (B ++ [b - a]))]) := by
    refine expr_ok (d := .non) (meth_ok (var_ok rfl) (rcv_at get_b) (one_ok (bin_ok (bin_ok (v := .int ((2 * i + 1 : Nat) : Int)) (var_ok rfl) (bin_ok (var_ok rfl) rfl x_add) (ixT hb)) (bin_ok (var_ok rfl) (var_ok rfl) (ixT ha)) x_sub)) ((app_b (by rw [List.length_map]; omega)).trans ?_))
    rw [I_snoc]
  refine (seq_nx s1).trans ?_
  have e1 : I (B ++ [b - a]) = I B ++ [.int (b - a)] := I_snoc _ _
  refine expr_ok (d := .non) (meth_ok (var_ok rfl) (rcv_at get_a) (one_ok (bin_ok (bin_ok (var_ok rfl) (var_ok rfl) (ixT ha)) (bin_ok (bin_ok (v := .int (-1)) (var_ok rfl) rfl (last_at (xs := I B) (d := .int (b - a)) (by rw [get_b, e1]))) rfl (x_fdiv ⟨by decide, by decide⟩)) x_add)) ((app_a (by rw [List.length_map]; omega)).trans ?_))
  rw [I_snoc A]
theorem lift_loop {xs : List D} : ∀ (r dn A B : List Int) (i : Nat) (o3 : Option D), dn.length = 2 * i → A.length + r.length < 90000 → B.length + r.length < 90000 → ∃ o3' t, r.length % 2 = t.length ∧ (lift r).1 = (lift r).1.take (r.length / 2) ++ t ∧ (∀ x ∈ t, r.getLast? = some x) ∧
    M.forM ⟨xs, []⟩ (gN 3) l_lifted_1 (rngC ((2 * i : Nat) : Int) 2 (r.length / 2)) [some (.tup (I (dn ++ r))), some (.loc S.length), some (.loc (S.length + 1)), o3] (S ++ [.lst (I A), .lst (I B)]) =
      some (.nx, [some (.tup (I (dn ++ r))), some (.loc S.length), some (.loc (S.length + 1)), o3'], S ++ [.lst (I (A ++ (lift r).1.take (r.length / 2))), .lst (I (B ++ (lift r).2))])
  | [], dn, A, B, i, o3, _, _, _ => ⟨o3, [], rfl, rfl, by simp, by
    simp only [lift, List.take_nil, List.append_nil]
    exact for_nil⟩
  | [a], dn, A, B, i, o3, _, _, _ => by
    have e : ([a] : List Int).length / 2 = 0 := by simp
    refine ⟨o3, [a], by simp, by rw [e]; rfl, by simp, ?_⟩
    rw [e, List.take_zero, List.append_nil, show (lift [a]).2 = [] from rfl, List.append_nil]
    exact for_nil
  | a :: b :: r, dn, A, B, i, o3, hi, h1, h2 => by
    simp only [List.length_cons] at h1 h2
    have ht := lift_turn (S := S) dn r A B a b i hi (by omega) (by omega)
    obtain ⟨o3', t, k1, k2, k3, k4⟩ := lift_loop (xs := xs) r (dn ++ [a, b]) (A ++ [a + (b - a) / 2]) (B ++ [b - a]) (i + 1) (some (.int ((2 * i : Nat) : Int))) (by simp; omega) (by simp; omega) (by simp; omega)
    have e0 : (a :: b :: r).length / 2 = r.length / 2 + 1 := by simp only [List.length_cons]; omega
    have e1 : dn ++ [a, b] ++ r = dn ++ a :: b :: r := by simp
    rw [e1] at k4
    refine ⟨o3', t, by simp only [List.length_cons]; omega, ?_, fun x hx => ?_, ?_⟩
    · rw [e0, lift_cons, List.take_succ_cons, List.cons_append]
      exact congrArg _ k2
    · have hr := k3 x hx
      rw [List.getLast?_cons_cons]
      cases r with
      | nil => simp at hr
      | cons c r => rw [List.getLast?_cons_cons]; exact hr
    · rw [e0, rngC_succ]
      refine (for_cons rfl ht).trans ?_
      have e2 : ((2 * i : Nat) : Int) + 2 = ((2 * (i + 1) : Nat) : Int) := by omega
      rw [e2]
      refine k4.trans ?_
      rw [lift_cons, List.take_succ_cons, List.append_assoc, List.append_assoc]
      rfl
abbrev T2 (p : List Int × List Int) : D := .tup [.tup (I p.1), .tup (I p.2)]
theorem tup_at {n : Nat} {xs : List D} (h : S[n]? = some (.lst xs)) : dTuple [.loc n] S = some (.tup xs) := by
  simp [dTuple, seqOf, lstOf, h]
theorem ixT_last {r : List Int} {x : Int} (h : r.getLast? = some x) : dIx (.tup (I r)) (.int (-1)) S = some (.int x) := by
  obtain ⟨r', rfl⟩ := List.getLast?_eq_some_iff.mp h
  rw [I_snoc]
  show atI (I r' ++ [.int x]) (-1) = _
  unfold atI ixN
  rw [if_neg (by decide), if_pos (by simp; omega)]
  have : ((-1 : Int) + ((I r' ++ [D.int x]).length : Int)).toNat = (I r').length := by simp; omega
  rw [this]
  simp
theorem lifted_ok (hS : clS S.length S = true) (r : List Int) (hz : r.length ≤ 5000) : m_lifted [.tup (I r)] S = .ok (T2 (lift r)) S := by
  have hl := lift_len r
  obtain ⟨o3, t, k1, k2, k3, k4⟩ := lift_loop (S := S) (xs := rngC 0 2 (r.length / 2)) r [] [] [] 0 none rfl (by simp; omega) (by simp; omega)
  rw [List.nil_append, List.nil_append, List.nil_append] at k4
  have hlen : ∀ e : M.Env, ∀ S : Store, e[0]? = some (some (.tup (I r))) → mCall dLen (mCons (mVar 0) mNil) e S = .ok (.int (r.length : Int)) S := fun e S h => call_ok (one_ok (var_ok h)) (len_tup.trans (by rw [List.length_map]))
  have s0 : sPar 1 2 (mCons (asL (mLst mNil)) (mCons (asL (mLst mNil)) mNil)) [some (.tup (I r)), none, none, none] S = some (.nx, [some (.tup (I r)), some (.loc S.length), some (.loc (S.length + 1)), none], S ++ [.lst (I []), .lst (I [])]) := by
    refine (par_ok (asL_ok (lst_ok rfl (Nat.zero_le _))) (asL_ok (lst_ok rfl (Nat.zero_le _)))).trans ?_
    simp
  have hsrc : mSrcA srcR3 (mCons (mC (.int 0)) (mCons (mBin dSub (mCall dLen (mCons (mVar 0) mNil)) (mC (.int 1))) (mCons (mC (.int 2)) mNil))) [some (.tup (I r)), some (.loc S.length), some (.loc (S.length + 1)), none] (S ++ [.lst (I []), .lst (I [])]) = .ok ⟨rngC 0 2 (r.length / 2), []⟩ (S ++ [.lst (I []), .lst (I [])]) := by
    refine srcA_ok (cons_ok rfl (cons_ok (bin_ok (hlen _ _ rfl) rfl x_sub) (one_ok rfl))) ((src_up (by decide) (by decide) (by decide) (by decide) (by omega) (by omega)).trans ?_)
    congr 3
    omega
  have htk : ((lift r).1.take (r.length / 2)).length = r.length / 2 := by rw [List.length_take, hl.1]; omega
  have hfin : ∀ A : List Int, A = (lift r).1 → sRet (mTup (mCons (mCall dTuple (mCons (mVar 1) mNil)) (mCons (mCall dTuple (mCons (mVar 2) mNil)) mNil))) [some (.tup (I r)), some (.loc S.length), some (.loc (S.length + 1)), o3] (S ++ [.lst (I A), .lst (I (lift r).2)]) =
      some (.rt (T2 (lift r)), [some (.tup (I r)), some (.loc S.length), some (.loc (S.length + 1)), o3], S ++ [.lst (I A), .lst (I (lift r).2)]) := fun A hA => by
    subst hA
    exact ret_ok (tup_ok (cons_ok (call_ok (one_ok (var_ok rfl)) (tup_at get_a)) (one_ok (call_ok (one_ok (var_ok rfl)) (tup_at get_b)))) (by show 2 ≤ sizeLine; decide))
  suffices h : b_lifted [some (.tup (I r)), none, none, none] S = some (.rt (T2 (lift r)), [some (.tup (I r)), some (.loc S.length), some (.loc (S.length + 1)), o3], S ++ [.lst (I (lift r).1), .lst (I (lift r).2)]) by
    refine (retV_ok (d := T2 (lift r)) (d' := T2 (lift r)) (S' := S ++ [.lst (I (lift r).1), .lst (I (lift r).2)]) (run_rt h) (by simpa using hS) ?_).trans (by simp)
    simp only [fz, cl, cls, cls_I, Bool.and_true, if_true]
  unfold b_lifted
  refine (seq_nx s0).trans ((seq_nx (for_ok hsrc k4)).trans ?_)
  have ht : mB (mBin dGt (mCall dLen (mCons (mVar 0) mNil)) (mBin dMul (mC (.int 2)) (mCall dLen (mCons (mVar 1) mNil)))) [some (.tup (I r)), some (.loc S.length), some (.loc (S.length + 1)), o3] (S ++ [.lst (I ((lift r).1.take (r.length / 2))), .lst (I (lift r).2)]) = .ok (decide (2 * (r.length / 2) < r.length)) (S ++ [.lst (I ((lift r).1.take (r.length / 2))), .lst (I (lift r).2)]) := by
    refine b_ok (bin_ok (hlen _ _ rfl) (bin_ok rfl (call_ok (one_ok (var_ok rfl)) (len_at get_a)) (x_mul (.inl (by decide)))) (x_gt.trans ?_))
    congr 2
    rw [List.length_map, htk, decide_eq_decide]
    omega
  by_cases ho : 2 * (r.length / 2) < r.length
  · rw [decide_eq_true ho] at ht
    obtain ⟨x, rfl⟩ : ∃ x, t = [x] := by
      match t, k1 with
      | [x], _ => exact ⟨x, rfl⟩
      | [], k => simp at k; omega
      | _ :: _ :: _, k => simp only [List.length_cons] at k; omega
    have hx := k3 x (by simp)
    have s2 : b_lifted_2 [some (.tup (I r)), some (.loc S.length), some (.loc (S.length + 1)), o3] (S ++ [.lst (I ((lift r).1.take (r.length / 2))), .lst (I (lift r).2)]) = some (.nx, [some (.tup (I r)), some (.loc S.length), some (.loc (S.length + 1)), o3], S ++ [.lst (I (lift r).1), .lst (I (lift r).2)]) := by
      refine expr_ok (d := .non) (meth_ok (var_ok rfl) (rcv_at get_a) (one_ok (bin_ok (v := .int (-1)) (var_ok rfl) rfl (ixT_last hx))) ((app_a (by rw [List.length_map, htk]; omega)).trans ?_))
      rw [← I_snoc, ← k2]
    exact (seq_nx ((if_t ht).trans s2)).trans (hfin _ rfl)
  · rw [decide_eq_false ho] at ht
    have ht0 : t = [] := List.length_eq_zero_iff.mp (by omega)
    subst ht0
    rw [List.append_nil] at k2
    rw [← k2] at ht ⊢
    exact (seq_nx (if_skip ht)).trans (hfin _ rfl)
end
end M.Lf


set_option Elab.async false
set_option linter.all false
set_option maxRecDepth 100000
set_option maxHeartbeats 4000000
/-! Rows lowered, towers: what the functions come to. -/
namespace M.Lf
open PySem PySem.Spec PyProof.Rows L2 M
def low2 : List Int → List Int → List Int
  | s :: S, d :: D => (s - d / 2) :: (s - d / 2 + d) :: low2 S D
  | _, _ => []
theorem low2_eq : ∀ S D : List Int, D.length ≤ S.length → lower S D = low2 S D ++ S.drop D.length
  | s :: S, d :: D, h => by
    have ih := low2_eq S D (by simpa using h)
    rw [lower_cons, ih]
    rfl
  | S, [], _ => by rw [lower_nil]; cases S <;> rfl
  | [], _ :: _, h => by simp at h
theorem low2_len : ∀ S D : List Int, (low2 S D).length ≤ 2 * D.length
  | s :: S, d :: D => by have := low2_len S D; simp only [low2, List.length_cons]; omega
  | S, [] => by cases S <;> simp [low2]
  | [], _ :: _ => by simp [low2]
section
variable [Tabs]
variable {S : Store}
theorem ext_tup {xs ys : List D} (h : xs.length + ys.length ≤ 100000) : gExtend (.loc S.length) [.tup ys] (S ++ [.lst xs]) = some (.non, S ++ [.lst (xs ++ ys)]) := by
  unfold gExtend
  simp only [get_last, seqOf']
  rw [if_pos (sz h), set_last]
theorem low_loop {xs : List D} {o0 o1 : Option D} : ∀ (A D acc : List Int) (o3 o4 o5 : Option M.D), acc.length + 2 * D.length ≤ 90000 → ∃ o3' o4' o5',
    M.forM ⟨xs, []⟩ (gTup 2 (gCons (gN 3) (gCons (gN 4) gNil))) l_lowered_1 (zipD (I A) (I D)) [o0, o1, some (.loc S.length), o3, o4, o5] (S ++ [.lst (I acc)]) =
      some (.nx, [o0, o1, some (.loc S.length), o3', o4', o5'], S ++ [.lst (I (acc ++ low2 A D))])
  | s :: A, d :: D, acc, o3, o4, o5, hz => by
    simp only [List.length_cons] at hz
    obtain ⟨a, b, c, h⟩ := low_loop (xs := xs) (o0 := o0) (o1 := o1) A D (acc ++ [s - d / 2, s - d / 2 + d]) (some (.int s)) (some (.int d)) (some (.int (s - d / 2))) (by simp; omega)
    refine ⟨a, b, c, (for_cons (e1 := [o0, o1, some (.loc S.length), some (.int s), some (.int d), o5]) (e2 := [o0, o1, some (.loc S.length), some (.int s), some (.int d), some (.int (s - d / 2))]) rfl ?_).trans (h.trans ?_)⟩
    · unfold l_lowered_1
      refine (seq_nx (set_ok (bin_ok (var_ok rfl) (bin_ok (var_ok rfl) rfl (x_fdiv ⟨by decide, by decide⟩)) x_sub))).trans ?_
      refine expr_ok (d := .non) (meth_ok (var_ok rfl) rcv_last (one_ok (asV_ok (lst_ok (cons_ok (var_ok rfl) (one_ok (bin_ok (var_ok rfl) (var_ok rfl) x_add))) (by show 2 ≤ sizeLine; decide)))) ((ext_last (by simp; omega)).trans ?_))
      simp
    · rw [List.append_assoc]; rfl
  | A, [], acc, o3, o4, o5, _ => ⟨o3, o4, o5, by
    have e1 : zipD (I A) (I []) = [] := by cases A <;> rfl
    have e2 : low2 A [] = [] := by cases A <;> rfl
    rw [e1, e2, List.append_nil]; exact for_nil⟩
  | [], d :: D, acc, o3, o4, o5, _ => ⟨o3, o4, o5, by
    rw [show low2 [] (d :: D) = [] from rfl, List.append_nil]; exact for_nil⟩
theorem lowered_ok (hS : clS S.length S = true) (A D : List Int) (hl : D.length ≤ A.length) (hz : A.length ≤ 5000) : m_lowered [.tup (I A), .tup (I D)] S = .ok (.tup (I (lower A D))) S := by
  obtain ⟨a, b, c, h⟩ := low_loop (S := S) (xs := zipD (I A) (I D)) (o0 := some (.tup (I A))) (o1 := some (.tup (I D))) A D [] none none none (by simp; omega)
  rw [List.nil_append] at h
  have h2 := low2_len A D
  refine (retV_ok (d := .tup (I (lower A D))) (d' := .tup (I (lower A D))) (S' := S ++ [.lst (I (lower A D))]) (run_rt (e' := [some (.tup (I A)), some (.tup (I D)), some (.loc S.length), a, b, c]) ?_) (by simpa using hS) ?_).trans (by simp)
  · show b_lowered [some (.tup (I A)), some (.tup (I D)), none, none, none, none] S = _
    unfold b_lowered
    refine (seq_nx (set_ok (asL_ok (lst_ok rfl (Nat.zero_le _))))).trans ((seq_nx (for_ok (S1 := S ++ [.lst (I [])]) (src_zipT (cons_ok (var_ok rfl) (one_ok (var_ok rfl)))) h)).trans ?_)
    have hs : dSlice (.tup (I A)) (some (D.length : Int)) none (S ++ [.lst (I (low2 A D))]) = some (.tup (I (A.drop D.length))) := by
      show some (M.D.tup (cutD (A.map M.D.int) (some (D.length : Int)) none)) = _
      rw [cutD_map, cut_from]
    have s2 : sExpr (mMeth "list" gExtend (mVar 2) (mCons (mSlice (mVar 0) (mPart (mCall dLen (mCons (mVar 1) mNil))) mNo) mNil)) [some (.tup (I A)), some (.tup (I D)), some (.loc S.length), a, b, c] (S ++ [.lst (I (low2 A D))]) = some (.nx, [some (.tup (I A)), some (.tup (I D)), some (.loc S.length), a, b, c], S ++ [.lst (I (lower A D))]) := by
      refine expr_ok (d := .non) (meth_ok (var_ok rfl) rcv_last (one_ok (slice_ok (var_ok rfl) (part_ok (k := (D.length : Int)) (call_ok (one_ok (var_ok rfl)) (len_tup.trans (by rw [List.length_map])))) rfl hs)) ((ext_tup (by simp; omega)).trans ?_))
      rw [low2_eq A D hl, I, I, I, List.map_append]
    exact (seq_nx s2).trans (ret_ok (call_ok (one_ok (var_ok rfl)) (tup_at (get_last _ _))))
  · simp only [fz, cl, cls_I, if_true]
/-! towers -/
theorem number_ok {x a b : Int} (h : clS S.length S = true) : m_is_number [.int x, .int a, .int b] S = .ok (.bl (decide (a ≤ x ∧ x ≤ b))) S := by
  refine retV_id ?_ h rfl
  by_cases h1 : a ≤ x
  · simp [runF, b_is_number, dIsInst, tyName, isT, h1]
  · simp [runF, b_is_number, dIsInst, tyName, isT, h1]
theorem levels_ok (hS : clS S.length S = true) {n : Nat} (hn : n ≤ 6) : m_check_levels [.int (n : Int)] S = .ok .non S := by
  have h1 : mNot (mTru (mCallF 3 m_is_number (mCons (mVar 0) (mCons (mC (.int 0)) (mCons (mC (.int 6)) mNil))))) [some (.int (n : Int))] S = .ok false S := by
    rw [x_mNot, x_mTru, callF_ok (cons_ok (var_ok rfl) (cons_ok rfl (one_ok rfl))) ((number_ok hS).trans (by rw [decide_eq_true (by omega)]))]
    rfl
  refine retV_id ?_ hS rfl
  show runF 1 b_check_levels [.int (n : Int)] S = _
  have : b_check_levels [some (.int (n : Int))] S = some (.nx, [some (.int (n : Int))], S) := if_skip h1
  unfold runF
  rw [show ([D.int (n : Int)].map some ++ List.replicate (1 - [D.int (n : Int)].length) none) = [some (.int (n : Int))] from rfl, this]
abbrev Rws (rs : List (List Int)) : List D := rs.map fun r => D.tup (I r)
theorem cls_Rws (n : Nat) (rs : List (List Int)) : cls n (Rws rs) = true := by
  induction rs with
  | nil => rfl
  | cons r rs ih => simp only [List.map_cons, cls, cl, cls_I, ih, Bool.and_true]
theorem tow_loop {xs : List D} {o1 : Option D} : ∀ (ds : List D) (r : List Int) (acc : List (List Int)) (o3 o4 : Option D), r.length ≤ 5000 → acc.length + ds.length ≤ 1000 → clS S.length S = true → ∃ o3' o4',
    M.forM ⟨xs, []⟩ (gN 3) l_tower_1 ds [some (.tup (I r)), o1, some (.loc S.length), o3, o4] (S ++ [.lst (Rws acc)]) =
      some (.nx, [some (.tup (I (tow ds.length r).1)), o1, some (.loc S.length), o3', o4'], S ++ [.lst (Rws (acc ++ (tow ds.length r).2))])
  | [], r, acc, o3, o4, _, _, _ => ⟨o3, o4, by
    rw [show (tow [].length r).2 = [] from rfl, List.append_nil]; exact for_nil⟩
  | d :: ds, r, acc, o3, o4, hz, hn, hS => by
    simp only [List.length_cons] at hn
    have hl := lift_len r
    obtain ⟨a, b, h⟩ := tow_loop (xs := xs) (o1 := o1) ds (lift r).1 (acc ++ [(lift r).2]) (some d) (some (.tup (I (lift r).2))) (by omega) (by simp; omega) hS
    have hS2 : clS (S ++ [OB.lst (Rws acc)]).length (S ++ [OB.lst (Rws acc)]) = true := clS_push hS (cls_Rws _ _)
    refine ⟨a, b, (for_cons (e1 := [some (.tup (I r)), o1, some (.loc S.length), some d, o4]) (e2 := [some (.tup (I (lift r).1)), o1, some (.loc S.length), some d, some (.tup (I (lift r).2))]) rfl ?_).trans (h.trans ?_)⟩
    · unfold l_tower_1
      refine (seq_nx (setg_ok (callF_ok (one_ok (var_ok rfl)) (lifted_ok hS2 r hz)) rfl)).trans ?_
      refine expr_ok (d := .non) (meth_ok (var_ok rfl) rcv_last (one_ok (var_ok rfl)) ((app_last (by rw [List.length_map]; omega)).trans ?_))
      simp
    · rw [List.append_assoc]; rfl
abbrev TW (p : List Int × List (List Int)) : D := .tup [.tup (I p.1), .tup (Rws p.2)]
theorem tower_ok (hS : clS S.length S = true) (r : List Int) {n : Nat} (hn : n ≤ 6) (hz : r.length ≤ 5000) : m_tower [.tup (I r), .int (n : Int)] S = .ok (TW (tow n r)) S := by
  obtain ⟨a, b, h⟩ := tow_loop (S := S) (xs := rng 0 n) (o1 := some (.int (n : Int))) (rng 0 n) r [] none none hz (by rw [rng_len]; simp; omega) hS
  rw [rng_len, List.nil_append] at h
  refine (retV_ok (d := TW (tow n r)) (d' := TW (tow n r)) (S' := S ++ [.lst (Rws (tow n r).2)]) (run_rt (e' := [some (.tup (I (tow n r).1)), some (.int (n : Int)), some (.loc S.length), a, b]) ?_) (by simpa using hS) ?_).trans (by simp)
  · show b_tower [some (.tup (I r)), some (.int (n : Int)), none, none, none] S = _
    unfold b_tower
    refine (seq_nx (expr_ok (callF_ok (one_ok (var_ok rfl)) (levels_ok hS hn)))).trans ?_
    refine (seq_nx (set_ok (asL_ok (lst_ok rfl (Nat.zero_le _))))).trans ?_
    have hsrc : mSrcA srcR1 (mCons (mVar 1) mNil) [some (.tup (I r)), some (.int (n : Int)), some (.loc S.length), none, none] (S ++ [.lst (Rws [])]) = .ok ⟨rng 0 n, []⟩ (S ++ [.lst (Rws [])]) := src_rng' n (by omega) (var_ok rfl)
    exact (seq_nx (for_ok hsrc h)).trans (ret_ok (tup_ok (cons_ok (var_ok rfl) (one_ok (call_ok (one_ok (var_ok rfl)) (tup_at (get_last _ _))))) (by show 2 ≤ sizeLine; decide)))
  · simp only [fz, cl, cls, cls_I, cls_Rws, Bool.and_true, if_true]
end
end M.Lf


set_option Elab.async false
set_option linter.all false
set_option maxRecDepth 100000
set_option maxHeartbeats 4000000
/-! Rows told back, planes left out: what the functions come to. -/
namespace M.Lf
open PySem PySem.Spec PyProof.Rows L2 M
theorem row_foldl : ∀ (ds : List (List Int)) (s : List Int), rowOf s ds = ds.reverse.foldl lower s
  | [], s => rfl
  | d :: ds, s => by
    show lower (rowOf s ds) d = _
    rw [List.reverse_cons, List.foldl_append, row_foldl ds s]
    rfl
/-- the lengths of a tower over a row of k -/
def Lens : Nat → List (List Int) → List Int → Prop
  | k, [], s => s.length = k
  | k, d :: ds, s => d.length = k / 2 ∧ Lens ((k + 1) / 2) ds s
theorem lens_tow : ∀ (n : Nat) (r : List Int), Lens r.length (tow n r).2 (tow n r).1
  | 0, r => rfl
  | n + 1, r => by
    have hl := lift_len r
    refine ⟨hl.2, ?_⟩
    rw [← hl.1]
    exact lens_tow n (lift r).1
theorem lens_lean : ∀ (ds : List (List Int)) (ps : List Nat) (k : Nat) (s : List Int), ds.length = ps.length → Lens k ds s → Lens k (leanRows ds ps) s
  | [], [], k, s, _, h => h
  | d :: ds, p :: ps, k, s, h, f => ⟨by rw [List.length_map]; exact f.1, lens_lean ds ps _ s (by simpa using h) f.2⟩
  | [], _ :: _, _, _, h, _ => by simp at h
  | _ :: _, [], _, _, h, _ => by simp at h
theorem lens_len : ∀ (ds : List (List Int)) (k : Nat) (s : List Int), Lens k ds s → (rowOf s ds).length = k
  | [], k, s, h => h
  | d :: ds, k, s, h => by
    have ih := lens_len ds _ s h.2
    show (lower (rowOf s ds) d).length = k
    rw [lower_len _ _ (by rw [ih, h.1]; omega), ih, h.1]
    omega
def OkL : List (List Int) → List Int → Prop
  | [], _ => True
  | d :: es, s => (d.length ≤ s.length ∧ s.length ≤ 5000) ∧ OkL es (lower s d)
theorem okL_snoc : ∀ (es : List (List Int)) (s d : List Int), OkL es s → d.length ≤ (es.foldl lower s).length → (es.foldl lower s).length ≤ 5000 → OkL (es ++ [d]) s
  | [], s, d, _, h1, h2 => ⟨⟨h1, h2⟩, trivial⟩
  | e :: es, s, d, h, h1, h2 => ⟨h.1, okL_snoc es (lower s e) d h.2 h1 h2⟩
theorem okL_of : ∀ (ds : List (List Int)) (k : Nat) (s : List Int), Lens k ds s → k ≤ 5000 → OkL ds.reverse s
  | [], k, s, _, _ => trivial
  | d :: ds, k, s, h, hk => by
    have hl := lens_len ds _ s h.2
    rw [row_foldl] at hl
    rw [List.reverse_cons]
    exact okL_snoc _ _ _ (okL_of ds _ s h.2 (by omega)) (by rw [hl, h.1]; omega) (by rw [hl]; omega)
section
variable [Tabs]
variable {S : Store}
theorem row_loop (hS : clS S.length S = true) {xs : List D} {o0 : Option D} : ∀ (es : List (List Int)) (s : List Int) (o2 : Option D), OkL es s → ∃ o2',
    M.forM ⟨xs, []⟩ (gN 2) l_row_of_1 (Rws es) [o0, some (.tup (I s)), o2] S = some (.nx, [o0, some (.tup (I (es.foldl lower s))), o2'], S)
  | [], s, o2, _ => ⟨o2, for_nil⟩
  | d :: es, s, o2, h => by
    obtain ⟨a, h2⟩ := row_loop hS (xs := xs) (o0 := o0) es (lower s d) (some (.tup (I d))) h.2
    exact ⟨a, (for_cons (e1 := [o0, some (.tup (I s)), some (.tup (I d))]) (e2 := [o0, some (.tup (I (lower s d))), some (.tup (I d))]) rfl (set_ok (callF_ok (cons_ok (var_ok rfl) (one_ok (var_ok rfl))) (lowered_ok hS s d h.1.1 h.1.2)))).trans h2⟩
theorem row_of_ok (hS : clS S.length S = true) (s : List Int) (ds : List (List Int)) {k : Nat} (h : Lens k ds s) (hk : k ≤ 5000) : m_row_of [TW (s, ds)] S = .ok (.tup (I (rowOf s ds))) S := by
  obtain ⟨a, h2⟩ := row_loop hS (xs := Rws ds.reverse) (o0 := some (TW (s, ds))) ds.reverse s none (okL_of ds k s h hk)
  rw [← row_foldl] at h2
  refine retV_id (run_rt (e' := [some (TW (s, ds)), some (.tup (I (rowOf s ds))), a]) ?_) hS (by simp only [cl, cls_I])
  show b_row_of [some (TW (s, ds)), none, none] S = _
  unfold b_row_of
  refine (seq_nx (set_ok (bin_ok (v := .int ((0 : Nat) : Int)) (var_ok rfl) rfl (ix_tup [.tup (I s), .tup (Rws ds)] 0 _ _ rfl)))).trans ?_
  have hsrc : mSrc (mUn dRev (mBin dIx (mVar 0) (mC (.int 1)))) [some (TW (s, ds)), some (.tup (I s)), none] S = .ok ⟨Rws ds.reverse, []⟩ S := by
    have h1 : mBin dIx (mVar 0) (mC (.int 1)) [some (TW (s, ds)), some (.tup (I s)), none] S = .ok (.tup (Rws ds)) S := bin_ok (v := .int ((1 : Nat) : Int)) (var_ok rfl) rfl (ix_tup [.tup (I s), .tup (Rws ds)] 1 _ _ rfl)
    refine src_tup (xs := Rws ds.reverse) ?_
    rw [x_mUn, h1, Res.bind_ok]
    show Res.of (dRev (.tup (Rws ds)) S) S = _
    have : dRev (.tup (Rws ds)) S = some (.tup (Rws ds).reverse) := rfl
    rw [this, Rws, Rws, List.map_reverse]
    rfl
  exact (seq_nx (for_ok hsrc h2)).trans (ret_ok (var_ok rfl))
theorem lean_ok (hS : clS S.length S = true) (n : Int) {p : Nat} (hp : p ≤ 4) : m_lean [.int n, .int (p : Int)] S = .ok (.int (lean n p)) S := by
  by_cases h0 : p = 0
  · subst h0
    refine retV_id (run_rt (e' := [some (.int n), some (.int ((0 : Nat) : Int)), none]) ?_) hS rfl
    show b_lean [some (.int n), some (.int ((0 : Nat) : Int)), none] S = _
    refine seq_rt ((if_t (b_ok (bin_ok (var_ok rfl) rfl (x_eqI.trans ?_)))).trans (ret_ok (var_ok rfl)))
    rfl
  · have h1 : mB (mBin dEq (mVar 1) (mC (.int 0))) [some (.int n), some (.int (p : Int)), none] S = .ok false S := b_ok (bin_ok (var_ok rfl) rfl (x_eqI.trans (by rw [decide_eq_false (by omega)])))
    obtain ⟨q, hq, hq2, hl⟩ : ∃ q : Int, dShl (.int 1) (.int (p : Int)) S = some (.int q) ∧ (2 ≤ q ∧ q ≤ 16) ∧ lean n p = n / q * q + q / 2 := by
      have : p = 1 ∨ p = 2 ∨ p = 3 ∨ p = 4 := by omega
      rcases this with rfl | rfl | rfl | rfl
      · exact ⟨2, by rfl, by decide, rfl⟩
      · exact ⟨4, by rfl, by decide, rfl⟩
      · exact ⟨8, by rfl, by decide, rfl⟩
      · exact ⟨16, by rfl, by decide, rfl⟩
    refine retV_id (run_rt (e' := [some (.int n), some (.int (p : Int)), some (.int q)]) ?_) hS rfl
    show b_lean [some (.int n), some (.int (p : Int)), none] S = _
    refine (seq_nx (if_skip h1)).trans ((seq_nx (set_ok (bin_ok rfl (var_ok rfl) hq))).trans (ret_ok ?_))
    rw [hl]
    exact bin_ok (bin_ok (bin_ok (var_ok rfl) (var_ok rfl) (x_fdiv ⟨by omega, by omega⟩)) (var_ok rfl) (x_mul (.inr (by omega)))) (bin_ok (var_ok rfl) rfl (x_fdiv ⟨by decide, by decide⟩)) x_add
theorem lean_row_ok (hS : clS S.length S = true) (r : List Int) {p : Nat} (hp : p ≤ 4) (hz : r.length ≤ 5000) : m_lean_row [.tup (I r), .int (p : Int)] S = .ok (.tup (I (r.map (lean · p)))) S := by
  refine ret_fn hS (tuple_ok ((x_mLc' (src_tup (xs := I r) (var_ok rfl)) (by rw [List.length_map]; omega)).trans ?_)) (by simp only [cl, cls_I])
  have := lc_map (S := S) (xs := I r) (t := gN 2) (me := e_lean_row_1) (e := wipeE [some (.tup (I r)), some (.int (p : Int)), none] [2]) D.int (fun n => D.int (lean n p)) r fun n hn => ⟨_, rfl, callF_ok (cons_ok (var_ok rfl) (one_ok (var_ok rfl))) (lean_ok hS n hp)⟩
  refine Eq.trans this ?_
  show Res.ok (List.map (fun n => D.int (lean n p)) r) S = Res.ok (List.map D.int (r.map (lean · p))) S
  rw [List.map_map]
  rfl
abbrev N (ps : List Nat) : List D := ps.map fun (p : Nat) => D.int (p : Int)
theorem are_planes_ok (hS : clS S.length S = true) {ps : List Nat} (h : ∀ p ∈ ps, p ≤ 4) (hl : ps.length ≤ 6) : m_are_planes [.tup (N ps)] S = .ok (.bl true) S := by
  refine retV_id (run_rt (e' := [some (.tup (N ps)), none]) ?_) hS rfl
  show b_are_planes [some (.tup (N ps)), none] S = _
  refine (seq_nx (if_skip (or_ff rfl (b_ok (bin_ok (call_ok (one_ok (var_ok rfl)) len_tup) rfl (x_gt.trans (by rw [decide_eq_false (by rw [List.length_map]; omega)]))))))).trans (ret_ok ?_)
  refine all_ok (xs := N ps) (src_tup (var_ok rfl)) (all_map (fun p : Nat => D.int (p : Int)) ps fun p hp => ⟨_, rfl, ?_⟩)
  exact callF_ok (cons_ok (var_ok rfl) (cons_ok rfl (one_ok rfl))) ((number_ok hS).trans (by rw [decide_eq_true (by have := h p hp; omega)]))
theorem check_none (hS : clS S.length S = true) {ps : List Nat} (h : ∀ p ∈ ps, p ≤ 4) (hl : ps.length ≤ 6) : m_check_planes [.tup (N ps), .non] S = .ok .non S := by
  refine retV_id ?_ hS rfl
  have h1 : b_check_planes [some (.tup (N ps)), some .non] S = some (.nx, [some (.tup (N ps)), some .non], S) := by
    refine if_skip (or_ff ?_ ?_)
    · rw [x_mNot, x_mTru, callF_ok (one_ok (var_ok rfl)) (are_planes_ok hS h hl)]; rfl
    · rw [x_mAnd, b_ok (c := false) (bin_ok (var_ok (d := .non) rfl) rfl rfl)]; rfl
  show runF 2 b_check_planes [.tup (N ps), .non] S = _
  unfold runF
  rw [show ([D.tup (N ps), .non].map some ++ List.replicate (2 - [D.tup (N ps), .non].length) none) = [some (.tup (N ps)), some .non] from rfl, h1]
theorem check_len (hS : clS S.length S = true) {ps : List Nat} (h : ∀ p ∈ ps, p ≤ 4) (hl : ps.length ≤ 6) : m_check_planes [.tup (N ps), .int (ps.length : Int)] S = .ok .non S := by
  refine retV_id ?_ hS rfl
  have h1 : b_check_planes [some (.tup (N ps)), some (.int (ps.length : Int))] S = some (.nx, [some (.tup (N ps)), some (.int (ps.length : Int))], S) := by
    refine if_skip (or_ff ?_ ?_)
    · rw [x_mNot, x_mTru, callF_ok (one_ok (var_ok rfl)) (are_planes_ok hS h hl)]; rfl
    · rw [x_mAnd, b_ok (c := true) (bin_ok (var_ok (d := .int (ps.length : Int)) rfl) rfl rfl), Res.bind_ok, if_pos rfl]
      exact ne_ff (call_ok (one_ok (var_ok rfl)) len_tup) (var_ok rfl) (neI (by rw [List.length_map]))
  show runF 2 b_check_planes [.tup (N ps), .int (ps.length : Int)] S = _
  unfold runF
  rw [show ([D.tup (N ps), .int (ps.length : Int)].map some ++ List.replicate (2 - [D.tup (N ps), .int (ps.length : Int)].length) none) = [some (.tup (N ps)), some (.int (ps.length : Int))] from rfl, h1]
theorem leanRows_zip : ∀ (ds : List (List Int)) (ps : List Nat), leanRows ds ps = (ds.zip ps).map fun x => x.1.map (lean · x.2)
  | [], ps => by simp [leanRows]
  | d :: ds, [] => by simp [leanRows]
  | d :: ds, p :: ps => by rw [leanRows_cons, leanRows_zip ds ps]; rfl
theorem lean_tower_ok (hS : clS S.length S = true) (s : List Int) (ds : List (List Int)) {ps : List Nat} (h : ∀ p ∈ ps, p ≤ 4) (hl : ps.length ≤ 6) (he : ds.length = ps.length) (hz : ∀ d ∈ ds, d.length ≤ 5000) : m_lean_tower [TW (s, ds), .tup (N ps)] S = .ok (TW (s, leanRows ds ps)) S := by
  refine retV_id (run_rt (e' := [some (TW (s, ds)), some (.tup (N ps)), none, none]) ?_) hS (by simp only [cl, cls, cls_I, cls_Rws, Bool.and_true])
  show b_lean_tower [some (TW (s, ds)), some (.tup (N ps)), none, none] S = _
  have v0 : ∀ e : M.Env, e[0]? = some (some (TW (s, ds))) → mBin dIx (mVar 0) (mC (.int 0)) e S = .ok (.tup (I s)) S := fun e h => bin_ok (v := .int ((0 : Nat) : Int)) (var_ok h) rfl (ix_tup [.tup (I s), .tup (Rws ds)] 0 _ _ rfl)
  have v1 : ∀ e : M.Env, e[0]? = some (some (TW (s, ds))) → mBin dIx (mVar 0) (mC (.int 1)) e S = .ok (.tup (Rws ds)) S := fun e h => bin_ok (v := .int ((1 : Nat) : Int)) (var_ok h) rfl (ix_tup [.tup (I s), .tup (Rws ds)] 1 _ _ rfl)
  have hc := check_len hS h hl
  rw [← he] at hc
  have s1 : sExpr (mCallF 2 m_check_planes (mCons (mVar 1) (mCons (mCall dLen (mCons (mBin dIx (mVar 0) (mC (.int 1))) mNil)) mNil))) [some (TW (s, ds)), some (.tup (N ps)), none, none] S = some (.nx, [some (TW (s, ds)), some (.tup (N ps)), none, none], S) :=
    expr_ok (callF_ok (cons_ok (var_ok rfl) (one_ok (call_ok (one_ok (v1 _ rfl)) (len_tup.trans (by rw [List.length_map]))))) hc)
  refine (seq_nx s1).trans (ret_ok (tup_ok (cons_ok (v0 _ rfl) (one_ok (tuple_ok ?_))) (by show 2 ≤ sizeLine; decide)))
  have hzip : zipD (Rws ds) (N ps) = (ds.zip ps).map fun x => D.tup [.tup (I x.1), .int (x.2 : Int)] := zip_map (fun r => D.tup (I r)) (fun (p : Nat) => D.int (p : Int)) ds ps
  refine (x_mLc' (src_zipT (cons_ok (v1 _ rfl) (one_ok (var_ok rfl)))) (by rw [zipD_length, List.length_map, List.length_map]; omega)).trans ?_
  show lcM ⟨zipD (Rws ds) (N ps), []⟩ _ _ _ _ (zipD (Rws ds) (N ps)) S = _
  rw [hzip, leanRows_zip]
  have := lc_map (S := S) (xs := (ds.zip ps).map fun x => D.tup [.tup (I x.1), .int (x.2 : Int)]) (t := gTup 2 (gCons (gN 2) (gCons (gN 3) gNil))) (me := e_lean_tower_1) (e := wipeE [some (TW (s, ds)), some (.tup (N ps)), none, none] [2, 3]) (fun (x : List Int × Nat) => D.tup [.tup (I x.1), .int (x.2 : Int)]) (fun x => D.tup (I (x.1.map (lean · x.2)))) (ds.zip ps) fun x hx => by
    obtain ⟨h1, h2⟩ := List.of_mem_zip hx
    exact ⟨[some (TW (s, ds)), some (.tup (N ps)), some (.tup (I x.1)), some (.int (x.2 : Int))], rfl, callF_ok (cons_ok (var_ok rfl) (one_ok (var_ok rfl))) (lean_row_ok hS x.1 (h x.2 h2) (hz x.1 h1))⟩
  refine Eq.trans this ?_
  show Res.ok (List.map (fun (x : List Int × Nat) => D.tup (I (x.1.map (lean · x.2)))) (ds.zip ps)) S = Res.ok (List.map (fun r => D.tup (I r)) ((ds.zip ps).map fun x => x.1.map (lean · x.2))) S
  rw [List.map_map]
  rfl
theorem lens_le : ∀ (ds : List (List Int)) (k : Nat) (s : List Int), Lens k ds s → ∀ d ∈ ds, d.length ≤ k
  | [], k, s, _, d, h => by simp at h
  | e :: ds, k, s, f, d, h => by
    rcases List.mem_cons.mp h with rfl | h
    · rw [f.1]; omega
    · cases k with
      | zero => have := lens_le ds _ s f.2 d h; omega
      | succ k => have := lens_le ds _ s f.2 d h; omega
theorem shown_row_ok (hS : clS S.length S = true) (r : List Int) {ps : List Nat} (h : ∀ p ∈ ps, p ≤ 4) (hl : ps.length ≤ 6) (hz : r.length ≤ 5000) : m_shown_row [.tup (I r), .tup (N ps)] S = .ok (.tup (I (shown r ps))) S := by
  have f := lens_tow ps.length r
  have ht := tow_len ps.length r
  refine retV_id (run_rt (e' := [some (.tup (I r)), some (.tup (N ps))]) ?_) hS (by simp only [cl, cls_I])
  show b_shown_row [some (.tup (I r)), some (.tup (N ps))] S = _
  refine (seq_nx (expr_ok (callF_ok (cons_ok (var_ok rfl) (one_ok rfl)) (check_none hS h hl)))).trans (ret_ok ?_)
  refine callF_ok (one_ok (callF_ok (cons_ok (callF_ok (cons_ok (var_ok rfl) (one_ok (call_ok (one_ok (var_ok rfl)) (len_tup.trans (by rw [List.length_map]))))) (tower_ok hS r (n := ps.length) hl hz)) (one_ok (var_ok rfl))) (lean_tower_ok hS (tow ps.length r).1 (tow ps.length r).2 h hl ht fun d hd => ?_))) ?_
  · have := lens_le _ _ _ f d hd; omega
  · exact row_of_ok hS _ _ (lens_lean _ _ _ _ ht f) hz
end
end M.Lf


set_option Elab.async false
set_option linter.all false
set_option maxRecDepth 100000
set_option maxHeartbeats 4000000
/-! How far shown rows are off, plainly. -/
namespace M.Lf
/-- least and most of a list -/
def lo : List Int → Int
  | [] => 0
  | x :: xs => xs.foldl min x
def hi : List Int → Int
  | [] => 0
  | x :: xs => xs.foldl max x
def rests (p : Nat) : List Int := (List.range (2 ^ p)).map fun (r : Nat) => (r : Int)
def lo1 (p : Nat) : Int := lo ((rests p).map (off1 · p))
def hi1 (p : Nat) : Int := hi ((rests p).map (off1 · p))
def lo2 (p : Nat) : Int := lo ((rests p).map (off2 · p))
def hi2 (p : Nat) : Int := hi ((rests p).map (off2 · p))
def least (p : Nat) : Int := min (lo1 p) (lo2 p)
def most (p : Nat) : Int := max (hi1 p) (hi2 p)
theorem small_off : ∀ p ≤ 4, (least p ≤ 0 ∧ 0 ≤ most p) ∧ ∀ r ∈ rests p, (least p ≤ off1 r p ∧ off1 r p ≤ most p) ∧ least p ≤ off2 r p ∧ off2 r p ≤ most p := by
  intro p hp
  have : p = 0 ∨ p = 1 ∨ p = 2 ∨ p = 3 ∨ p = 4 := by omega
  rcases this with rfl | rfl | rfl | rfl | rfl <;> decide
theorem rest_mem (d : Int) (p : Nat) : d % 2 ^ p ∈ rests p := by
  have h0 : (0 : Int) < 2 ^ p := Int.pow_pos (by decide)
  have h1 := Int.emod_nonneg d (show (2 : Int) ^ p ≠ 0 by omega)
  have h2 := Int.emod_lt_of_pos d h0
  obtain ⟨k, hk⟩ := Int.eq_ofNat_of_zero_le h1
  refine List.mem_map.mpr ⟨k, List.mem_range.mpr ?_, hk.symm⟩
  have : (k : Int) < ((2 ^ p : Nat) : Int) := by rw [← hk, Int.natCast_pow]; exact h2
  omega
theorem off_near (d : Int) {p : Nat} (hp : p ≤ 4) : (least p ≤ off1 d p ∧ off1 d p ≤ most p) ∧ least p ≤ off2 d p ∧ off2 d p ≤ most p := by
  have h := off_rest d p hp
  rw [h.1, h.2]
  exact (small_off p hp).2 _ (rest_mem d p)
theorem near_wide : ∀ {a b a' b' : Int} {x y : List Int}, Near a b x y → a' ≤ a → b ≤ b' → Near a' b' x y
  | _, _, _, _, [], [], _, _, _ => trivial
  | _, _, _, _, u :: x, v :: y, h, h1, h2 => ⟨by have := h.1; omega, near_wide h.2 h1 h2⟩
  | _, _, _, _, [], _ :: _, h, _, _ => h.elim
  | _, _, _, _, _ :: _, [], h, _, _ => h.elim
theorem near_lower {a b : Int} {p : Nat} (hp : p ≤ 4) : ∀ (X Y d : List Int), Near a b X Y → Near (a + least p) (b + most p) (lower X (d.map (lean · p))) (lower Y d)
  | x :: X, y :: Y, e :: d, h => by
    have ih := near_lower hp X Y d h.2
    have ho := off_near e hp
    have h1 := h.1
    show Near _ _ (lower (x :: X) (lean e p :: d.map (lean · p))) (lower (y :: Y) (e :: d))
    rw [lower_cons, lower_cons]
    unfold off2 off1 at ho
    exact ⟨by omega, by omega, ih⟩
  | X, Y, [], h => by
    have hs := (small_off p hp).1
    rw [List.map_nil, lower_nil, lower_nil]
    exact near_wide h (by omega) (by omega)
  | [], [], _ :: _, _ => trivial
  | [], _ :: _, _ :: _, h => h.elim
  | _ :: _, [], _ :: _, h => h.elim
def leastS (ps : List Nat) : Int := (ps.map least).sum
def mostS (ps : List Nat) : Int := (ps.map most).sum
theorem near_rows : ∀ (ds : List (List Int)) (ps : List Nat) (s : List Int), ds.length = ps.length → (∀ p ∈ ps, p ≤ 4) → Near (leastS ps) (mostS ps) (rowOf s (leanRows ds ps)) (rowOf s ds)
  | [], [], s, _, _ => near_refl s
  | d :: ds, p :: ps, s, h, hp => by
    have ih := near_rows ds ps s (by simpa using h) fun q hq => hp q (List.mem_cons_of_mem _ hq)
    have := near_lower (hp p (by simp)) (rowOf s (leanRows ds ps)) (rowOf s ds) d ih
    refine near_wide this ?_ ?_
    · show (least p + leastS ps : Int) ≤ _; omega
    · show _ ≤ (most p + mostS ps : Int); omega
  | [], _ :: _, _, h, _ => by simp at h
  | _ :: _, [], _, h, _ => by simp at h
/-- a shown row is no further off than the bounds tell -/
theorem shown_near (r : List Int) (ps : List Nat) (h : ∀ p ∈ ps, p ≤ 4) : Near (leastS ps) (mostS ps) (shown r ps) r := by
  have := near_rows (tow ps.length r).2 ps (tow ps.length r).1 (tow_len _ _) h
  rw [row_tow] at this
  exact this
end M.Lf


set_option Elab.async false
set_option linter.all false
set_option maxRecDepth 100000
set_option maxHeartbeats 4000000
/-! Bounds of rows: what the functions come to. -/
namespace M.Lf
open PySem PySem.Spec PyProof.Rows L2 M
section
variable [Tabs]
variable {S : Store}
theorem min_ok {l : List Int} (h : l ≠ []) : dMin [.lst (I l)] S = some (.int (lo l)) := by
  obtain ⟨x, xs, rfl⟩ := List.exists_cons_of_ne_nil h
  show (((seqOf S (.lst (I (x :: xs)))).bind intsOf).bind minI).map D.int = _
  have : seqOf S (.lst (I (x :: xs))) = some (I (x :: xs)) := rfl
  rw [this, Option.bind_some, ints_I, Option.bind_some]
  rfl
theorem max_ok {l : List Int} (h : l ≠ []) : dMax [.lst (I l)] S = some (.int (hi l)) := by
  obtain ⟨x, xs, rfl⟩ := List.exists_cons_of_ne_nil h
  show (((seqOf S (.lst (I (x :: xs)))).bind intsOf).bind maxI).map D.int = _
  have : seqOf S (.lst (I (x :: xs))) = some (I (x :: xs)) := rfl
  rw [this, Option.bind_some, ints_I, Option.bind_some]
  rfl
theorem sum_ok {l : List Int} : dSum [.lst (I l)] S = some (.int l.sum) := by
  show ((seqOf S (.lst (I l))).bind intsOf).map _ = _
  have : seqOf S (.lst (I l)) = some (I l) := rfl
  rw [this, Option.bind_some, ints_I]
  rfl
theorem plane_ok (hS : clS S.length S = true) {p : Nat} (hp : p ≤ 4) : m_check_plane [.int (p : Int)] S = .ok .non S := by
  have h1 : mNot (mTru (mCallF 3 m_is_number (mCons (mVar 0) (mCons (mC (.int 0)) (mCons (mC (.int 4)) mNil))))) [some (.int (p : Int))] S = .ok false S := by
    rw [x_mNot, x_mTru, callF_ok (cons_ok (var_ok rfl) (cons_ok rfl (one_ok rfl))) ((number_ok hS).trans (by rw [decide_eq_true (by omega)]))]
    rfl
  refine retV_id ?_ hS rfl
  have h2 : b_check_plane [some (.int (p : Int))] S = some (.nx, [some (.int (p : Int))], S) := if_skip h1
  show runF 1 b_check_plane [.int (p : Int)] S = _
  unfold runF
  rw [show ([D.int (p : Int)].map some ++ List.replicate (1 - [D.int (p : Int)].length) none) = [some (.int (p : Int))] from rfl, h2]
theorem pair_ok (hS : clS S.length S = true) (d : Int) {p : Nat} (hp : p ≤ 4) : m_pair_offsets [.int d, .int (p : Int)] S = .ok (.tup [.int (off1 d p), .int (off2 d p)]) S := by
  refine retV_id (run_rt (e' := [some (.int d), some (.int (p : Int)), some (.int (off1 d p))]) ?_) hS rfl
  show b_pair_offsets [some (.int d), some (.int (p : Int)), none] S = _
  have c : ∀ e : M.Env, e[0]? = some (some (.int d)) → e[1]? = some (some (.int (p : Int))) → mCallF 2 m_lean (mCons (mVar 0) (mCons (mVar 1) mNil)) e S = .ok (.int (lean d p)) S := fun e h0 h1 => callF_ok (cons_ok (var_ok h0) (one_ok (var_ok h1))) (lean_ok hS d hp)
  refine (seq_nx (set_ok (bin_ok (bin_ok (var_ok rfl) rfl (x_fdiv ⟨by decide, by decide⟩)) (bin_ok (c _ rfl rfl) rfl (x_fdiv ⟨by decide, by decide⟩)) x_sub))).trans (ret_ok ?_)
  exact tup_ok (cons_ok (var_ok rfl) (one_ok (bin_ok (bin_ok (var_ok rfl) (c _ rfl rfl) x_add) (var_ok rfl) x_sub))) (by show 2 ≤ sizeLine; decide)
abbrev spD (p : Nat) : D := .tup [.tup [.int (lo1 p), .int (hi1 p)], .tup [.int (lo2 p), .int (hi2 p)]]
theorem rests_ne (p : Nat) (f : Int → Int) : (rests p).map f ≠ [] := by
  have : 0 < 2 ^ p := Nat.pow_pos (by decide)
  intro h
  have := congrArg List.length h
  simp [rests] at this
theorem spans_ok (hS : clS S.length S = true) {p : Nat} (hp : p ≤ 4) : m_spans [.int (p : Int)] S = .ok (spD p) S := by
  have hlen : (rests p).length = 2 ^ p := by simp [rests]
  have h16 : 2 ^ p ≤ 16 := Nat.pow_le_pow_right (by decide) hp
  have hshl : dShl (.int 1) (.int (p : Int)) S = some (.int ((2 ^ p : Nat) : Int)) := by
    have : p = 0 ∨ p = 1 ∨ p = 2 ∨ p = 3 ∨ p = 4 := by omega
    rcases this with rfl | rfl | rfl | rfl | rfl <;> rfl
  have hrng : rng 0 (2 ^ p) = I (rests p) := by rw [rng_map, rests, I, List.map_map]; rfl
  generalize hT : ((rests p).map fun r => D.tup [.int (off1 r p), .int (off2 r p)]) = T
  have hTl : T.length ≤ 16 := by rw [← hT, List.length_map, hlen]; exact h16
  have s1 : sSet (gN 1) (asV (mLc (mSrcA srcR1 (mCons (mBin dShl (mC (.int 1)) (mVar 0)) mNil)) (gN 2) mYes e_spans_1 [2])) [some (.int (p : Int)), none, none, none, none] S = some (.nx, [some (.int (p : Int)), some (.lst T), none, none, none], S) := by
    refine set_ok (asV_ok ((x_mLc' (src_rng' (2 ^ p) (by omega) (bin_ok rfl (var_ok rfl) hshl)) (by rw [rng_len]; omega)).trans ?_))
    rw [hrng, ← hT]
    exact lc_map (S := S) (xs := I (rests p)) (t := gN 2) (me := e_spans_1) (e := wipeE [some (.int (p : Int)), none, none, none, none] [2]) D.int (fun r => D.tup [.int (off1 r p), .int (off2 r p)]) (rests p) fun r hr => ⟨_, rfl, callF_ok (cons_ok (var_ok rfl) (one_ok (var_ok rfl))) (pair_ok hS r hp)⟩
  have inner : ∀ (w : Nat) (f : Int → Int) (me : ME) (e : M.Env), e[1]? = some (some (.lst T)) → (∀ r : Int, me ((wipeE e [3]).set 3 (some (.tup [.int (off1 r p), .int (off2 r p)]))) S = .ok (.int (f r)) S) → asV (mLc (mSrc (mVar 1)) (gN 3) mYes me [3]) e S = .ok (.lst (I ((rests p).map f))) S := by
    intro w f me e h1 h
    refine asV_ok ((x_mLc' (src_lst (var_ok h1)) (by omega)).trans ?_)
    rw [← hT]
    have := lc_map (S := S) (xs := (rests p).map fun r => D.tup [.int (off1 r p), .int (off2 r p)]) (t := gN 3) (me := me) (e := wipeE e [3]) (fun r => D.tup [.int (off1 r p), .int (off2 r p)]) (fun r => D.int (f r)) (rests p) fun r hr => ⟨_, rfl, h r⟩
    refine Eq.trans this ?_
    show Res.ok (List.map (fun r => D.int (f r)) (rests p)) S = Res.ok (List.map D.int ((rests p).map f)) S
    rw [List.map_map]
    rfl
  have s2 : mCall dTuple (mCons (asV (mLc (mSrcA srcR1 (mCons (mC (.int 2)) mNil)) (gN 4) mYes e_spans_4 [4])) mNil) [some (.int (p : Int)), some (.lst T), none, none, none] S = .ok (spD p) S := by
    refine tuple_ok ((x_mLc' (src_rng 2 (by decide) rfl) (by rw [rng_len]; decide)).trans ?_)
    have := lc_map (S := S) (xs := rng 0 2) (t := gN 4) (me := e_spans_4) (e := wipeE [some (.int (p : Int)), some (.lst T), none, none, none] [4]) (fun (w : Nat) => D.int (w : Int)) (fun w => if w = 0 then D.tup [.int (lo1 p), .int (hi1 p)] else D.tup [.int (lo2 p), .int (hi2 p)]) [0, 1] fun w hw => by
      refine ⟨[some (.int (p : Int)), some (.lst T), none, none, some (.int (w : Int))], rfl, ?_⟩
      simp only [List.mem_cons, List.not_mem_nil, or_false] at hw
      rcases hw with rfl | rfl
      · exact tup_ok (cons_ok (call_ok (one_ok (inner 0 (off1 · p) e_spans_3 _ rfl fun r => bin_ok (v := .int ((0 : Nat) : Int)) (var_ok rfl) (var_ok rfl) (ix_tup [.int (off1 r p), .int (off2 r p)] 0 _ _ rfl))) (min_ok (rests_ne p _))) (one_ok (call_ok (one_ok (inner 0 (off1 · p) e_spans_2 _ rfl fun r => bin_ok (v := .int ((0 : Nat) : Int)) (var_ok rfl) (var_ok rfl) (ix_tup [.int (off1 r p), .int (off2 r p)] 0 _ _ rfl))) (max_ok (rests_ne p _))))) (by show 2 ≤ sizeLine; decide)
      · exact tup_ok (cons_ok (call_ok (one_ok (inner 1 (off2 · p) e_spans_3 _ rfl fun r => bin_ok (v := .int ((1 : Nat) : Int)) (var_ok rfl) (var_ok rfl) (ix_tup [.int (off1 r p), .int (off2 r p)] 1 _ _ rfl))) (min_ok (rests_ne p _))) (one_ok (call_ok (one_ok (inner 1 (off2 · p) e_spans_2 _ rfl fun r => bin_ok (v := .int ((1 : Nat) : Int)) (var_ok rfl) (var_ok rfl) (ix_tup [.int (off1 r p), .int (off2 r p)] 1 _ _ rfl))) (max_ok (rests_ne p _))))) (by show 2 ≤ sizeLine; decide)
    exact this
  refine retV_id (run_rt (e' := [some (.int (p : Int)), some (.lst T), none, none, none]) ?_) hS (by simp [cl, cls])
  show b_spans [some (.int (p : Int)), none, none, none, none] S = _
  exact (seq_nx (expr_ok (callF_ok (one_ok (var_ok rfl)) (plane_ok hS hp)))).trans ((seq_nx s1).trans (ret_ok s2))
theorem sums_ok (hS : clS S.length S = true) (ps : List Nat) (hl : ps.length ≤ 100) : m_sums_of [.lst (ps.map spD)] S = .ok (.tup [.int (leastS ps), .int (mostS ps)]) S := by
  have row : ∀ (p : Nat) (f : D → D) (me : ME) (e : M.Env) (x y : Int), e[3]? = some (some (spD p)) → me ((wipeE e [2]).set 2 (some (.tup [.int (lo1 p), .int (hi1 p)]))) S = .ok (.int x) S → me ((wipeE e [2]).set 2 (some (.tup [.int (lo2 p), .int (hi2 p)]))) S = .ok (.int y) S → asV (mLc (mSrc (mVar 3)) (gN 2) mYes me [2]) e S = .ok (.lst (I [x, y])) S := by
    intro p f me e x y h3 hx hy
    refine asV_ok ((x_mLc' (src_tup (var_ok h3)) (by simp)).trans ?_)
    have := lc_map (S := S) (xs := [.tup [.int (lo1 p), .int (hi1 p)], .tup [.int (lo2 p), .int (hi2 p)]]) (t := gN 2) (me := me) (e := wipeE e [2]) (fun (w : Bool) => if w then D.tup [.int (lo2 p), .int (hi2 p)] else D.tup [.int (lo1 p), .int (hi1 p)]) (fun w => if w then D.int y else D.int x) [false, true] fun w hw => by
      cases w
      · exact ⟨_, rfl, hx⟩
      · exact ⟨_, rfl, hy⟩
    exact this
  have col : ∀ (me : ME) (g : Nat → Int) (e : M.Env), e[0]? = some (some (.lst (ps.map spD))) → (∀ p : Nat, me ((wipeE e [3]).set 3 (some (spD p))) S = .ok (.int (g p)) S) → asV (mLc (mSrc (mVar 0)) (gN 3) mYes me [3]) e S = .ok (.lst (I (ps.map g))) S := by
    intro me g e h0 h
    refine asV_ok ((x_mLc' (src_lst (var_ok h0)) (by rw [List.length_map]; omega)).trans ?_)
    have := lc_map (S := S) (xs := ps.map spD) (t := gN 3) (me := me) (e := wipeE e [3]) spD (fun p => D.int (g p)) ps fun p hp => ⟨_, rfl, h p⟩
    refine Eq.trans this ?_
    show Res.ok (List.map (fun p => D.int (g p)) ps) S = Res.ok (List.map D.int (ps.map g)) S
    rw [List.map_map]
    rfl
  have i0 : ∀ (x y : Int) (e : M.Env), e[2]? = some (some (.tup [.int x, .int y])) → mBin dIx (mVar 2) (mC (.int 0)) e S = .ok (.int x) S := fun x y e h => bin_ok (v := .int ((0 : Nat) : Int)) (var_ok h) rfl (ix_tup [.int x, .int y] 0 _ _ rfl)
  have i1 : ∀ (x y : Int) (e : M.Env), e[2]? = some (some (.tup [.int x, .int y])) → mBin dIx (mVar 2) (mC (.int 1)) e S = .ok (.int y) S := fun x y e h => bin_ok (v := .int ((1 : Nat) : Int)) (var_ok h) rfl (ix_tup [.int x, .int y] 1 _ _ rfl)
  refine retV_id (run_rt (e' := [some (.lst (ps.map spD)), some (.int (leastS ps)), none, none]) ?_) hS rfl
  show b_sums_of [some (.lst (ps.map spD)), none, none, none] S = _
  refine (seq_nx (set_ok (call_ok (one_ok (col e_sums_of_2 least _ rfl fun p => ?_)) sum_ok))).trans (ret_ok (tup_ok (cons_ok (var_ok rfl) (one_ok (call_ok (one_ok (col e_sums_of_4 most _ rfl fun p => ?_)) sum_ok))) (by show 2 ≤ sizeLine; decide)))
  · exact call_ok (one_ok (row p id e_sums_of_1 _ (lo1 p) (lo2 p) rfl (i0 _ _ _ rfl) (i0 _ _ _ rfl))) (min_ok (by simp))
  · exact call_ok (one_ok (row p id e_sums_of_3 _ (hi1 p) (hi2 p) rfl (i1 _ _ _ rfl) (i1 _ _ _ rfl))) (max_ok (by simp))
theorem bounds_ok (hS : clS S.length S = true) {ps : List Nat} (h : ∀ p ∈ ps, p ≤ 4) (hl : ps.length ≤ 6) : m_bounds [.tup (N ps)] S = .ok (.tup [.int (leastS ps), .int (mostS ps)]) S := by
  refine retV_id (run_rt (e' := [some (.tup (N ps)), none]) ?_) hS rfl
  show b_bounds [some (.tup (N ps)), none] S = _
  refine (seq_nx (expr_ok (callF_ok (cons_ok (var_ok rfl) (one_ok rfl)) (check_none hS h hl)))).trans (ret_ok (callF_ok (one_ok (asV_ok ((x_mLc' (src_tup (xs := N ps) (var_ok rfl)) (by rw [List.length_map]; omega)).trans ?_))) (sums_ok hS ps (by omega))))
  exact lc_map (S := S) (xs := N ps) (t := gN 1) (me := e_bounds_1) (e := wipeE [some (.tup (N ps)), none] [1]) (fun (p : Nat) => D.int (p : Int)) spD ps fun p hp => ⟨_, rfl, callF_ok (one_ok (var_ok rfl)) (spans_ok hS (h p hp))⟩
end
end M.Lf


set_option Elab.async false
set_option linter.all false
set_option maxRecDepth 100000
set_option maxHeartbeats 4000000
/-! Fields lifted, plainly: a field is a function of row and column. -/
namespace M.Lf
abbrev Fld := Nat → Nat → Int
def S1 (f : Nat → Int) (j : Nat) : Int := f (2 * j) + (f (2 * j + 1) - f (2 * j)) / 2
def D1 (f : Nat → Int) (j : Nat) : Int := f (2 * j + 1) - f (2 * j)
def L1 (s d : Nat → Int) (j : Nat) : Int := if j % 2 = 0 then s (j / 2) - d (j / 2) / 2 else s (j / 2) - d (j / 2) / 2 + d (j / 2)
theorem L1_id (f : Nat → Int) (j : Nat) : L1 (S1 f) (D1 f) j = f j := by
  unfold L1 S1 D1
  rcases Nat.mod_two_eq_zero_or_one j with h | h
  · rw [if_pos h, show 2 * (j / 2) = j by omega]; omega
  · rw [if_neg (by omega), show 2 * (j / 2) + 1 = j by omega]; omega
def SR (F : Fld) : Fld := fun i j => S1 (F i) j
def DR (F : Fld) : Fld := fun i j => D1 (F i) j
def SC (F : Fld) : Fld := fun i j => S1 (fun k => F k j) i
def DC (F : Fld) : Fld := fun i j => D1 (fun k => F k j) i
def LR (s d : Fld) : Fld := fun i j => L1 (s i) (d i) j
def LC (s d : Fld) : Fld := fun i j => L1 (fun k => s k j) (fun k => d k j) i
theorem LR_id (F : Fld) : LR (SR F) (DR F) = F := funext fun i => funext fun j => L1_id (F i) j
theorem LC_id (F : Fld) : LC (SC F) (DC F) = F := funext fun i => funext fun j => L1_id (fun k => F k j) i
def leanF (p : Nat) (F : Fld) : Fld := fun i j => lean (F i j) p
/-- the field that is shown with these planes left out -/
def shF : List Nat → Fld → Fld
  | [], F => F
  | p :: ps, F => LR (LC (shF ps (SC (SR F))) (leanF p (DC (SR F)))) (LC (leanF p (SC (DR F))) (leanF p (DC (DR F))))
def up (m : Int) (F : Fld) : Fld := fun i j => F i j + m
theorem SR_up (m : Int) (F : Fld) : SR (up m F) = up m (SR F) := funext fun i => funext fun j => by
  show S1 (up m F i) j = S1 (F i) j + m
  unfold S1 up
  rw [show F i (2 * j + 1) + m - (F i (2 * j) + m) = F i (2 * j + 1) - F i (2 * j) by omega]
  omega
theorem DR_up (m : Int) (F : Fld) : DR (up m F) = DR F := funext fun i => funext fun j => by
  show D1 (up m F i) j = D1 (F i) j
  unfold D1 up
  omega
theorem SC_up (m : Int) (F : Fld) : SC (up m F) = up m (SC F) := funext fun i => funext fun j => by
  show S1 (fun k => up m F k j) i = S1 (fun k => F k j) i + m
  unfold S1 up
  show F (2 * i) j + m + ((F (2 * i + 1) j + m) - (F (2 * i) j + m)) / 2 = F (2 * i) j + (F (2 * i + 1) j - F (2 * i) j) / 2 + m
  rw [show F (2 * i + 1) j + m - (F (2 * i) j + m) = F (2 * i + 1) j - F (2 * i) j by omega]
  omega
theorem DC_up (m : Int) (F : Fld) : DC (up m F) = DC F := funext fun i => funext fun j => by
  show F (2 * i + 1) j + m - (F (2 * i) j + m) = F (2 * i + 1) j - F (2 * i) j
  omega
theorem LR_up (m : Int) (s d : Fld) : LR (up m s) d = up m (LR s d) := funext fun i => funext fun j => by
  show L1 (up m s i) (d i) j = L1 (s i) (d i) j + m
  unfold L1 up
  split <;> omega
theorem LC_up (m : Int) (s d : Fld) : LC (up m s) d = up m (LC s d) := funext fun i => funext fun j => by
  show L1 (fun k => up m s k j) (fun k => d k j) i = L1 (fun k => s k j) (fun k => d k j) i + m
  unfold L1 up
  dsimp only
  split <;> omega
theorem shF_up (m : Int) : ∀ (ps : List Nat) (F : Fld), shF ps (up m F) = up m (shF ps F)
  | [], F => rfl
  | p :: ps, F => by
    unfold shF
    rw [SR_up, DR_up, SC_up, DC_up, shF_up m ps, LC_up, LR_up]
theorem leanF_zero (F : Fld) : leanF 0 F = F := rfl
theorem shF_zero : ∀ (n : Nat) (F : Fld), shF (List.replicate n 0) F = F
  | 0, F => rfl
  | n + 1, F => by
    show LR (LC (shF (List.replicate n 0) (SC (SR F))) (leanF 0 (DC (SR F)))) (LC (leanF 0 (SC (DR F))) (leanF 0 (DC (DR F)))) = F
    rw [shF_zero n, leanF_zero, leanF_zero, leanF_zero, LC_id, LC_id, LR_id]
/-- a block of the field tells its own block of the shown field -/
theorem shF_local : ∀ (ps : List Nat) (F G : Fld) (i j : Nat), (∀ i' j', i' / 2 ^ ps.length = i / 2 ^ ps.length → j' / 2 ^ ps.length = j / 2 ^ ps.length → F i' j' = G i' j') → shF ps F i j = shF ps G i j
  | [], F, G, i, j, h => h i j rfl rfl
  | p :: ps, F, G, i, j, h => by
    have hp : 2 ^ (p :: ps).length = 2 * 2 ^ ps.length := by rw [List.length_cons, Nat.pow_succ, Nat.mul_comm]
    rw [hp] at h
    have blk : ∀ a b : Nat, a / 2 ^ ps.length = i / 2 / 2 ^ ps.length → b / 2 ^ ps.length = j / 2 / 2 ^ ps.length → ∀ x y, x < 2 → y < 2 → F (2 * a + x) (2 * b + y) = G (2 * a + x) (2 * b + y) := by
      intro a b ha hb x y hx hy
      refine h _ _ ?_ ?_
      · rw [← Nat.div_div_eq_div_mul, ← Nat.div_div_eq_div_mul, show (2 * a + x) / 2 = a by omega]; exact ha
      · rw [← Nat.div_div_eq_div_mul, ← Nat.div_div_eq_div_mul, show (2 * b + y) / 2 = b by omega]; exact hb
    have at_ : ∀ a b : Nat, a / 2 ^ ps.length = i / 2 / 2 ^ ps.length → b / 2 ^ ps.length = j / 2 / 2 ^ ps.length → SC (SR F) a b = SC (SR G) a b ∧ DC (SR F) a b = DC (SR G) a b ∧ SC (DR F) a b = SC (DR G) a b ∧ DC (DR F) a b = DC (DR G) a b := by
      intro a b ha hb
      have q := blk a b ha hb
      have q00 := q 0 0 (by decide) (by decide)
      have q01 := q 0 1 (by decide) (by decide)
      have q10 := q 1 0 (by decide) (by decide)
      have q11 := q 1 1 (by decide) (by decide)
      simp only [Nat.add_zero] at q00 q01 q10
      simp only [SC, DC, SR, DR, S1, D1, q00, q01, q10, q11, and_self]
    have ih := shF_local ps (SC (SR F)) (SC (SR G)) (i / 2) (j / 2) fun a b ha hb => (at_ a b ha hb).1
    have hh := at_ (i / 2) (j / 2) rfl rfl
    unfold shF
    simp only [LR, LC, L1, leanF, ih, hh.2.1, hh.2.2.1, hh.2.2.2]
/-- moved by whole blocks -/
def mvF (a b : Nat) (F : Fld) : Fld := fun i j => F (a + i) (b + j)
theorem shF_mv : ∀ (ps : List Nat) (F : Fld) (a b : Nat), shF ps (mvF (2 ^ ps.length * a) (2 ^ ps.length * b) F) = mvF (2 ^ ps.length * a) (2 ^ ps.length * b) (shF ps F)
  | [], F, a, b => rfl
  | p :: ps, F, a, b => by
    have hp : 2 ^ (p :: ps).length = 2 * 2 ^ ps.length := by rw [List.length_cons, Nat.pow_succ, Nat.mul_comm]
    rw [hp, Nat.mul_assoc, Nat.mul_assoc]
    generalize hA : 2 ^ ps.length * a = A
    generalize hB : 2 ^ ps.length * b = B
    have e1 : SC (SR (mvF (2 * A) (2 * B) F)) = mvF A B (SC (SR F)) := funext fun i => funext fun j => by
      simp only [SC, SR, S1, mvF, Nat.mul_add, Nat.add_assoc]
    have e2 : DC (SR (mvF (2 * A) (2 * B) F)) = mvF A B (DC (SR F)) := funext fun i => funext fun j => by
      simp only [DC, SR, S1, D1, mvF, Nat.mul_add, Nat.add_assoc]
    have e3 : SC (DR (mvF (2 * A) (2 * B) F)) = mvF A B (SC (DR F)) := funext fun i => funext fun j => by
      simp only [SC, DR, S1, D1, mvF, Nat.mul_add, Nat.add_assoc]
    have e4 : DC (DR (mvF (2 * A) (2 * B) F)) = mvF A B (DC (DR F)) := funext fun i => funext fun j => by
      simp only [DC, DR, D1, mvF, Nat.mul_add, Nat.add_assoc]
    have ih := shF_mv ps (SC (SR F)) a b
    rw [hA, hB] at ih
    unfold shF
    rw [e1, e2, e3, e4, ih]
    funext i j
    have h1 : (2 * A + i) / 2 = A + i / 2 := by omega
    have h2 : (2 * A + i) % 2 = i % 2 := by omega
    have h3 : (2 * B + j) / 2 = B + j / 2 := by omega
    have h4 : (2 * B + j) % 2 = j % 2 := by omega
    simp only [LR, LC, L1, leanF, mvF, h1, h2, h3, h4]
end M.Lf


set_option Elab.async false
set_option linter.all false
set_option maxRecDepth 100000
set_option maxHeartbeats 4000000
/-! Fields side by side and one over the other: shown in their own parts. -/
namespace M.Lf
def besF (w : Nat) (F G : Fld) : Fld := fun i j => if j < w then F i j else G i (j - w)
def overF (h : Nat) (F G : Fld) : Fld := fun i j => if i < h then F i j else G (i - h) j
theorem lt_block {q b j j' : Nat} (hq : 0 < q) (h : j < q * b) (e : j' / q = j / q) : j' < q * b := by
  rw [Nat.mul_comm] at h ⊢
  rw [← Nat.div_lt_iff_lt_mul hq] at h ⊢
  rw [e]; exact h
theorem shF_bes (ps : List Nat) (b : Nat) (F G : Fld) : shF ps (besF (2 ^ ps.length * b) F G) = besF (2 ^ ps.length * b) (shF ps F) (shF ps G) := by
  have hq : 0 < 2 ^ ps.length := Nat.two_pow_pos _
  funext i j
  by_cases h : j < 2 ^ ps.length * b
  · show _ = if j < 2 ^ ps.length * b then shF ps F i j else _
    rw [if_pos h]
    refine shF_local ps _ _ i j fun i' j' _ hj => ?_
    exact if_pos (lt_block hq h hj)
  · show _ = if j < 2 ^ ps.length * b then shF ps F i j else shF ps G i (j - 2 ^ ps.length * b)
    rw [if_neg h]
    obtain ⟨k, rfl⟩ : ∃ k, j = 2 ^ ps.length * b + k := ⟨j - 2 ^ ps.length * b, by omega⟩
    have e := congrFun (congrFun (shF_mv ps (besF (2 ^ ps.length * b) F G) 0 b) i) k
    have m : mvF (2 ^ ps.length * 0) (2 ^ ps.length * b) (besF (2 ^ ps.length * b) F G) = G := by
      funext x y
      show (if 2 ^ ps.length * b + y < 2 ^ ps.length * b then _ else G (2 ^ ps.length * 0 + x) (2 ^ ps.length * b + y - 2 ^ ps.length * b)) = G x y
      rw [if_neg (by omega), Nat.mul_zero, Nat.zero_add, Nat.add_sub_cancel_left]
    rw [m] at e
    rw [Nat.add_sub_cancel_left, e]
    show _ = shF ps _ (2 ^ ps.length * 0 + i) (2 ^ ps.length * b + k)
    rw [Nat.mul_zero, Nat.zero_add]
theorem shF_over (ps : List Nat) (b : Nat) (F G : Fld) : shF ps (overF (2 ^ ps.length * b) F G) = overF (2 ^ ps.length * b) (shF ps F) (shF ps G) := by
  have hq : 0 < 2 ^ ps.length := Nat.two_pow_pos _
  funext i j
  by_cases h : i < 2 ^ ps.length * b
  · show _ = if i < 2 ^ ps.length * b then shF ps F i j else _
    rw [if_pos h]
    refine shF_local ps _ _ i j fun i' j' hi _ => ?_
    exact if_pos (lt_block hq h hi)
  · show _ = if i < 2 ^ ps.length * b then shF ps F i j else shF ps G (i - 2 ^ ps.length * b) j
    rw [if_neg h]
    obtain ⟨k, rfl⟩ : ∃ k, i = 2 ^ ps.length * b + k := ⟨i - 2 ^ ps.length * b, by omega⟩
    have e := congrFun (congrFun (shF_mv ps (overF (2 ^ ps.length * b) F G) b 0) k) j
    have m : mvF (2 ^ ps.length * b) (2 ^ ps.length * 0) (overF (2 ^ ps.length * b) F G) = G := by
      funext x y
      show (if 2 ^ ps.length * b + x < 2 ^ ps.length * b then _ else G (2 ^ ps.length * b + x - 2 ^ ps.length * b) (2 ^ ps.length * 0 + y)) = G x y
      rw [if_neg (by omega), Nat.mul_zero, Nat.zero_add, Nat.add_sub_cancel_left]
    rw [m] at e
    rw [Nat.add_sub_cancel_left, e]
    show _ = shF ps _ (2 ^ ps.length * b + k) (2 ^ ps.length * 0 + j)
    rw [Nat.mul_zero, Nat.zero_add]
end M.Lf


set_option Elab.async false
set_option linter.all false
set_option maxRecDepth 100000
set_option maxHeartbeats 4000000
/-! How far shown fields are off, plainly. -/
namespace M.Lf
theorem foldl_min : ∀ (xs : List Int) (a : Int), xs.foldl min a ≤ a ∧ ∀ x ∈ xs, xs.foldl min a ≤ x
  | [], a => ⟨Int.le_refl _, fun _ h => nomatch h⟩
  | y :: ys, a => by
    have h := foldl_min ys (min a y)
    show ys.foldl min (min a y) ≤ a ∧ ∀ x ∈ y :: ys, ys.foldl min (min a y) ≤ x
    refine ⟨by omega, fun x hx => ?_⟩
    rcases List.mem_cons.mp hx with rfl | hx
    · omega
    · exact h.2 x hx
theorem foldl_max : ∀ (xs : List Int) (a : Int), a ≤ xs.foldl max a ∧ ∀ x ∈ xs, x ≤ xs.foldl max a
  | [], a => ⟨Int.le_refl _, fun _ h => nomatch h⟩
  | y :: ys, a => by
    have h := foldl_max ys (max a y)
    show a ≤ ys.foldl max (max a y) ∧ ∀ x ∈ y :: ys, x ≤ ys.foldl max (max a y)
    refine ⟨by omega, fun x hx => ?_⟩
    rcases List.mem_cons.mp hx with rfl | hx
    · omega
    · exact h.2 x hx
theorem lo_le : ∀ {l : List Int} {x : Int}, x ∈ l → lo l ≤ x
  | y :: ys, x, h => by
    rcases List.mem_cons.mp h with rfl | h
    · exact (foldl_min ys _).1
    · exact (foldl_min ys y).2 x h
theorem le_hi : ∀ {l : List Int} {x : Int}, x ∈ l → x ≤ hi l
  | y :: ys, x, h => by
    rcases List.mem_cons.mp h with rfl | h
    · exact (foldl_max ys _).1
    · exact (foldl_max ys y).2 x h
/-- the offset of a place of a square (0 left above, 1 right above, 2 left below, 3 right below) -/
def sq (p k : Nat) (one other : Int) : Int :=
  let first := if k / 2 = 0 then one - other / 2 else one - other / 2 + other
  let second := if k / 2 = 0 then lean one p - lean other p / 2 else lean one p - lean other p / 2 + lean other p
  let left := first / 2 - second / 2
  if k % 2 = 0 then left else left + second - first
def offK (p k : Nat) (d : Int) : Int := if k / 2 = 0 then off1 d p else off2 d p
def sides (p k : Nat) : List Int := (rests (p + 1)).map (offK p k)
def squares (p k : Nat) : List Int := (rests (p + 1)).flatMap fun one => (rests (p + 1)).map fun other => sq p k one other
def lo4 (p k : Nat) : Int := lo (sides p k) + lo (squares p k)
def hi4 (p k : Nat) : Int := hi (sides p k) + hi (squares p k)
def leastF (p : Nat) : Int := lo [lo4 p 0, lo4 p 1, lo4 p 2, lo4 p 3]
def mostF (p : Nat) : Int := hi [hi4 p 0, hi4 p 1, hi4 p 2, hi4 p 3]
theorem lean_wide (x : Int) {p : Nat} (hp : p ≤ 4) : ∃ m : Int, x = x % 2 ^ (p + 1) + 2 * m ∧ lean x p = lean (x % 2 ^ (p + 1)) p + 2 * m ∧ ∃ n, m = 2 ^ p * n := by
  refine ⟨2 ^ p * (x / 2 ^ (p + 1)), ?_, ?_, _, rfl⟩
  · have h := Int.emod_add_mul_ediv x (2 ^ (p + 1))
    rw [show (2 : Int) ^ (p + 1) * (x / 2 ^ (p + 1)) = 2 * (2 ^ p * (x / 2 ^ (p + 1))) by rw [Int.pow_succ, Int.mul_comm (2 ^ p) 2, Int.mul_assoc]] at h
    exact h.symm
  · have : p = 0 ∨ p = 1 ∨ p = 2 ∨ p = 3 ∨ p = 4 := by omega
    have l1 : ∀ x : Int, lean x 1 = x / 2 * 2 + 1 := fun x => rfl
    have l2 : ∀ x : Int, lean x 2 = x / 4 * 4 + 2 := fun x => rfl
    have l3 : ∀ x : Int, lean x 3 = x / 8 * 8 + 4 := fun x => rfl
    have l4 : ∀ x : Int, lean x 4 = x / 16 * 16 + 8 := fun x => rfl
    have l0 : ∀ x : Int, lean x 0 = x := fun x => rfl
    rcases this with rfl | rfl | rfl | rfl | rfl
    · show lean x 0 = lean (x % 2) 0 + 2 * (1 * (x / 2)); rw [l0, l0]; omega
    · show lean x 1 = lean (x % 4) 1 + 2 * (2 * (x / 4)); rw [l1, l1]; omega
    · show lean x 2 = lean (x % 8) 2 + 2 * (4 * (x / 8)); rw [l2, l2]; omega
    · show lean x 3 = lean (x % 16) 3 + 2 * (8 * (x / 16)); rw [l3, l3]; omega
    · show lean x 4 = lean (x % 32) 4 + 2 * (16 * (x / 32)); rw [l4, l4]; omega
theorem sq_rest (one other : Int) {p : Nat} (hp : p ≤ 4) (k : Nat) : sq p k one other = sq p k (one % 2 ^ (p + 1)) (other % 2 ^ (p + 1)) := by
  by_cases p0 : p = 0
  · subst p0
    have l0 : ∀ x : Int, lean x 0 = x := fun x => rfl
    unfold sq
    simp only [l0]
    split <;> split <;> omega
  obtain ⟨m, h1, h2, -⟩ := lean_wide one hp
  obtain ⟨n, h3, h4, w, hw⟩ := lean_wide other hp
  obtain ⟨z, hz⟩ : ∃ z, n = 2 * z := ⟨2 ^ (p - 1) * w, by
    rw [hw]
    obtain ⟨q, rfl⟩ : ∃ q, p = q + 1 := ⟨p - 1, by omega⟩
    rw [Nat.add_sub_cancel, Int.pow_succ, Int.mul_comm (2 ^ q) 2, Int.mul_assoc]⟩
  clear hw
  subst hz
  generalize one % 2 ^ (p + 1) = x at h1 h2 ⊢
  generalize other % 2 ^ (p + 1) = y at h3 h4 ⊢
  subst h1 h3
  unfold sq
  rw [h2, h4]
  generalize lean x p = u
  generalize lean y p = v
  dsimp only
  split <;> split <;> omega
theorem offK_rest (d : Int) {p : Nat} (hp : p ≤ 4) (k : Nat) : offK p k d = offK p k (d % 2 ^ (p + 1)) := by
  obtain ⟨m, h1, h2, -⟩ := lean_wide d hp
  generalize d % 2 ^ (p + 1) = x at h1 h2 ⊢
  subst h1
  unfold offK off2 off1
  rw [h2]
  split <;> omega
theorem side_mem (d : Int) {p : Nat} (hp : p ≤ 4) (k : Nat) : offK p k d ∈ sides p k := by
  rw [offK_rest d hp]
  exact List.mem_map.mpr ⟨_, rest_mem d (p + 1), rfl⟩
theorem square_mem (one other : Int) {p : Nat} (hp : p ≤ 4) (k : Nat) : sq p k one other ∈ squares p k := by
  rw [sq_rest one other hp]
  exact List.mem_flatMap.mpr ⟨_, rest_mem one (p + 1), List.mem_map.mpr ⟨_, rest_mem other (p + 1), rfl⟩⟩
theorem place_near (d u v : Int) {p : Nat} (hp : p ≤ 4) {k : Nat} (hk : k < 4) : leastF p ≤ offK p k d + sq p k u v ∧ offK p k d + sq p k u v ≤ mostF p := by
  have a1 := lo_le (side_mem d hp k)
  have a2 := le_hi (side_mem d hp k)
  have b1 := lo_le (square_mem u v hp k)
  have b2 := le_hi (square_mem u v hp k)
  have c1 : leastF p ≤ lo4 p k := lo_le (by have : k = 0 ∨ k = 1 ∨ k = 2 ∨ k = 3 := by omega
                                            rcases this with rfl | rfl | rfl | rfl <;> simp)
  have c2 : hi4 p k ≤ mostF p := le_hi (by have : k = 0 ∨ k = 1 ∨ k = 2 ∨ k = 3 := by omega
                                           rcases this with rfl | rfl | rfl | rfl <;> simp)
  unfold lo4 at c1
  unfold hi4 at c2
  omega
def NearF (a b : Int) (F G : Fld) : Prop := ∀ i j, a ≤ F i j - G i j ∧ F i j - G i j ≤ b
theorem nearF_step {a b : Int} {p : Nat} (hp : p ≤ 4) (T s d u v : Fld) (h : NearF a b T s) :
    NearF (leastF p + a) (mostF p + b) (LR (LC T (leanF p d)) (LC (leanF p u) (leanF p v))) (LR (LC s d) (LC u v)) := by
  intro i j
  have hk : 2 * (i % 2) + j % 2 < 4 := by omega
  have e := place_near (d (i / 2) (j / 2)) (u (i / 2) (j / 2)) (v (i / 2) (j / 2)) hp hk
  have hh := h (i / 2) (j / 2)
  simp only [LR, LC, L1, leanF]
  unfold offK off2 off1 sq at e
  rcases Nat.mod_two_eq_zero_or_one i with hi | hi <;> rcases Nat.mod_two_eq_zero_or_one j with hj | hj <;> rw [hi, hj] at e <;> rw [hi, hj] <;> simp at e ⊢ <;> omega
def leastFS (ps : List Nat) : Int := (ps.map leastF).sum
def mostFS (ps : List Nat) : Int := (ps.map mostF).sum
/-- a shown field is no further off than the bounds tell -/
theorem shF_near : ∀ (ps : List Nat) (F : Fld), (∀ p ∈ ps, p ≤ 4) → NearF (leastFS ps) (mostFS ps) (shF ps F) F
  | [], F, _ => fun i j => by
    show (0 : Int) ≤ F i j - F i j ∧ F i j - F i j ≤ 0
    omega
  | p :: ps, F, h => by
    have ih := shF_near ps (SC (SR F)) fun q hq => h q (List.mem_cons_of_mem _ hq)
    have := nearF_step (h p (by simp)) _ _ (DC (SR F)) (SC (DR F)) (DC (DR F)) ih
    rw [LC_id, LC_id, LR_id] at this
    exact this
end M.Lf


set_option Elab.async false
set_option linter.all false
set_option maxRecDepth 100000
set_option maxHeartbeats 4000000
/-! Rows and fields as lists of what a function tells. -/
namespace M.Lf
theorem cg2 {α β γ : Type} {f : α → β → γ} {a a' : α} {b b' : β} (h : a = a') (k : b = b') : f a b = f a' b' := by rw [h, k]
def rowL (f : Nat → Int) (w : Nat) : List Int := (List.range w).map f
def fldL (F : Fld) (h w : Nat) : List (List Int) := (List.range h).map fun i => rowL (F i) w
theorem rowL_succ (f : Nat → Int) (n : Nat) : rowL f (n + 1) = f 0 :: rowL (fun j => f (j + 1)) n := by
  unfold rowL
  rw [List.range_succ_eq_map, List.map_cons, List.map_map]; rfl
theorem rowL_len (f : Nat → Int) (n : Nat) : (rowL f n).length = n := by simp [rowL]
theorem fldL_len (F : Fld) (h w : Nat) : (fldL F h w).length = h := by simp [fldL]
theorem rowL_map (g : Int → Int) (f : Nat → Int) (n : Nat) : (rowL f n).map g = rowL (fun j => g (f j)) n := by
  unfold rowL; rw [List.map_map]; rfl
theorem rowL_of (r : List Int) : rowL (fun j => r.getD j 0) r.length = r := by
  induction r with
  | nil => rfl
  | cons x r ih => rw [List.length_cons, rowL_succ]; exact cg2 rfl ih
theorem rowL_congr {f g : Nat → Int} {n : Nat} (h : ∀ j < n, f j = g j) : rowL f n = rowL g n :=
  List.map_congr_left fun j hj => h j (List.mem_range.mp hj)
theorem fldL_congr {F G : Fld} {h w : Nat} (e : ∀ i < h, ∀ j < w, F i j = G i j) : fldL F h w = fldL G h w :=
  List.map_congr_left fun i hi => rowL_congr (e i (List.mem_range.mp hi))
theorem fldL_of (R : List (List Int)) (w : Nat) (h : ∀ r ∈ R, r.length = w) : fldL (fun i j => (R.getD i []).getD j 0) R.length w = R := by
  unfold fldL
  refine List.ext_getElem (by simp) fun i h1 h2 => ?_
  rw [List.getElem_map, List.getElem_range]
  have : R.getD i [] = R[i] := by simp [List.getD, h2]
  show rowL (fun j => (R.getD i []).getD j 0) w = R[i]
  rw [this, ← h _ (List.getElem_mem h2)]
  exact rowL_of _
theorem lift_rowL : ∀ (n : Nat) (f : Nat → Int), lift (rowL f (2 * n)) = (rowL (S1 f) n, rowL (D1 f) n)
  | 0, f => rfl
  | n + 1, f => by
    rw [show 2 * (n + 1) = 2 * n + 1 + 1 by omega, rowL_succ, rowL_succ, lift_cons, lift_rowL n, rowL_succ (S1 f), rowL_succ (D1 f)]
    rfl
theorem lower_rowL : ∀ (n : Nat) (s d : Nat → Int), lower (rowL s n) (rowL d n) = rowL (L1 s d) (2 * n)
  | 0, s, d => rfl
  | n + 1, s, d => by
    rw [rowL_succ s, rowL_succ d, lower_cons, lower_rowL n, show 2 * (n + 1) = 2 * n + 1 + 1 by omega, rowL_succ (L1 s d), rowL_succ]
    refine cg2 rfl (cg2 rfl (rowL_congr fun j _ => ?_))
    unfold L1
    rw [show (j + 1 + 1) % 2 = j % 2 by omega, show (j + 1 + 1) / 2 = j / 2 + 1 by omega]
/-- columns for rows -/
def flipF (F : Fld) : Fld := fun i j => F j i
theorem SC_flip (F : Fld) : SC F = flipF (SR (flipF F)) := rfl
theorem DC_flip (F : Fld) : DC F = flipF (DR (flipF F)) := rfl
theorem LC_flip (s d : Fld) : LC s d = flipF (LR (flipF s) (flipF d)) := rfl
theorem rows_lift (F : Fld) (h n : Nat) : ((fldL F h (2 * n)).map fun r => (lift r).1) = fldL (SR F) h n ∧ ((fldL F h (2 * n)).map fun r => (lift r).2) = fldL (DR F) h n := by
  unfold fldL
  rw [List.map_map, List.map_map]
  refine ⟨List.map_congr_left fun i _ => ?_, List.map_congr_left fun i _ => ?_⟩
  · show (lift (rowL (F i) (2 * n))).1 = _; rw [lift_rowL]; rfl
  · show (lift (rowL (F i) (2 * n))).2 = _; rw [lift_rowL]; rfl
theorem rows_lower (s d : Fld) (h n : Nat) : ((fldL s h n).zip (fldL d h n)).map (fun x => lower x.1 x.2) = fldL (LR s d) h (2 * n) := by
  unfold fldL
  rw [List.zip_map', List.map_map]
  refine List.map_congr_left fun i _ => ?_
  show lower (rowL (s i) n) (rowL (d i) n) = rowL (LR s d i) (2 * n)
  rw [lower_rowL]; rfl
theorem fldL_lean (F : Fld) (h w p : Nat) : ((fldL F h w).map fun r => r.map (lean · p)) = fldL (leanF p F) h w := by
  unfold fldL
  rw [List.map_map]
  refine List.map_congr_left fun i _ => ?_
  show (rowL (F i) w).map (lean · p) = _
  rw [rowL_map]; rfl
theorem fldL_up (m : Int) (F : Fld) (h w : Nat) : ((fldL F h w).map (raise m)) = fldL (up m F) h w := by
  unfold fldL
  rw [List.map_map]
  refine List.map_congr_left fun i _ => ?_
  show (rowL (F i) w).map (· + m) = _
  rw [rowL_map]; rfl
theorem rowL_app (f g : Nat → Int) (v w : Nat) : rowL f v ++ rowL g w = rowL (fun j => if j < v then f j else g (j - v)) (v + w) := by
  unfold rowL
  rw [List.range_add, List.map_append, List.map_map]
  refine cg2 (List.map_congr_left fun j hj => (if_pos (List.mem_range.mp hj)).symm) (List.map_congr_left fun j _ => ?_)
  show g j = if v + j < v then _ else g (v + j - v)
  rw [if_neg (by omega), Nat.add_sub_cancel_left]
theorem fldL_over (F G : Fld) (h k w : Nat) : fldL F h w ++ fldL G k w = fldL (overF h F G) (h + k) w := by
  unfold fldL
  rw [List.range_add, List.map_append, List.map_map]
  refine cg2 (List.map_congr_left fun i hi => ?_) (List.map_congr_left fun i _ => ?_)
  · refine rowL_congr fun j _ => ?_
    exact (if_pos (List.mem_range.mp hi)).symm
  · refine rowL_congr fun j _ => ?_
    show G i j = if h + i < h then _ else G (h + i - h) j
    rw [if_neg (by omega), Nat.add_sub_cancel_left]
theorem fldL_bes (F G : Fld) (h v w : Nat) : ((fldL F h v).zip (fldL G h w)).map (fun x => x.1 ++ x.2) = fldL (besF v F G) h (v + w) := by
  unfold fldL
  rw [List.zip_map', List.map_map]
  refine List.map_congr_left fun i _ => ?_
  exact rowL_app _ _ _ _
end M.Lf


set_option Elab.async false
set_option linter.all false
set_option maxRecDepth 100000
set_option maxHeartbeats 4000000
/-! Last sums and means, plainly. -/
namespace M.Lf
def sumN (f : Nat → Int) (n : Nat) : Int := (rowL f n).sum
theorem sumN_zero (f : Nat → Int) : sumN f 0 = 0 := rfl
theorem sumN_succ (f : Nat → Int) (n : Nat) : sumN f (n + 1) = f 0 + sumN (fun j => f (j + 1)) n := by
  unfold sumN; rw [rowL_succ, List.sum_cons]
theorem sumN_S1 : ∀ (n : Nat) (f : Nat → Int), 2 * sumN (S1 f) n ≤ sumN f (2 * n) ∧ sumN f (2 * n) ≤ 2 * sumN (S1 f) n + n
  | 0, f => by rw [Nat.mul_zero, sumN_zero, sumN_zero]; omega
  | n + 1, f => by
    have ih := sumN_S1 n fun j => f (j + 2)
    rw [show 2 * (n + 1) = 2 * n + 1 + 1 by omega, sumN_succ f, sumN_succ (S1 f), sumN_succ (fun j => f (j + 1))]
    change 2 * sumN (fun j => S1 f (j + 1)) n ≤ _ ∧ _ ≤ 2 * sumN (fun j => S1 f (j + 1)) n + _ at ih
    show 2 * (S1 f 0 + sumN (fun j => S1 f (j + 1)) n) ≤ f 0 + (f 1 + sumN (fun j => f (j + 2)) (2 * n)) ∧ f 0 + (f 1 + sumN (fun j => f (j + 2)) (2 * n)) ≤ 2 * (S1 f 0 + sumN (fun j => S1 f (j + 1)) n) + ((n + 1 : Nat) : Int)
    have h0 : S1 f 0 = f 0 + (f 1 - f 0) / 2 := rfl
    omega
theorem sumN_add (f g : Nat → Int) : ∀ n : Nat, sumN (fun j => f j + g j) n = sumN f n + sumN g n := by
  intro n
  induction n generalizing f g with
  | zero => rfl
  | succ n ih => rw [sumN_succ, sumN_succ f, sumN_succ g, ih (fun j => f (j + 1)) (fun j => g (j + 1))]; omega
theorem sumN_le {f g : Nat → Int} : ∀ {n : Nat}, (∀ j, f j ≤ g j) → sumN f n ≤ sumN g n := by
  intro n h
  induction n generalizing f g with
  | zero => exact Int.le_refl _
  | succ n ih =>
    rw [sumN_succ, sumN_succ g]
    have := ih (f := fun j => f (j + 1)) (g := fun j => g (j + 1)) fun j => h (j + 1)
    have := h 0
    omega
theorem sumN_mul (c : Int) (f : Nat → Int) (n : Nat) : sumN (fun j => c * f j) n = c * sumN f n := by
  induction n generalizing f with
  | zero => rw [sumN_zero, sumN_zero, Int.mul_zero]
  | succ n ih => rw [sumN_succ, sumN_succ f, ih fun j => f (j + 1), Int.mul_add]
theorem sumN_const (c : Int) (n : Nat) : sumN (fun _ => c) n = n * c := by
  induction n with
  | zero => rw [sumN_zero]; simp
  | succ n ih => rw [sumN_succ, ih, Int.natCast_add, Int.add_mul]; show c + _ = _ + (1 : Int) * c; omega
/-- lifted so many times, the first sum -/
def lastN : Nat → (Nat → Int) → Int
  | 0, f => f 0
  | n + 1, f => lastN n (S1 f)
theorem last_mean : ∀ (n : Nat) (f : Nat → Int), 2 ^ n * lastN n f ≤ sumN f (2 ^ n) ∧ 2 * sumN f (2 ^ n) ≤ 2 * (2 ^ n * lastN n f) + n * 2 ^ n
  | 0, f => by
    show 1 * f 0 ≤ sumN f 1 ∧ 2 * sumN f 1 ≤ 2 * (1 * f 0) + 0 * 1
    rw [sumN_succ, sumN_zero]; omega
  | n + 1, f => by
    have ih := last_mean n (S1 f)
    have h := sumN_S1 (2 ^ n) f
    show 2 ^ (n + 1) * lastN n (S1 f) ≤ sumN f (2 ^ (n + 1)) ∧ 2 * sumN f (2 ^ (n + 1)) ≤ 2 * (2 ^ (n + 1) * lastN n (S1 f)) + ((n + 1 : Nat) : Int) * 2 ^ (n + 1)
    rw [Nat.pow_succ, Nat.mul_comm (2 ^ n) 2]
    rw [Int.pow_succ, Int.mul_comm (2 ^ n) 2, Int.mul_assoc 2, Int.natCast_add, Int.add_mul]
    rw [show (n : Int) * (2 * 2 ^ n) = 2 * (n * 2 ^ n) by rw [Int.mul_left_comm]]
    have hc : ((2 ^ n : Nat) : Int) = 2 ^ n := Int.natCast_pow 2 n
    rw [hc] at h
    generalize (2 : Int) ^ n * lastN n (S1 f) = A at *
    generalize (n : Int) * 2 ^ n = B at *
    generalize (2 : Int) ^ n = C at *
    omega
/-- the sum of a field -/
def tot (F : Fld) (h w : Nat) : Int := sumN (fun i => sumN (F i) w) h
theorem tot_SR (F : Fld) (h w : Nat) : 2 * tot (SR F) h w ≤ tot F h (2 * w) ∧ tot F h (2 * w) ≤ 2 * tot (SR F) h w + h * w := by
  unfold tot
  have a := sumN_le (n := h) fun i => (sumN_S1 w (F i)).1
  have b := sumN_le (n := h) fun i => (sumN_S1 w (F i)).2
  rw [sumN_mul] at a
  rw [sumN_add, sumN_mul, sumN_const] at b
  exact ⟨a, b⟩
theorem sumN_swap (F : Fld) : ∀ (h w : Nat), tot F h w = tot (flipF F) w h := by
  intro h w
  induction h generalizing F with
  | zero =>
    show 0 = sumN (fun _ => 0) w
    rw [sumN_const]; simp
  | succ h ih =>
    show sumN _ (h + 1) = sumN (fun j => sumN (fun i => F i j) (h + 1)) w
    rw [sumN_succ, show (fun j => sumN (fun i => F i j) (h + 1)) = fun j => F 0 j + sumN (fun i => F (i + 1) j) h from funext fun j => sumN_succ _ _, sumN_add]
    exact congrArg (sumN (F 0) w + ·) (ih fun i j => F (i + 1) j)
theorem tot_SC (F : Fld) (h w : Nat) : 2 * tot (SC F) h w ≤ tot F (2 * h) w ∧ tot F (2 * h) w ≤ 2 * tot (SC F) h w + h * w := by
  have := tot_SR (flipF F) w h
  rw [sumN_swap F, sumN_swap (SC F), Int.mul_comm (h : Int)]
  exact this
def lastF : Nat → Fld → Int
  | 0, F => F 0 0
  | n + 1, F => lastF n (SC (SR F))
theorem lastF_mean : ∀ (n : Nat) (F : Fld), 2 ^ n * 2 ^ n * lastF n F ≤ tot F (2 ^ n) (2 ^ n) ∧ tot F (2 ^ n) (2 ^ n) ≤ 2 ^ n * 2 ^ n * lastF n F + n * (2 ^ n * 2 ^ n)
  | 0, F => by
    show 1 * 1 * F 0 0 ≤ sumN (fun i => sumN (F i) 1) 1 ∧ sumN (fun i => sumN (F i) 1) 1 ≤ 1 * 1 * F 0 0 + 0 * (1 * 1)
    rw [sumN_succ, sumN_succ, sumN_zero, sumN_zero]; omega
  | n + 1, F => by
    have ih := lastF_mean n (SC (SR F))
    have h1 := tot_SR F (2 * 2 ^ n) (2 ^ n)
    have h2 := tot_SC (SR F) (2 ^ n) (2 ^ n)
    show 2 ^ (n + 1) * 2 ^ (n + 1) * lastF n (SC (SR F)) ≤ tot F (2 ^ (n + 1)) (2 ^ (n + 1)) ∧ tot F (2 ^ (n + 1)) (2 ^ (n + 1)) ≤ 2 ^ (n + 1) * 2 ^ (n + 1) * lastF n (SC (SR F)) + ((n + 1 : Nat) : Int) * (2 ^ (n + 1) * 2 ^ (n + 1))
    rw [Nat.pow_succ, Nat.mul_comm (2 ^ n) 2]
    have hc : ((2 ^ n : Nat) : Int) = 2 ^ n := Int.natCast_pow 2 n
    rw [Int.natCast_mul, hc] at h1
    rw [hc] at h2
    have e : (2 : Int) ^ (n + 1) * 2 ^ (n + 1) = 4 * (2 ^ n * 2 ^ n) := by
      rw [Int.pow_succ, Int.mul_comm (2 ^ n) 2, Int.mul_assoc, Int.mul_left_comm (2 ^ n) 2, ← Int.mul_assoc]; rfl
    rw [e]
    rw [show ((2 : Nat) : Int) * 2 ^ n * 2 ^ n = 2 * (2 ^ n * 2 ^ n) by rw [Int.mul_assoc]; rfl] at h1
    rw [Int.mul_assoc 4, Int.natCast_add, Int.add_mul, Int.mul_left_comm (n : Int) 4]
    generalize (2 : Int) ^ n * 2 ^ n * lastF n (SC (SR F)) = A at *
    generalize (n : Int) * (2 ^ n * 2 ^ n) = B at *
    generalize (2 : Int) ^ n * 2 ^ n = C at *
    omega
end M.Lf


set_option Elab.async false
set_option linter.all false
set_option maxRecDepth 100000
set_option maxHeartbeats 4000000
/-! Rows times a power of two, rising rows, towers as functions; plainly. -/
namespace M.Lf
theorem sumN_pairs : ∀ (n : Nat) (f : Nat → Int), sumN f (2 * n) = sumN (fun j => f (2 * j) + f (2 * j + 1)) n
  | 0, f => rfl
  | n + 1, f => by
    have ih := sumN_pairs n fun j => f (j + 2)
    rw [show 2 * (n + 1) = 2 * n + 1 + 1 by omega, sumN_succ f, sumN_succ (fun j => f (j + 1)), sumN_succ (fun j => f (2 * j) + f (2 * j + 1))]
    show f 0 + (f 1 + sumN (fun j => f (j + 2)) (2 * n)) = f 0 + f 1 + sumN (fun j => f (2 * j + 2) + f (2 * j + 2 + 1)) n
    rw [ih]
    show f 0 + (f 1 + sumN (fun j => f (2 * j + 2) + f (2 * j + 1 + 2)) n) = _
    rw [Int.add_assoc]
/-- so great a row loses nothing -/
theorem great_last : ∀ (n : Nat) (f : Nat → Int), lastN n (fun j => 2 ^ n * f j) = sumN f (2 ^ n)
  | 0, f => by
    show 1 * f 0 = sumN f 1
    rw [sumN_succ, sumN_zero]; omega
  | n + 1, f => by
    show lastN n (S1 fun j => 2 ^ (n + 1) * f j) = _
    have e : (S1 fun j => (2 : Int) ^ (n + 1) * f j) = fun j => 2 ^ n * (f (2 * j) + f (2 * j + 1)) := funext fun j => by
      show (2 : Int) ^ (n + 1) * f (2 * j) + (2 ^ (n + 1) * f (2 * j + 1) - 2 ^ (n + 1) * f (2 * j)) / 2 = _
      rw [Int.pow_succ, Int.mul_comm (2 ^ n) 2, Int.mul_assoc, Int.mul_assoc, Int.mul_add]
      omega
    rw [e, great_last n, Nat.pow_succ, Nat.mul_comm (2 ^ n) 2, sumN_pairs]
theorem rising_D1 (a c : Int) : D1 (fun (j : Nat) => a + c * (j : Int)) = fun _ => c := funext fun j => by
  show a + c * ((2 * j + 1 : Nat) : Int) - (a + c * ((2 * j : Nat) : Int)) = c
  rw [Int.natCast_add, Int.mul_add]
  show a + (c * ((2 * j : Nat) : Int) + c * 1) - (a + c * ((2 * j : Nat) : Int)) = c
  omega
/-- sums of so many levels -/
def SN : Nat → (Nat → Int) → (Nat → Int)
  | 0, f => f
  | n + 1, f => SN n (S1 f)
theorem SN_last : ∀ (n : Nat) (f : Nat → Int), SN n f 0 = lastN n f
  | 0, f => rfl
  | n + 1, f => SN_last n (S1 f)
theorem tow_rowL : ∀ (n m : Nat) (f : Nat → Int), (tow n (rowL f (2 ^ n * m))).1 = rowL (SN n f) m
  | 0, m, f => by
    show rowL f (1 * m) = rowL f m
    rw [Nat.one_mul]
  | n + 1, m, f => by
    show (tow n (lift (rowL f (2 ^ (n + 1) * m))).1).1 = rowL (SN n (S1 f)) m
    rw [Nat.pow_succ, Nat.mul_comm (2 ^ n) 2, Nat.mul_assoc, lift_rowL]
    exact tow_rowL n m (S1 f)
theorem tow_last (n : Nat) (f : Nat → Int) : (tow n (rowL f (2 ^ n))).1 = [lastN n f] := by
  have := tow_rowL n 1 f
  rw [Nat.mul_one] at this
  rw [this, ← SN_last]; rfl
/-- the row that loses half at each level -/
def steep : Nat → List Int
  | 0 => [0]
  | n + 1 => steep n ++ (steep n).map (· + 1)
theorem steep_last : ∀ n < 6, (tow n (steep n)).1 = [0] ∧ 2 * (steep n).sum = (n : Int) * (steep n).length ∧ (tow n (List.replicate (steep n).length 7)).1 = [7] := by decide
end M.Lf


set_option Elab.async false
set_option linter.all false
set_option maxRecDepth 100000
set_option maxHeartbeats 4000000
/-! Shown rows keep their last sums; fields' towers as lists; plainly. -/
namespace M.Lf
def sh1 : List Nat → (Nat → Int) → (Nat → Int)
  | [], f => f
  | p :: ps, f => L1 (sh1 ps (S1 f)) fun j => lean (D1 f j) p
theorem S1_L1 (s d : Nat → Int) : S1 (L1 s d) = s := funext fun j => by
  unfold S1 L1
  rw [if_pos (by omega), if_neg (by omega), show 2 * j / 2 = j by omega, show (2 * j + 1) / 2 = j by omega]
  omega
theorem D1_L1 (s d : Nat → Int) : D1 (L1 s d) = d := funext fun j => by
  unfold D1 L1
  rw [if_neg (by omega), if_pos (by omega), show 2 * j / 2 = j by omega, show (2 * j + 1) / 2 = j by omega]
  omega
theorem SN_sh1 : ∀ (ps : List Nat) (f : Nat → Int), SN ps.length (sh1 ps f) = SN ps.length f
  | [], f => rfl
  | p :: ps, f => by
    show SN ps.length (S1 (L1 (sh1 ps (S1 f)) _)) = SN ps.length (S1 f)
    rw [S1_L1]
    exact SN_sh1 ps (S1 f)
theorem shown_rowL : ∀ (ps : List Nat) (m : Nat) (f : Nat → Int), shown (rowL f (2 ^ ps.length * m)) ps = rowL (sh1 ps f) (2 ^ ps.length * m)
  | [], m, f => rfl
  | p :: ps, m, f => by
    show lower (shown (lift (rowL f (2 ^ (ps.length + 1) * m))).1 ps) ((lift (rowL f (2 ^ (ps.length + 1) * m))).2.map (lean · p)) = rowL (L1 (sh1 ps (S1 f)) fun j => lean (D1 f j) p) (2 ^ (ps.length + 1) * m)
    rw [Nat.pow_succ, Nat.mul_comm _ 2, Nat.mul_assoc, lift_rowL]
    show lower (shown (rowL (S1 f) _) ps) ((rowL (D1 f) _).map (lean · p)) = _
    rw [shown_rowL ps m, rowL_map, lower_rowL]
/-- what is shown has the same last sums -/
theorem shown_sums (ps : List Nat) (m : Nat) (f : Nat → Int) : (tow ps.length (shown (rowL f (2 ^ ps.length * m)) ps)).1 = (tow ps.length (rowL f (2 ^ ps.length * m))).1 := by
  rw [shown_rowL, tow_rowL, tow_rowL, SN_sh1]
/-- the tower of a field: its last sums and, by level, the other three fields, each with its numbers of rows and places -/
def towF : Nat → Fld → Fld × List (Fld × Fld × Fld)
  | 0, F => (F, [])
  | n + 1, F => ((towF n (SC (SR F))).1, (DC (SR F), SC (DR F), DC (DR F)) :: (towF n (SC (SR F))).2)
def backF : Fld → List (Fld × Fld × Fld) → Fld
  | s, [] => s
  | s, (d, u, v) :: r => LR (LC (backF s r) d) (LC u v)
theorem back_tow : ∀ (n : Nat) (F : Fld), backF (towF n F).1 (towF n F).2 = F
  | 0, F => rfl
  | n + 1, F => by
    show LR (LC (backF (towF n (SC (SR F))).1 (towF n (SC (SR F))).2) (DC (SR F))) (LC (SC (DR F)) (DC (DR F))) = F
    rw [back_tow n, LC_id, LC_id, LR_id]
theorem towF_up (m : Int) : ∀ (n : Nat) (F : Fld), towF n (up m F) = (up m (towF n F).1, (towF n F).2)
  | 0, F => rfl
  | n + 1, F => by
    show ((towF n (SC (SR (up m F)))).1, (DC (SR (up m F)), SC (DR (up m F)), DC (DR (up m F))) :: (towF n (SC (SR (up m F)))).2) = _
    rw [SR_up, DR_up, SC_up, DC_up, towF_up m n]
    rfl
def leanT : List (Fld × Fld × Fld) → List Nat → List (Fld × Fld × Fld)
  | (d, u, v) :: r, p :: ps => (leanF p d, leanF p u, leanF p v) :: leanT r ps
  | _, _ => []
theorem sh_tow : ∀ (ps : List Nat) (F : Fld), backF (towF ps.length F).1 (leanT (towF ps.length F).2 ps) = shF ps F
  | [], F => rfl
  | p :: ps, F => by
    show LR (LC (backF (towF ps.length (SC (SR F))).1 (leanT (towF ps.length (SC (SR F))).2 ps)) (leanF p (DC (SR F)))) (LC (leanF p (SC (DR F))) (leanF p (DC (DR F)))) = _
    rw [sh_tow ps]; rfl
theorem towF_last : ∀ (n : Nat) (F : Fld), (towF n F).1 0 0 = lastF n F
  | 0, F => rfl
  | n + 1, F => towF_last n (SC (SR F))
end M.Lf


set_option Elab.async false
set_option linter.all false
set_option maxRecDepth 100000
set_option maxHeartbeats 4000000
/-! Fields lifted and lowered: what the functions come to. -/
namespace M.Lf
open PySem PySem.Spec PyProof.Rows L2 M
/-- a field as it stands -/
def FD (F : Fld) (h w : Nat) : D := .tup (Rws (fldL F h w))
theorem cl_FD [Tabs] (n : Nat) (F : Fld) (h w : Nat) : cl n (FD F h w) = true := by
  unfold FD
  simp only [cl]
  exact cls_Rws _ _
theorem rws_at {F : Fld} {h w i : Nat} (hi : i < h) : (Rws (fldL F h w))[i]? = some (.tup (I (rowL (F i) w))) := by
  unfold fldL
  rw [List.getElem?_map, List.getElem?_map, List.getElem?_range hi]; rfl
theorem rws_len {F : Fld} {h w : Nat} : (Rws (fldL F h w)).length = h := by rw [List.length_map, fldL_len]
theorem I_at {f : Nat → Int} {w j : Nat} (hj : j < w) : (I (rowL f w))[j]? = some (.int (f j)) := by
  unfold rowL
  rw [List.getElem?_map, List.getElem?_map, List.getElem?_range hj]; rfl
theorem I_len {f : Nat → Int} {w : Nat} : (I (rowL f w)).length = w := by rw [List.length_map, rowL_len]
theorem rowsOf_Rws : ∀ R : List (List Int), rowsOf (Rws R) = some (R.map I)
  | [] => rfl
  | r :: R => by
    show (rowsOf (Rws R)).map (I r :: ·) = _
    rw [rowsOf_Rws R]; rfl
theorem turn_FD {S : Store} {F : Fld} {h w : Nat} (hh : 0 < h) : dTurn (FD F h w) S = some (FD (flipF F) w h) := by
  unfold FD dTurn
  dsimp only
  rw [rowsOf_Rws, Option.bind_some]
  obtain ⟨k, rfl⟩ : ∃ k, h = k + 1 := ⟨h - 1, by omega⟩
  have e1 : (fldL F (k + 1) w).map I = I (rowL (F 0) w) :: ((List.range k).map fun i => I (rowL (F (i + 1)) w)) := by
    unfold fldL
    rw [List.range_succ_eq_map, List.map_cons, List.map_cons, List.map_map, List.map_map]; rfl
  have e2 : (I (rowL (F 0) w) :: ((List.range k).map fun i => I (rowL (F (i + 1)) w))) = (List.range (k + 1)).map fun i => I (rowL (F i) w) := by
    rw [List.range_succ_eq_map, List.map_cons, List.map_map]; rfl
  rw [e1]
  unfold turnR
  dsimp only
  rw [if_pos (List.all_eq_true.mpr fun r m => by
    obtain ⟨i, _, rfl⟩ := List.mem_map.mp m
    rw [I_len, I_len]; exact beq_self_eq_true _), I_len, Option.map_some]
  refine congrArg (fun l => some (D.tup l)) ?_
  unfold fldL Rws
  rw [List.map_map]
  refine List.map_congr_left fun j hj => ?_
  rw [e2]
  show D.tup (colD _ j) = D.tup (I (rowL (fun i => F i j) (k + 1)))
  refine congrArg D.tup ?_
  unfold colD rowL I
  rw [List.map_map, List.map_map]
  refine List.map_congr_left fun i _ => ?_
  show ((I (rowL (F i) w))[j]?).getD .non = _
  rw [I_at (List.mem_range.mp hj)]; rfl
section
variable [Tabs]
variable {S : Store}
theorem turned_ok (hS : clS S.length S = true) (F : Fld) {h w : Nat} (hh : 0 < h) : m_turned [FD F h w] S = .ok (FD (flipF F) w h) S := by
  refine ret_fn hS ?_ (cl_FD _ _ _ _)
  rw [x_mUn, var_ok (d := FD F h w) rfl, Res.bind_ok, turn_FD hh]; rfl
theorem whole_ok (hS : clS S.length S = true) (F : Fld) {h w : Nat} (hh : 0 < h) (hw : 0 < w) : m_whole [FD F h w] S = .ok (FD F h w) S := by
  refine ret_fn hS ?_ (cl_FD _ _ _ _)
  have h1 : mB (mBin dGt (mCall dLen (mCons (mVar 0) mNil)) (mC (.int 0))) [some (FD F h w)] S = .ok true S := b_ok (bin_ok (call_ok (one_ok (var_ok rfl)) len_tup) rfl (x_gt.trans (by rw [rws_len, decide_eq_true (by omega)])))
  have h2 : mB (mBin dGt (mCall dLen (mCons (mBin dIx (mVar 0) (mC (.int 0))) mNil)) (mC (.int 0))) [some (FD F h w)] S = .ok true S := b_ok (bin_ok (call_ok (one_ok (bin_ok (v := .int ((0 : Nat) : Int)) (var_ok rfl) rfl (ix_tup _ 0 _ _ (rws_at hh)))) len_tup) rfl (x_gt.trans (by rw [I_len, decide_eq_true (by omega)])))
  show mIte _ _ _ [some (FD F h w)] S = _
  rw [x_mIte, x_mAnd, h1, Res.bind_ok, if_pos rfl, h2, Res.bind_ok, if_pos rfl]
  exact var_ok rfl
theorem lifted_rows_ok (hS : clS S.length S = true) (F : Fld) {h n : Nat} (hh : 0 < h) (hn : 0 < n) (h1 : h ≤ 5000) (h2 : n ≤ 2500) : m_lifted_rows [FD F h (2 * n)] S = .ok (.tup [FD (SR F) h n, FD (DR F) h n]) S := by
  have hl := rows_lift F h n
  generalize hT : ((fldL F h (2 * n)).map fun r => T2 (lift r)) = T
  have hTl : T.length = h := by rw [← hT, List.length_map, fldL_len]
  have s1 : sSet (gN 1) (asV (mLc (mSrc (mVar 0)) (gN 2) mYes e_lifted_rows_1 [2])) [some (FD F h (2 * n)), none, none, none, none, none] S = some (.nx, [some (FD F h (2 * n)), some (.lst T), none, none, none, none], S) := by
    refine set_ok (asV_ok ((x_mLc' (src_tup (xs := Rws (fldL F h (2 * n))) (var_ok rfl)) (by rw [rws_len]; omega)).trans ?_))
    rw [← hT]
    exact lc_map (S := S) (xs := Rws (fldL F h (2 * n))) (t := gN 2) (me := e_lifted_rows_1) (e := wipeE [some (FD F h (2 * n)), none, none, none, none, none] [2]) (fun r => D.tup (I r)) (fun r => T2 (lift r)) (fldL F h (2 * n)) fun r hr => ⟨_, rfl, callF_ok (one_ok (var_ok rfl)) (lifted_ok hS r (by
      obtain ⟨i, _, rfl⟩ := List.mem_map.mp hr
      rw [rowL_len]; omega))⟩
  have comp : ∀ (me : ME) (f : List Int → List Int) (e : M.Env), e[1]? = some (some (.lst T)) → (∀ r : List Int, me ((wipeE e [5]).set 5 (some (T2 (lift r)))) S = .ok (.tup (I (f r))) S) → mCall dTuple (mCons (asV (mLc (mSrc (mVar 1)) (gN 5) mYes me [5])) mNil) e S = .ok (.tup (Rws ((fldL F h (2 * n)).map f))) S := by
    intro me f e h1 hm
    refine tuple_ok ((x_mLc' (src_lst (var_ok h1)) (by omega)).trans ?_)
    rw [← hT]
    have := lc_map (S := S) (xs := (fldL F h (2 * n)).map fun r => T2 (lift r)) (t := gN 5) (me := me) (e := wipeE e [5]) (fun r => T2 (lift r)) (fun r => D.tup (I (f r))) (fldL F h (2 * n)) fun r _ => ⟨_, rfl, hm r⟩
    refine Eq.trans this ?_
    unfold Rws
    rw [List.map_map]; rfl
  have s2 : sPar 3 4 (mCons (mCall dTuple (mCons (asV (mLc (mSrc (mVar 1)) (gN 5) mYes e_lifted_rows_2 [5])) mNil)) (mCons (mCall dTuple (mCons (asV (mLc (mSrc (mVar 1)) (gN 5) mYes e_lifted_rows_3 [5])) mNil)) mNil)) [some (FD F h (2 * n)), some (.lst T), none, none, none, none] S =
      some (.nx, [some (FD F h (2 * n)), some (.lst T), none, some (FD (SR F) h n), some (FD (DR F) h n), none], S) := by
    refine (par_ok (comp e_lifted_rows_2 (fun r => (lift r).1) _ rfl fun r => bin_ok (v := .int ((0 : Nat) : Int)) (var_ok rfl) rfl (ix_tup [.tup (I (lift r).1), .tup (I (lift r).2)] 0 _ _ rfl)) (comp e_lifted_rows_3 (fun r => (lift r).2) _ rfl fun r => bin_ok (v := .int ((1 : Nat) : Int)) (var_ok rfl) rfl (ix_tup [.tup (I (lift r).1), .tup (I (lift r).2)] 1 _ _ rfl))).trans ?_
    rw [hl.1, hl.2]; rfl
  refine retV_id (run_rt (e' := [some (FD F h (2 * n)), some (.lst T), none, some (FD (SR F) h n), some (FD (DR F) h n), none]) ?_) hS (by simp only [cl, cls, FD, cls_Rws, Bool.and_true])
  show b_lifted_rows [some (FD F h (2 * n)), none, none, none, none, none] S = _
  exact (seq_nx s1).trans ((seq_nx s2).trans (ret_ok (tup_ok (cons_ok (callF_ok (one_ok (var_ok rfl)) (whole_ok hS _ hh hn)) (one_ok (callF_ok (one_ok (var_ok rfl)) (whole_ok hS _ hh hn)))) (by show 2 ≤ sizeLine; decide))))
theorem lift_fld_turn (hS : clS S.length S = true) (G : Fld) (acc : List D) (ha : acc.length ≤ 4) {o0 o1 o2 o5 : Option D} {m n : Nat} (hm : 0 < m) (hn : 0 < n) (h1 : m ≤ 2500) (h2 : n ≤ 2500) (hc : cls (S.length + 1) acc = true) : ∃ o5',
    l_lifted_field_1 [o0, o1, o2, some (.loc S.length), some (FD G (2 * m) n), o5] (S ++ [.lst acc]) = some (.nx, [o0, o1, o2, some (.loc S.length), some (FD G (2 * m) n), o5'], S ++ [.lst (acc ++ [FD (SC G) m n, FD (DC G) m n])]) := by
  have hS2 : clS (S ++ [OB.lst acc]).length (S ++ [OB.lst acc]) = true := clS_push hS hc
  refine ⟨some (.tup [FD (SR (flipF G)) n m, FD (DR (flipF G)) n m]), (seq_nx (set_ok (callF_ok (one_ok (callF_ok (one_ok (var_ok rfl)) (turned_ok hS2 G (by omega)))) (lifted_rows_ok hS2 (flipF G) hn hm (by omega) h1)))).trans ?_⟩
  have ix0 : ∀ e : M.Env, e[5]? = some (some (.tup [FD (SR (flipF G)) n m, FD (DR (flipF G)) n m])) → mBin dIx (mVar 5) (mC (.int 0)) e (S ++ [OB.lst acc]) = .ok (FD (SR (flipF G)) n m) (S ++ [OB.lst acc]) := fun e h => bin_ok (v := .int ((0 : Nat) : Int)) (var_ok h) rfl (ix_tup [FD (SR (flipF G)) n m, FD (DR (flipF G)) n m] 0 _ _ rfl)
  have ix1 : ∀ e : M.Env, e[5]? = some (some (.tup [FD (SR (flipF G)) n m, FD (DR (flipF G)) n m])) → mBin dIx (mVar 5) (mC (.int 1)) e (S ++ [OB.lst acc]) = .ok (FD (DR (flipF G)) n m) (S ++ [OB.lst acc]) := fun e h => bin_ok (v := .int ((1 : Nat) : Int)) (var_ok h) rfl (ix_tup [FD (SR (flipF G)) n m, FD (DR (flipF G)) n m] 1 _ _ rfl)
  exact expr_ok (d := .non) (meth_ok (var_ok rfl) rcv_last (one_ok (asV_ok (lst_ok (cons_ok (callF_ok (one_ok (ix0 _ rfl)) (turned_ok hS2 (SR (flipF G)) hn)) (one_ok (callF_ok (one_ok (ix1 _ rfl)) (turned_ok hS2 (DR (flipF G)) hn)))) (by show 2 ≤ sizeLine; decide)))) (ext_last (by simp; omega)))
theorem lifted_field_ok (hS : clS S.length S = true) (F : Fld) {m n : Nat} (hm : 0 < m) (hn : 0 < n) (h1 : m ≤ 2500) (h2 : n ≤ 2500) : m_lifted_field [FD F (2 * m) (2 * n)] S = .ok (.tup [FD (SC (SR F)) m n, FD (DC (SR F)) m n, FD (SC (DR F)) m n, FD (DC (DR F)) m n]) S := by
  obtain ⟨a, ha⟩ := lift_fld_turn hS (SR F) [] (Nat.zero_le _) (o0 := some (FD F (2 * m) (2 * n))) (o1 := some (FD (SR F) (2 * m) n)) (o2 := some (FD (DR F) (2 * m) n)) (o5 := none) hm hn h1 h2 rfl
  obtain ⟨b, hb⟩ := lift_fld_turn hS (DR F) [FD (SC (SR F)) m n, FD (DC (SR F)) m n] (by show 2 ≤ 4; decide) (o0 := some (FD F (2 * m) (2 * n))) (o1 := some (FD (SR F) (2 * m) n)) (o2 := some (FD (DR F) (2 * m) n)) (o5 := a) hm hn h1 h2 (by simp only [cls, cl_FD, Bool.and_true])
  refine (retV_ok (d := .tup [FD (SC (SR F)) m n, FD (DC (SR F)) m n, FD (SC (DR F)) m n, FD (DC (DR F)) m n]) (d' := .tup [FD (SC (SR F)) m n, FD (DC (SR F)) m n, FD (SC (DR F)) m n, FD (DC (DR F)) m n]) (S' := S ++ [.lst [FD (SC (SR F)) m n, FD (DC (SR F)) m n, FD (SC (DR F)) m n, FD (DC (DR F)) m n]])
    (run_rt (e' := [some (FD F (2 * m) (2 * n)), some (FD (SR F) (2 * m) n), some (FD (DR F) (2 * m) n), some (.loc S.length), some (FD (DR F) (2 * m) n), b]) ?_) (by simpa using hS) ?_).trans (by simp)
  · show b_lifted_field [some (FD F (2 * m) (2 * n)), none, none, none, none, none] S = _
    refine (seq_nx (setg_ok (callF_ok (one_ok (var_ok rfl)) (lifted_rows_ok hS F (h := 2 * m) (by omega) hn (by omega) h2)) rfl)).trans ?_
    refine (seq_nx (set_ok (asL_ok (lst_ok rfl (Nat.zero_le _))))).trans ?_
    refine (seq_nx (for_ok (src_tup (xs := [FD (SR F) (2 * m) n, FD (DR F) (2 * m) n]) (tup_ok (cons_ok (var_ok rfl) (one_ok (var_ok rfl))) (by show 2 ≤ sizeLine; decide))) ((for_cons rfl ha).trans ((for_cons rfl hb).trans for_nil)))).trans ?_
    exact ret_ok (call_ok (one_ok (var_ok rfl)) (tup_at (get_last _ _)))
  · simp only [fz, cl, cls, cl_FD, FD, cls_Rws, Bool.and_true, if_true]
theorem lowered_rows_ok (hS : clS S.length S = true) (s d : Fld) {h n : Nat} (hh : 0 < h) (h1 : h ≤ 5000) (h2 : n ≤ 2500) : m_lowered_rows [FD s h n, FD d h n] S = .ok (FD (LR s d) h (2 * n)) S := by
  refine retV_id (run_rt (e' := [some (FD s h n), some (FD d h n), none, none]) ?_) hS (cl_FD _ _ _ _)
  show b_lowered_rows [some (FD s h n), some (FD d h n), none, none] S = _
  have h0 : mB (mBin dEq (mCall dLen (mCons (mVar 1) mNil)) (mC (.int 0))) [some (FD s h n), some (FD d h n), none, none] S = .ok false S := b_ok (bin_ok (call_ok (one_ok (var_ok rfl)) len_tup) rfl (x_eqI.trans (by rw [rws_len, decide_eq_false (by omega)])))
  refine (seq_nx (if_skip h0)).trans (ret_ok (tuple_ok ?_))
  have hzip : zipD (Rws (fldL s h n)) (Rws (fldL d h n)) = ((fldL s h n).zip (fldL d h n)).map fun x => D.tup [.tup (I x.1), .tup (I x.2)] := zip_map (fun r => D.tup (I r)) (fun r => D.tup (I r)) _ _
  refine (x_mLc' (src_zipT (xs := Rws (fldL s h n)) (ys := Rws (fldL d h n)) (cons_ok (var_ok rfl) (one_ok (var_ok rfl)))) (by rw [zipD_length, rws_len, rws_len]; omega)).trans ?_
  show lcM ⟨zipD (Rws (fldL s h n)) (Rws (fldL d h n)), []⟩ _ _ _ _ (zipD (Rws (fldL s h n)) (Rws (fldL d h n))) S = _
  rw [hzip, ← rows_lower]
  have := lc_map (S := S) (xs := ((fldL s h n).zip (fldL d h n)).map fun x => D.tup [.tup (I x.1), .tup (I x.2)]) (t := gTup 2 (gCons (gN 2) (gCons (gN 3) gNil))) (me := e_lowered_rows_1) (e := wipeE [some (FD s h n), some (FD d h n), none, none] [2, 3]) (fun (x : List Int × List Int) => D.tup [.tup (I x.1), .tup (I x.2)]) (fun x => D.tup (I (lower x.1 x.2))) ((fldL s h n).zip (fldL d h n)) fun x hx => by
    obtain ⟨m1, m2⟩ := List.of_mem_zip hx
    obtain ⟨i, _, e1⟩ := List.mem_map.mp m1
    obtain ⟨j, _, e2⟩ := List.mem_map.mp m2
    exact ⟨[some (FD s h n), some (FD d h n), some (.tup (I x.1)), some (.tup (I x.2))], rfl, callF_ok (cons_ok (var_ok rfl) (one_ok (var_ok rfl))) (lowered_ok hS x.1 x.2 (by rw [← e1, ← e2, rowL_len, rowL_len]; exact Nat.le_refl _) (by rw [← e1, rowL_len]; omega))⟩
  refine Eq.trans this ?_
  unfold Rws
  rw [List.map_map]; rfl
theorem lowered_field_ok (hS : clS S.length S = true) (s d u v : Fld) {m n : Nat} (hm : 0 < m) (hn : 0 < n) (h1 : m ≤ 2500) (h2 : n ≤ 2500) : m_lowered_field [FD s m n, .tup [FD d m n, FD u m n, FD v m n]] S = .ok (FD (LR (LC s d) (LC u v)) (2 * m) (2 * n)) S := by
  refine retV_id (run_rt (e' := [some (FD s m n), some (.tup [FD d m n, FD u m n, FD v m n]), some (FD (LC s d) (2 * m) n), some (FD (LC u v) (2 * m) n)]) ?_) hS (cl_FD _ _ _ _)
  show b_lowered_field [some (FD s m n), some (.tup [FD d m n, FD u m n, FD v m n]), none, none] S = _
  have ix : ∀ (k : Nat) (x : D) (e : M.Env), [FD d m n, FD u m n, FD v m n][k]? = some x → e[1]? = some (some (.tup [FD d m n, FD u m n, FD v m n])) → mBin dIx (mVar 1) (mC (.int (k : Int))) e S = .ok x S := fun k x e h h' => bin_ok (v := .int (k : Int)) (var_ok h') rfl (ix_tup _ k _ _ h)
  refine (seq_nx (set_ok (callF_ok (one_ok (callF_ok (cons_ok (callF_ok (one_ok (var_ok rfl)) (turned_ok hS s hm)) (one_ok (callF_ok (one_ok (ix 0 (FD d m n) _ rfl rfl)) (turned_ok hS d hm)))) (lowered_rows_ok hS (flipF s) (flipF d) hn (by omega) h1))) (turned_ok hS _ hn)))).trans ?_
  refine (seq_nx (set_ok (callF_ok (one_ok (callF_ok (cons_ok (callF_ok (one_ok (ix 1 (FD u m n) _ rfl rfl)) (turned_ok hS u hm)) (one_ok (callF_ok (one_ok (ix 2 (FD v m n) _ rfl rfl)) (turned_ok hS v hm)))) (lowered_rows_ok hS (flipF u) (flipF v) hn (by omega) h1))) (turned_ok hS _ hn)))).trans ?_
  exact ret_ok (callF_ok (cons_ok (var_ok rfl) (one_ok (var_ok rfl))) (lowered_rows_ok hS (LC s d) (LC u v) (h := 2 * m) (by omega) (by omega) h2))
end
end M.Lf


set_option Elab.async false
set_option linter.all false
set_option maxRecDepth 100000
set_option maxHeartbeats 4000000
/-! Towers of fields: what the functions come to. -/
namespace M.Lf
open PySem PySem.Spec PyProof.Rows L2 M
abbrev F3 := Fld × Fld × Fld
def tri (t : F3) (h w : Nat) : D := .tup [FD t.1 h w, FD t.2.1 h w, FD t.2.2 h w]
/-- the levels of a field's tower -/
def FTs (a b : Nat) : List F3 → List D
  | [] => []
  | t :: r => tri t (2 ^ r.length * a) (2 ^ r.length * b) :: FTs a b r
/-- .. from the smallest on -/
def GTs (a b : Nat) : Nat → List F3 → List D
  | _, [] => []
  | k, t :: r => tri t (2 ^ k * a) (2 ^ k * b) :: GTs a b (k + 1) r
theorem GTs_snoc (a b : Nat) : ∀ (r : List F3) (k : Nat) (t : F3), GTs a b k (r ++ [t]) = GTs a b k r ++ [tri t (2 ^ (k + r.length) * a) (2 ^ (k + r.length) * b)]
  | [], k, t => rfl
  | u :: r, k, t => by
    show tri u _ _ :: GTs a b (k + 1) (r ++ [t]) = tri u _ _ :: (GTs a b (k + 1) r ++ _)
    rw [GTs_snoc a b r (k + 1) t, List.length_cons, show k + 1 + r.length = k + (r.length + 1) by omega]
theorem FTs_rev (a b : Nat) : ∀ r : List F3, (FTs a b r).reverse = GTs a b 0 r.reverse
  | [] => rfl
  | t :: r => by
    show (tri t _ _ :: FTs a b r).reverse = _
    rw [List.reverse_cons, FTs_rev a b r, List.reverse_cons, GTs_snoc, List.length_reverse, Nat.zero_add]
def bk (F : Fld) (t : F3) : Fld := LR (LC F t.1) (LC t.2.1 t.2.2)
theorem bk_foldl (s : Fld) : ∀ r : List F3, r.reverse.foldl bk s = backF s r
  | [] => rfl
  | (d, u, v) :: r => by
    rw [List.reverse_cons, List.foldl_append, bk_foldl s r]; rfl
theorem FTs_len (a b : Nat) : ∀ r : List F3, (FTs a b r).length = r.length
  | [] => rfl
  | t :: r => by simp only [FTs, List.length_cons, FTs_len a b r]
theorem towF_len : ∀ (n : Nat) (F : Fld), (towF n F).2.length = n
  | 0, F => rfl
  | n + 1, F => by
    show (_ :: (towF n (SC (SR F))).2).length = n + 1
    rw [List.length_cons, towF_len n]
theorem leanT_len : ∀ (r : List F3) (ps : List Nat), r.length = ps.length → (leanT r ps).length = ps.length
  | [], [], _ => rfl
  | (d, u, v) :: r, p :: ps, h => by simp only [leanT, List.length_cons, leanT_len r ps (by simpa using h)]
  | [], _ :: _, h => by simp at h
  | _ :: _, [], h => by simp at h
theorem p2 (k a : Nat) : 2 ^ (k + 1) * a = 2 * (2 ^ k * a) := by rw [Nat.pow_succ, Nat.mul_comm (2 ^ k) 2, Nat.mul_assoc]
section
variable [Tabs]
variable {S : Store}
theorem cl_tri (n : Nat) (t : F3) (h w : Nat) : cl n (tri t h w) = true := by
  unfold tri
  simp only [cl, cls, cl_FD, Bool.and_true]
theorem cls_FTs (n a b : Nat) : ∀ r : List F3, cls n (FTs a b r) = true
  | [] => rfl
  | t :: r => by simp only [FTs, cls, cl_tri, cls_FTs n a b r, Bool.and_true]
theorem cls_app (n : Nat) : ∀ (x y : List D), cls n x = true → cls n y = true → cls n (x ++ y) = true
  | [], y, _, h => h
  | d :: x, y, h, g => by
    simp only [cls, Bool.and_eq_true] at h
    simp only [List.cons_append, cls, h.1, cls_app n x y h.2 g, Bool.and_true]
theorem ft_loop (hS : clS S.length S = true) {xs : List D} {o1 : Option D} {a b : Nat} (ha : 0 < a) (hb : 0 < b) : ∀ (ds : List D) (F : Fld) (acc : List D) (o3 o4 : Option D), (∀ n, cls n acc = true) → 2 ^ ds.length * a ≤ 5000 → 2 ^ ds.length * b ≤ 5000 → acc.length + ds.length ≤ 1000 → ∃ o3' o4',
    M.forM ⟨xs, []⟩ (gN 3) l_field_tower_1 ds [some (FD F (2 ^ ds.length * a) (2 ^ ds.length * b)), o1, some (.loc S.length), o3, o4] (S ++ [.lst acc]) =
      some (.nx, [some (FD (towF ds.length F).1 a b), o1, some (.loc S.length), o3', o4'], S ++ [.lst (acc ++ FTs a b (towF ds.length F).2)])
  | [], F, acc, o3, o4, _, _, _, _ => ⟨o3, o4, by
    rw [show FTs a b (towF ([] : List D).length F).2 = [] from rfl, List.append_nil, List.length_nil, Nat.pow_zero, Nat.one_mul, Nat.one_mul]; exact for_nil⟩
  | d :: ds, F, acc, o3, o4, hc, h1, h2, hz => by
    rw [List.length_cons, p2] at h1 h2
    rw [List.length_cons] at hz
    have hm : 0 < 2 ^ ds.length * a := Nat.mul_pos (Nat.two_pow_pos _) ha
    have hn : 0 < 2 ^ ds.length * b := Nat.mul_pos (Nat.two_pow_pos _) hb
    have hS2 : clS (S ++ [OB.lst acc]).length (S ++ [OB.lst acc]) = true := clS_push hS (hc _)
    obtain ⟨p, q, h⟩ := ft_loop hS (xs := xs) (o1 := o1) ha hb ds (SC (SR F)) (acc ++ [tri (DC (SR F), SC (DR F), DC (DR F)) (2 ^ ds.length * a) (2 ^ ds.length * b)]) (some d) (some (.tup [FD (SC (SR F)) (2 ^ ds.length * a) (2 ^ ds.length * b), FD (DC (SR F)) (2 ^ ds.length * a) (2 ^ ds.length * b), FD (SC (DR F)) (2 ^ ds.length * a) (2 ^ ds.length * b), FD (DC (DR F)) (2 ^ ds.length * a) (2 ^ ds.length * b)]))
      (fun n => cls_app n _ _ (hc n) (by simp only [cls, cl_tri, Bool.and_true])) (by omega) (by omega) (by simp; omega)
    rw [List.length_cons, p2, p2]
    generalize hA : 2 ^ ds.length * a = A at *
    generalize hB : 2 ^ ds.length * b = B at *
    refine ⟨p, q, (for_cons (e1 := [some (FD F (2 * A) (2 * B)), o1, some (.loc S.length), some d, o4]) (e2 := [some (FD (SC (SR F)) A B), o1, some (.loc S.length), some d, some (.tup [FD (SC (SR F)) A B, FD (DC (SR F)) A B, FD (SC (DR F)) A B, FD (DC (DR F)) A B])]) rfl ?_).trans (h.trans ?_)⟩
    · unfold l_field_tower_1
      refine (seq_nx (set_ok (callF_ok (one_ok (var_ok rfl)) (lifted_field_ok hS2 F hm hn (by omega) (by omega))))).trans ?_
      refine (seq_nx (set_ok (bin_ok (v := .int ((0 : Nat) : Int)) (var_ok rfl) rfl (ix_tup [FD (SC (SR F)) A B, FD (DC (SR F)) A B, FD (SC (DR F)) A B, FD (DC (DR F)) A B] 0 _ _ rfl)))).trans ?_
      exact expr_ok (d := .non) (meth_ok (var_ok rfl) rcv_last (one_ok (slice_ok (r := tri (DC (SR F), SC (DR F), DC (DR F)) A B) (var_ok rfl) (part_ok (k := 1) rfl) rfl rfl)) (app_last (by omega)))
    · rw [List.append_assoc]
      show _ = some (Fl.nx, [some (FD (towF ds.length (SC (SR F))).1 a b), o1, some (D.loc S.length), p, q], S ++ [OB.lst (acc ++ (tri (DC (SR F), SC (DR F), DC (DR F)) (2 ^ (towF ds.length (SC (SR F))).2.length * a) (2 ^ (towF ds.length (SC (SR F))).2.length * b) :: FTs a b (towF ds.length (SC (SR F))).2))])
      rw [towF_len, hA, hB]; rfl
/-- a tower of a field -/
def FTW (s : Fld) (r : List F3) (a b : Nat) : D := .tup [FD s a b, .tup (FTs a b r)]
theorem cl_FTW (n : Nat) (s : Fld) (r : List F3) (a b : Nat) : cl n (FTW s r a b) = true := by
  unfold FTW
  simp only [cl, cls, cl_FD, cls_FTs, Bool.and_true]
theorem field_tower_ok (hS : clS S.length S = true) (F : Fld) {n a b : Nat} (hn : n ≤ 6) (ha : 0 < a) (hb : 0 < b) (h1 : 2 ^ n * a ≤ 5000) (h2 : 2 ^ n * b ≤ 5000) : m_field_tower [FD F (2 ^ n * a) (2 ^ n * b), .int (n : Int)] S = .ok (FTW (towF n F).1 (towF n F).2 a b) S := by
  have hr : (rng 0 n).length = n := rng_len n
  obtain ⟨p, q, h⟩ := ft_loop (S := S) hS (xs := rng 0 n) (o1 := some (.int (n : Int))) ha hb (rng 0 n) F [] none none (fun _ => rfl) (by rw [hr]; exact h1) (by rw [hr]; exact h2) (by rw [hr]; simp; omega)
  rw [hr, List.nil_append] at h
  refine (retV_ok (d := FTW (towF n F).1 (towF n F).2 a b) (d' := FTW (towF n F).1 (towF n F).2 a b) (S' := S ++ [.lst (FTs a b (towF n F).2)]) (run_rt (e' := [some (FD (towF n F).1 a b), some (.int (n : Int)), some (.loc S.length), p, q]) ?_) (by simpa using hS) ?_).trans (by simp)
  · show b_field_tower [some (FD F (2 ^ n * a) (2 ^ n * b)), some (.int (n : Int)), none, none, none] S = _
    unfold b_field_tower
    refine (seq_nx (expr_ok (callF_ok (one_ok (var_ok rfl)) (levels_ok hS hn)))).trans ?_
    refine (seq_nx (set_ok (asL_ok (lst_ok rfl (Nat.zero_le _))))).trans ?_
    have hsrc : mSrcA srcR1 (mCons (mVar 1) mNil) [some (FD F (2 ^ n * a) (2 ^ n * b)), some (.int (n : Int)), some (.loc S.length), none, none] (S ++ [.lst []]) = .ok ⟨rng 0 n, []⟩ (S ++ [.lst []]) := src_rng' n (by omega) (var_ok rfl)
    exact (seq_nx (for_ok hsrc h)).trans (ret_ok (tup_ok (cons_ok (var_ok rfl) (one_ok (call_ok (one_ok (var_ok rfl)) (tup_at (get_last _ _))))) (by show 2 ≤ sizeLine; decide)))
  · have := cl_FTW S.length (towF n F).1 (towF n F).2 a b
    unfold FTW at *
    simp only [fz]
    rw [if_pos this]
theorem fo_loop (hS : clS S.length S = true) {xs : List D} {o0 : Option D} {a b : Nat} (ha : 0 < a) (hb : 0 < b) : ∀ (es : List F3) (F : Fld) (k : Nat) (o2 : Option D), 2 ^ (k + es.length) * a ≤ 5000 → 2 ^ (k + es.length) * b ≤ 5000 → ∃ o2',
    M.forM ⟨xs, []⟩ (gN 2) l_field_of_1 (GTs a b k es) [o0, some (FD F (2 ^ k * a) (2 ^ k * b)), o2] S = some (.nx, [o0, some (FD (es.foldl bk F) (2 ^ (k + es.length) * a) (2 ^ (k + es.length) * b)), o2'], S)
  | [], F, k, o2, _, _ => ⟨o2, for_nil⟩
  | t :: es, F, k, o2, h1, h2 => by
    rw [List.length_cons, show k + (es.length + 1) = k + 1 + es.length by omega] at h1 h2 ⊢
    obtain ⟨p, h⟩ := fo_loop hS (xs := xs) (o0 := o0) ha hb es (bk F t) (k + 1) (some (tri t (2 ^ k * a) (2 ^ k * b))) h1 h2
    have g1 : 2 ^ (k + 1) * a ≤ 5000 := Nat.le_trans (Nat.mul_le_mul_right a (Nat.pow_le_pow_right (by decide) (by omega))) h1
    have g2 : 2 ^ (k + 1) * b ≤ 5000 := Nat.le_trans (Nat.mul_le_mul_right b (Nat.pow_le_pow_right (by decide) (by omega))) h2
    have hm : 0 < 2 ^ k * a := Nat.mul_pos (Nat.two_pow_pos _) ha
    have hn : 0 < 2 ^ k * b := Nat.mul_pos (Nat.two_pow_pos _) hb
    rw [p2] at g1 g2
    rw [p2 k a, p2 k b] at h
    exact ⟨p, (for_cons (e1 := [o0, some (FD F (2 ^ k * a) (2 ^ k * b)), some (tri t (2 ^ k * a) (2 ^ k * b))]) (e2 := [o0, some (FD (bk F t) (2 * (2 ^ k * a)) (2 * (2 ^ k * b))), some (tri t (2 ^ k * a) (2 ^ k * b))]) rfl
      (set_ok (callF_ok (cons_ok (var_ok rfl) (one_ok (var_ok rfl))) (lowered_field_ok hS F t.1 t.2.1 t.2.2 hm hn (by omega) (by omega))))).trans h⟩
theorem field_of_ok (hS : clS S.length S = true) (s : Fld) (r : List F3) {a b : Nat} (ha : 0 < a) (hb : 0 < b) (h1 : 2 ^ r.length * a ≤ 5000) (h2 : 2 ^ r.length * b ≤ 5000) : m_field_of [FTW s r a b] S = .ok (FD (backF s r) (2 ^ r.length * a) (2 ^ r.length * b)) S := by
  obtain ⟨p, h⟩ := fo_loop hS (xs := (FTs a b r).reverse) (o0 := some (FTW s r a b)) ha hb r.reverse s 0 none (by rw [Nat.zero_add, List.length_reverse]; exact h1) (by rw [Nat.zero_add, List.length_reverse]; exact h2)
  rw [bk_foldl, Nat.zero_add, List.length_reverse, ← FTs_rev, Nat.pow_zero, Nat.one_mul, Nat.one_mul] at h
  refine retV_id (run_rt (e' := [some (FTW s r a b), some (FD (backF s r) (2 ^ r.length * a) (2 ^ r.length * b)), p]) ?_) hS (cl_FD _ _ _ _)
  show b_field_of [some (FTW s r a b), none, none] S = _
  unfold b_field_of
  refine (seq_nx (set_ok (bin_ok (v := .int ((0 : Nat) : Int)) (var_ok rfl) rfl (ix_tup [FD s a b, .tup (FTs a b r)] 0 _ _ rfl)))).trans ?_
  have hsrc : mSrc (mUn dRev (mBin dIx (mVar 0) (mC (.int 1)))) [some (FTW s r a b), some (FD s a b), none] S = .ok ⟨(FTs a b r).reverse, []⟩ S := by
    have h1 : mBin dIx (mVar 0) (mC (.int 1)) [some (FTW s r a b), some (FD s a b), none] S = .ok (.tup (FTs a b r)) S := bin_ok (v := .int ((1 : Nat) : Int)) (var_ok rfl) rfl (ix_tup [FD s a b, .tup (FTs a b r)] 1 _ _ rfl)
    refine src_tup ?_
    rw [x_mUn, h1, Res.bind_ok]; rfl
  exact (seq_nx (for_ok hsrc h)).trans (ret_ok (var_ok rfl))
theorem lean_fld (hS : clS S.length S = true) (F : Fld) {h w p : Nat} (hp : p ≤ 4) (h1 : h ≤ 5000) (h2 : w ≤ 5000) {e : M.Env} (h6 : e[6]? = some (some (FD F h w))) (h4 : (wipeE e [5])[4]? = some (some (.int (p : Int)))) (hl : 5 < e.length) : e_lean_field_tower_2 e S = .ok (FD (leanF p F) h w) S := by
  refine tuple_ok ((x_mLc' (src_tup (xs := Rws (fldL F h w)) (var_ok h6)) (by rw [rws_len]; omega)).trans ?_)
  have := lc_map (S := S) (xs := Rws (fldL F h w)) (t := gN 5) (me := e_lean_field_tower_1) (e := wipeE e [5]) (fun r => D.tup (I r)) (fun r => D.tup (I (r.map (lean · p)))) (fldL F h w) fun r hr => by
    refine ⟨_, rfl, callF_ok (cons_ok (var_ok ?_) (one_ok (var_ok (d := .int (p : Int)) ?_))) (lean_row_ok hS r hp (by
      obtain ⟨i, _, rfl⟩ := List.mem_map.mp hr
      rw [rowL_len]; exact h2))⟩
    · rw [List.getElem?_set_self (by simpa [wipeE] using hl)]
    · rw [List.getElem?_set_ne (by decide)]; exact h4
  refine Eq.trans this ?_
  rw [← fldL_lean]
  unfold Rws
  rw [List.map_map]; rfl
theorem lft_loop (hS : clS S.length S = true) {xs : List D} {o0 o1 : Option D} {a b : Nat} : ∀ (r : List F3) (ps : List Nat) (acc : List D) (o3 o4 o5 o6 : Option D), r.length = ps.length → (∀ p ∈ ps, p ≤ 4) → (∀ n, cls n acc = true) → 2 ^ r.length * a ≤ 10000 → 2 ^ r.length * b ≤ 10000 → acc.length + ps.length ≤ 1000 → ∃ o3' o4' o5' o6',
    M.forM ⟨xs, []⟩ (gTup 2 (gCons (gN 3) (gCons (gN 4) gNil))) l_lean_field_tower_3 (zipD (FTs a b r) (N ps)) [o0, o1, some (.loc S.length), o3, o4, o5, o6] (S ++ [.lst acc]) =
      some (.nx, [o0, o1, some (.loc S.length), o3', o4', o5', o6'], S ++ [.lst (acc ++ FTs a b (leanT r ps))])
  | [], [], acc, o3, o4, o5, o6, _, _, _, _, _, _ => ⟨o3, o4, o5, o6, by
    rw [show FTs a b (leanT [] []) = [] from rfl, List.append_nil]; exact for_nil⟩
  | (d, u, v) :: r, p :: ps, acc, o3, o4, o5, o6, hl, hp, hc, h1, h2, hz => by
    have hl' : r.length = ps.length := by simpa using hl
    rw [List.length_cons, p2] at h1 h2
    rw [List.length_cons] at hz
    have e1 := leanT_len r ps hl'
    have hp' := hp p (by simp)
    obtain ⟨c1, c2, c3, c4, h⟩ := lft_loop hS (xs := xs) (o0 := o0) (o1 := o1) (a := a) (b := b) r ps (acc ++ [tri (leanF p d, leanF p u, leanF p v) (2 ^ r.length * a) (2 ^ r.length * b)]) (some (tri (d, u, v) (2 ^ r.length * a) (2 ^ r.length * b))) (some (.int (p : Int))) o5 o6 hl' (fun q hq => hp q (List.mem_cons_of_mem _ hq))
      (fun n => cls_app n _ _ (hc n) (by simp only [cls, cl_tri, Bool.and_true])) (by omega) (by omega) (by simp; omega)
    have hS2 : clS (S ++ [OB.lst acc]).length (S ++ [OB.lst acc]) = true := clS_push hS (hc _)
    refine ⟨c1, c2, c3, c4, (for_cons (e1 := [o0, o1, some (.loc S.length), some (tri (d, u, v) (2 ^ r.length * a) (2 ^ r.length * b)), some (.int (p : Int)), o5, o6]) (e2 := [o0, o1, some (.loc S.length), some (tri (d, u, v) (2 ^ r.length * a) (2 ^ r.length * b)), some (.int (p : Int)), o5, o6]) (S2 := S ++ [.lst (acc ++ [tri (leanF p d, leanF p u, leanF p v) (2 ^ r.length * a) (2 ^ r.length * b)])]) rfl ?_).trans (h.trans ?_)⟩
    · refine expr_ok (d := .non) (meth_ok (var_ok rfl) rcv_last (one_ok (tuple_ok (ys := [FD (leanF p d) (2 ^ r.length * a) (2 ^ r.length * b), FD (leanF p u) (2 ^ r.length * a) (2 ^ r.length * b), FD (leanF p v) (2 ^ r.length * a) (2 ^ r.length * b)]) ((x_mLc' (src_tup (xs := [FD d (2 ^ r.length * a) (2 ^ r.length * b), FD u (2 ^ r.length * a) (2 ^ r.length * b), FD v (2 ^ r.length * a) (2 ^ r.length * b)]) (var_ok rfl)) (by simp)).trans ?_))) (app_last (by omega)))
      exact lc_map (S := S ++ [.lst acc]) (xs := [FD d (2 ^ r.length * a) (2 ^ r.length * b), FD u (2 ^ r.length * a) (2 ^ r.length * b), FD v (2 ^ r.length * a) (2 ^ r.length * b)]) (t := gN 6) (me := e_lean_field_tower_2) (e := wipeE [o0, o1, some (.loc S.length), some (tri (d, u, v) (2 ^ r.length * a) (2 ^ r.length * b)), some (.int (p : Int)), o5, o6] [6]) (fun F => FD F (2 ^ r.length * a) (2 ^ r.length * b)) (fun F => FD (leanF p F) (2 ^ r.length * a) (2 ^ r.length * b)) [d, u, v] fun F _ => ⟨_, rfl, lean_fld hS2 F hp' (by omega) (by omega) rfl rfl (by simp [wipeE])⟩
    · rw [List.append_assoc]
      show _ = some (Fl.nx, [o0, o1, some (D.loc S.length), c1, c2, c3, c4], S ++ [OB.lst (acc ++ (tri (leanF p d, leanF p u, leanF p v) (2 ^ (leanT r ps).length * a) (2 ^ (leanT r ps).length * b) :: FTs a b (leanT r ps)))])
      rw [e1, ← hl']; rfl
  | [], _ :: _, _, _, _, _, _, h, _, _, _, _, _ => by simp at h
  | _ :: _, [], _, _, _, _, _, h, _, _, _, _, _ => by simp at h
theorem lean_field_tower_ok (hS : clS S.length S = true) (s : Fld) (r : List F3) {ps : List Nat} {a b : Nat} (h : ∀ p ∈ ps, p ≤ 4) (hl : ps.length ≤ 6) (he : r.length = ps.length) (h1 : 2 ^ r.length * a ≤ 5000) (h2 : 2 ^ r.length * b ≤ 5000) : m_lean_field_tower [FTW s r a b, .tup (N ps)] S = .ok (FTW s (leanT r ps) a b) S := by
  obtain ⟨c1, c2, c3, c4, hf⟩ := lft_loop (S := S) hS (xs := zipD (FTs a b r) (N ps)) (o0 := some (FTW s r a b)) (o1 := some (.tup (N ps))) (a := a) (b := b) r ps [] none none none none he h (fun _ => rfl) (by omega) (by omega) (by simp; omega)
  rw [List.nil_append] at hf
  have v0 : ∀ e : M.Env, ∀ S : Store, e[0]? = some (some (FTW s r a b)) → mBin dIx (mVar 0) (mC (.int 0)) e S = .ok (FD s a b) S := fun e S h => bin_ok (v := .int ((0 : Nat) : Int)) (var_ok h) rfl (ix_tup [FD s a b, .tup (FTs a b r)] 0 _ _ rfl)
  have v1 : ∀ e : M.Env, ∀ S : Store, e[0]? = some (some (FTW s r a b)) → mBin dIx (mVar 0) (mC (.int 1)) e S = .ok (.tup (FTs a b r)) S := fun e S h => bin_ok (v := .int ((1 : Nat) : Int)) (var_ok h) rfl (ix_tup [FD s a b, .tup (FTs a b r)] 1 _ _ rfl)
  have hc := check_len hS h hl
  rw [← he] at hc
  refine (retV_ok (d := FTW s (leanT r ps) a b) (d' := FTW s (leanT r ps) a b) (S' := S ++ [.lst (FTs a b (leanT r ps))]) (run_rt (e' := [some (FTW s r a b), some (.tup (N ps)), some (.loc S.length), c1, c2, c3, c4]) ?_) (by simpa using hS) ?_).trans (by simp)
  · show b_lean_field_tower [some (FTW s r a b), some (.tup (N ps)), none, none, none, none, none] S = _
    unfold b_lean_field_tower
    refine (seq_nx (expr_ok (callF_ok (cons_ok (var_ok rfl) (one_ok (call_ok (one_ok (v1 _ _ rfl)) (len_tup.trans (by rw [FTs_len]))))) hc))).trans ?_
    refine (seq_nx (set_ok (asL_ok (lst_ok rfl (Nat.zero_le _))))).trans ?_
    exact (seq_nx (for_ok (src_zipT (cons_ok (v1 _ _ rfl) (one_ok (var_ok rfl)))) hf)).trans (ret_ok (tup_ok (cons_ok (v0 _ _ rfl) (one_ok (call_ok (one_ok (var_ok rfl)) (tup_at (get_last _ _))))) (by show 2 ≤ sizeLine; decide)))
  · have := cl_FTW S.length s (leanT r ps) a b
    unfold FTW at *
    simp only [fz]
    rw [if_pos this]
theorem shown_field_ok (hS : clS S.length S = true) (F : Fld) {ps : List Nat} {a b : Nat} (h : ∀ p ∈ ps, p ≤ 4) (hl : ps.length ≤ 6) (ha : 0 < a) (hb : 0 < b) (h1 : 2 ^ ps.length * a ≤ 5000) (h2 : 2 ^ ps.length * b ≤ 5000) : m_shown_field [FD F (2 ^ ps.length * a) (2 ^ ps.length * b), .tup (N ps)] S = .ok (FD (shF ps F) (2 ^ ps.length * a) (2 ^ ps.length * b)) S := by
  have e1 := towF_len ps.length F
  have e2 := leanT_len (towF ps.length F).2 ps e1
  have hf := field_of_ok hS (towF ps.length F).1 (leanT (towF ps.length F).2 ps) ha hb (by rw [e2]; exact h1) (by rw [e2]; exact h2)
  rw [sh_tow, e2] at hf
  refine retV_id (run_rt (e' := [some (FD F (2 ^ ps.length * a) (2 ^ ps.length * b)), some (.tup (N ps))]) ?_) hS (cl_FD _ _ _ _)
  show b_shown_field [some (FD F (2 ^ ps.length * a) (2 ^ ps.length * b)), some (.tup (N ps))] S = _
  refine (seq_nx (expr_ok (callF_ok (cons_ok (var_ok rfl) (one_ok rfl)) (check_none hS h hl)))).trans (ret_ok ?_)
  refine callF_ok (one_ok (callF_ok (cons_ok (callF_ok (cons_ok (var_ok rfl) (one_ok (call_ok (one_ok (var_ok rfl)) (len_tup.trans (by rw [List.length_map]))))) (field_tower_ok hS F hl ha hb h1 h2)) (one_ok (var_ok rfl))) (lean_field_tower_ok hS _ _ h hl e1 (by rw [e1]; exact h1) (by rw [e1]; exact h2)))) hf
end
end M.Lf


set_option Elab.async false
set_option linter.all false
set_option maxRecDepth 100000
set_option maxHeartbeats 4000000
/-! Bounds of fields: what the functions come to. -/
namespace M.Lf
open PySem PySem.Spec PyProof.Rows L2 M
section
variable [Tabs]
variable {S : Store}
/-- two `for` over plain sources, with no test -/
theorem lc2_map {α β : Type} {src ys : List D} {g g1 : MG} {mi1 : MI} {me : ME} {vs1 : List Nat} {e : M.Env} (ι : α → D) (f : α → β → D) (bs : List β) : ∀ (as : List α) (n : Nat), n + as.length * bs.length ≤ 100000 → ys.length = bs.length →
    (∀ x ∈ as, ∃ e1, g (ι x) e S = some e1 ∧ mi1 e1 S = .ok ⟨ys, []⟩ S ∧ lcM ⟨ys, []⟩ g1 mYes me (wipeE e1 vs1) ys S = .ok (bs.map (f x)) S) →
    lcM2 ⟨src, []⟩ g mYes mi1 g1 mYes me vs1 e (as.map ι) n S = .ok (as.flatMap fun x => bs.map (f x)) S
  | [], n, _, _, _ => by
    simp only [List.map_nil, List.flatMap_nil]
    unfold lcM2
    rw [if_pos (Src.ok_nil _ _)]
  | x :: as, n, hz, hy, h => by
    obtain ⟨e1, h1, h2, h3⟩ := h x (by simp)
    rw [List.length_cons, Nat.add_mul, Nat.one_mul] at hz
    have ih := lc2_map (src := src) ι f bs as (n + bs.length) (by omega) hy fun y m => h y (List.mem_cons_of_mem _ m)
    rw [List.map_cons]
    unfold lcM2
    rw [if_pos (Src.ok_nil _ _), h1]
    have y1 : noEx (mYes e1 S) = Res.ok true S := rfl
    have y2 : noEx (mi1 e1 S) = Res.ok ⟨ys, []⟩ S := by rw [h2]; rfl
    have y3 : n + ys.length ≤ sizeLine := sz (by omega)
    simp only [Option.bind_some, y1, y2, Res.bind_ok, if_true, h3, y3, List.length_map, ih, List.flatMap_cons]
theorem x_mLc2 {mi mi1 : MI} {g g1 : MG} {mt mt1 : MT} {me : ME} {vs vs1 : List Nat} {e : M.Env} {S1 : Store} {xs : List D} (hi : mi e S = .ok ⟨xs, []⟩ S1) : mLc2 mi g mt mi1 g1 mt1 me vs vs1 e S = lcM2 ⟨xs, []⟩ g mt mi1 g1 mt1 me vs1 (wipeE e vs) xs 0 S1 := by
  unfold mLc2
  rw [hi]; rfl
def SQ (p : Nat) (one other : Int) : List Int := [sq p 0 one other, sq p 1 one other, sq p 2 one other, sq p 3 one other]
theorem square_ok (hS : clS S.length S = true) (one other : Int) {p : Nat} (hp : p ≤ 4) : m_square_offsets [.int one, .int other, .int (p : Int)] S = .ok (.lst (I (SQ p one other))) S := by
  have turn : ∀ (acc : List Int) (f s : Int) (o4 o5 o8 : Option D), acc.length ≤ 4 → l_square_offsets_1 [some (.int one), some (.int other), some (.int (p : Int)), some (.loc S.length), o4, o5, some (.int f), some (.int s), o8] (S ++ [.lst (I acc)]) =
      some (.nx, [some (.int one), some (.int other), some (.int (p : Int)), some (.loc S.length), o4, o5, some (.int f), some (.int s), some (.int (f / 2 - s / 2))], S ++ [.lst (I (acc ++ [f / 2 - s / 2, f / 2 - s / 2 + s - f]))]) := by
    intro acc f s o4 o5 o8 hz
    refine (seq_nx (set_ok (bin_ok (bin_ok (var_ok rfl) rfl (x_fdiv ⟨by decide, by decide⟩)) (bin_ok (var_ok rfl) rfl (x_fdiv ⟨by decide, by decide⟩)) x_sub))).trans ?_
    refine expr_ok (d := .non) (meth_ok (var_ok rfl) rcv_last (one_ok (asV_ok (lst_ok (cons_ok (var_ok rfl) (one_ok (bin_ok (bin_ok (var_ok rfl) (var_ok rfl) x_add) (var_ok rfl) x_sub))) (by show 2 ≤ sizeLine; decide)))) ((ext_last (by simp; omega)).trans ?_))
    simp
  have ln : ∀ (x : Int) (i : Nat) (e : M.Env) (S : Store), clS S.length S = true → e[i]? = some (some (.int x)) → e[2]? = some (some (.int (p : Int))) → mCallF 2 m_lean (mCons (mVar i) (mCons (mVar 2) mNil)) e S = .ok (.int (lean x p)) S := fun x i e S hS h0 h1 => callF_ok (cons_ok (var_ok h0) (one_ok (var_ok h1))) (lean_ok hS x hp)
  have hS2 : clS (S ++ [OB.lst (I [])]).length (S ++ [OB.lst (I [])]) = true := clS_push hS rfl
  generalize hab : one - other / 2 = ab
  generalize hle : lean one p - lean other p / 2 = le
  have h1 := turn [] ab le (some (.int ab)) (some (.int le)) none (Nat.zero_le _)
  have h2 := turn [ab / 2 - le / 2, ab / 2 - le / 2 + le - ab] (ab + other) (le + lean other p) (some (.int ab)) (some (.int le)) (some (.int (ab / 2 - le / 2))) (by simp)
  have eS : SQ p one other = [ab / 2 - le / 2, ab / 2 - le / 2 + le - ab] ++ [(ab + other) / 2 - (le + lean other p) / 2, (ab + other) / 2 - (le + lean other p) / 2 + (le + lean other p) - (ab + other)] := by
    rw [← hab, ← hle]; rfl
  rw [← eS] at h2
  refine (retV_ok (d := .loc S.length) (d' := .lst (I (SQ p one other))) (S' := S ++ [.lst (I (SQ p one other))]) (run_rt (e' := [some (.int one), some (.int other), some (.int (p : Int)), some (.loc S.length), some (.int ab), some (.int le), some (.int (ab + other)), some (.int (le + lean other p)), some (.int ((ab + other) / 2 - (le + lean other p) / 2))]) ?_) (by simpa using hS) ?_).trans (by simp)
  · show b_square_offsets [some (.int one), some (.int other), some (.int (p : Int)), none, none, none, none, none, none] S = _
    unfold b_square_offsets
    refine (seq_nx (set_ok (asL_ok (lst_ok rfl (Nat.zero_le _))))).trans ?_
    refine (seq_nx (e1 := [some (.int one), some (.int other), some (.int (p : Int)), some (.loc S.length), some (.int ab), some (.int le), none, none, none]) (S1 := S ++ [.lst (I [])]) ((par_ok (bin_ok (var_ok rfl) (bin_ok (var_ok rfl) rfl (x_fdiv ⟨by decide, by decide⟩)) x_sub) (bin_ok (ln one 0 _ _ hS2 rfl rfl) (bin_ok (ln other 1 _ _ hS2 rfl rfl) rfl (x_fdiv ⟨by decide, by decide⟩)) x_sub)).trans (by rw [← hab, ← hle]; rfl))).trans ?_
    have hsrc : mSrc (mTup (mCons (mTup (mCons (mVar 4) (mCons (mVar 5) mNil))) (mCons (mTup (mCons (mBin dAdd (mVar 4) (mVar 1)) (mCons (mBin dAdd (mVar 5) (mCallF 2 m_lean (mCons (mVar 1) (mCons (mVar 2) mNil)))) mNil))) mNil))) [some (.int one), some (.int other), some (.int (p : Int)), some (.loc S.length), some (.int ab), some (.int le), none, none, none] (S ++ [.lst (I [])]) =
        .ok ⟨[.tup [.int ab, .int le], .tup [.int (ab + other), .int (le + lean other p)]], []⟩ (S ++ [.lst (I [])]) := src_tup (tup_ok (cons_ok (tup_ok (cons_ok (var_ok rfl) (one_ok (var_ok rfl))) (by show 2 ≤ sizeLine; decide)) (one_ok (tup_ok (cons_ok (bin_ok (var_ok rfl) (var_ok rfl) x_add) (one_ok (bin_ok (var_ok rfl) (ln other 1 _ _ hS2 rfl rfl) x_add))) (by show 2 ≤ sizeLine; decide)))) (by show 2 ≤ sizeLine; decide))
    exact (seq_nx (for_ok hsrc ((for_cons rfl h1).trans ((for_cons rfl h2).trans for_nil)))).trans (ret_ok (var_ok rfl))
  · simp only [fz]
    rw [if_neg (by omega)]
    simp [cls_I]
abbrev pr (x y : Int) : D := .tup [.int x, .int y]
def fsL (p : Nat) : List (Int × Int) := [(lo4 p 0, hi4 p 0), (lo4 p 1, hi4 p 1), (lo4 p 2, hi4 p 2), (lo4 p 3, hi4 p 3)]
abbrev prs (l : List (Int × Int)) : List D := l.map fun x => pr x.1 x.2
theorem cls_prs (n : Nat) : ∀ l : List (Int × Int), cls n (prs l) = true
  | [] => rfl
  | x :: l => by simp only [List.map_cons, cls, cl, cls_prs n l, Bool.and_true]
theorem rests_len (p : Nat) : (rests p).length = 2 ^ p := by simp [rests]
theorem rests_flat {f : Int → Int → Int} (p : Nat) : ((rests p).flatMap fun one => (rests p).map fun other => f one other) ≠ [] := by
  have h0 : 0 < 2 ^ p := Nat.two_pow_pos _
  obtain ⟨x, xs, e⟩ := List.exists_cons_of_ne_nil (l := rests p) fun z => by
    have := rests_len p
    rw [z] at this
    simp at this
    omega
  rw [e, List.flatMap_cons, List.map_cons]
  simp
theorem flat_len {f : Int → Int → D} (p : Nat) : ((rests p).flatMap fun one => (rests p).map fun other => f one other).length = 2 ^ p * 2 ^ p := by
  rw [List.length_flatMap]
  have : ((rests p).map fun a => ((rests p).map fun other => f a other).length) = (rests p).map fun _ => 2 ^ p := List.map_congr_left fun a _ => by rw [List.length_map, rests_len]
  rw [this, List.map_const', List.sum_replicate_nat, rests_len]
theorem rng_src {p : Nat} (hp : p ≤ 4) {e : M.Env} {i : Nat} (h : e[i]? = some (some (.rng 0 ((2 ^ (p + 1) : Nat) : Int)))) : mSrcRg (mVar i) e S = .ok ⟨I (rests (p + 1)), []⟩ S := by
  have h32 : 2 ^ (p + 1) ≤ 32 := Nat.pow_le_pow_right (n := 2) (j := 5) (by decide) (by omega)
  show (mVar i e S).bind _ = _
  rw [var_ok h, Res.bind_ok]
  have : srcRg (.rng 0 ((2 ^ (p + 1) : Nat) : Int)) = some ⟨rng 0 (2 ^ (p + 1)), []⟩ := by
    show (if (inR 0 && inR ((2 ^ (p + 1) : Nat) : Int)) = true then some (Src.mk (rng 0 (((2 ^ (p + 1) : Nat) : Int) - 0).toNat) []) else none) = _
    have h62 : ((2 ^ (p + 1) : Nat) : Int) < 2 ^ 62 := Int.lt_of_le_of_lt (b := 32) (by omega) (by decide)
    have hb : (inR 0 && inR ((2 ^ (p + 1) : Nat) : Int)) = true := by
      simp only [inR, Bool.and_eq_true, decide_eq_true_eq]
      refine ⟨⟨by decide, by decide⟩, ?_, h62⟩
      exact Int.le_trans (b := 0) (by decide) (Int.natCast_nonneg _)
    rw [if_pos hb, Int.sub_zero, Int.toNat_natCast]
  rw [this]
  have hrng : rng 0 (2 ^ (p + 1)) = I (rests (p + 1)) := by rw [rng_map, rests, I, List.map_map]; rfl
  rw [← hrng]; rfl
theorem field_spans_ok (hS : clS S.length S = true) {p : Nat} (hp : p ≤ 4) : m_field_spans [.int (p : Int)] S = .ok (.tup (prs (fsL p))) S := by
  have hlen := rests_len (p + 1)
  have h32 : 2 ^ (p + 1) ≤ 32 := Nat.pow_le_pow_right (n := 2) (j := 5) (by decide) (by omega)
  have hsq : 2 ^ (p + 1) * 2 ^ (p + 1) ≤ 1024 := Nat.mul_le_mul h32 h32
  have hshl : dShl (.int 2) (.int (p : Int)) S = some (.int ((2 ^ (p + 1) : Nat) : Int)) := by
    have : p = 0 ∨ p = 1 ∨ p = 2 ∨ p = 3 ∨ p = 4 := by omega
    rcases this with rfl | rfl | rfl | rfl | rfl <;> rfl
  have hrg : dRng [.int ((2 ^ (p + 1) : Nat) : Int)] S = some (.rng 0 ((2 ^ (p + 1) : Nat) : Int)) := by
    have : p = 0 ∨ p = 1 ∨ p = 2 ∨ p = 3 ∨ p = 4 := by omega
    rcases this with rfl | rfl | rfl | rfl | rfl <;> rfl
  generalize hR : D.rng 0 ((2 ^ (p + 1) : Nat) : Int) = R
  generalize hT : ((rests (p + 1)).map fun r => pr (off1 r p) (off2 r p)) = T
  generalize hU : ((rests (p + 1)).flatMap fun one => (rests (p + 1)).map fun other => D.lst (I (SQ p one other))) = U
  have hTl : T.length ≤ 32 := by rw [← hT, List.length_map, hlen]; exact h32
  have hUl : U.length ≤ 1024 := by rw [← hU, flat_len]; exact hsq
  have s1 : sSet (gN 2) (asV (mLc (mSrcRg (mVar 1)) (gN 3) mYes e_field_spans_1 [3])) [some (.int (p : Int)), some R, none, none, none, none, none, none, none, none, none] S = some (.nx, [some (.int (p : Int)), some R, some (.lst T), none, none, none, none, none, none, none, none], S) := by
    refine set_ok (asV_ok ((x_mLc' (rng_src hp (by rw [← hR]; rfl)) (by rw [List.length_map, hlen]; omega)).trans ?_))
    rw [← hT]
    exact lc_map (S := S) (xs := I (rests (p + 1))) (t := gN 3) (me := e_field_spans_1) (e := wipeE [some (.int (p : Int)), some R, none, none, none, none, none, none, none, none, none] [3]) D.int (fun r => pr (off1 r p) (off2 r p)) (rests (p + 1)) fun r hr => ⟨_, rfl, callF_ok (cons_ok (var_ok rfl) (one_ok (var_ok rfl))) (pair_ok hS r hp)⟩
  have s2 : sSet (gN 4) (asV (mLc2 (mSrcRg (mVar 1)) (gN 5) mYes (mSrcRg (mVar 1)) (gN 6) mYes e_field_spans_2 [5, 6] [6])) [some (.int (p : Int)), some R, some (.lst T), none, none, none, none, none, none, none, none] S = some (.nx, [some (.int (p : Int)), some R, some (.lst T), none, some (.lst U), none, none, none, none, none, none], S) := by
    refine set_ok (asV_ok ((x_mLc2 (rng_src hp (by rw [← hR]; rfl))).trans ?_))
    rw [← hU]
    refine lc2_map (S := S) (src := I (rests (p + 1))) (ys := I (rests (p + 1))) (g := gN 5) (g1 := gN 6) (mi1 := mSrcRg (mVar 1)) (me := e_field_spans_2) (vs1 := [6]) (e := wipeE [some (.int (p : Int)), some R, some (.lst T), none, none, none, none, none, none, none, none] [5, 6]) D.int (fun one other => D.lst (I (SQ p one other))) (rests (p + 1)) (rests (p + 1)) 0 (by rw [hlen]; omega) (by rw [List.length_map]) fun one _ => ⟨_, rfl, rng_src hp (by rw [← hR]; rfl), ?_⟩
    exact lc_map (S := S) (xs := I (rests (p + 1))) (t := gN 6) (me := e_field_spans_2) (e := wipeE [some (.int (p : Int)), some R, some (.lst T), none, none, some (.int one), none, none, none, none, none] [6]) D.int (fun other => D.lst (I (SQ p one other))) (rests (p + 1)) fun other _ => ⟨_, rfl, callF_ok (cons_ok (var_ok rfl) (cons_ok (var_ok rfl) (one_ok (var_ok rfl)))) (square_ok hS one other hp)⟩
  have turn : ∀ (k : Nat) (acc : List (Int × Int)) (o5 o6 o8 o9 o10 : Option D), k < 4 → acc.length ≤ 10 →
      l_field_spans_5 [some (.int (p : Int)), some R, some (.lst T), none, some (.lst U), o5, o6, some (.loc S.length), some (.int (k : Int)), o9, o10] (S ++ [.lst (prs acc)]) =
        some (.nx, [some (.int (p : Int)), some R, some (.lst T), none, some (.lst U), o5, o6, some (.loc S.length), some (.int (k : Int)), some (.lst (I (sides p k))), some (.lst (I (squares p k)))], S ++ [.lst (prs (acc ++ [(lo4 p k, hi4 p k)]))]) := by
    intro k acc o5 o6 o8 o9 o10 hk hz
    have hk2 : ((k : Int) / 2) = ((k / 2 : Nat) : Int) := by omega
    refine (seq_nx (set_ok (d := .lst (I (sides p k))) (S1 := S ++ [.lst (prs acc)]) (asV_ok ((x_mLc' (src_lst (var_ok rfl)) (by omega)).trans ?_)))).trans ?_
    · rw [← hT]
      have := lc_map (S := S ++ [.lst (prs acc)]) (xs := (rests (p + 1)).map fun r => pr (off1 r p) (off2 r p)) (t := gN 5) (me := e_field_spans_3) (e := wipeE [some (.int (p : Int)), some R, some (.lst ((rests (p + 1)).map fun r => pr (off1 r p) (off2 r p))), none, some (.lst U), o5, o6, some (.loc S.length), some (.int (k : Int)), o9, o10] [5]) (fun r => pr (off1 r p) (off2 r p)) (fun r => D.int (offK p k r)) (rests (p + 1)) fun r _ => by
        refine ⟨_, rfl, bin_ok (v := .int ((k / 2 : Nat) : Int)) (var_ok rfl) (bin_ok (var_ok rfl) rfl ((x_fdiv ⟨by decide, by decide⟩).trans (by rw [hk2]))) ?_⟩
        refine ix_tup [.int (off1 r p), .int (off2 r p)] (k / 2) _ _ ?_
        unfold offK
        have : k / 2 = 0 ∨ k / 2 = 1 := by omega
        rcases this with h | h <;> rw [h] <;> rfl
      refine Eq.trans this ?_
      unfold sides I
      rw [List.map_map]; rfl
    refine (seq_nx (set_ok (d := .lst (I (squares p k))) (S1 := S ++ [.lst (prs acc)]) (asV_ok ((x_mLc' (src_lst (var_ok rfl)) (by omega)).trans ?_)))).trans ?_
    · have e1 : U = (((rests (p + 1)).flatMap fun one => (rests (p + 1)).map fun other => (one, other))).map fun x => D.lst (I (SQ p x.1 x.2)) := by
        rw [← hU, List.map_flatMap]
        simp only [List.map_map]; rfl
      have e2 : I (squares p k) = (((rests (p + 1)).flatMap fun one => (rests (p + 1)).map fun other => (one, other))).map fun x => D.int (sq p k x.1 x.2) := by
        unfold squares I
        rw [List.map_flatMap, List.map_flatMap]
        simp only [List.map_map]; rfl
      rw [e2, e1]
      refine lc_map (S := S ++ [.lst (prs acc)]) (t := gN 5) (me := e_field_spans_4) (fun (x : Int × Int) => D.lst (I (SQ p x.1 x.2))) (fun x => D.int (sq p k x.1 x.2)) _ fun x _ => ?_
      refine ⟨_, rfl, bin_ok (v := .int (k : Int)) (var_ok rfl) (var_ok rfl) (ix_lst _ k _ _ ?_)⟩
      have : k = 0 ∨ k = 1 ∨ k = 2 ∨ k = 3 := by omega
      rcases this with rfl | rfl | rfl | rfl <;> rfl
    have n1 : sides p k ≠ [] := by
      unfold sides
      have h0 : 0 < 2 ^ (p + 1) := Nat.two_pow_pos _
      intro z
      have := congrArg List.length z
      simp [hlen] at this
    have n2 : squares p k ≠ [] := rests_flat (p + 1)
    refine expr_ok (d := .non) (meth_ok (var_ok rfl) rcv_last (one_ok (tup_ok (ds := [.int (lo4 p k), .int (hi4 p k)]) (cons_ok (bin_ok (call_ok (one_ok (var_ok rfl)) (min_ok n1)) (call_ok (one_ok (var_ok rfl)) (min_ok n2)) x_add) (one_ok (bin_ok (call_ok (one_ok (var_ok rfl)) (max_ok n1)) (call_ok (one_ok (var_ok rfl)) (max_ok n2)) x_add))) (by show 2 ≤ sizeLine; decide))) ((app_last (by rw [List.length_map]; omega)).trans ?_))
    rw [prs, prs, List.map_append]; rfl
  have t0 := turn 0 [] none none none none none (by decide) (by simp)
  have t1 := turn 1 [(lo4 p 0, hi4 p 0)] none none (some (.int ((0 : Nat) : Int))) (some (.lst (I (sides p 0)))) (some (.lst (I (squares p 0)))) (by decide) (by simp)
  have t2 := turn 2 [(lo4 p 0, hi4 p 0), (lo4 p 1, hi4 p 1)] none none (some (.int ((1 : Nat) : Int))) (some (.lst (I (sides p 1)))) (some (.lst (I (squares p 1)))) (by decide) (by simp)
  have t3 := turn 3 [(lo4 p 0, hi4 p 0), (lo4 p 1, hi4 p 1), (lo4 p 2, hi4 p 2)] none none (some (.int ((2 : Nat) : Int))) (some (.lst (I (sides p 2)))) (some (.lst (I (squares p 2)))) (by decide) (by simp)
  refine (retV_ok (d := .tup (prs (fsL p))) (d' := .tup (prs (fsL p))) (S' := S ++ [.lst (prs (fsL p))]) (run_rt (e' := [some (.int (p : Int)), some R, some (.lst T), none, some (.lst U), none, none, some (.loc S.length), some (.int ((3 : Nat) : Int)), some (.lst (I (sides p 3))), some (.lst (I (squares p 3)))]) ?_) (by simpa using hS) ?_).trans (by simp)
  · show b_field_spans [some (.int (p : Int)), none, none, none, none, none, none, none, none, none, none] S = _
    unfold b_field_spans
    refine (seq_nx (expr_ok (callF_ok (one_ok (var_ok rfl)) (plane_ok hS hp)))).trans ?_
    refine (seq_nx (set_ok (d := R) (call_ok (one_ok (bin_ok rfl (var_ok rfl) hshl)) (hrg.trans (by rw [hR]))))).trans ?_
    refine (seq_nx s1).trans ((seq_nx s2).trans ((seq_nx (set_ok (asL_ok (lst_ok rfl (Nat.zero_le _))))).trans ?_))
    refine (seq_nx (for_ok (src_rng 4 (by decide) rfl) ((for_cons rfl t0).trans ((for_cons rfl t1).trans ((for_cons rfl t2).trans ((for_cons rfl t3).trans for_nil)))))).trans ?_
    exact ret_ok (call_ok (one_ok (var_ok rfl)) (tup_at (get_last _ _)))
  · simp only [fz, cl, cls_prs, if_true]
/-- sums of spans of any kind -/
theorem sums_gen (hS : clS S.length S = true) {α : Type} (g : α → List (Int × Int)) (ps : List α) (hl : ps.length ≤ 100) (hg : ∀ p ∈ ps, g p ≠ [] ∧ (g p).length ≤ 100) :
    m_sums_of [.lst (ps.map fun p => .tup (prs (g p)))] S = .ok (pr (ps.map fun p => lo ((g p).map (·.1))).sum (ps.map fun p => hi ((g p).map (·.2))).sum) S := by
  have row : ∀ (l : List (Int × Int)) (w : Int × Int → Int) (me : ME) (e : M.Env), l.length ≤ 100 → e[3]? = some (some (.tup (prs l))) → (∀ x : Int × Int, me ((wipeE e [2]).set 2 (some (pr x.1 x.2))) S = .ok (.int (w x)) S) → asV (mLc (mSrc (mVar 3)) (gN 2) mYes me [2]) e S = .ok (.lst (I (l.map w))) S := by
    intro l w me e hz h3 h
    refine asV_ok ((x_mLc' (src_tup (var_ok h3)) (by rw [List.length_map]; omega)).trans ?_)
    have := lc_map (S := S) (xs := prs l) (t := gN 2) (me := me) (e := wipeE e [2]) (fun (x : Int × Int) => pr x.1 x.2) (fun x => D.int (w x)) l fun x _ => ⟨_, rfl, h x⟩
    refine Eq.trans this ?_
    unfold I
    rw [List.map_map]; rfl
  have col : ∀ (me : ME) (v : α → Int) (e : M.Env), e[0]? = some (some (.lst (ps.map fun p => .tup (prs (g p))))) → (∀ p ∈ ps, me ((wipeE e [3]).set 3 (some (.tup (prs (g p))))) S = .ok (.int (v p)) S) → asV (mLc (mSrc (mVar 0)) (gN 3) mYes me [3]) e S = .ok (.lst (I (ps.map v))) S := by
    intro me v e h0 h
    refine asV_ok ((x_mLc' (src_lst (var_ok h0)) (by rw [List.length_map]; omega)).trans ?_)
    have := lc_map (S := S) (xs := ps.map fun p => D.tup (prs (g p))) (t := gN 3) (me := me) (e := wipeE e [3]) (fun p => D.tup (prs (g p))) (fun p => D.int (v p)) ps fun p hp => ⟨_, rfl, h p hp⟩
    refine Eq.trans this ?_
    unfold I
    rw [List.map_map]; rfl
  have i0 : ∀ (x y : Int) (e : M.Env), e[2]? = some (some (.tup [.int x, .int y])) → mBin dIx (mVar 2) (mC (.int 0)) e S = .ok (.int x) S := fun x y e h => bin_ok (v := .int ((0 : Nat) : Int)) (var_ok h) rfl (ix_tup [.int x, .int y] 0 _ _ rfl)
  have i1 : ∀ (x y : Int) (e : M.Env), e[2]? = some (some (.tup [.int x, .int y])) → mBin dIx (mVar 2) (mC (.int 1)) e S = .ok (.int y) S := fun x y e h => bin_ok (v := .int ((1 : Nat) : Int)) (var_ok h) rfl (ix_tup [.int x, .int y] 1 _ _ rfl)
  have ne : ∀ p ∈ ps, ∀ w : Int × Int → Int, (g p).map w ≠ [] := fun p hp w z => (hg p hp).1 (List.map_eq_nil_iff.mp z)
  refine retV_id (run_rt (e' := [some (.lst (ps.map fun p => .tup (prs (g p)))), some (.int (ps.map fun p => lo ((g p).map (·.1))).sum), none, none]) ?_) hS rfl
  show b_sums_of [some (.lst (ps.map fun p => .tup (prs (g p)))), none, none, none] S = _
  refine (seq_nx (set_ok (call_ok (one_ok (col e_sums_of_2 (fun p => lo ((g p).map (·.1))) _ rfl fun p hp => ?_)) sum_ok))).trans (ret_ok (tup_ok (cons_ok (var_ok rfl) (one_ok (call_ok (one_ok (col e_sums_of_4 (fun p => hi ((g p).map (·.2))) _ rfl fun p hp => ?_)) sum_ok))) (by show 2 ≤ sizeLine; decide)))
  · exact call_ok (one_ok (row (g p) (·.1) e_sums_of_1 _ (hg p hp).2 rfl fun x => i0 _ _ _ rfl)) (min_ok (ne p hp _))
  · exact call_ok (one_ok (row (g p) (·.2) e_sums_of_3 _ (hg p hp).2 rfl fun x => i1 _ _ _ rfl)) (max_ok (ne p hp _))
theorem field_bounds_ok (hS : clS S.length S = true) {ps : List Nat} (h : ∀ p ∈ ps, p ≤ 4) (hl : ps.length ≤ 6) : m_field_bounds [.tup (N ps)] S = .ok (.tup [.int (leastFS ps), .int (mostFS ps)]) S := by
  refine retV_id (run_rt (e' := [some (.tup (N ps)), none]) ?_) hS rfl
  show b_field_bounds [some (.tup (N ps)), none] S = _
  have hs := sums_gen hS fsL ps (by omega) fun p _ => ⟨by unfold fsL; simp, by unfold fsL; simp⟩
  refine (seq_nx (expr_ok (callF_ok (cons_ok (var_ok rfl) (one_ok rfl)) (check_none hS h hl)))).trans (ret_ok (callF_ok (one_ok (asV_ok ((x_mLc' (src_tup (xs := N ps) (var_ok rfl)) (by rw [List.length_map]; omega)).trans ?_))) hs))
  exact lc_map (S := S) (xs := N ps) (t := gN 1) (me := e_field_bounds_1) (e := wipeE [some (.tup (N ps)), none] [1]) (fun (p : Nat) => D.int (p : Int)) (fun p => .tup (prs (fsL p))) ps fun p hp => ⟨_, rfl, callF_ok (one_ok (var_ok rfl)) (field_spans_ok hS (h p hp))⟩
/-- what a picture shows: greys alone -/
def clamp (x : Int) : Int := min (max x 0) 15
theorem min2 (x y : Int) : dMin [.int x, .int y] S = some (.int (min x y)) := by
  show some (D.int (if y < x then y else x)) = _
  refine congrArg (fun z => some (D.int z)) ?_
  split <;> omega
theorem max2 (x y : Int) : dMax [.int x, .int y] S = some (.int (max x y)) := by
  show some (D.int (if y > x then y else x)) = _
  refine congrArg (fun z => some (D.int z)) ?_
  split <;> omega
theorem shown_picture_ok (hS : clS S.length S = true) (F : Fld) {ps : List Nat} {a b : Nat} (h : ∀ p ∈ ps, p ≤ 4) (hl : ps.length ≤ 6) (ha : 0 < a) (hb : 0 < b) (h1 : 2 ^ ps.length * a ≤ 5000) (h2 : 2 ^ ps.length * b ≤ 5000) : m_shown_picture [FD F (2 ^ ps.length * a) (2 ^ ps.length * b), .tup (N ps)] S = .ok (FD (fun i j => clamp (shF ps F i j)) (2 ^ ps.length * a) (2 ^ ps.length * b)) S := by
  have hf := shown_field_ok hS F h hl ha hb h1 h2
  generalize 2 ^ ps.length * a = A at *
  generalize 2 ^ ps.length * b = B at *
  generalize shF ps F = G at *
  refine retV_id (run_rt (e' := [some (FD F A B), some (.tup (N ps)), some (FD G A B), none, none]) ?_) hS (cl_FD _ _ _ _)
  show b_shown_picture [some (FD F A B), some (.tup (N ps)), none, none, none] S = _
  refine (seq_nx (set_ok (callF_ok (cons_ok (var_ok rfl) (one_ok (var_ok rfl))) hf))).trans (ret_ok (tuple_ok ((x_mLc' (src_tup (xs := Rws (fldL G A B)) (var_ok rfl)) (by rw [rws_len]; omega)).trans ?_)))
  have e1 : Rws (fldL (fun i j => clamp (G i j)) A B) = (fldL G A B).map fun r => D.tup (I (r.map clamp)) := by
    unfold fldL Rws
    rw [List.map_map, List.map_map]
    refine List.map_congr_left fun i _ => ?_
    show _ = D.tup (I ((rowL (G i) B).map clamp))
    rw [rowL_map]; rfl
  rw [e1]
  refine lc_map (S := S) (xs := Rws (fldL G A B)) (t := gN 4) (me := e_shown_picture_2) (e := wipeE [some (FD F A B), some (.tup (N ps)), some (FD G A B), none, none] [4]) (fun r => D.tup (I r)) (fun r => D.tup (I (r.map clamp))) (fldL G A B) fun r hr => ⟨_, rfl, ?_⟩
  have hz : r.length ≤ 5000 := by
    obtain ⟨i, _, rfl⟩ := List.mem_map.mp hr
    rw [rowL_len]; exact h2
  refine tuple_ok ((x_mLc' (src_tup (xs := I r) (var_ok rfl)) (by rw [List.length_map]; omega)).trans ?_)
  have := lc_map (S := S) (xs := I r) (t := gN 3) (me := e_shown_picture_1) (e := wipeE [some (FD F A B), some (.tup (N ps)), some (FD G A B), none, some (.tup (I r))] [3]) D.int (fun x => D.int (clamp x)) r fun x _ => ⟨_, rfl, call_ok (cons_ok (call_ok (cons_ok (var_ok rfl) (one_ok rfl)) (max2 _ _)) (one_ok rfl)) (min2 _ _)⟩
  refine Eq.trans this ?_
  unfold I
  rw [List.map_map]; rfl
end
end M.Lf


set_option Elab.async false
set_option linter.all false
set_option maxRecDepth 100000
set_option maxHeartbeats 4000000
namespace K40
open PySem PySem.Spec PyProof.Rows L2 M M.Lf
variable [Tabs]
def top (i : Nat) : Stmt := PySem.Challenge.pw_lostastold_k40_whole_towers_and_what_the.main.body.getD i (.Pass ⟨0, 0, 0, 0⟩)
abbrev s__law_draws : Stmt := top 41
abbrev s__law_take : Stmt := top 42
abbrev s__law_row : Stmt := top 45
abbrev s__law_two : Stmt := top 44
abbrev s_is_number : Stmt := top 5
abbrev s_check_levels : Stmt := top 8
abbrev s_lifted : Stmt := top 9
abbrev s_tower : Stmt := top 11
abbrev s__law_alike : Stmt := top 43
abbrev s__law_own : Stmt := top 46
abbrev s_lowered : Stmt := top 10
abbrev s_row_of : Stmt := top 12
abbrev s__law_means : Stmt := top 47
abbrev s__law_extremes : Stmt := top 48
abbrev s__law_changed : Stmt := top 49
abbrev s_are_planes : Stmt := top 23
abbrev s_check_planes : Stmt := top 24
abbrev s_sums_of : Stmt := top 37
abbrev s_check_plane : Stmt := top 32
abbrev s_lean : Stmt := top 25
abbrev s_pair_offsets : Stmt := top 33
abbrev s_spans : Stmt := top 34
abbrev s_bounds : Stmt := top 38
abbrev s_lean_row : Stmt := top 26
abbrev s_lean_tower : Stmt := top 27
abbrev s_shown_row : Stmt := top 29
abbrev s__law_planes : Stmt := top 50
abbrev s_whole : Stmt := top 15
abbrev s_lifted_rows : Stmt := top 14
abbrev s_turned : Stmt := top 13
abbrev s_lifted_field : Stmt := top 17
abbrev s_field_tower : Stmt := top 19
abbrev s_lowered_rows : Stmt := top 16
abbrev s_lowered_field : Stmt := top 18
abbrev s_field_of : Stmt := top 20
abbrev s_lean_field_tower : Stmt := top 28
abbrev s_shown_field : Stmt := top 30
abbrev s_square_offsets : Stmt := top 35
abbrev s_field_spans : Stmt := top 36
abbrev s_field_bounds : Stmt := top 39
abbrev s__law_field : Stmt := top 51
abbrev s_law : Stmt := top 52
theorem sc__law_draws : FnScope ["script", "draws", "cell", "number", "first", "k", "seed"] ["script"] (defScope s__law_draws) := ⟨rfl, rfl, rfl, by decide +kernel, rfl, by decide +kernel, by decide +kernel⟩
theorem sc__law_take : FnScope ["draws", "bound"] ["draws", "bound"] (defScope s__law_take) := ⟨rfl, rfl, rfl, by decide +kernel, rfl, by decide +kernel, by decide +kernel⟩
theorem sc__law_row : FnScope ["draws", "many", "kind", "first", "step", "k"] ["draws", "many"] (defScope s__law_row) := ⟨rfl, rfl, rfl, by decide +kernel, rfl, by decide +kernel, by decide +kernel⟩
theorem sc__law_two : FnScope ["many", "found", "k"] ["many"] (defScope s__law_two) := ⟨rfl, rfl, rfl, by decide +kernel, rfl, by decide +kernel, by decide +kernel⟩
theorem sc_is_number : FnScope ["value", "least", "most"] ["value", "least", "most"] (defScope s_is_number) := ⟨rfl, rfl, rfl, by decide +kernel, rfl, by decide +kernel, by decide +kernel⟩
theorem sc_check_levels : FnScope ["levels"] ["levels"] (defScope s_check_levels) := ⟨rfl, rfl, rfl, by decide +kernel, rfl, by decide +kernel, by decide +kernel⟩
theorem sc_lifted : FnScope ["row", "sums", "differences", "place"] ["row"] (defScope s_lifted) := ⟨rfl, rfl, rfl, by decide +kernel, rfl, by decide +kernel, by decide +kernel⟩
theorem sc_tower : FnScope ["row", "levels", "rows", "_", "differences"] ["row", "levels"] (defScope s_tower) := ⟨rfl, rfl, rfl, by decide +kernel, rfl, by decide +kernel, by decide +kernel⟩
theorem sc__law_alike : FnScope ["found", "due", "k"] ["found", "due"] (defScope s__law_alike) := ⟨rfl, rfl, rfl, by decide +kernel, rfl, by decide +kernel, by decide +kernel⟩
theorem sc__law_own : FnScope ["row", "levels", "sums", "rows", "level", "pairs", "k", "rest", "differences", "one", "other"] ["row", "levels"] (defScope s__law_own) := ⟨rfl, rfl, rfl, by decide +kernel, rfl, by decide +kernel, by decide +kernel⟩
theorem sc_lowered : FnScope ["sums", "differences", "found", "one", "difference", "first"] ["sums", "differences"] (defScope s_lowered) := ⟨rfl, rfl, rfl, by decide +kernel, rfl, by decide +kernel, by decide +kernel⟩
theorem sc_row_of : FnScope ["value", "row", "differences"] ["value"] (defScope s_row_of) := ⟨rfl, rfl, rfl, by decide +kernel, rfl, by decide +kernel, by decide +kernel⟩
theorem sc__law_means : FnScope ["row", "levels", "last", "many"] ["row", "levels"] (defScope s__law_means) := ⟨rfl, rfl, rfl, by decide +kernel, rfl, by decide +kernel, by decide +kernel⟩
theorem sc__law_extremes : FnScope ["levels", "row", "level", "one", "last"] ["levels"] (defScope s__law_extremes) := ⟨rfl, rfl, rfl, by decide +kernel, rfl, by decide +kernel, by decide +kernel⟩
theorem sc__law_changed : FnScope ["draws", "row", "levels", "more", "power", "told", "one", "first", "step", "rising", "k", "small", "great"] ["draws", "row", "levels"] (defScope s__law_changed) := ⟨rfl, rfl, rfl, by decide +kernel, rfl, by decide +kernel, by decide +kernel⟩
theorem sc_are_planes : FnScope ["value", "one"] ["value"] (defScope s_are_planes) := ⟨rfl, rfl, rfl, by decide +kernel, rfl, by decide +kernel, by decide +kernel⟩
theorem sc_check_planes : FnScope ["planes", "levels"] ["planes", "levels"] (defScope s_check_planes) := ⟨rfl, rfl, rfl, by decide +kernel, rfl, by decide +kernel, by decide +kernel⟩
theorem sc_sums_of : FnScope ["rows", "least", "one", "row"] ["rows"] (defScope s_sums_of) := ⟨rfl, rfl, rfl, by decide +kernel, rfl, by decide +kernel, by decide +kernel⟩
theorem sc_check_plane : FnScope ["planes"] ["planes"] (defScope s_check_plane) := ⟨rfl, rfl, rfl, by decide +kernel, rfl, by decide +kernel, by decide +kernel⟩
theorem sc_lean : FnScope ["number", "planes", "step"] ["number", "planes"] (defScope s_lean) := ⟨rfl, rfl, rfl, by decide +kernel, rfl, by decide +kernel, by decide +kernel⟩
theorem sc_pair_offsets : FnScope ["rest", "planes", "first"] ["rest", "planes"] (defScope s_pair_offsets) := ⟨rfl, rfl, rfl, by decide +kernel, rfl, by decide +kernel, by decide +kernel⟩
theorem sc_spans : FnScope ["planes", "told", "rest", "one", "which"] ["planes"] (defScope s_spans) := ⟨rfl, rfl, rfl, by decide +kernel, rfl, by decide +kernel, by decide +kernel⟩
theorem sc_bounds : FnScope ["planes", "one"] ["planes"] (defScope s_bounds) := ⟨rfl, rfl, rfl, by decide +kernel, rfl, by decide +kernel, by decide +kernel⟩
theorem sc_lean_row : FnScope ["row", "planes", "one"] ["row", "planes"] (defScope s_lean_row) := ⟨rfl, rfl, rfl, by decide +kernel, rfl, by decide +kernel, by decide +kernel⟩
theorem sc_lean_tower : FnScope ["value", "planes", "row", "many"] ["value", "planes"] (defScope s_lean_tower) := ⟨rfl, rfl, rfl, by decide +kernel, rfl, by decide +kernel, by decide +kernel⟩
theorem sc_shown_row : FnScope ["row", "planes"] ["row", "planes"] (defScope s_shown_row) := ⟨rfl, rfl, rfl, by decide +kernel, rfl, by decide +kernel, by decide +kernel⟩
theorem sc__law_planes : FnScope ["draws", "row", "levels", "planes", "level", "least", "most", "found", "offsets", "k", "one"] ["draws", "row", "levels"] (defScope s__law_planes) := ⟨rfl, rfl, rfl, by decide +kernel, rfl, by decide +kernel, by decide +kernel⟩
theorem sc_whole : FnScope ["field"] ["field"] (defScope s_whole) := ⟨rfl, rfl, rfl, by decide +kernel, rfl, by decide +kernel, by decide +kernel⟩
theorem sc_lifted_rows : FnScope ["field", "told", "row", "sums", "differences", "one"] ["field"] (defScope s_lifted_rows) := ⟨rfl, rfl, rfl, by decide +kernel, rfl, by decide +kernel, by decide +kernel⟩
theorem sc_turned : FnScope ["field"] ["field"] (defScope s_turned) := ⟨rfl, rfl, rfl, by decide +kernel, rfl, by decide +kernel, by decide +kernel⟩
theorem sc_lifted_field : FnScope ["field", "sums", "differences", "found", "one", "both"] ["field"] (defScope s_lifted_field) := ⟨rfl, rfl, rfl, by decide +kernel, rfl, by decide +kernel, by decide +kernel⟩
theorem sc_field_tower : FnScope ["field", "levels", "rows", "_", "told"] ["field", "levels"] (defScope s_field_tower) := ⟨rfl, rfl, rfl, by decide +kernel, rfl, by decide +kernel, by decide +kernel⟩
theorem sc_lowered_rows : FnScope ["sums", "differences", "one", "other"] ["sums", "differences"] (defScope s_lowered_rows) := ⟨rfl, rfl, rfl, by decide +kernel, rfl, by decide +kernel, by decide +kernel⟩
theorem sc_lowered_field : FnScope ["sums", "others", "first", "second"] ["sums", "others"] (defScope s_lowered_field) := ⟨rfl, rfl, rfl, by decide +kernel, rfl, by decide +kernel, by decide +kernel⟩
theorem sc_field_of : FnScope ["value", "field", "others"] ["value"] (defScope s_field_of) := ⟨rfl, rfl, rfl, by decide +kernel, rfl, by decide +kernel, by decide +kernel⟩
theorem sc_lean_field_tower : FnScope ["value", "planes", "found", "others", "many", "row", "field"] ["value", "planes"] (defScope s_lean_field_tower) := ⟨rfl, rfl, rfl, by decide +kernel, rfl, by decide +kernel, by decide +kernel⟩
theorem sc_shown_field : FnScope ["field", "planes"] ["field", "planes"] (defScope s_shown_field) := ⟨rfl, rfl, rfl, by decide +kernel, rfl, by decide +kernel, by decide +kernel⟩
theorem sc_square_offsets : FnScope ["one", "other", "planes", "found", "above", "leaner", "first", "second", "left"] ["one", "other", "planes"] (defScope s_square_offsets) := ⟨rfl, rfl, rfl, by decide +kernel, rfl, by decide +kernel, by decide +kernel⟩
theorem sc_field_spans : FnScope ["planes", "rests", "sides", "rest", "told", "one", "other", "found", "place", "ends", "rows"] ["planes"] (defScope s_field_spans) := ⟨rfl, rfl, rfl, by decide +kernel, rfl, by decide +kernel, by decide +kernel⟩
theorem sc_field_bounds : FnScope ["planes", "one"] ["planes"] (defScope s_field_bounds) := ⟨rfl, rfl, rfl, by decide +kernel, rfl, by decide +kernel, by decide +kernel⟩
theorem sc__law_field : FnScope ["draws", "levels", "size", "field", "k", "row", "told", "total", "planes", "level", "last", "found", "span", "offsets", "j"] ["draws", "levels"] (defScope s__law_field) := ⟨rfl, rfl, rfl, by decide +kernel, rfl, by decide +kernel, by decide +kernel⟩
theorem sc_law : FnScope ["script", "draws", "turn", "levels", "row", "told", "some", "sums", "differences"] ["script"] (defScope s_law) := ⟨rfl, rfl, rfl, by decide +kernel, rfl, by decide +kernel, by decide +kernel⟩
theorem room65 {k : Nat} {A : Around} (r : Room k A) : A.units + 65 < cLine := by have := r.un; omega
/-- what the head tells -/
structure Facts (K : PySem.W.Frag) (mg : Str → Option Value) (base : Heap) where
  fd__law_draws : FuncData
  F__law_draws : FunD K "_law_draws" "_law_draws" (defArgs s__law_draws) (defBody s__law_draws) (defScope s__law_draws) [] [] (He.ga K "_law_draws") fd__law_draws
  g__law_draws : mg "_law_draws" = some (.ref (He.ga K "_law_draws"))
  b__law_draws : Binds K fd__law_draws ["script"] []
  fd__law_take : FuncData
  F__law_take : FunD K "_law_take" "_law_take" (defArgs s__law_take) (defBody s__law_take) (defScope s__law_take) [] [] (He.ga K "_law_take") fd__law_take
  g__law_take : mg "_law_take" = some (.ref (He.ga K "_law_take"))
  b__law_take : Binds K fd__law_take ["draws", "bound"] []
  fd__law_row : FuncData
  F__law_row : FunD K "_law_row" "_law_row" (defArgs s__law_row) (defBody s__law_row) (defScope s__law_row) [] [] (He.ga K "_law_row") fd__law_row
  g__law_row : mg "_law_row" = some (.ref (He.ga K "_law_row"))
  b__law_row : Binds K fd__law_row ["draws", "many"] []
  fd__law_two : FuncData
  F__law_two : FunD K "_law_two" "_law_two" (defArgs s__law_two) (defBody s__law_two) (defScope s__law_two) [] [] (He.ga K "_law_two") fd__law_two
  g__law_two : mg "_law_two" = some (.ref (He.ga K "_law_two"))
  b__law_two : Binds K fd__law_two ["many"] []
  fd_is_number : FuncData
  F_is_number : FunD K "is_number" "is_number" (defArgs s_is_number) (defBody s_is_number) (defScope s_is_number) [] [] (He.ga K "is_number") fd_is_number
  g_is_number : mg "is_number" = some (.ref (He.ga K "is_number"))
  b_is_number : Binds K fd_is_number ["value", "least", "most"] []
  fd_check_levels : FuncData
  F_check_levels : FunD K "check_levels" "check_levels" (defArgs s_check_levels) (defBody s_check_levels) (defScope s_check_levels) [] [] (He.ga K "check_levels") fd_check_levels
  g_check_levels : mg "check_levels" = some (.ref (He.ga K "check_levels"))
  b_check_levels : Binds K fd_check_levels ["levels"] []
  fd_lifted : FuncData
  F_lifted : FunD K "lifted" "lifted" (defArgs s_lifted) (defBody s_lifted) (defScope s_lifted) [] [] (He.ga K "lifted") fd_lifted
  g_lifted : mg "lifted" = some (.ref (He.ga K "lifted"))
  b_lifted : Binds K fd_lifted ["row"] []
  fd_tower : FuncData
  F_tower : FunD K "tower" "tower" (defArgs s_tower) (defBody s_tower) (defScope s_tower) [] [] (He.ga K "tower") fd_tower
  g_tower : mg "tower" = some (.ref (He.ga K "tower"))
  b_tower : Binds K fd_tower ["row", "levels"] []
  fd__law_alike : FuncData
  F__law_alike : FunD K "_law_alike" "_law_alike" (defArgs s__law_alike) (defBody s__law_alike) (defScope s__law_alike) [] [] (He.ga K "_law_alike") fd__law_alike
  g__law_alike : mg "_law_alike" = some (.ref (He.ga K "_law_alike"))
  b__law_alike : Binds K fd__law_alike ["found", "due"] []
  fd__law_own : FuncData
  F__law_own : FunD K "_law_own" "_law_own" (defArgs s__law_own) (defBody s__law_own) (defScope s__law_own) [] [] (He.ga K "_law_own") fd__law_own
  g__law_own : mg "_law_own" = some (.ref (He.ga K "_law_own"))
  b__law_own : Binds K fd__law_own ["row", "levels"] []
  fd_lowered : FuncData
  F_lowered : FunD K "lowered" "lowered" (defArgs s_lowered) (defBody s_lowered) (defScope s_lowered) [] [] (He.ga K "lowered") fd_lowered
  g_lowered : mg "lowered" = some (.ref (He.ga K "lowered"))
  b_lowered : Binds K fd_lowered ["sums", "differences"] []
  fd_row_of : FuncData
  F_row_of : FunD K "row_of" "row_of" (defArgs s_row_of) (defBody s_row_of) (defScope s_row_of) [] [] (He.ga K "row_of") fd_row_of
  g_row_of : mg "row_of" = some (.ref (He.ga K "row_of"))
  b_row_of : Binds K fd_row_of ["value"] []
  fd__law_means : FuncData
  F__law_means : FunD K "_law_means" "_law_means" (defArgs s__law_means) (defBody s__law_means) (defScope s__law_means) [] [] (He.ga K "_law_means") fd__law_means
  g__law_means : mg "_law_means" = some (.ref (He.ga K "_law_means"))
  b__law_means : Binds K fd__law_means ["row", "levels"] []
  fd__law_extremes : FuncData
  F__law_extremes : FunD K "_law_extremes" "_law_extremes" (defArgs s__law_extremes) (defBody s__law_extremes) (defScope s__law_extremes) [] [] (He.ga K "_law_extremes") fd__law_extremes
  g__law_extremes : mg "_law_extremes" = some (.ref (He.ga K "_law_extremes"))
  b__law_extremes : Binds K fd__law_extremes ["levels"] []
  fd__law_changed : FuncData
  F__law_changed : FunD K "_law_changed" "_law_changed" (defArgs s__law_changed) (defBody s__law_changed) (defScope s__law_changed) [] [] (He.ga K "_law_changed") fd__law_changed
  g__law_changed : mg "_law_changed" = some (.ref (He.ga K "_law_changed"))
  b__law_changed : Binds K fd__law_changed ["draws", "row", "levels"] []
  fd_are_planes : FuncData
  F_are_planes : FunD K "are_planes" "are_planes" (defArgs s_are_planes) (defBody s_are_planes) (defScope s_are_planes) [] [] (He.ga K "are_planes") fd_are_planes
  g_are_planes : mg "are_planes" = some (.ref (He.ga K "are_planes"))
  b_are_planes : Binds K fd_are_planes ["value"] []
  c_are_planes : Addr
  P_are_planes : Addr
  hc_are_planes : fd_are_planes.code = .ref c_are_planes
  TB_are_planes : GxR.TabB base mg c_are_planes P_are_planes
  T_are_planes : P_are_planes ∈ Tabs.t
  fd_check_planes : FuncData
  F_check_planes : FunD K "check_planes" "check_planes" (defArgs s_check_planes) (defBody s_check_planes) (defScope s_check_planes) [] [] (He.ga K "check_planes") fd_check_planes
  g_check_planes : mg "check_planes" = some (.ref (He.ga K "check_planes"))
  b_check_planes : Binds K fd_check_planes ["planes", "levels"] []
  fd_sums_of : FuncData
  F_sums_of : FunD K "sums_of" "sums_of" (defArgs s_sums_of) (defBody s_sums_of) (defScope s_sums_of) [] [] (He.ga K "sums_of") fd_sums_of
  g_sums_of : mg "sums_of" = some (.ref (He.ga K "sums_of"))
  b_sums_of : Binds K fd_sums_of ["rows"] []
  fd_check_plane : FuncData
  F_check_plane : FunD K "check_plane" "check_plane" (defArgs s_check_plane) (defBody s_check_plane) (defScope s_check_plane) [] [] (He.ga K "check_plane") fd_check_plane
  g_check_plane : mg "check_plane" = some (.ref (He.ga K "check_plane"))
  b_check_plane : Binds K fd_check_plane ["planes"] []
  fd_lean : FuncData
  F_lean : FunD K "lean" "lean" (defArgs s_lean) (defBody s_lean) (defScope s_lean) [] [] (He.ga K "lean") fd_lean
  g_lean : mg "lean" = some (.ref (He.ga K "lean"))
  b_lean : Binds K fd_lean ["number", "planes"] []
  fd_pair_offsets : FuncData
  F_pair_offsets : FunD K "pair_offsets" "pair_offsets" (defArgs s_pair_offsets) (defBody s_pair_offsets) (defScope s_pair_offsets) [] [] (He.ga K "pair_offsets") fd_pair_offsets
  g_pair_offsets : mg "pair_offsets" = some (.ref (He.ga K "pair_offsets"))
  b_pair_offsets : Binds K fd_pair_offsets ["rest", "planes"] []
  fd_spans : FuncData
  F_spans : FunD K "spans" "spans" (defArgs s_spans) (defBody s_spans) (defScope s_spans) [] [] (He.ga K "spans") fd_spans
  g_spans : mg "spans" = some (.ref (He.ga K "spans"))
  b_spans : Binds K fd_spans ["planes"] []
  fd_bounds : FuncData
  F_bounds : FunD K "bounds" "bounds" (defArgs s_bounds) (defBody s_bounds) (defScope s_bounds) [] [] (He.ga K "bounds") fd_bounds
  g_bounds : mg "bounds" = some (.ref (He.ga K "bounds"))
  b_bounds : Binds K fd_bounds ["planes"] []
  fd_lean_row : FuncData
  F_lean_row : FunD K "lean_row" "lean_row" (defArgs s_lean_row) (defBody s_lean_row) (defScope s_lean_row) [] [] (He.ga K "lean_row") fd_lean_row
  g_lean_row : mg "lean_row" = some (.ref (He.ga K "lean_row"))
  b_lean_row : Binds K fd_lean_row ["row", "planes"] []
  fd_lean_tower : FuncData
  F_lean_tower : FunD K "lean_tower" "lean_tower" (defArgs s_lean_tower) (defBody s_lean_tower) (defScope s_lean_tower) [] [] (He.ga K "lean_tower") fd_lean_tower
  g_lean_tower : mg "lean_tower" = some (.ref (He.ga K "lean_tower"))
  b_lean_tower : Binds K fd_lean_tower ["value", "planes"] []
  fd_shown_row : FuncData
  F_shown_row : FunD K "shown_row" "shown_row" (defArgs s_shown_row) (defBody s_shown_row) (defScope s_shown_row) [] [] (He.ga K "shown_row") fd_shown_row
  g_shown_row : mg "shown_row" = some (.ref (He.ga K "shown_row"))
  b_shown_row : Binds K fd_shown_row ["row", "planes"] []
  fd__law_planes : FuncData
  F__law_planes : FunD K "_law_planes" "_law_planes" (defArgs s__law_planes) (defBody s__law_planes) (defScope s__law_planes) [] [] (He.ga K "_law_planes") fd__law_planes
  g__law_planes : mg "_law_planes" = some (.ref (He.ga K "_law_planes"))
  b__law_planes : Binds K fd__law_planes ["draws", "row", "levels"] []
  fd_whole : FuncData
  F_whole : FunD K "whole" "whole" (defArgs s_whole) (defBody s_whole) (defScope s_whole) [] [] (He.ga K "whole") fd_whole
  g_whole : mg "whole" = some (.ref (He.ga K "whole"))
  b_whole : Binds K fd_whole ["field"] []
  fd_lifted_rows : FuncData
  F_lifted_rows : FunD K "lifted_rows" "lifted_rows" (defArgs s_lifted_rows) (defBody s_lifted_rows) (defScope s_lifted_rows) [] [] (He.ga K "lifted_rows") fd_lifted_rows
  g_lifted_rows : mg "lifted_rows" = some (.ref (He.ga K "lifted_rows"))
  b_lifted_rows : Binds K fd_lifted_rows ["field"] []
  fd_turned : FuncData
  F_turned : FunD K "turned" "turned" (defArgs s_turned) (defBody s_turned) (defScope s_turned) [] [] (He.ga K "turned") fd_turned
  g_turned : mg "turned" = some (.ref (He.ga K "turned"))
  b_turned : Binds K fd_turned ["field"] []
  fd_lifted_field : FuncData
  F_lifted_field : FunD K "lifted_field" "lifted_field" (defArgs s_lifted_field) (defBody s_lifted_field) (defScope s_lifted_field) [] [] (He.ga K "lifted_field") fd_lifted_field
  g_lifted_field : mg "lifted_field" = some (.ref (He.ga K "lifted_field"))
  b_lifted_field : Binds K fd_lifted_field ["field"] []
  fd_field_tower : FuncData
  F_field_tower : FunD K "field_tower" "field_tower" (defArgs s_field_tower) (defBody s_field_tower) (defScope s_field_tower) [] [] (He.ga K "field_tower") fd_field_tower
  g_field_tower : mg "field_tower" = some (.ref (He.ga K "field_tower"))
  b_field_tower : Binds K fd_field_tower ["field", "levels"] []
  fd_lowered_rows : FuncData
  F_lowered_rows : FunD K "lowered_rows" "lowered_rows" (defArgs s_lowered_rows) (defBody s_lowered_rows) (defScope s_lowered_rows) [] [] (He.ga K "lowered_rows") fd_lowered_rows
  g_lowered_rows : mg "lowered_rows" = some (.ref (He.ga K "lowered_rows"))
  b_lowered_rows : Binds K fd_lowered_rows ["sums", "differences"] []
  fd_lowered_field : FuncData
  F_lowered_field : FunD K "lowered_field" "lowered_field" (defArgs s_lowered_field) (defBody s_lowered_field) (defScope s_lowered_field) [] [] (He.ga K "lowered_field") fd_lowered_field
  g_lowered_field : mg "lowered_field" = some (.ref (He.ga K "lowered_field"))
  b_lowered_field : Binds K fd_lowered_field ["sums", "others"] []
  fd_field_of : FuncData
  F_field_of : FunD K "field_of" "field_of" (defArgs s_field_of) (defBody s_field_of) (defScope s_field_of) [] [] (He.ga K "field_of") fd_field_of
  g_field_of : mg "field_of" = some (.ref (He.ga K "field_of"))
  b_field_of : Binds K fd_field_of ["value"] []
  fd_lean_field_tower : FuncData
  F_lean_field_tower : FunD K "lean_field_tower" "lean_field_tower" (defArgs s_lean_field_tower) (defBody s_lean_field_tower) (defScope s_lean_field_tower) [] [] (He.ga K "lean_field_tower") fd_lean_field_tower
  g_lean_field_tower : mg "lean_field_tower" = some (.ref (He.ga K "lean_field_tower"))
  b_lean_field_tower : Binds K fd_lean_field_tower ["value", "planes"] []
  fd_shown_field : FuncData
  F_shown_field : FunD K "shown_field" "shown_field" (defArgs s_shown_field) (defBody s_shown_field) (defScope s_shown_field) [] [] (He.ga K "shown_field") fd_shown_field
  g_shown_field : mg "shown_field" = some (.ref (He.ga K "shown_field"))
  b_shown_field : Binds K fd_shown_field ["field", "planes"] []
  fd_square_offsets : FuncData
  F_square_offsets : FunD K "square_offsets" "square_offsets" (defArgs s_square_offsets) (defBody s_square_offsets) (defScope s_square_offsets) [] [] (He.ga K "square_offsets") fd_square_offsets
  g_square_offsets : mg "square_offsets" = some (.ref (He.ga K "square_offsets"))
  b_square_offsets : Binds K fd_square_offsets ["one", "other", "planes"] []
  fd_field_spans : FuncData
  F_field_spans : FunD K "field_spans" "field_spans" (defArgs s_field_spans) (defBody s_field_spans) (defScope s_field_spans) [] [] (He.ga K "field_spans") fd_field_spans
  g_field_spans : mg "field_spans" = some (.ref (He.ga K "field_spans"))
  b_field_spans : Binds K fd_field_spans ["planes"] []
  fd_field_bounds : FuncData
  F_field_bounds : FunD K "field_bounds" "field_bounds" (defArgs s_field_bounds) (defBody s_field_bounds) (defScope s_field_bounds) [] [] (He.ga K "field_bounds") fd_field_bounds
  g_field_bounds : mg "field_bounds" = some (.ref (He.ga K "field_bounds"))
  b_field_bounds : Binds K fd_field_bounds ["planes"] []
  fd__law_field : FuncData
  F__law_field : FunD K "_law_field" "_law_field" (defArgs s__law_field) (defBody s__law_field) (defScope s__law_field) [] [] (He.ga K "_law_field") fd__law_field
  g__law_field : mg "_law_field" = some (.ref (He.ga K "_law_field"))
  b__law_field : Binds K fd__law_field ["draws", "levels"] []
  fd_law : FuncData
  F_law : FunD K "law" "law" (defArgs s_law) (defBody s_law) (defScope s_law) [] [] (He.ga K "law") fd_law
  g_law : mg "law" = some (.ref (He.ga K "law"))
  b_law : Binds K fd_law ["script"] []
  u_MOST_LEVELS : Value
  g_MOST_LEVELS : mg "MOST_LEVELS" = some u_MOST_LEVELS
  r_MOST_LEVELS : RelV (.int 6) u_MOST_LEVELS
  u_MOST_PLANES : Value
  g_MOST_PLANES : mg "MOST_PLANES" = some u_MOST_PLANES
  r_MOST_PLANES : RelV (.int 4) u_MOST_PLANES
  n_abs : mg "abs" = none
  n_all : mg "all" = none
  n_bool : mg "bool" = none
  n_int : mg "int" = none
  n_isinstance : mg "isinstance" = none
  n_len : mg "len" = none
  n_list : mg "list" = none
  n_max : mg "max" = none
  n_min : mg "min" = none
  n_range : mg "range" = none
  n_reversed : mg "reversed" = none
  n_str : mg "str" = none
  n_sum : mg "sum" = none
  n_tuple : mg "tuple" = none
  n_zip : mg "zip" = none
section
variable {P : Program} {w : World} {K : PySem.W.Frag} {mg : Str → Option Value} {base : Heap}
/-! _law_draws -/
set_option maxHeartbeats 0 in
theorem bm__law_draws (T : Facts K mg base) {A : Around} {outer : List PySem.Env} {s : Shared} {H : Hp} {E : XK} (hr : Room 1 (A.deeper (envOfC "_law_draws" (defScope s__law_draws) s.heap.objs.size (He.ga K "_law_draws") T.fd__law_draws.code))) :
  BM (cxOf (L2.CX P w) P w K mg base ["script", "draws", "cell", "number", "first", "k", "seed"] "_law_draws" (defScope s__law_draws) (He.ga K "_law_draws") T.fd__law_draws.code A outer s H E) (fun c d _ H => E c d H) (defBody s__law_draws) b__law_draws :=
  (bm_cons (sm_set sc__law_draws.nd rfl (by first | exact .inl rfl | exact .inr rfl) (em_loc (nm_lst am_nil)))
  (bm_cons (sm_for owns_cx rfl (im_any (em_var (pv 0))) (gm_name sc__law_draws.nd rfl (by first | exact .inl rfl | exact .inr rfl))
 (bm_cons (sm_set sc__law_draws.nd rfl (by first | exact .inl rfl | exact .inr rfl) (em_callB cd_abs (by rfl) T.n_abs (by rfl) (am_cons (em_var (pv 2)) am_nil)))
  (bm_cons (sm_if (tm_cmp opd_lt (em_var (pv 3)) (em_bin opd_pow em_int em_int) (nomark _)) (bm_cons (sm_set sc__law_draws.nd rfl (by first | exact .inl rfl | exact .inr rfl) (em_bin opd_mod (em_callTy cd_int (by rfl) T.n_int (by rfl) (am_cons (em_bin opd_add (em_bin opd_mul (em_var (pv 3)) em_int) em_int) am_nil)) em_int))
  (bm_cons (sm_expr (em_bm PySem.F.plainAttrs_list PySem.F.slot_list_append PySem.F.type_list_append md_append (em_var (pv 1)) (am_cons (em_bin opd_mod (em_callTy cd_int (by rfl) T.n_int (by rfl) (am_cons (em_bin opd_add (em_bin opd_mul (em_var (pv 4)) em_int) (em_var (pv 3))) am_nil)) em_int) am_nil)))
  (bm_cons (sm_expr (em_bm PySem.F.plainAttrs_list PySem.F.slot_list_append PySem.F.type_list_append md_append (em_var (pv 1)) (am_cons (em_bin opd_mod (em_callTy cd_int (by rfl) T.n_int (by rfl) (am_cons (em_bin opd_add (em_var (pv 4)) (em_bin opd_fdiv (em_var (pv 3)) em_int)) am_nil)) em_int) am_nil)))
  (bm_one (sm_set sc__law_draws.nd rfl (by first | exact .inl rfl | exact .inr rfl) em_int))))) bm_nil)
  (bm_one (sm_for owns_cx rfl (im_range1 (by rfl) T.n_range (am_cons em_int am_nil)) (gm_name sc__law_draws.nd rfl (by first | exact .inl rfl | exact .inr rfl))
 (bm_one (sm_if (tm_cmp opd_gt (em_var (pv 3)) em_int (nomark _)) (bm_cons (sm_expr (em_bm PySem.F.plainAttrs_list PySem.F.slot_list_append PySem.F.type_list_append md_append (em_var (pv 1)) (am_cons (em_bin opd_mod (em_callTy cd_int (by rfl) T.n_int (by rfl) (am_cons (em_var (pv 3)) am_nil)) em_int) am_nil)))
  (bm_one (sm_set sc__law_draws.nd rfl (by first | exact .inl rfl | exact .inr rfl) (em_bin opd_fdiv (em_var (pv 3)) em_int)))) bm_nil)))))))
  (bm_cons (sm_set sc__law_draws.nd rfl (by first | exact .inl rfl | exact .inr rfl) em_int)
  (bm_cons (sm_if (tm_cmp opd_gt (em_callB cd_len (by rfl) T.n_len (by rfl) (am_cons (em_var (pv 0)) am_nil)) em_int (nomark _)) (bm_one (sm_set sc__law_draws.nd rfl (by first | exact .inl rfl | exact .inr rfl) (em_bin opd_add em_int (em_callB cd_abs (by rfl) T.n_abs (by rfl) (am_cons (em_ix (em_var (pv 0)) em_int fun _ _ => rfl) am_nil))))) bm_nil)
  (bm_cons (sm_for owns_cx rfl (im_range1 (by rfl) T.n_range (am_cons em_int am_nil)) (gm_name sc__law_draws.nd rfl (by first | exact .inl rfl | exact .inr rfl))
 (bm_cons (sm_set sc__law_draws.nd rfl (by first | exact .inl rfl | exact .inr rfl) (em_bin opd_mod (em_callTy cd_int (by rfl) T.n_int (by rfl) (am_cons (em_bin opd_add (em_bin opd_mul (em_var (pv 6)) em_int) em_int) am_nil)) em_int))
  (bm_one (sm_expr (em_bm PySem.F.plainAttrs_list PySem.F.slot_list_append PySem.F.type_list_append md_append (em_var (pv 1)) (am_cons (em_bin opd_fdiv (em_var (pv 6)) em_int) am_nil))))))
  (bm_one (sm_ret (em_loc (nm_listRev (by rfl) T.n_list (by rfl) T.n_reversed rfl (em_var (pv 1)))))))))))
theorem fn__law_draws (T : Facts K mg base) : FnM P w K mg base 2 (He.ga K "_law_draws") T.fd__law_draws ["script"] m__law_draws := fn_retK (fn_mD T.F__law_draws sc__law_draws fun A outer s H E hr => bm__law_draws T hr)
/-! _law_take -/
set_option maxHeartbeats 0 in
theorem bm__law_take (T : Facts K mg base) {A : Around} {outer : List PySem.Env} {s : Shared} {H : Hp} {E : XK} (hr : Room 1 (A.deeper (envOfC "_law_take" (defScope s__law_take) s.heap.objs.size (He.ga K "_law_take") T.fd__law_take.code))) :
  BM (cxOf (L2.CX P w) P w K mg base ["draws", "bound"] "_law_take" (defScope s__law_take) (He.ga K "_law_take") T.fd__law_take.code A outer s H E) (fun c d _ H => E c d H) (defBody s__law_take) b__law_take :=
  (bm_cons (sm_if (tm_cmp (opd_eq (hr).units) (em_callB cd_len (by rfl) T.n_len (by rfl) (am_cons (em_var (pv 0)) am_nil)) em_int (nomark _)) (bm_one (sm_ret em_int)) bm_nil)
  (bm_one (sm_ret (em_bin opd_mod (em_callTy cd_int (by rfl) T.n_int (by rfl) (am_cons (em_bm0 PySem.F.plainAttrs_list PySem.F.slot_list_pop PySem.F.type_list_pop md_pop (em_var (pv 0))) am_nil)) (em_var (pv 1))))))
theorem fn__law_take (T : Facts K mg base) : FnM P w K mg base 2 (He.ga K "_law_take") T.fd__law_take ["draws", "bound"] m__law_take := fn_retV (fn_mD T.F__law_take sc__law_take fun A outer s H E hr => bm__law_take T hr)
/-! _law_row -/
noncomputable def e__law_row_1 : ME := (mBin dSub (mCallF 2 m__law_take (mCons (mVar 0) (mCons (mC (.int 200001)) mNil))) (mC (.int 100000)))
noncomputable def b__law_row_2 : MS := (sRet (mCall dTuple (mCons (asV (mLc (mSrcA srcR1 (mCons (mVar 1) mNil)) (gN 5) mYes e__law_row_1 [5])) mNil)))
noncomputable def e__law_row_3 : ME := (mBin dAdd (mVar 3) (mBin dMul (mVar 4) (mVar 5)))
noncomputable def b__law_row_4 : MS := (sRet (mCall dTuple (mCons (asV (mLc (mSrcA srcR1 (mCons (mVar 1) mNil)) (gN 5) mYes e__law_row_3 [5])) mNil)))
noncomputable def e__law_row_5 : ME := (mBin dAdd (mVar 3) (mCallF 2 m__law_take (mCons (mVar 0) (mCons (mBin dIx (asV (mLst (mCons (mC (.int 3)) (mCons (mC (.int 60)) mNil)))) (mBin dSub (mVar 2) (mC (.int 2)))) mNil))))
noncomputable def b__law_row : MS := (sSeq (sSet (gTup 3 (gCons (gN 2) (gCons (gN 3) (gCons (gN 4) gNil)))) (mTup (mCons (mCallF 2 m__law_take (mCons (mVar 0) (mCons (mC (.int 4)) mNil))) (mCons (mBin dSub (mCallF 2 m__law_take (mCons (mVar 0) (mCons (mC (.int 2001)) mNil))) (mC (.int 1000))) (mCons (mBin dSub (mCallF 2 m__law_take (mCons (mVar 0) (mCons (mC (.int 41)) mNil))) (mC (.int 20))) mNil))))) (sSeq (sIf (mB (mBin dEq (mVar 2) (mC (.int 0)))) b__law_row_2 sSkip) (sSeq (sIf (mB (mBin dEq (mVar 2) (mC (.int 1)))) b__law_row_4 sSkip) (sRet (mCall dTuple (mCons (asV (mLc (mSrcA srcR1 (mCons (mVar 1) mNil)) (gN 5) mYes e__law_row_5 [5])) mNil))))))
noncomputable def m__law_row : List D → Store → Res D := retV (runF 6 b__law_row)
set_option maxHeartbeats 0 in
theorem bm__law_row (T : Facts K mg base) {A : Around} {outer : List PySem.Env} {s : Shared} {H : Hp} {E : XK} (hr : Room 2 (A.deeper (envOfC "_law_row" (defScope s__law_row) s.heap.objs.size (He.ga K "_law_row") T.fd__law_row.code))) :
  BM (cxOf (L2.CX P w) P w K mg base ["draws", "many", "kind", "first", "step", "k"] "_law_row" (defScope s__law_row) (He.ga K "_law_row") T.fd__law_row.code A outer s H E) (fun c d _ H => E c d H) (defBody s__law_row) b__law_row :=
  (bm_cons (sm_asg (em_tup (am_cons (em_call (fn__law_take T) ((hr).mono (by decide)) (by rfl) T.g__law_take T.F__law_take.kp T.b__law_take takes_cx (am_cons (em_var (pv 0)) (am_cons em_int am_nil))) (am_cons (em_bin opd_sub (em_call (fn__law_take T) ((hr).mono (by decide)) (by rfl) T.g__law_take T.F__law_take.kp T.b__law_take takes_cx (am_cons (em_var (pv 0)) (am_cons em_int am_nil))) em_int) (am_cons (em_bin opd_sub (em_call (fn__law_take T) ((hr).mono (by decide)) (by rfl) T.g__law_take T.F__law_take.kp T.b__law_take takes_cx (am_cons (em_var (pv 0)) (am_cons em_int am_nil))) em_int) am_nil)))) (gm_tup rfl (gms_cons (gm_name sc__law_row.nd rfl (by first | exact .inl rfl | exact .inr rfl)) (gms_cons (gm_name sc__law_row.nd rfl (by first | exact .inl rfl | exact .inr rfl)) (gms_cons (gm_name sc__law_row.nd rfl (by first | exact .inl rfl | exact .inr rfl)) gms_nil)))))
  (bm_cons (sm_if (tm_cmp (opd_eq (hr).units) (em_var (pv 2)) em_int (nomark _)) (bm_one (sm_ret (em_callTy cd_tuple (by rfl) T.n_tuple (by rfl) (am_cons (em_val (nm_lc [("k", 5)] rfl sc__law_row.nd (im_range1 (by rfl) T.n_range (am_cons (em_var (pv 1)) am_nil)) (blkOk_by (by kernel_rfl)) (by decide) (fun _ _ _ _ _ => (gm_name sc__law_row.nd rfl (by first | exact .inl rfl | exact .inr rfl))) (fun _ _ _ _ _ => ptsm_nil) (fun _ _ _ _ _ => (em_bin opd_sub (em_call (fn__law_take T) ((hr).mono (by decide)) (by rfl) T.g__law_take T.F__law_take.kp T.b__law_take tk0 (am_cons (em_var (pv 0)) (am_cons em_int am_nil))) em_int)))) am_nil)))) bm_nil)
  (bm_cons (sm_if (tm_cmp (opd_eq (hr).units) (em_var (pv 2)) em_int (nomark _)) (bm_one (sm_ret (em_callTy cd_tuple (by rfl) T.n_tuple (by rfl) (am_cons (em_val (nm_lc [("k", 5)] rfl sc__law_row.nd (im_range1 (by rfl) T.n_range (am_cons (em_var (pv 1)) am_nil)) (blkOk_by (by kernel_rfl)) (by decide) (fun _ _ _ _ _ => (gm_name sc__law_row.nd rfl (by first | exact .inl rfl | exact .inr rfl))) (fun _ _ _ _ _ => ptsm_nil) (fun _ _ _ _ _ => (em_bin opd_add (em_var (pv 3)) (em_bin opd_mul (em_var (pv 4)) (em_var (pv 5))))))) am_nil)))) bm_nil)
  (bm_one (sm_ret (em_callTy cd_tuple (by rfl) T.n_tuple (by rfl) (am_cons (em_val (nm_lc [("k", 5)] rfl sc__law_row.nd (im_range1 (by rfl) T.n_range (am_cons (em_var (pv 1)) am_nil)) (blkOk_by (by kernel_rfl)) (by decide) (fun _ _ _ _ _ => (gm_name sc__law_row.nd rfl (by first | exact .inl rfl | exact .inr rfl))) (fun _ _ _ _ _ => ptsm_nil) (fun _ _ _ _ _ => (em_bin opd_add (em_var (pv 3)) (em_call (fn__law_take T) ((hr).mono (by decide)) (by rfl) T.g__law_take T.F__law_take.kp T.b__law_take tk0 (am_cons (em_var (pv 0)) (am_cons (em_ix (em_val (nm_lst (am_cons em_int (am_cons em_int am_nil)))) (em_bin opd_sub (em_var (pv 2)) em_int) fun _ _ => rfl) am_nil))))))) am_nil)))))))
theorem fn__law_row (T : Facts K mg base) : FnM P w K mg base 3 (He.ga K "_law_row") T.fd__law_row ["draws", "many"] m__law_row := fn_retV (fn_mD T.F__law_row sc__law_row fun A outer s H E hr => bm__law_row T hr)
/-! _law_two -/
noncomputable def l__law_two_1 : MS := (sSet (gN 1) (mBin dMul (mVar 1) (mC (.int 2))))
noncomputable def b__law_two : MS := (sSeq (sSet (gN 1) (mC (.int 1))) (sSeq (sFor (mSrcA srcR1 (mCons (mVar 0) mNil)) (gN 2) l__law_two_1) (sRet (mVar 1))))
noncomputable def m__law_two : List D → Store → Res D := retV (runF 3 b__law_two)
set_option maxHeartbeats 0 in
theorem bm__law_two (T : Facts K mg base) {A : Around} {outer : List PySem.Env} {s : Shared} {H : Hp} {E : XK} (hr : Room 1 (A.deeper (envOfC "_law_two" (defScope s__law_two) s.heap.objs.size (He.ga K "_law_two") T.fd__law_two.code))) :
  BM (cxOf (L2.CX P w) P w K mg base ["many", "found", "k"] "_law_two" (defScope s__law_two) (He.ga K "_law_two") T.fd__law_two.code A outer s H E) (fun c d _ H => E c d H) (defBody s__law_two) b__law_two :=
  (bm_cons (sm_set sc__law_two.nd rfl (by first | exact .inl rfl | exact .inr rfl) em_int)
  (bm_cons (sm_for owns_cx rfl (im_range1 (by rfl) T.n_range (am_cons (em_var (pv 0)) am_nil)) (gm_name sc__law_two.nd rfl (by first | exact .inl rfl | exact .inr rfl))
 (bm_one (sm_set sc__law_two.nd rfl (by first | exact .inl rfl | exact .inr rfl) (em_bin opd_mul (em_var (pv 1)) em_int))))
  (bm_one (sm_ret (em_var (pv 1))))))
theorem fn__law_two (T : Facts K mg base) : FnM P w K mg base 2 (He.ga K "_law_two") T.fd__law_two ["many"] m__law_two := fn_retV (fn_mD T.F__law_two sc__law_two fun A outer s H E hr => bm__law_two T hr)
/-! is_number -/
set_option maxHeartbeats 0 in
theorem bm_is_number (T : Facts K mg base) {A : Around} {outer : List PySem.Env} {s : Shared} {H : Hp} {E : XK} (hr : Room 1 (A.deeper (envOfC "is_number" (defScope s_is_number) s.heap.objs.size (He.ga K "is_number") T.fd_is_number.code))) :
  BM (cxOf (L2.CX P w) P w K mg base ["value", "least", "most"] "is_number" (defScope s_is_number) (He.ga K "is_number") T.fd_is_number.code A outer s H E) (fun c d _ H => E c d H) (defBody s_is_number) b_is_number :=
  (bm_one (sm_ret (em_and (em_callB cd_isinst (by rfl) T.n_isinstance (by rfl) (am_cons (em_var (pv 0)) (am_cons (em_ty (by rfl) T.n_int (by rfl)) am_nil))) (em_and (em_not (em_callB cd_isinst (by rfl) T.n_isinstance (by rfl) (am_cons (em_var (pv 0)) (am_cons (em_ty (by rfl) T.n_bool (by rfl)) am_nil)))) (em_one (em_chain opd_le opd_le (em_var (pv 1)) (em_var (pv 0)) (em_var (pv 2))))))))
theorem fn_is_number (T : Facts K mg base) : FnM P w K mg base 2 (He.ga K "is_number") T.fd_is_number ["value", "least", "most"] m_is_number := fn_retV (fn_mD T.F_is_number sc_is_number fun A outer s H E hr => bm_is_number T hr)
/-! check_levels -/
set_option maxHeartbeats 0 in
theorem bm_check_levels (T : Facts K mg base) {A : Around} {outer : List PySem.Env} {s : Shared} {H : Hp} {E : XK} (hr : Room 2 (A.deeper (envOfC "check_levels" (defScope s_check_levels) s.heap.objs.size (He.ga K "check_levels") T.fd_check_levels.code))) :
  BM (cxOf (L2.CX P w) P w K mg base ["levels"] "check_levels" (defScope s_check_levels) (He.ga K "check_levels") T.fd_check_levels.code A outer s H E) (fun c d _ H => E c d H) (defBody s_check_levels) b_check_levels :=
  (bm_one (sm_if (tm_not (tm_tru (em_call (fn_is_number T) ((hr).mono (by decide)) (by rfl) T.g_is_number T.F_is_number.kp T.b_is_number takes_cx (am_cons (em_var (pv 0)) (am_cons em_int (am_cons (em_glob (by rfl) T.g_MOST_LEVELS T.r_MOST_LEVELS fun _ _ => .int _) am_nil)))) fun _ => rfl)) (bm_one sm_never) bm_nil))
theorem fn_check_levels (T : Facts K mg base) : FnM P w K mg base 3 (He.ga K "check_levels") T.fd_check_levels ["levels"] m_check_levels := fn_retV (fn_mD T.F_check_levels sc_check_levels fun A outer s H E hr => bm_check_levels T hr)
/-! lifted -/
set_option maxHeartbeats 0 in
theorem bm_lifted (T : Facts K mg base) {A : Around} {outer : List PySem.Env} {s : Shared} {H : Hp} {E : XK} (hr : Room 1 (A.deeper (envOfC "lifted" (defScope s_lifted) s.heap.objs.size (He.ga K "lifted") T.fd_lifted.code))) :
  BM (cxOf (L2.CX P w) P w K mg base ["row", "sums", "differences", "place"] "lifted" (defScope s_lifted) (He.ga K "lifted") T.fd_lifted.code A outer s H E) (fun c d _ H => E c d H) (defBody s_lifted) b_lifted :=
  (bm_cons (sm_par rfl sc_lifted.nd rfl rfl (by decide) rfl rfl (am_cons (em_loc (nm_lst am_nil)) (am_cons (em_loc (nm_lst am_nil)) am_nil)) rfl)
  (bm_cons (sm_for owns_cx rfl (im_range3 (by rfl) T.n_range (am_cons em_int (am_cons (em_bin opd_sub (em_callB cd_len (by rfl) T.n_len (by rfl) (am_cons (em_var (pv 0)) am_nil)) em_int) (am_cons em_int am_nil)))) (gm_name sc_lifted.nd rfl (by first | exact .inl rfl | exact .inr rfl))
 (bm_cons (sm_expr (em_bm PySem.F.plainAttrs_list PySem.F.slot_list_append PySem.F.type_list_append md_append (em_var (pv 2)) (am_cons (em_bin opd_sub (em_ix (em_var (pv 0)) (em_bin opd_add (em_var (pv 3)) em_int) fun _ _ => rfl) (em_ix (em_var (pv 0)) (em_var (pv 3)) fun _ _ => rfl)) am_nil)))
  (bm_one (sm_expr (em_bm PySem.F.plainAttrs_list PySem.F.slot_list_append PySem.F.type_list_append md_append (em_var (pv 1)) (am_cons (em_bin opd_add (em_ix (em_var (pv 0)) (em_var (pv 3)) fun _ _ => rfl) (em_bin opd_fdiv (em_ix (em_var (pv 2)) (em_neg em_int) fun _ _ => rfl) em_int)) am_nil))))))
  (bm_cons (sm_if (tm_cmp opd_gt (em_callB cd_len (by rfl) T.n_len (by rfl) (am_cons (em_var (pv 0)) am_nil)) (em_bin opd_mul em_int (em_callB cd_len (by rfl) T.n_len (by rfl) (am_cons (em_var (pv 1)) am_nil))) (nomark _)) (bm_one (sm_expr (em_bm PySem.F.plainAttrs_list PySem.F.slot_list_append PySem.F.type_list_append md_append (em_var (pv 1)) (am_cons (em_ix (em_var (pv 0)) (em_neg em_int) fun _ _ => rfl) am_nil)))) bm_nil)
  (bm_one (sm_ret (em_tup (am_cons (em_callTy cd_tuple (by rfl) T.n_tuple (by rfl) (am_cons (em_var (pv 1)) am_nil)) (am_cons (em_callTy cd_tuple (by rfl) T.n_tuple (by rfl) (am_cons (em_var (pv 2)) am_nil)) am_nil))))))))
theorem fn_lifted (T : Facts K mg base) : FnM P w K mg base 2 (He.ga K "lifted") T.fd_lifted ["row"] m_lifted := fn_retV (fn_mD T.F_lifted sc_lifted fun A outer s H E hr => bm_lifted T hr)
/-! tower -/
set_option maxHeartbeats 0 in
theorem bm_tower (T : Facts K mg base) {A : Around} {outer : List PySem.Env} {s : Shared} {H : Hp} {E : XK} (hr : Room 3 (A.deeper (envOfC "tower" (defScope s_tower) s.heap.objs.size (He.ga K "tower") T.fd_tower.code))) :
  BM (cxOf (L2.CX P w) P w K mg base ["row", "levels", "rows", "_", "differences"] "tower" (defScope s_tower) (He.ga K "tower") T.fd_tower.code A outer s H E) (fun c d _ H => E c d H) (defBody s_tower) b_tower :=
  (bm_cons (sm_expr (em_call (fn_check_levels T) ((hr).mono (by decide)) (by rfl) T.g_check_levels T.F_check_levels.kp T.b_check_levels takes_cx (am_cons (em_var (pv 1)) am_nil)))
  (bm_cons (sm_set sc_tower.nd rfl (by first | exact .inl rfl | exact .inr rfl) (em_loc (nm_lst am_nil)))
  (bm_cons (sm_for owns_cx rfl (im_range1 (by rfl) T.n_range (am_cons (em_var (pv 1)) am_nil)) (gm_name sc_tower.nd rfl (by first | exact .inl rfl | exact .inr rfl))
 (bm_cons (sm_asg (em_call (fn_lifted T) ((hr).mono (by decide)) (by rfl) T.g_lifted T.F_lifted.kp T.b_lifted takes_cx (am_cons (em_var (pv 0)) am_nil)) (gm_tup rfl (gms_cons (gm_name sc_tower.nd rfl (by first | exact .inl rfl | exact .inr rfl)) (gms_cons (gm_name sc_tower.nd rfl (by first | exact .inl rfl | exact .inr rfl)) gms_nil))))
  (bm_one (sm_expr (em_bm PySem.F.plainAttrs_list PySem.F.slot_list_append PySem.F.type_list_append md_append (em_var (pv 2)) (am_cons (em_var (pv 4)) am_nil))))))
  (bm_one (sm_ret (em_tup (am_cons (em_var (pv 0)) (am_cons (em_callTy cd_tuple (by rfl) T.n_tuple (by rfl) (am_cons (em_var (pv 2)) am_nil)) am_nil))))))))
theorem fn_tower (T : Facts K mg base) : FnM P w K mg base 4 (He.ga K "tower") T.fd_tower ["row", "levels"] m_tower := fn_retV (fn_mD T.F_tower sc_tower fun A outer s H E hr => bm_tower T hr)
/-! _law_alike -/
set_option maxHeartbeats 0 in
theorem bm__law_alike (T : Facts K mg base) {g : List D → Store → Res D} {k : Nat} (G : FnM P w K mg base k (He.ga K "_law_alike") T.fd__law_alike ["found", "due"] g) {A : Around} {outer : List PySem.Env} {s : Shared} {H : Hp} {E : XK} (hk : 1 ≤ k) (hr : Room k (A.deeper (envOfC "_law_alike" (defScope s__law_alike) s.heap.objs.size (He.ga K "_law_alike") T.fd__law_alike.code))) :
  BM (cxOf (L2.CX P w) P w K mg base ["found", "due", "k"] "_law_alike" (defScope s__law_alike) (He.ga K "_law_alike") T.fd__law_alike.code A outer s H E) (fun c d _ H => E c d H) (defBody s__law_alike) (b__law_alike g) :=
  (bm_cons (sm_if (tm_w (wm_or (tm_tru (em_callB cd_isinst (by rfl) T.n_isinstance (by rfl) (am_cons (em_var (pv 1)) (am_cons (em_ty (by rfl) T.n_list (by rfl)) am_nil))) fun _ => rfl) (wm_or1 (tm_tru (em_callB cd_isinst (by rfl) T.n_isinstance (by rfl) (am_cons (em_var (pv 1)) (am_cons (em_ty (by rfl) T.n_tuple (by rfl)) am_nil))) fun _ => rfl)))) (bm_cons (sm_if (tm_w (wm_or (tm_cmp (opd_ne (hr).units) (em_callB cd_isinst (by rfl) T.n_isinstance (by rfl) (am_cons (em_var (pv 0)) (am_cons (em_ty (by rfl) T.n_list (by rfl)) am_nil))) (em_callB cd_isinst (by rfl) T.n_isinstance (by rfl) (am_cons (em_var (pv 1)) (am_cons (em_ty (by rfl) T.n_list (by rfl)) am_nil))) (nomark _)) (wm_or1 (tm_cmp (opd_ne (hr).units) (em_callB cd_isinst (by rfl) T.n_isinstance (by rfl) (am_cons (em_var (pv 0)) (am_cons (em_ty (by rfl) T.n_tuple (by rfl)) am_nil))) (em_callB cd_isinst (by rfl) T.n_isinstance (by rfl) (am_cons (em_var (pv 1)) (am_cons (em_ty (by rfl) T.n_tuple (by rfl)) am_nil))) (nomark _))))) (bm_one (sm_ret em_bl)) bm_nil)
  (bm_one (sm_ret (em_and (em_cmp (opd_eq (hr).units) (em_callB cd_len (by rfl) T.n_len (by rfl) (am_cons (em_var (pv 0)) am_nil)) (em_callB cd_len (by rfl) T.n_len (by rfl) (am_cons (em_var (pv 1)) am_nil)) (nomark _)) (em_one (em_cmp (opd_eq (hr).units) (em_val (nm_lc [("k", 2)] rfl sc__law_alike.nd (im_range1 (by rfl) T.n_range (am_cons (em_callB cd_len (by rfl) T.n_len (by rfl) (am_cons (em_var (pv 1)) am_nil)) am_nil)) (blkOk_by (by kernel_rfl)) (by decide) (fun _ _ _ _ _ => (gm_name sc__law_alike.nd rfl (by first | exact .inl rfl | exact .inr rfl))) (fun _ _ _ _ _ => (ptsm_one (tm_not (tm_tru (em_call G ((hr).mono (by first | exact Nat.le_refl _ | exact Nat.le_trans (by decide) hk)) (by rfl) T.g__law_alike T.F__law_alike.kp T.b__law_alike tk0 (am_cons (em_ix (em_var (pv 0)) (em_var (pv 2)) fun _ _ => rfl) (am_cons (em_ix (em_var (pv 1)) (em_var (pv 2)) fun _ _ => rfl) am_nil))) fun _ => rfl)))) (fun _ _ _ _ _ => (em_var (pv 2))))) (em_val (nm_lst am_nil)) (nomark _))))))) bm_nil)
  (bm_cons (sm_if (tm_cmp opd_is (em_var (pv 1)) em_non (nomark _)) (bm_one (sm_ret (em_cmp opd_is (em_var (pv 0)) em_non (nomark _)))) bm_nil)
  (bm_cons (sm_if (tm_w (wm_or (tm_tru (em_callB cd_isinst (by rfl) T.n_isinstance (by rfl) (am_cons (em_var (pv 1)) (am_cons (em_ty (by rfl) T.n_bool (by rfl)) am_nil))) fun _ => rfl) (wm_or1 (tm_tru (em_callB cd_isinst (by rfl) T.n_isinstance (by rfl) (am_cons (em_var (pv 0)) (am_cons (em_ty (by rfl) T.n_bool (by rfl)) am_nil))) fun _ => rfl)))) (bm_one (sm_ret (em_and (em_callB cd_isinst (by rfl) T.n_isinstance (by rfl) (am_cons (em_var (pv 0)) (am_cons (em_ty (by rfl) T.n_bool (by rfl)) am_nil))) (em_and (em_callB cd_isinst (by rfl) T.n_isinstance (by rfl) (am_cons (em_var (pv 1)) (am_cons (em_ty (by rfl) T.n_bool (by rfl)) am_nil))) (em_one (em_cmp (opd_eq (hr).units) (em_var (pv 0)) (em_var (pv 1)) (nomark _))))))) bm_nil)
  (bm_cons (sm_if (tm_tru (em_callB cd_isinst (by rfl) T.n_isinstance (by rfl) (am_cons (em_var (pv 1)) (am_cons (em_ty (by rfl) T.n_int (by rfl)) am_nil))) fun _ => rfl) (bm_one (sm_ret (em_and (em_callB cd_isinst (by rfl) T.n_isinstance (by rfl) (am_cons (em_var (pv 0)) (am_cons (em_ty (by rfl) T.n_int (by rfl)) am_nil))) (em_one (em_cmp (opd_eq (hr).units) (em_var (pv 0)) (em_var (pv 1)) (nomark _)))))) bm_nil)
  (bm_one (sm_ret (em_and (em_callB cd_isinst (by rfl) T.n_isinstance (by rfl) (am_cons (em_var (pv 0)) (am_cons (em_ty (by rfl) T.n_str (by rfl)) am_nil))) (em_one (em_cmp (opd_eq (hr).units) (em_var (pv 0)) (em_var (pv 1)) (nomark _))))))))))
theorem fr__law_alike (T : Facts K mg base) : ∀ n, FnM P w K mg base (1 + n) (He.ga K "_law_alike") T.fd__law_alike ["found", "due"] (r__law_alike n)
  | 0 => fn_bad (n := 2) _
  | n + 1 => fn_retV (fn_mD (k := 1 + n) T.F__law_alike sc__law_alike fun A outer s H E hr => bm__law_alike T (fr__law_alike T n) (Nat.le_add_right _ _) hr)
theorem fn__law_alike (T : Facts K mg base) : FnM P w K mg base 10 (He.ga K "_law_alike") T.fd__law_alike ["found", "due"] m__law_alike := FnOk.mono (fr__law_alike T 8) (by decide)
/-! _law_own -/
noncomputable def e__law_own_1 : ME := (mTup (mCons (mBin dIx (mVar 2) (mBin dMul (mC (.int 2)) (mVar 6))) (mCons (mBin dIx (mVar 2) (mBin dAdd (mBin dMul (mC (.int 2)) (mVar 6)) (mC (.int 1)))) mNil)))
noncomputable def e__law_own_2 : ME := (mBin dFdiv (mBin dAdd (mVar 9) (mVar 10)) (mC (.int 2)))
noncomputable def e__law_own_3 : ME := (mBin dSub (mVar 10) (mVar 9))
noncomputable def l__law_own_4 : MS := (sSeq (sSet (gN 5) (asV (mLc (mSrcA srcR1 (mCons (mBin dFdiv (mCall dLen (mCons (mVar 2) mNil)) (mC (.int 2))) mNil)) (gN 6) mYes e__law_own_1 [6]))) (sSeq (sSet (gN 7) (mSlice (mVar 2) (mPart (mBin dMul (mC (.int 2)) (mCall dLen (mCons (mVar 5) mNil)))) mNo)) (sSeq (sSet (gTup 2 (gCons (gN 2) (gCons (gN 8) gNil))) (mTup (mCons (mBin dAdd (mCall dTuple (mCons (asV (mLc (mSrc (mVar 5)) (gTup 2 (gCons (gN 9) (gCons (gN 10) gNil))) mYes e__law_own_2 [9, 10])) mNil)) (mVar 7)) (mCons (mCall dTuple (mCons (asV (mLc (mSrc (mVar 5)) (gTup 2 (gCons (gN 9) (gCons (gN 10) gNil))) mYes e__law_own_3 [9, 10])) mNil)) mNil)))) (sExpr (mMeth "list" gAppend (mVar 3) (mCons (mVar 8) mNil))))))
noncomputable def b__law_own : MS := (sSeq (sSet (gTup 2 (gCons (gN 2) (gCons (gN 3) gNil))) (mTup (mCons (mVar 0) (mCons (asL (mLst mNil)) mNil)))) (sSeq (sFor (mSrcA srcR1 (mCons (mVar 1) mNil)) (gN 4) l__law_own_4) (sRet (mTup (mCons (mVar 2) (mCons (mCall dTuple (mCons (mVar 3) mNil)) mNil))))))
noncomputable def m__law_own : List D → Store → Res D := retV (runF 11 b__law_own)
set_option maxHeartbeats 0 in
theorem bm__law_own (T : Facts K mg base) {A : Around} {outer : List PySem.Env} {s : Shared} {H : Hp} {E : XK} (hr : Room 1 (A.deeper (envOfC "_law_own" (defScope s__law_own) s.heap.objs.size (He.ga K "_law_own") T.fd__law_own.code))) :
  BM (cxOf (L2.CX P w) P w K mg base ["row", "levels", "sums", "rows", "level", "pairs", "k", "rest", "differences", "one", "other"] "_law_own" (defScope s__law_own) (He.ga K "_law_own") T.fd__law_own.code A outer s H E) (fun c d _ H => E c d H) (defBody s__law_own) b__law_own :=
  (bm_cons (sm_asg (em_tup (am_cons (em_var (pv 0)) (am_cons (em_loc (nm_lst am_nil)) am_nil))) (gm_tup rfl (gms_cons (gm_name sc__law_own.nd rfl (by first | exact .inl rfl | exact .inr rfl)) (gms_cons (gm_name sc__law_own.nd rfl (by first | exact .inl rfl | exact .inr rfl)) gms_nil))))
  (bm_cons (sm_for owns_cx rfl (im_range1 (by rfl) T.n_range (am_cons (em_var (pv 1)) am_nil)) (gm_name sc__law_own.nd rfl (by first | exact .inl rfl | exact .inr rfl))
 (bm_cons (by first | exact sm_set sc__law_own.nd rfl (by first | exact .inl rfl | exact .inr rfl) (em_val (nm_lc [("k", 6)] rfl sc__law_own.nd (im_range1 (by rfl) T.n_range (am_cons (em_bin opd_fdiv (em_callB cd_len (by rfl) T.n_len (by rfl) (am_cons (em_var (pv 2)) am_nil)) em_int) am_nil)) (blkOk_by (by kernel_rfl)) (by decide) (fun _ _ _ _ _ => (gm_name sc__law_own.nd rfl (by first | exact .inl rfl | exact .inr rfl))) (fun _ _ _ _ _ => ptsm_nil) (fun _ _ _ _ _ => (em_tup (am_cons (em_ix (em_var (pv 2)) (em_bin opd_mul em_int (em_var (pv 6))) fun _ _ => rfl) (am_cons (em_ix (em_var (pv 2)) (em_bin opd_add (em_bin opd_mul em_int (em_var (pv 6))) em_int) fun _ _ => rfl) am_nil)))))) | exact sm_setLc asV (.inl rfl) [("k", 6)] rfl sc__law_own.nd rfl rfl (sw_true rfl rfl rfl (by decide +kernel)) (im_range1 (by rfl) T.n_range (am_cons (em_bin opd_fdiv (em_callB cd_len (by rfl) T.n_len (by rfl) (am_cons (em_var (pv 2)) am_nil)) em_int) am_nil)) (blkOk_by (by kernel_rfl)) (by decide) (fun _ _ _ _ _ => (gm_name sc__law_own.nd rfl (by first | exact .inl rfl | exact .inr rfl))) (fun _ _ _ _ _ => ptsm_nil) (fun _ _ _ _ _ => (em_tup (am_cons (em_ix (em_var (pv 2)) (em_bin opd_mul em_int (em_var (pv 6))) fun _ _ => rfl) (am_cons (em_ix (em_var (pv 2)) (em_bin opd_add (em_bin opd_mul em_int (em_var (pv 6))) em_int) fun _ _ => rfl) am_nil)))))
  (bm_cons (sm_set sc__law_own.nd rfl (by first | exact .inl rfl | exact .inr rfl) (em_slice (em_var (pv 2)) (om_some (em_bin opd_mul em_int (em_callB cd_len (by rfl) T.n_len (by rfl) (am_cons (em_var (pv 5)) am_nil)))) om_no))
  (bm_cons (sm_asg (em_tup (am_cons (em_bin opd_add (em_callTy cd_tuple (by rfl) T.n_tuple (by rfl) (am_cons (em_val (nm_lc [("one", 9), ("other", 10)] rfl sc__law_own.nd (im_any (em_var (pv 5))) (blkOk_by (by kernel_rfl)) (by decide) (fun _ _ _ _ _ => (gm_tup rfl (gms_cons (gm_name sc__law_own.nd rfl (by first | exact .inl rfl | exact .inr rfl)) (gms_cons (gm_name sc__law_own.nd rfl (by first | exact .inl rfl | exact .inr rfl)) gms_nil)))) (fun _ _ _ _ _ => ptsm_nil) (fun _ _ _ _ _ => (em_bin opd_fdiv (em_bin opd_add (em_var (pv 9)) (em_var (pv 10))) em_int)))) am_nil)) (em_var (pv 7))) (am_cons (em_callTy cd_tuple (by rfl) T.n_tuple (by rfl) (am_cons (em_val (nm_lc [("one", 9), ("other", 10)] rfl sc__law_own.nd (im_any (em_var (pv 5))) (blkOk_by (by kernel_rfl)) (by decide) (fun _ _ _ _ _ => (gm_tup rfl (gms_cons (gm_name sc__law_own.nd rfl (by first | exact .inl rfl | exact .inr rfl)) (gms_cons (gm_name sc__law_own.nd rfl (by first | exact .inl rfl | exact .inr rfl)) gms_nil)))) (fun _ _ _ _ _ => ptsm_nil) (fun _ _ _ _ _ => (em_bin opd_sub (em_var (pv 10)) (em_var (pv 9)))))) am_nil)) am_nil))) (gm_tup rfl (gms_cons (gm_name sc__law_own.nd rfl (by first | exact .inl rfl | exact .inr rfl)) (gms_cons (gm_name sc__law_own.nd rfl (by first | exact .inl rfl | exact .inr rfl)) gms_nil))))
  (bm_one (sm_expr (em_bm PySem.F.plainAttrs_list PySem.F.slot_list_append PySem.F.type_list_append md_append (em_var (pv 3)) (am_cons (em_var (pv 8)) am_nil))))))))
  (bm_one (sm_ret (em_tup (am_cons (em_var (pv 2)) (am_cons (em_callTy cd_tuple (by rfl) T.n_tuple (by rfl) (am_cons (em_var (pv 3)) am_nil)) am_nil)))))))
theorem fn__law_own (T : Facts K mg base) : FnM P w K mg base 2 (He.ga K "_law_own") T.fd__law_own ["row", "levels"] m__law_own := fn_retV (fn_mD T.F__law_own sc__law_own fun A outer s H E hr => bm__law_own T hr)
/-! lowered -/
set_option maxHeartbeats 0 in
theorem bm_lowered (T : Facts K mg base) {A : Around} {outer : List PySem.Env} {s : Shared} {H : Hp} {E : XK} (hr : Room 1 (A.deeper (envOfC "lowered" (defScope s_lowered) s.heap.objs.size (He.ga K "lowered") T.fd_lowered.code))) :
  BM (cxOf (L2.CX P w) P w K mg base ["sums", "differences", "found", "one", "difference", "first"] "lowered" (defScope s_lowered) (He.ga K "lowered") T.fd_lowered.code A outer s H E) (fun c d _ H => E c d H) (defBody s_lowered) b_lowered :=
  (bm_cons (sm_set sc_lowered.nd rfl (by first | exact .inl rfl | exact .inr rfl) (em_loc (nm_lst am_nil)))
  (bm_cons (sm_for owns_cx rfl (im_zip (by rfl) T.n_zip (am_cons (em_var (pv 0)) (am_cons (em_var (pv 1)) am_nil))) (gm_tup rfl (gms_cons (gm_name sc_lowered.nd rfl (by first | exact .inl rfl | exact .inr rfl)) (gms_cons (gm_name sc_lowered.nd rfl (by first | exact .inl rfl | exact .inr rfl)) gms_nil)))
 (bm_cons (sm_set sc_lowered.nd rfl (by first | exact .inl rfl | exact .inr rfl) (em_bin opd_sub (em_var (pv 3)) (em_bin opd_fdiv (em_var (pv 4)) em_int)))
  (bm_one (sm_expr (em_bm PySem.F.plainAttrs_list PySem.F.slot_list_extend PySem.F.type_list_extend md_extend (em_var (pv 2)) (am_cons (em_val (nm_lst (am_cons (em_var (pv 5)) (am_cons (em_bin opd_add (em_var (pv 5)) (em_var (pv 4))) am_nil)))) am_nil))))))
  (bm_cons (sm_expr (em_bm PySem.F.plainAttrs_list PySem.F.slot_list_extend PySem.F.type_list_extend md_extend (em_var (pv 2)) (am_cons (em_slice (em_var (pv 0)) (om_some (em_callB cd_len (by rfl) T.n_len (by rfl) (am_cons (em_var (pv 1)) am_nil))) om_no) am_nil)))
  (bm_one (sm_ret (em_callTy cd_tuple (by rfl) T.n_tuple (by rfl) (am_cons (em_var (pv 2)) am_nil)))))))
theorem fn_lowered (T : Facts K mg base) : FnM P w K mg base 2 (He.ga K "lowered") T.fd_lowered ["sums", "differences"] m_lowered := fn_retV (fn_mD T.F_lowered sc_lowered fun A outer s H E hr => bm_lowered T hr)
/-! row_of -/
set_option maxHeartbeats 0 in
theorem bm_row_of (T : Facts K mg base) {A : Around} {outer : List PySem.Env} {s : Shared} {H : Hp} {E : XK} (hr : Room 2 (A.deeper (envOfC "row_of" (defScope s_row_of) s.heap.objs.size (He.ga K "row_of") T.fd_row_of.code))) :
  BM (cxOf (L2.CX P w) P w K mg base ["value", "row", "differences"] "row_of" (defScope s_row_of) (He.ga K "row_of") T.fd_row_of.code A outer s H E) (fun c d _ H => E c d H) (defBody s_row_of) b_row_of :=
  (bm_cons (sm_set sc_row_of.nd rfl (by first | exact .inl rfl | exact .inr rfl) (em_ix (em_var (pv 0)) em_int fun _ _ => rfl))
  (bm_cons (sm_for owns_cx rfl (im_any (em_rev (em_ix (em_var (pv 0)) em_int fun _ _ => rfl))) (gm_name sc_row_of.nd rfl (by first | exact .inl rfl | exact .inr rfl))
 (bm_one (sm_set sc_row_of.nd rfl (by first | exact .inl rfl | exact .inr rfl) (em_call (fn_lowered T) ((hr).mono (by decide)) (by rfl) T.g_lowered T.F_lowered.kp T.b_lowered takes_cx (am_cons (em_var (pv 1)) (am_cons (em_var (pv 2)) am_nil))))))
  (bm_one (sm_ret (em_var (pv 1))))))
theorem fn_row_of (T : Facts K mg base) : FnM P w K mg base 3 (He.ga K "row_of") T.fd_row_of ["value"] m_row_of := fn_retV (fn_mD T.F_row_of sc_row_of fun A outer s H E hr => bm_row_of T hr)
/-! _law_means -/
noncomputable def b__law_means : MS := (sSeq (sPar 2 3 (mCons (mBin dIx (mBin dIx (mCallF 2 m_tower (mCons (mVar 0) (mCons (mVar 1) mNil))) (mC (.int 0))) (mC (.int 0))) (mCons (mCall dLen (mCons (mVar 0) mNil)) mNil))) (sRet (mChain dLe dLe (mBin dMul (mBin dMul (mC (.int 2)) (mVar 3)) (mVar 2)) (mBin dMul (mC (.int 2)) (mCall dSum (mCons (mVar 0) mNil))) (mBin dAdd (mBin dMul (mBin dMul (mC (.int 2)) (mVar 3)) (mVar 2)) (mBin dMul (mVar 1) (mVar 3))))))
noncomputable def m__law_means : List D → Store → Res D := retV (runF 4 b__law_means)
set_option maxHeartbeats 0 in
theorem bm__law_means (T : Facts K mg base) {A : Around} {outer : List PySem.Env} {s : Shared} {H : Hp} {E : XK} (hr : Room 4 (A.deeper (envOfC "_law_means" (defScope s__law_means) s.heap.objs.size (He.ga K "_law_means") T.fd__law_means.code))) :
  BM (cxOf (L2.CX P w) P w K mg base ["row", "levels", "last", "many"] "_law_means" (defScope s__law_means) (He.ga K "_law_means") T.fd__law_means.code A outer s H E) (fun c d _ H => E c d H) (defBody s__law_means) b__law_means :=
  (bm_cons (sm_par rfl sc__law_means.nd rfl rfl (by decide) rfl rfl (am_cons (em_ix (em_ix (em_call (fn_tower T) ((hr).mono (by decide)) (by rfl) T.g_tower T.F_tower.kp T.b_tower takes_cx (am_cons (em_var (pv 0)) (am_cons (em_var (pv 1)) am_nil))) em_int fun _ _ => rfl) em_int fun _ _ => rfl) (am_cons (em_callB cd_len (by rfl) T.n_len (by rfl) (am_cons (em_var (pv 0)) am_nil)) am_nil)) rfl)
  (bm_one (sm_ret (em_chain opd_le opd_le (em_bin opd_mul (em_bin opd_mul em_int (em_var (pv 3))) (em_var (pv 2))) (em_bin opd_mul em_int (em_callB (cd_sum rfl) (by rfl) T.n_sum (by rfl) (am_cons (em_var (pv 0)) am_nil))) (em_bin opd_add (em_bin opd_mul (em_bin opd_mul em_int (em_var (pv 3))) (em_var (pv 2))) (em_bin opd_mul (em_var (pv 1)) (em_var (pv 3))))))))
theorem fn__law_means (T : Facts K mg base) : FnM P w K mg base 5 (He.ga K "_law_means") T.fd__law_means ["row", "levels"] m__law_means := fn_retV (fn_mD T.F__law_means sc__law_means fun A outer s H E hr => bm__law_means T hr)
/-! _law_extremes -/
noncomputable def e__law_extremes_1 : ME := (mBin dAdd (mVar 3) (mC (.int 1)))
noncomputable def l__law_extremes_2 : MS := (sSet (gN 1) (mBin dAdd (mVar 1) (mCall dTuple (mCons (asV (mLc (mSrc (mVar 1)) (gN 3) mYes e__law_extremes_1 [3])) mNil))))
noncomputable def b__law_extremes : MS := (sSeq (sSet (gN 1) (mTup (mCons (mC (.int 0)) mNil))) (sSeq (sFor (mSrcA srcR1 (mCons (mVar 0) mNil)) (gN 2) l__law_extremes_2) (sSeq (sSet (gN 4) (mBin dIx (mCallF 2 m_tower (mCons (mVar 1) (mCons (mVar 0) mNil))) (mC (.int 0)))) (sRet (mAndV (mBin dEq (mVar 4) (mTup (mCons (mC (.int 0)) mNil))) (mAndV (mBin dEq (mBin dMul (mC (.int 2)) (mCall dSum (mCons (mVar 1) mNil))) (mBin dMul (mVar 0) (mCall dLen (mCons (mVar 1) mNil)))) (mBin dEq (mBin dIx (mCallF 2 m_tower (mCons (mBin dMul (mTup (mCons (mC (.int 7)) mNil)) (mCall dLen (mCons (mVar 1) mNil))) (mCons (mVar 0) mNil))) (mC (.int 0))) (mTup (mCons (mC (.int 7)) mNil)))))))))
noncomputable def m__law_extremes : List D → Store → Res D := retV (runF 5 b__law_extremes)
set_option maxHeartbeats 0 in
theorem bm__law_extremes (T : Facts K mg base) {A : Around} {outer : List PySem.Env} {s : Shared} {H : Hp} {E : XK} (hr : Room 4 (A.deeper (envOfC "_law_extremes" (defScope s__law_extremes) s.heap.objs.size (He.ga K "_law_extremes") T.fd__law_extremes.code))) :
  BM (cxOf (L2.CX P w) P w K mg base ["levels", "row", "level", "one", "last"] "_law_extremes" (defScope s__law_extremes) (He.ga K "_law_extremes") T.fd__law_extremes.code A outer s H E) (fun c d _ H => E c d H) (defBody s__law_extremes) b__law_extremes :=
  (bm_cons (sm_set sc__law_extremes.nd rfl (by first | exact .inl rfl | exact .inr rfl) (em_tup (am_cons em_int am_nil)))
  (bm_cons (sm_for owns_cx rfl (im_range1 (by rfl) T.n_range (am_cons (em_var (pv 0)) am_nil)) (gm_name sc__law_extremes.nd rfl (by first | exact .inl rfl | exact .inr rfl))
 (bm_one (sm_set sc__law_extremes.nd rfl (by first | exact .inl rfl | exact .inr rfl) (em_bin opd_add (em_var (pv 1)) (em_callTy cd_tuple (by rfl) T.n_tuple (by rfl) (am_cons (em_val (nm_lc [("one", 3)] rfl sc__law_extremes.nd (im_any (em_var (pv 1))) (blkOk_by (by kernel_rfl)) (by decide) (fun _ _ _ _ _ => (gm_name sc__law_extremes.nd rfl (by first | exact .inl rfl | exact .inr rfl))) (fun _ _ _ _ _ => ptsm_nil) (fun _ _ _ _ _ => (em_bin opd_add (em_var (pv 3)) em_int)))) am_nil))))))
  (bm_cons (sm_set sc__law_extremes.nd rfl (by first | exact .inl rfl | exact .inr rfl) (em_ix (em_call (fn_tower T) ((hr).mono (by decide)) (by rfl) T.g_tower T.F_tower.kp T.b_tower takes_cx (am_cons (em_var (pv 1)) (am_cons (em_var (pv 0)) am_nil))) em_int fun _ _ => rfl))
  (bm_one (sm_ret (em_and (em_cmp (opd_eq (hr).units) (em_var (pv 4)) (em_tup (am_cons em_int am_nil)) (nomark _)) (em_and (em_cmp (opd_eq (hr).units) (em_bin opd_mul em_int (em_callB (cd_sum rfl) (by rfl) T.n_sum (by rfl) (am_cons (em_var (pv 1)) am_nil))) (em_bin opd_mul (em_var (pv 0)) (em_callB cd_len (by rfl) T.n_len (by rfl) (am_cons (em_var (pv 1)) am_nil))) (nomark _)) (em_one (em_cmp (opd_eq (hr).units) (em_ix (em_call (fn_tower T) ((hr).mono (by decide)) (by rfl) T.g_tower T.F_tower.kp T.b_tower takes_cx (am_cons (em_bin opd_mul (em_tup (am_cons em_int am_nil)) (em_callB cd_len (by rfl) T.n_len (by rfl) (am_cons (em_var (pv 1)) am_nil))) (am_cons (em_var (pv 0)) am_nil))) em_int fun _ _ => rfl) (em_tup (am_cons em_int am_nil)) (nomark _))))))))))
theorem fn__law_extremes (T : Facts K mg base) : FnM P w K mg base 5 (He.ga K "_law_extremes") T.fd__law_extremes ["levels"] m__law_extremes := fn_retV (fn_mD T.F__law_extremes sc__law_extremes fun A outer s H E hr => bm__law_extremes T hr)
/-! _law_changed -/
noncomputable def e__law_changed_1 : ME := (mBin dAdd (mVar 6) (mVar 3))
noncomputable def e__law_changed_2 : ME := (mBin dAdd (mVar 6) (mVar 3))
noncomputable def e__law_changed_3 : ME := (mBin dAdd (mVar 7) (mBin dMul (mVar 8) (mVar 10)))
noncomputable def e__law_changed_4 : ME := (mBin dMod (mCall dInt (mCons (mVar 6) mNil)) (mC (.int 1000)))
noncomputable def e__law_changed_5 : ME := (mBin dMul (mVar 4) (mVar 6))
noncomputable def b__law_changed : MS := (sSeq (sSet (gTup 2 (gCons (gN 3) (gCons (gN 4) gNil))) (mTup (mCons (mBin dSub (mCallF 2 m__law_take (mCons (mVar 0) (mCons (mC (.int 2001)) mNil))) (mC (.int 1000))) (mCons (mCallF 1 m__law_two (mCons (mVar 2) mNil)) mNil)))) (sSeq (sSet (gN 5) (mCallF 2 m_tower (mCons (mVar 1) (mCons (mVar 2) mNil)))) (sSeq (sIf (mNot (mTru (mCallF 2 m__law_alike (mCons (mCallF 2 m_tower (mCons (mCall dTuple (mCons (asV (mLc (mSrc (mVar 1)) (gN 6) mYes e__law_changed_2 [6])) mNil)) (mCons (mVar 2) mNil))) (mCons (mTup (mCons (mCall dTuple (mCons (asV (mLc (mSrc (mBin dIx (mVar 5) (mC (.int 0)))) (gN 6) mYes e__law_changed_1 [6])) mNil)) (mCons (mBin dIx (mVar 5) (mC (.int 1))) mNil))) mNil))))) (sRet (mC (.bl false))) sSkip) (sSeq (sSet (gTup 2 (gCons (gN 7) (gCons (gN 8) gNil))) (mTup (mCons (mBin dSub (mCallF 2 m__law_take (mCons (mVar 0) (mCons (mC (.int 99)) mNil))) (mC (.int 49))) (mCons (mBin dSub (mCallF 2 m__law_take (mCons (mVar 0) (mCons (mC (.int 41)) mNil))) (mC (.int 20))) mNil)))) (sSeq (sSet (gN 9) (mCallF 2 m_tower (mCons (mCall dTuple (mCons (asV (mLc (mSrcA srcR1 (mCons (mCall dLen (mCons (mVar 1) mNil)) mNil)) (gN 10) mYes e__law_changed_3 [10])) mNil)) (mCons (mC (.int 1)) mNil)))) (sSeq (sIf (mAnd (mB (mBin dGt (mVar 2) (mC (.int 0)))) (mNot (mTru (mCallF 2 m__law_alike (mCons (mBin dIx (mVar 9) (mC (.int 1))) (mCons (mTup (mCons (mBin dMul (mTup (mCons (mVar 8) mNil)) (mBin dFdiv (mCall dLen (mCons (mVar 1) mNil)) (mC (.int 2)))) mNil)) mNil)))))) (sRet (mC (.bl false))) sSkip) (sSeq (sSet (gN 11) (mCall dTuple (mCons (asV (mLc (mSrc (mVar 1)) (gN 6) mYes e__law_changed_4 [6])) mNil))) (sSeq (sSet (gN 12) (mCallF 2 m_tower (mCons (mCall dTuple (mCons (asV (mLc (mSrc (mVar 11)) (gN 6) mYes e__law_changed_5 [6])) mNil)) (mCons (mVar 2) mNil)))) (sRet (mOrV (mBin dEq (mVar 2) (mC (.int 0))) (mBin dEq (mBin dMul (mBin dIx (mBin dIx (mVar 12) (mC (.int 0))) (mC (.int 0))) (mCall dLen (mCons (mVar 1) mNil))) (mBin dMul (mVar 4) (mCall dSum (mCons (mVar 11) mNil))))))))))))))
noncomputable def m__law_changed : List D → Store → Res D := retV (runF 13 b__law_changed)
set_option maxHeartbeats 0 in
theorem bm__law_changed (T : Facts K mg base) {A : Around} {outer : List PySem.Env} {s : Shared} {H : Hp} {E : XK} (hr : Room 10 (A.deeper (envOfC "_law_changed" (defScope s__law_changed) s.heap.objs.size (He.ga K "_law_changed") T.fd__law_changed.code))) :
  BM (cxOf (L2.CX P w) P w K mg base ["draws", "row", "levels", "more", "power", "told", "one", "first", "step", "rising", "k", "small", "great"] "_law_changed" (defScope s__law_changed) (He.ga K "_law_changed") T.fd__law_changed.code A outer s H E) (fun c d _ H => E c d H) (defBody s__law_changed) b__law_changed :=
  (bm_cons (sm_asg (em_tup (am_cons (em_bin opd_sub (em_call (fn__law_take T) ((hr).mono (by decide)) (by rfl) T.g__law_take T.F__law_take.kp T.b__law_take takes_cx (am_cons (em_var (pv 0)) (am_cons em_int am_nil))) em_int) (am_cons (em_call (fn__law_two T) ((hr).mono (by decide)) (by rfl) T.g__law_two T.F__law_two.kp T.b__law_two takes_cx (am_cons (em_var (pv 2)) am_nil)) am_nil))) (gm_tup rfl (gms_cons (gm_name sc__law_changed.nd rfl (by first | exact .inl rfl | exact .inr rfl)) (gms_cons (gm_name sc__law_changed.nd rfl (by first | exact .inl rfl | exact .inr rfl)) gms_nil))))
  (bm_cons (sm_set sc__law_changed.nd rfl (by first | exact .inl rfl | exact .inr rfl) (em_call (fn_tower T) ((hr).mono (by decide)) (by rfl) T.g_tower T.F_tower.kp T.b_tower takes_cx (am_cons (em_var (pv 1)) (am_cons (em_var (pv 2)) am_nil))))
  (bm_cons (sm_if (tm_not (tm_tru (em_call (fn__law_alike T) ((hr).mono (by decide)) (by rfl) T.g__law_alike T.F__law_alike.kp T.b__law_alike takes_cx (am_cons (em_call (fn_tower T) ((hr).mono (by decide)) (by rfl) T.g_tower T.F_tower.kp T.b_tower takes_cx (am_cons (em_callTy cd_tuple (by rfl) T.n_tuple (by rfl) (am_cons (em_val (nm_lc [("one", 6)] rfl sc__law_changed.nd (im_any (em_var (pv 1))) (blkOk_by (by kernel_rfl)) (by decide) (fun _ _ _ _ _ => (gm_name sc__law_changed.nd rfl (by first | exact .inl rfl | exact .inr rfl))) (fun _ _ _ _ _ => ptsm_nil) (fun _ _ _ _ _ => (em_bin opd_add (em_var (pv 6)) (em_var (pv 3)))))) am_nil)) (am_cons (em_var (pv 2)) am_nil))) (am_cons (em_tup (am_cons (em_callTy cd_tuple (by rfl) T.n_tuple (by rfl) (am_cons (em_val (nm_lc [("one", 6)] rfl sc__law_changed.nd (im_any (em_ix (em_var (pv 5)) em_int fun _ _ => rfl)) (blkOk_by (by kernel_rfl)) (by decide) (fun _ _ _ _ _ => (gm_name sc__law_changed.nd rfl (by first | exact .inl rfl | exact .inr rfl))) (fun _ _ _ _ _ => ptsm_nil) (fun _ _ _ _ _ => (em_bin opd_add (em_var (pv 6)) (em_var (pv 3)))))) am_nil)) (am_cons (em_ix (em_var (pv 5)) em_int fun _ _ => rfl) am_nil))) am_nil))) fun _ => rfl)) (bm_one (sm_ret em_bl)) bm_nil)
  (bm_cons (sm_asg (em_tup (am_cons (em_bin opd_sub (em_call (fn__law_take T) ((hr).mono (by decide)) (by rfl) T.g__law_take T.F__law_take.kp T.b__law_take takes_cx (am_cons (em_var (pv 0)) (am_cons em_int am_nil))) em_int) (am_cons (em_bin opd_sub (em_call (fn__law_take T) ((hr).mono (by decide)) (by rfl) T.g__law_take T.F__law_take.kp T.b__law_take takes_cx (am_cons (em_var (pv 0)) (am_cons em_int am_nil))) em_int) am_nil))) (gm_tup rfl (gms_cons (gm_name sc__law_changed.nd rfl (by first | exact .inl rfl | exact .inr rfl)) (gms_cons (gm_name sc__law_changed.nd rfl (by first | exact .inl rfl | exact .inr rfl)) gms_nil))))
  (bm_cons (sm_set sc__law_changed.nd rfl (by first | exact .inl rfl | exact .inr rfl) (em_call (fn_tower T) ((hr).mono (by decide)) (by rfl) T.g_tower T.F_tower.kp T.b_tower takes_cx (am_cons (em_callTy cd_tuple (by rfl) T.n_tuple (by rfl) (am_cons (em_val (nm_lc [("k", 10)] rfl sc__law_changed.nd (im_range1 (by rfl) T.n_range (am_cons (em_callB cd_len (by rfl) T.n_len (by rfl) (am_cons (em_var (pv 1)) am_nil)) am_nil)) (blkOk_by (by kernel_rfl)) (by decide) (fun _ _ _ _ _ => (gm_name sc__law_changed.nd rfl (by first | exact .inl rfl | exact .inr rfl))) (fun _ _ _ _ _ => ptsm_nil) (fun _ _ _ _ _ => (em_bin opd_add (em_var (pv 7)) (em_bin opd_mul (em_var (pv 8)) (em_var (pv 10))))))) am_nil)) (am_cons em_int am_nil))))
  (bm_cons (sm_if (tm_w (wm_and (tm_cmp opd_gt (em_var (pv 2)) em_int (nomark _)) (wm_and1 (tm_not (tm_tru (em_call (fn__law_alike T) ((hr).mono (by decide)) (by rfl) T.g__law_alike T.F__law_alike.kp T.b__law_alike takes_cx (am_cons (em_ix (em_var (pv 9)) em_int fun _ _ => rfl) (am_cons (em_tup (am_cons (em_bin opd_mul (em_tup (am_cons (em_var (pv 8)) am_nil)) (em_bin opd_fdiv (em_callB cd_len (by rfl) T.n_len (by rfl) (am_cons (em_var (pv 1)) am_nil)) em_int)) am_nil)) am_nil))) fun _ => rfl))))) (bm_one (sm_ret em_bl)) bm_nil)
  (bm_cons (sm_set sc__law_changed.nd rfl (by first | exact .inl rfl | exact .inr rfl) (em_callTy cd_tuple (by rfl) T.n_tuple (by rfl) (am_cons (em_val (nm_lc [("one", 6)] rfl sc__law_changed.nd (im_any (em_var (pv 1))) (blkOk_by (by kernel_rfl)) (by decide) (fun _ _ _ _ _ => (gm_name sc__law_changed.nd rfl (by first | exact .inl rfl | exact .inr rfl))) (fun _ _ _ _ _ => ptsm_nil) (fun _ _ _ _ _ => (em_bin opd_mod (em_callTy cd_int (by rfl) T.n_int (by rfl) (am_cons (em_var (pv 6)) am_nil)) em_int)))) am_nil)))
  (bm_cons (sm_set sc__law_changed.nd rfl (by first | exact .inl rfl | exact .inr rfl) (em_call (fn_tower T) ((hr).mono (by decide)) (by rfl) T.g_tower T.F_tower.kp T.b_tower takes_cx (am_cons (em_callTy cd_tuple (by rfl) T.n_tuple (by rfl) (am_cons (em_val (nm_lc [("one", 6)] rfl sc__law_changed.nd (im_any (em_var (pv 11))) (blkOk_by (by kernel_rfl)) (by decide) (fun _ _ _ _ _ => (gm_name sc__law_changed.nd rfl (by first | exact .inl rfl | exact .inr rfl))) (fun _ _ _ _ _ => ptsm_nil) (fun _ _ _ _ _ => (em_bin opd_mul (em_var (pv 4)) (em_var (pv 6)))))) am_nil)) (am_cons (em_var (pv 2)) am_nil))))
  (bm_one (sm_ret (em_or (em_cmp (opd_eq (hr).units) (em_var (pv 2)) em_int (nomark _)) (em_one (em_cmp (opd_eq (hr).units) (em_bin opd_mul (em_ix (em_ix (em_var (pv 12)) em_int fun _ _ => rfl) em_int fun _ _ => rfl) (em_callB cd_len (by rfl) T.n_len (by rfl) (am_cons (em_var (pv 1)) am_nil))) (em_bin opd_mul (em_var (pv 4)) (em_callB (cd_sum rfl) (by rfl) T.n_sum (by rfl) (am_cons (em_var (pv 11)) am_nil))) (nomark _))))))))))))))
theorem fn__law_changed (T : Facts K mg base) : FnM P w K mg base 11 (He.ga K "_law_changed") T.fd__law_changed ["draws", "row", "levels"] m__law_changed := fn_retV (fn_mD T.F__law_changed sc__law_changed fun A outer s H E hr => bm__law_changed T hr)
/-! are_planes -/
set_option maxHeartbeats 0 in
theorem bm_are_planes (T : Facts K mg base) {A : Around} {outer : List PySem.Env} {s : Shared} {H : Hp} {E : XK} (hr : Room 5 (A.deeper (envOfC "are_planes" (defScope s_are_planes) s.heap.objs.size (He.ga K "are_planes") T.fd_are_planes.code))) :
  BM (cxOf (L2.CX P w) P w K mg base ["value", "one"] "are_planes" (defScope s_are_planes) (He.ga K "are_planes") T.fd_are_planes.code A outer s H E) (fun c d _ H => E c d H) (defBody s_are_planes) b_are_planes :=
  (bm_cons (sm_if (tm_w (wm_or (tm_not (tm_tru (em_callB cd_isinst (by rfl) T.n_isinstance (by rfl) (am_cons (em_var (pv 0)) (am_cons (em_ty (by rfl) T.n_tuple (by rfl)) am_nil))) fun _ => rfl)) (wm_or1 (tm_cmp opd_gt (em_callB cd_len (by rfl) T.n_len (by rfl) (am_cons (em_var (pv 0)) am_nil)) (em_glob (by rfl) T.g_MOST_LEVELS T.r_MOST_LEVELS fun _ _ => .int _) (nomark _))))) (bm_one (sm_ret em_bl)) bm_nil)
  (bm_one (sm_ret (em_all [("one", 1)] (hr) (by rfl) T.n_all (genIn_def T.TB_are_planes T.T_are_planes T.hc_are_planes) (im_any (em_var (pv 0))) (blkOk_by (by kernel_rfl)) (by decide) sc_are_planes.nd rfl rfl (by decide +kernel) (by rfl) (fun _ _ _ _ _ _ _ => (gm_name sc_are_planes.nd rfl (by first | exact .inl rfl | exact .inr rfl))) (fun _ _ _ _ _ _ _ hin1 => (em_call (fn_is_number T) (((((hr).in1).in1.deeper _)).mono (by decide)) (by rfl) T.g_is_number T.F_is_number.kp T.b_is_number tk0 (am_cons (em_var (pv 1)) (am_cons em_int (am_cons (em_glob (by rfl) T.g_MOST_PLANES T.r_MOST_PLANES fun _ _ => .int _) am_nil)))))))))
theorem fn_are_planes (T : Facts K mg base) : FnM P w K mg base 6 (He.ga K "are_planes") T.fd_are_planes ["value"] m_are_planes := fn_retV (fn_mD T.F_are_planes sc_are_planes fun A outer s H E hr => bm_are_planes T hr)
/-! check_planes -/
set_option maxHeartbeats 0 in
theorem bm_check_planes (T : Facts K mg base) {A : Around} {outer : List PySem.Env} {s : Shared} {H : Hp} {E : XK} (hr : Room 6 (A.deeper (envOfC "check_planes" (defScope s_check_planes) s.heap.objs.size (He.ga K "check_planes") T.fd_check_planes.code))) :
  BM (cxOf (L2.CX P w) P w K mg base ["planes", "levels"] "check_planes" (defScope s_check_planes) (He.ga K "check_planes") T.fd_check_planes.code A outer s H E) (fun c d _ H => E c d H) (defBody s_check_planes) b_check_planes :=
  (bm_one (sm_if (tm_w (wm_or (tm_not (tm_tru (em_call (fn_are_planes T) ((hr).mono (by decide)) (by rfl) T.g_are_planes T.F_are_planes.kp T.b_are_planes takes_cx (am_cons (em_var (pv 0)) am_nil)) fun _ => rfl)) (wm_or1 (tm_w (wm_and (tm_cmp opd_isNot (em_var (pv 1)) em_non (nomark _)) (wm_and1 (tm_cmp (opd_ne (hr).units) (em_callB cd_len (by rfl) T.n_len (by rfl) (am_cons (em_var (pv 0)) am_nil)) (em_var (pv 1)) (nomark _)))))))) (bm_one sm_never) bm_nil))
theorem fn_check_planes (T : Facts K mg base) : FnM P w K mg base 7 (He.ga K "check_planes") T.fd_check_planes ["planes", "levels"] m_check_planes := fn_retV (fn_mD T.F_check_planes sc_check_planes fun A outer s H E hr => bm_check_planes T hr)
/-! sums_of -/
set_option maxHeartbeats 0 in
theorem bm_sums_of (T : Facts K mg base) {A : Around} {outer : List PySem.Env} {s : Shared} {H : Hp} {E : XK} (hr : Room 1 (A.deeper (envOfC "sums_of" (defScope s_sums_of) s.heap.objs.size (He.ga K "sums_of") T.fd_sums_of.code))) :
  BM (cxOf (L2.CX P w) P w K mg base ["rows", "least", "one", "row"] "sums_of" (defScope s_sums_of) (He.ga K "sums_of") T.fd_sums_of.code A outer s H E) (fun c d _ H => E c d H) (defBody s_sums_of) b_sums_of :=
  (bm_cons (sm_set sc_sums_of.nd rfl (by first | exact .inl rfl | exact .inr rfl) (em_callB (cd_sum rfl) (by rfl) T.n_sum (by rfl) (am_cons (em_val (nm_lc [("row", 3)] rfl sc_sums_of.nd (im_any (em_var (pv 0))) (blkOk_by (by kernel_rfl)) (by decide) (fun _ _ _ _ _ => (gm_name sc_sums_of.nd rfl (by first | exact .inl rfl | exact .inr rfl))) (fun _ _ _ _ _ => ptsm_nil) (fun _ _ _ _ _ => (em_callB (cd_min rfl) (by rfl) T.n_min (by rfl) (am_cons (em_val (nm_lc [("one", 2)] rfl sc_sums_of.nd (im_any (em_var (pv 3))) (blkOk_by (by kernel_rfl)) (by decide) (fun _ _ _ _ _ => (gm_name sc_sums_of.nd rfl (by first | exact .inl rfl | exact .inr rfl))) (fun _ _ _ _ _ => ptsm_nil) (fun _ _ _ _ _ => (em_ix (em_var (pv 2)) em_int fun _ _ => rfl)))) am_nil))))) am_nil)))
  (bm_one (sm_ret (em_tup (am_cons (em_var (pv 1)) (am_cons (em_callB (cd_sum rfl) (by rfl) T.n_sum (by rfl) (am_cons (em_val (nm_lc [("row", 3)] rfl sc_sums_of.nd (im_any (em_var (pv 0))) (blkOk_by (by kernel_rfl)) (by decide) (fun _ _ _ _ _ => (gm_name sc_sums_of.nd rfl (by first | exact .inl rfl | exact .inr rfl))) (fun _ _ _ _ _ => ptsm_nil) (fun _ _ _ _ _ => (em_callB (cd_max rfl) (by rfl) T.n_max (by rfl) (am_cons (em_val (nm_lc [("one", 2)] rfl sc_sums_of.nd (im_any (em_var (pv 3))) (blkOk_by (by kernel_rfl)) (by decide) (fun _ _ _ _ _ => (gm_name sc_sums_of.nd rfl (by first | exact .inl rfl | exact .inr rfl))) (fun _ _ _ _ _ => ptsm_nil) (fun _ _ _ _ _ => (em_ix (em_var (pv 2)) em_int fun _ _ => rfl)))) am_nil))))) am_nil)) am_nil))))))
theorem fn_sums_of (T : Facts K mg base) : FnM P w K mg base 2 (He.ga K "sums_of") T.fd_sums_of ["rows"] m_sums_of := fn_retV (fn_mD T.F_sums_of sc_sums_of fun A outer s H E hr => bm_sums_of T hr)
/-! check_plane -/
set_option maxHeartbeats 0 in
theorem bm_check_plane (T : Facts K mg base) {A : Around} {outer : List PySem.Env} {s : Shared} {H : Hp} {E : XK} (hr : Room 2 (A.deeper (envOfC "check_plane" (defScope s_check_plane) s.heap.objs.size (He.ga K "check_plane") T.fd_check_plane.code))) :
  BM (cxOf (L2.CX P w) P w K mg base ["planes"] "check_plane" (defScope s_check_plane) (He.ga K "check_plane") T.fd_check_plane.code A outer s H E) (fun c d _ H => E c d H) (defBody s_check_plane) b_check_plane :=
  (bm_one (sm_if (tm_not (tm_tru (em_call (fn_is_number T) ((hr).mono (by decide)) (by rfl) T.g_is_number T.F_is_number.kp T.b_is_number takes_cx (am_cons (em_var (pv 0)) (am_cons em_int (am_cons (em_glob (by rfl) T.g_MOST_PLANES T.r_MOST_PLANES fun _ _ => .int _) am_nil)))) fun _ => rfl)) (bm_one sm_never) bm_nil))
theorem fn_check_plane (T : Facts K mg base) : FnM P w K mg base 3 (He.ga K "check_plane") T.fd_check_plane ["planes"] m_check_plane := fn_retV (fn_mD T.F_check_plane sc_check_plane fun A outer s H E hr => bm_check_plane T hr)
/-! lean -/
set_option maxHeartbeats 0 in
theorem bm_lean (T : Facts K mg base) {A : Around} {outer : List PySem.Env} {s : Shared} {H : Hp} {E : XK} (hr : Room 1 (A.deeper (envOfC "lean" (defScope s_lean) s.heap.objs.size (He.ga K "lean") T.fd_lean.code))) :
  BM (cxOf (L2.CX P w) P w K mg base ["number", "planes", "step"] "lean" (defScope s_lean) (He.ga K "lean") T.fd_lean.code A outer s H E) (fun c d _ H => E c d H) (defBody s_lean) b_lean :=
  (bm_cons (sm_if (tm_cmp (opd_eq (hr).units) (em_var (pv 1)) em_int (nomark _)) (bm_one (sm_ret (em_var (pv 0)))) bm_nil)
  (bm_cons (sm_set sc_lean.nd rfl (by first | exact .inl rfl | exact .inr rfl) (em_bin opd_shl em_int (em_var (pv 1))))
  (bm_one (sm_ret (em_bin opd_add (em_bin opd_mul (em_bin opd_fdiv (em_var (pv 0)) (em_var (pv 2))) (em_var (pv 2))) (em_bin opd_fdiv (em_var (pv 2)) em_int))))))
theorem fn_lean (T : Facts K mg base) : FnM P w K mg base 2 (He.ga K "lean") T.fd_lean ["number", "planes"] m_lean := fn_retV (fn_mD T.F_lean sc_lean fun A outer s H E hr => bm_lean T hr)
/-! pair_offsets -/
set_option maxHeartbeats 0 in
theorem bm_pair_offsets (T : Facts K mg base) {A : Around} {outer : List PySem.Env} {s : Shared} {H : Hp} {E : XK} (hr : Room 2 (A.deeper (envOfC "pair_offsets" (defScope s_pair_offsets) s.heap.objs.size (He.ga K "pair_offsets") T.fd_pair_offsets.code))) :
  BM (cxOf (L2.CX P w) P w K mg base ["rest", "planes", "first"] "pair_offsets" (defScope s_pair_offsets) (He.ga K "pair_offsets") T.fd_pair_offsets.code A outer s H E) (fun c d _ H => E c d H) (defBody s_pair_offsets) b_pair_offsets :=
  (bm_cons (sm_set sc_pair_offsets.nd rfl (by first | exact .inl rfl | exact .inr rfl) (em_bin opd_sub (em_bin opd_fdiv (em_var (pv 0)) em_int) (em_bin opd_fdiv (em_call (fn_lean T) ((hr).mono (by decide)) (by rfl) T.g_lean T.F_lean.kp T.b_lean takes_cx (am_cons (em_var (pv 0)) (am_cons (em_var (pv 1)) am_nil))) em_int)))
  (bm_one (sm_ret (em_tup (am_cons (em_var (pv 2)) (am_cons (em_bin opd_sub (em_bin opd_add (em_var (pv 2)) (em_call (fn_lean T) ((hr).mono (by decide)) (by rfl) T.g_lean T.F_lean.kp T.b_lean takes_cx (am_cons (em_var (pv 0)) (am_cons (em_var (pv 1)) am_nil)))) (em_var (pv 0))) am_nil))))))
theorem fn_pair_offsets (T : Facts K mg base) : FnM P w K mg base 3 (He.ga K "pair_offsets") T.fd_pair_offsets ["rest", "planes"] m_pair_offsets := fn_retV (fn_mD T.F_pair_offsets sc_pair_offsets fun A outer s H E hr => bm_pair_offsets T hr)
/-! spans -/
set_option maxHeartbeats 0 in
theorem bm_spans (T : Facts K mg base) {A : Around} {outer : List PySem.Env} {s : Shared} {H : Hp} {E : XK} (hr : Room 3 (A.deeper (envOfC "spans" (defScope s_spans) s.heap.objs.size (He.ga K "spans") T.fd_spans.code))) :
  BM (cxOf (L2.CX P w) P w K mg base ["planes", "told", "rest", "one", "which"] "spans" (defScope s_spans) (He.ga K "spans") T.fd_spans.code A outer s H E) (fun c d _ H => E c d H) (defBody s_spans) b_spans :=
  (bm_cons (sm_expr (em_call (fn_check_plane T) ((hr).mono (by decide)) (by rfl) T.g_check_plane T.F_check_plane.kp T.b_check_plane takes_cx (am_cons (em_var (pv 0)) am_nil)))
  (bm_cons (by first | exact sm_set sc_spans.nd rfl (by first | exact .inl rfl | exact .inr rfl) (em_val (nm_lc [("rest", 2)] rfl sc_spans.nd (im_range1 (by rfl) T.n_range (am_cons (em_bin opd_shl em_int (em_var (pv 0))) am_nil)) (blkOk_by (by kernel_rfl)) (by decide) (fun _ _ _ _ _ => (gm_name sc_spans.nd rfl (by first | exact .inl rfl | exact .inr rfl))) (fun _ _ _ _ _ => ptsm_nil) (fun _ _ _ _ _ => (em_call (fn_pair_offsets T) ((hr).mono (by decide)) (by rfl) T.g_pair_offsets T.F_pair_offsets.kp T.b_pair_offsets tk0 (am_cons (em_var (pv 2)) (am_cons (em_var (pv 0)) am_nil)))))) | exact sm_setLc asV (.inl rfl) [("rest", 2)] rfl sc_spans.nd rfl rfl (sw_true rfl rfl rfl (by decide +kernel)) (im_range1 (by rfl) T.n_range (am_cons (em_bin opd_shl em_int (em_var (pv 0))) am_nil)) (blkOk_by (by kernel_rfl)) (by decide) (fun _ _ _ _ _ => (gm_name sc_spans.nd rfl (by first | exact .inl rfl | exact .inr rfl))) (fun _ _ _ _ _ => ptsm_nil) (fun _ _ _ _ _ => (em_call (fn_pair_offsets T) ((hr).mono (by decide)) (by rfl) T.g_pair_offsets T.F_pair_offsets.kp T.b_pair_offsets tk0 (am_cons (em_var (pv 2)) (am_cons (em_var (pv 0)) am_nil)))))
  (bm_one (sm_ret (em_callTy cd_tuple (by rfl) T.n_tuple (by rfl) (am_cons (em_val (nm_lc [("which", 4)] rfl sc_spans.nd (im_range1 (by rfl) T.n_range (am_cons em_int am_nil)) (blkOk_by (by kernel_rfl)) (by decide) (fun _ _ _ _ _ => (gm_name sc_spans.nd rfl (by first | exact .inl rfl | exact .inr rfl))) (fun _ _ _ _ _ => ptsm_nil) (fun _ _ _ _ _ => (em_tup (am_cons (em_callB (cd_min rfl) (by rfl) T.n_min (by rfl) (am_cons (em_val (nm_lc [("one", 3)] rfl sc_spans.nd (im_any (em_var (pv 1))) (blkOk_by (by kernel_rfl)) (by decide) (fun _ _ _ _ _ => (gm_name sc_spans.nd rfl (by first | exact .inl rfl | exact .inr rfl))) (fun _ _ _ _ _ => ptsm_nil) (fun _ _ _ _ _ => (em_ix (em_var (pv 3)) (em_var (pv 4)) fun _ _ => rfl)))) am_nil)) (am_cons (em_callB (cd_max rfl) (by rfl) T.n_max (by rfl) (am_cons (em_val (nm_lc [("one", 3)] rfl sc_spans.nd (im_any (em_var (pv 1))) (blkOk_by (by kernel_rfl)) (by decide) (fun _ _ _ _ _ => (gm_name sc_spans.nd rfl (by first | exact .inl rfl | exact .inr rfl))) (fun _ _ _ _ _ => ptsm_nil) (fun _ _ _ _ _ => (em_ix (em_var (pv 3)) (em_var (pv 4)) fun _ _ => rfl)))) am_nil)) am_nil)))))) am_nil))))))
theorem fn_spans (T : Facts K mg base) : FnM P w K mg base 4 (He.ga K "spans") T.fd_spans ["planes"] m_spans := fn_retV (fn_mD T.F_spans sc_spans fun A outer s H E hr => bm_spans T hr)
/-! bounds -/
set_option maxHeartbeats 0 in
theorem bm_bounds (T : Facts K mg base) {A : Around} {outer : List PySem.Env} {s : Shared} {H : Hp} {E : XK} (hr : Room 7 (A.deeper (envOfC "bounds" (defScope s_bounds) s.heap.objs.size (He.ga K "bounds") T.fd_bounds.code))) :
  BM (cxOf (L2.CX P w) P w K mg base ["planes", "one"] "bounds" (defScope s_bounds) (He.ga K "bounds") T.fd_bounds.code A outer s H E) (fun c d _ H => E c d H) (defBody s_bounds) b_bounds :=
  (bm_cons (sm_expr (em_call (fn_check_planes T) ((hr).mono (by decide)) (by rfl) T.g_check_planes T.F_check_planes.kp T.b_check_planes takes_cx (am_cons (em_var (pv 0)) (am_cons em_non am_nil))))
  (bm_one (sm_ret (em_call (fn_sums_of T) ((hr).mono (by decide)) (by rfl) T.g_sums_of T.F_sums_of.kp T.b_sums_of takes_cx (am_cons (em_val (nm_lc [("one", 1)] rfl sc_bounds.nd (im_any (em_var (pv 0))) (blkOk_by (by kernel_rfl)) (by decide) (fun _ _ _ _ _ => (gm_name sc_bounds.nd rfl (by first | exact .inl rfl | exact .inr rfl))) (fun _ _ _ _ _ => ptsm_nil) (fun _ _ _ _ _ => (em_call (fn_spans T) ((hr).mono (by decide)) (by rfl) T.g_spans T.F_spans.kp T.b_spans tk0 (am_cons (em_var (pv 1)) am_nil))))) am_nil)))))
theorem fn_bounds (T : Facts K mg base) : FnM P w K mg base 8 (He.ga K "bounds") T.fd_bounds ["planes"] m_bounds := fn_retV (fn_mD T.F_bounds sc_bounds fun A outer s H E hr => bm_bounds T hr)
/-! lean_row -/
set_option maxHeartbeats 0 in
theorem bm_lean_row (T : Facts K mg base) {A : Around} {outer : List PySem.Env} {s : Shared} {H : Hp} {E : XK} (hr : Room 2 (A.deeper (envOfC "lean_row" (defScope s_lean_row) s.heap.objs.size (He.ga K "lean_row") T.fd_lean_row.code))) :
  BM (cxOf (L2.CX P w) P w K mg base ["row", "planes", "one"] "lean_row" (defScope s_lean_row) (He.ga K "lean_row") T.fd_lean_row.code A outer s H E) (fun c d _ H => E c d H) (defBody s_lean_row) b_lean_row :=
  (bm_one (sm_ret (em_callTy cd_tuple (by rfl) T.n_tuple (by rfl) (am_cons (em_val (nm_lc [("one", 2)] rfl sc_lean_row.nd (im_any (em_var (pv 0))) (blkOk_by (by kernel_rfl)) (by decide) (fun _ _ _ _ _ => (gm_name sc_lean_row.nd rfl (by first | exact .inl rfl | exact .inr rfl))) (fun _ _ _ _ _ => ptsm_nil) (fun _ _ _ _ _ => (em_call (fn_lean T) ((hr).mono (by decide)) (by rfl) T.g_lean T.F_lean.kp T.b_lean tk0 (am_cons (em_var (pv 2)) (am_cons (em_var (pv 1)) am_nil)))))) am_nil))))
theorem fn_lean_row (T : Facts K mg base) : FnM P w K mg base 3 (He.ga K "lean_row") T.fd_lean_row ["row", "planes"] m_lean_row := fn_retV (fn_mD T.F_lean_row sc_lean_row fun A outer s H E hr => bm_lean_row T hr)
/-! lean_tower -/
set_option maxHeartbeats 0 in
theorem bm_lean_tower (T : Facts K mg base) {A : Around} {outer : List PySem.Env} {s : Shared} {H : Hp} {E : XK} (hr : Room 7 (A.deeper (envOfC "lean_tower" (defScope s_lean_tower) s.heap.objs.size (He.ga K "lean_tower") T.fd_lean_tower.code))) :
  BM (cxOf (L2.CX P w) P w K mg base ["value", "planes", "row", "many"] "lean_tower" (defScope s_lean_tower) (He.ga K "lean_tower") T.fd_lean_tower.code A outer s H E) (fun c d _ H => E c d H) (defBody s_lean_tower) b_lean_tower :=
  (bm_cons (sm_expr (em_call (fn_check_planes T) ((hr).mono (by decide)) (by rfl) T.g_check_planes T.F_check_planes.kp T.b_check_planes takes_cx (am_cons (em_var (pv 1)) (am_cons (em_callB cd_len (by rfl) T.n_len (by rfl) (am_cons (em_ix (em_var (pv 0)) em_int fun _ _ => rfl) am_nil)) am_nil))))
  (bm_one (sm_ret (em_tup (am_cons (em_ix (em_var (pv 0)) em_int fun _ _ => rfl) (am_cons (em_callTy cd_tuple (by rfl) T.n_tuple (by rfl) (am_cons (em_val (nm_lc [("row", 2), ("many", 3)] rfl sc_lean_tower.nd (im_zip (by rfl) T.n_zip (am_cons (em_ix (em_var (pv 0)) em_int fun _ _ => rfl) (am_cons (em_var (pv 1)) am_nil))) (blkOk_by (by kernel_rfl)) (by decide) (fun _ _ _ _ _ => (gm_tup rfl (gms_cons (gm_name sc_lean_tower.nd rfl (by first | exact .inl rfl | exact .inr rfl)) (gms_cons (gm_name sc_lean_tower.nd rfl (by first | exact .inl rfl | exact .inr rfl)) gms_nil)))) (fun _ _ _ _ _ => ptsm_nil) (fun _ _ _ _ _ => (em_call (fn_lean_row T) ((hr).mono (by decide)) (by rfl) T.g_lean_row T.F_lean_row.kp T.b_lean_row tk0 (am_cons (em_var (pv 2)) (am_cons (em_var (pv 3)) am_nil)))))) am_nil)) am_nil))))))
theorem fn_lean_tower (T : Facts K mg base) : FnM P w K mg base 8 (He.ga K "lean_tower") T.fd_lean_tower ["value", "planes"] m_lean_tower := fn_retV (fn_mD T.F_lean_tower sc_lean_tower fun A outer s H E hr => bm_lean_tower T hr)
/-! shown_row -/
set_option maxHeartbeats 0 in
theorem bm_shown_row (T : Facts K mg base) {A : Around} {outer : List PySem.Env} {s : Shared} {H : Hp} {E : XK} (hr : Room 8 (A.deeper (envOfC "shown_row" (defScope s_shown_row) s.heap.objs.size (He.ga K "shown_row") T.fd_shown_row.code))) :
  BM (cxOf (L2.CX P w) P w K mg base ["row", "planes"] "shown_row" (defScope s_shown_row) (He.ga K "shown_row") T.fd_shown_row.code A outer s H E) (fun c d _ H => E c d H) (defBody s_shown_row) b_shown_row :=
  (bm_cons (sm_expr (em_call (fn_check_planes T) ((hr).mono (by decide)) (by rfl) T.g_check_planes T.F_check_planes.kp T.b_check_planes takes_cx (am_cons (em_var (pv 1)) (am_cons em_non am_nil))))
  (bm_one (sm_ret (em_call (fn_row_of T) ((hr).mono (by decide)) (by rfl) T.g_row_of T.F_row_of.kp T.b_row_of takes_cx (am_cons (em_call (fn_lean_tower T) ((hr).mono (by decide)) (by rfl) T.g_lean_tower T.F_lean_tower.kp T.b_lean_tower takes_cx (am_cons (em_call (fn_tower T) ((hr).mono (by decide)) (by rfl) T.g_tower T.F_tower.kp T.b_tower takes_cx (am_cons (em_var (pv 0)) (am_cons (em_callB cd_len (by rfl) T.n_len (by rfl) (am_cons (em_var (pv 1)) am_nil)) am_nil))) (am_cons (em_var (pv 1)) am_nil))) am_nil)))))
theorem fn_shown_row (T : Facts K mg base) : FnM P w K mg base 9 (He.ga K "shown_row") T.fd_shown_row ["row", "planes"] m_shown_row := fn_retV (fn_mD T.F_shown_row sc_shown_row fun A outer s H E hr => bm_shown_row T hr)
/-! _law_planes -/
noncomputable def e__law_planes_1 : ME := (mCallF 2 m__law_take (mCons (mVar 0) (mCons (mC (.int 5)) mNil)))
noncomputable def e__law_planes_2 : ME := (mBin dSub (mBin dIx (mVar 7) (mVar 9)) (mBin dIx (mVar 1) (mVar 9)))
noncomputable def e__law_planes_3 : ME := (mBin dAdd (mVar 10) (mC (.int 5)))
noncomputable def e__law_planes_4 : ME := (mBin dAdd (mVar 10) (mC (.int 5)))
noncomputable def b__law_planes : MS := (sSeq (sSet (gN 3) (mCall dTuple (mCons (asV (mLc (mSrcA srcR1 (mCons (mVar 2) mNil)) (gN 4) mYes e__law_planes_1 [4])) mNil))) (sSeq (sSet (gTup 2 (gCons (gN 5) (gCons (gN 6) gNil))) (mCallF 1 m_bounds (mCons (mVar 3) mNil))) (sSeq (sSet (gN 7) (mCallF 2 m_shown_row (mCons (mVar 1) (mCons (mVar 3) mNil)))) (sSeq (sSet (gN 8) (asV (mLc (mSrcA srcR1 (mCons (mCall dLen (mCons (mVar 1) mNil)) mNil)) (gN 9) mYes e__law_planes_2 [9]))) (sSeq (sIf (mOr (mNot (mTru (mCall dIsInst (mCons (mVar 7) (mCons (mC (.ty "tuple")) mNil))))) (mOr (mB (mBin dNe (mCall dLen (mCons (mVar 7) mNil)) (mCall dLen (mCons (mVar 1) mNil)))) (mOr (mB (mBin dLt (mCall dMin (mCons (mVar 8) mNil)) (mVar 5))) (mB (mBin dGt (mCall dMax (mCons (mVar 8) mNil)) (mVar 6)))))) (sRet (mC (.bl false))) sSkip) (sSeq (sIf (mOr (mNot (mTru (mCallF 2 m__law_alike (mCons (mCallF 2 m_shown_row (mCons (mVar 1) (mCons (mBin dMul (mTup (mCons (mC (.int 0)) mNil)) (mVar 2)) mNil))) (mCons (mVar 1) mNil))))) (mNot (mTru (mCallF 2 m__law_alike (mCons (mBin dIx (mCallF 2 m_tower (mCons (mVar 7) (mCons (mVar 2) mNil))) (mC (.int 0))) (mCons (mBin dIx (mCallF 2 m_tower (mCons (mVar 1) (mCons (mVar 2) mNil))) (mC (.int 0))) mNil)))))) (sRet (mC (.bl false))) sSkip) (sRet (mCallF 2 m__law_alike (mCons (mCallF 2 m_shown_row (mCons (mCall dTuple (mCons (asV (mLc (mSrc (mVar 1)) (gN 10) mYes e__law_planes_4 [10])) mNil)) (mCons (mVar 3) mNil))) (mCons (mCall dTuple (mCons (asV (mLc (mSrc (mVar 7)) (gN 10) mYes e__law_planes_3 [10])) mNil)) mNil))))))))))
noncomputable def m__law_planes : List D → Store → Res D := retV (runF 11 b__law_planes)
set_option maxHeartbeats 0 in
theorem bm__law_planes (T : Facts K mg base) {A : Around} {outer : List PySem.Env} {s : Shared} {H : Hp} {E : XK} (hr : Room 10 (A.deeper (envOfC "_law_planes" (defScope s__law_planes) s.heap.objs.size (He.ga K "_law_planes") T.fd__law_planes.code))) :
  BM (cxOf (L2.CX P w) P w K mg base ["draws", "row", "levels", "planes", "level", "least", "most", "found", "offsets", "k", "one"] "_law_planes" (defScope s__law_planes) (He.ga K "_law_planes") T.fd__law_planes.code A outer s H E) (fun c d _ H => E c d H) (defBody s__law_planes) b__law_planes :=
  (bm_cons (sm_set sc__law_planes.nd rfl (by first | exact .inl rfl | exact .inr rfl) (em_callTy cd_tuple (by rfl) T.n_tuple (by rfl) (am_cons (em_val (nm_lc [("level", 4)] rfl sc__law_planes.nd (im_range1 (by rfl) T.n_range (am_cons (em_var (pv 2)) am_nil)) (blkOk_by (by kernel_rfl)) (by decide) (fun _ _ _ _ _ => (gm_name sc__law_planes.nd rfl (by first | exact .inl rfl | exact .inr rfl))) (fun _ _ _ _ _ => ptsm_nil) (fun _ _ _ _ _ => (em_call (fn__law_take T) ((hr).mono (by decide)) (by rfl) T.g__law_take T.F__law_take.kp T.b__law_take tk0 (am_cons (em_var (pv 0)) (am_cons em_int am_nil)))))) am_nil)))
  (bm_cons (sm_asg (em_call (fn_bounds T) ((hr).mono (by decide)) (by rfl) T.g_bounds T.F_bounds.kp T.b_bounds takes_cx (am_cons (em_var (pv 3)) am_nil)) (gm_tup rfl (gms_cons (gm_name sc__law_planes.nd rfl (by first | exact .inl rfl | exact .inr rfl)) (gms_cons (gm_name sc__law_planes.nd rfl (by first | exact .inl rfl | exact .inr rfl)) gms_nil))))
  (bm_cons (sm_set sc__law_planes.nd rfl (by first | exact .inl rfl | exact .inr rfl) (em_call (fn_shown_row T) ((hr).mono (by decide)) (by rfl) T.g_shown_row T.F_shown_row.kp T.b_shown_row takes_cx (am_cons (em_var (pv 1)) (am_cons (em_var (pv 3)) am_nil))))
  (bm_cons (by first | exact sm_set sc__law_planes.nd rfl (by first | exact .inl rfl | exact .inr rfl) (em_val (nm_lc [("k", 9)] rfl sc__law_planes.nd (im_range1 (by rfl) T.n_range (am_cons (em_callB cd_len (by rfl) T.n_len (by rfl) (am_cons (em_var (pv 1)) am_nil)) am_nil)) (blkOk_by (by kernel_rfl)) (by decide) (fun _ _ _ _ _ => (gm_name sc__law_planes.nd rfl (by first | exact .inl rfl | exact .inr rfl))) (fun _ _ _ _ _ => ptsm_nil) (fun _ _ _ _ _ => (em_bin opd_sub (em_ix (em_var (pv 7)) (em_var (pv 9)) fun _ _ => rfl) (em_ix (em_var (pv 1)) (em_var (pv 9)) fun _ _ => rfl))))) | exact sm_setLc asV (.inl rfl) [("k", 9)] rfl sc__law_planes.nd rfl rfl (sw_true rfl rfl rfl (by decide +kernel)) (im_range1 (by rfl) T.n_range (am_cons (em_callB cd_len (by rfl) T.n_len (by rfl) (am_cons (em_var (pv 1)) am_nil)) am_nil)) (blkOk_by (by kernel_rfl)) (by decide) (fun _ _ _ _ _ => (gm_name sc__law_planes.nd rfl (by first | exact .inl rfl | exact .inr rfl))) (fun _ _ _ _ _ => ptsm_nil) (fun _ _ _ _ _ => (em_bin opd_sub (em_ix (em_var (pv 7)) (em_var (pv 9)) fun _ _ => rfl) (em_ix (em_var (pv 1)) (em_var (pv 9)) fun _ _ => rfl))))
  (bm_cons (sm_if (tm_w (wm_or (tm_not (tm_tru (em_callB cd_isinst (by rfl) T.n_isinstance (by rfl) (am_cons (em_var (pv 7)) (am_cons (em_ty (by rfl) T.n_tuple (by rfl)) am_nil))) fun _ => rfl)) (wm_or (tm_cmp (opd_ne (hr).units) (em_callB cd_len (by rfl) T.n_len (by rfl) (am_cons (em_var (pv 7)) am_nil)) (em_callB cd_len (by rfl) T.n_len (by rfl) (am_cons (em_var (pv 1)) am_nil)) (nomark _)) (wm_or (tm_cmp opd_lt (em_callB (cd_min rfl) (by rfl) T.n_min (by rfl) (am_cons (em_var (pv 8)) am_nil)) (em_var (pv 5)) (nomark _)) (wm_or1 (tm_cmp opd_gt (em_callB (cd_max rfl) (by rfl) T.n_max (by rfl) (am_cons (em_var (pv 8)) am_nil)) (em_var (pv 6)) (nomark _))))))) (bm_one (sm_ret em_bl)) bm_nil)
  (bm_cons (sm_if (tm_w (wm_or (tm_not (tm_tru (em_call (fn__law_alike T) ((hr).mono (by decide)) (by rfl) T.g__law_alike T.F__law_alike.kp T.b__law_alike takes_cx (am_cons (em_call (fn_shown_row T) ((hr).mono (by decide)) (by rfl) T.g_shown_row T.F_shown_row.kp T.b_shown_row takes_cx (am_cons (em_var (pv 1)) (am_cons (em_bin opd_mul (em_tup (am_cons em_int am_nil)) (em_var (pv 2))) am_nil))) (am_cons (em_var (pv 1)) am_nil))) fun _ => rfl)) (wm_or1 (tm_not (tm_tru (em_call (fn__law_alike T) ((hr).mono (by decide)) (by rfl) T.g__law_alike T.F__law_alike.kp T.b__law_alike takes_cx (am_cons (em_ix (em_call (fn_tower T) ((hr).mono (by decide)) (by rfl) T.g_tower T.F_tower.kp T.b_tower takes_cx (am_cons (em_var (pv 7)) (am_cons (em_var (pv 2)) am_nil))) em_int fun _ _ => rfl) (am_cons (em_ix (em_call (fn_tower T) ((hr).mono (by decide)) (by rfl) T.g_tower T.F_tower.kp T.b_tower takes_cx (am_cons (em_var (pv 1)) (am_cons (em_var (pv 2)) am_nil))) em_int fun _ _ => rfl) am_nil))) fun _ => rfl))))) (bm_one (sm_ret em_bl)) bm_nil)
  (bm_one (sm_ret (em_call (fn__law_alike T) ((hr).mono (by decide)) (by rfl) T.g__law_alike T.F__law_alike.kp T.b__law_alike takes_cx (am_cons (em_call (fn_shown_row T) ((hr).mono (by decide)) (by rfl) T.g_shown_row T.F_shown_row.kp T.b_shown_row takes_cx (am_cons (em_callTy cd_tuple (by rfl) T.n_tuple (by rfl) (am_cons (em_val (nm_lc [("one", 10)] rfl sc__law_planes.nd (im_any (em_var (pv 1))) (blkOk_by (by kernel_rfl)) (by decide) (fun _ _ _ _ _ => (gm_name sc__law_planes.nd rfl (by first | exact .inl rfl | exact .inr rfl))) (fun _ _ _ _ _ => ptsm_nil) (fun _ _ _ _ _ => (em_bin opd_add (em_var (pv 10)) em_int)))) am_nil)) (am_cons (em_var (pv 3)) am_nil))) (am_cons (em_callTy cd_tuple (by rfl) T.n_tuple (by rfl) (am_cons (em_val (nm_lc [("one", 10)] rfl sc__law_planes.nd (im_any (em_var (pv 7))) (blkOk_by (by kernel_rfl)) (by decide) (fun _ _ _ _ _ => (gm_name sc__law_planes.nd rfl (by first | exact .inl rfl | exact .inr rfl))) (fun _ _ _ _ _ => ptsm_nil) (fun _ _ _ _ _ => (em_bin opd_add (em_var (pv 10)) em_int)))) am_nil)) am_nil)))))))))))
theorem fn__law_planes (T : Facts K mg base) : FnM P w K mg base 11 (He.ga K "_law_planes") T.fd__law_planes ["draws", "row", "levels"] m__law_planes := fn_retV (fn_mD T.F__law_planes sc__law_planes fun A outer s H E hr => bm__law_planes T hr)
/-! whole -/
set_option maxHeartbeats 0 in
theorem bm_whole (T : Facts K mg base) {A : Around} {outer : List PySem.Env} {s : Shared} {H : Hp} {E : XK} (hr : Room 1 (A.deeper (envOfC "whole" (defScope s_whole) s.heap.objs.size (He.ga K "whole") T.fd_whole.code))) :
  BM (cxOf (L2.CX P w) P w K mg base ["field"] "whole" (defScope s_whole) (He.ga K "whole") T.fd_whole.code A outer s H E) (fun c d _ H => E c d H) (defBody s_whole) b_whole :=
  (bm_one (sm_ret (em_ite (tm_w (wm_and (tm_cmp opd_gt (em_callB cd_len (by rfl) T.n_len (by rfl) (am_cons (em_var (pv 0)) am_nil)) em_int (nomark _)) (wm_and1 (tm_cmp opd_gt (em_callB cd_len (by rfl) T.n_len (by rfl) (am_cons (em_ix (em_var (pv 0)) em_int fun _ _ => rfl) am_nil)) em_int (nomark _))))) (em_var (pv 0)) (em_tup am_nil))))
theorem fn_whole (T : Facts K mg base) : FnM P w K mg base 2 (He.ga K "whole") T.fd_whole ["field"] m_whole := fn_retV (fn_mD T.F_whole sc_whole fun A outer s H E hr => bm_whole T hr)
/-! lifted_rows -/
set_option maxHeartbeats 0 in
theorem bm_lifted_rows (T : Facts K mg base) {A : Around} {outer : List PySem.Env} {s : Shared} {H : Hp} {E : XK} (hr : Room 2 (A.deeper (envOfC "lifted_rows" (defScope s_lifted_rows) s.heap.objs.size (He.ga K "lifted_rows") T.fd_lifted_rows.code))) :
  BM (cxOf (L2.CX P w) P w K mg base ["field", "told", "row", "sums", "differences", "one"] "lifted_rows" (defScope s_lifted_rows) (He.ga K "lifted_rows") T.fd_lifted_rows.code A outer s H E) (fun c d _ H => E c d H) (defBody s_lifted_rows) b_lifted_rows :=
  (bm_cons (by first | exact sm_set sc_lifted_rows.nd rfl (by first | exact .inl rfl | exact .inr rfl) (em_val (nm_lc [("row", 2)] rfl sc_lifted_rows.nd (im_any (em_var (pv 0))) (blkOk_by (by kernel_rfl)) (by decide) (fun _ _ _ _ _ => (gm_name sc_lifted_rows.nd rfl (by first | exact .inl rfl | exact .inr rfl))) (fun _ _ _ _ _ => ptsm_nil) (fun _ _ _ _ _ => (em_call (fn_lifted T) ((hr).mono (by decide)) (by rfl) T.g_lifted T.F_lifted.kp T.b_lifted tk0 (am_cons (em_var (pv 2)) am_nil))))) | exact sm_setLc asV (.inl rfl) [("row", 2)] rfl sc_lifted_rows.nd rfl rfl (sw_true rfl rfl rfl (by decide +kernel)) (im_any (em_var (pv 0))) (blkOk_by (by kernel_rfl)) (by decide) (fun _ _ _ _ _ => (gm_name sc_lifted_rows.nd rfl (by first | exact .inl rfl | exact .inr rfl))) (fun _ _ _ _ _ => ptsm_nil) (fun _ _ _ _ _ => (em_call (fn_lifted T) ((hr).mono (by decide)) (by rfl) T.g_lifted T.F_lifted.kp T.b_lifted tk0 (am_cons (em_var (pv 2)) am_nil))))
  (bm_cons (sm_par rfl sc_lifted_rows.nd rfl rfl (by decide) rfl rfl (am_cons (em_callTy cd_tuple (by rfl) T.n_tuple (by rfl) (am_cons (em_val (nm_lc [("one", 5)] rfl sc_lifted_rows.nd (im_any (em_var (pv 1))) (blkOk_by (by kernel_rfl)) (by decide) (fun _ _ _ _ _ => (gm_name sc_lifted_rows.nd rfl (by first | exact .inl rfl | exact .inr rfl))) (fun _ _ _ _ _ => ptsm_nil) (fun _ _ _ _ _ => (em_ix (em_var (pv 5)) em_int fun _ _ => rfl)))) am_nil)) (am_cons (em_callTy cd_tuple (by rfl) T.n_tuple (by rfl) (am_cons (em_val (nm_lc [("one", 5)] rfl sc_lifted_rows.nd (im_any (em_var (pv 1))) (blkOk_by (by kernel_rfl)) (by decide) (fun _ _ _ _ _ => (gm_name sc_lifted_rows.nd rfl (by first | exact .inl rfl | exact .inr rfl))) (fun _ _ _ _ _ => ptsm_nil) (fun _ _ _ _ _ => (em_ix (em_var (pv 5)) em_int fun _ _ => rfl)))) am_nil)) am_nil)) rfl)
  (bm_one (sm_ret (em_tup (am_cons (em_call (fn_whole T) ((hr).mono (by decide)) (by rfl) T.g_whole T.F_whole.kp T.b_whole takes_cx (am_cons (em_var (pv 3)) am_nil)) (am_cons (em_call (fn_whole T) ((hr).mono (by decide)) (by rfl) T.g_whole T.F_whole.kp T.b_whole takes_cx (am_cons (em_var (pv 4)) am_nil)) am_nil)))))))
theorem fn_lifted_rows (T : Facts K mg base) : FnM P w K mg base 3 (He.ga K "lifted_rows") T.fd_lifted_rows ["field"] m_lifted_rows := fn_retV (fn_mD T.F_lifted_rows sc_lifted_rows fun A outer s H E hr => bm_lifted_rows T hr)
/-! turned -/
set_option maxHeartbeats 0 in
theorem bm_turned (T : Facts K mg base) {A : Around} {outer : List PySem.Env} {s : Shared} {H : Hp} {E : XK} (hr : Room 1 (A.deeper (envOfC "turned" (defScope s_turned) s.heap.objs.size (He.ga K "turned") T.fd_turned.code))) :
  BM (cxOf (L2.CX P w) P w K mg base ["field"] "turned" (defScope s_turned) (He.ga K "turned") T.fd_turned.code A outer s H E) (fun c d _ H => E c d H) (defBody s_turned) b_turned :=
  (bm_one (sm_ret (em_turned (by rfl) T.n_tuple (by rfl) T.n_zip rfl (em_var (pv 0)))))
theorem fn_turned (T : Facts K mg base) : FnM P w K mg base 2 (He.ga K "turned") T.fd_turned ["field"] m_turned := fn_retV (fn_mD T.F_turned sc_turned fun A outer s H E hr => bm_turned T hr)
/-! lifted_field -/
set_option maxHeartbeats 0 in
theorem bm_lifted_field (T : Facts K mg base) {A : Around} {outer : List PySem.Env} {s : Shared} {H : Hp} {E : XK} (hr : Room 3 (A.deeper (envOfC "lifted_field" (defScope s_lifted_field) s.heap.objs.size (He.ga K "lifted_field") T.fd_lifted_field.code))) :
  BM (cxOf (L2.CX P w) P w K mg base ["field", "sums", "differences", "found", "one", "both"] "lifted_field" (defScope s_lifted_field) (He.ga K "lifted_field") T.fd_lifted_field.code A outer s H E) (fun c d _ H => E c d H) (defBody s_lifted_field) b_lifted_field :=
  (bm_cons (sm_asg (em_call (fn_lifted_rows T) ((hr).mono (by decide)) (by rfl) T.g_lifted_rows T.F_lifted_rows.kp T.b_lifted_rows takes_cx (am_cons (em_var (pv 0)) am_nil)) (gm_tup rfl (gms_cons (gm_name sc_lifted_field.nd rfl (by first | exact .inl rfl | exact .inr rfl)) (gms_cons (gm_name sc_lifted_field.nd rfl (by first | exact .inl rfl | exact .inr rfl)) gms_nil))))
  (bm_cons (sm_set sc_lifted_field.nd rfl (by first | exact .inl rfl | exact .inr rfl) (em_loc (nm_lst am_nil)))
  (bm_cons (sm_for owns_cx rfl (im_any (em_tup (am_cons (em_var (pv 1)) (am_cons (em_var (pv 2)) am_nil)))) (gm_name sc_lifted_field.nd rfl (by first | exact .inl rfl | exact .inr rfl))
 (bm_cons (sm_set sc_lifted_field.nd rfl (by first | exact .inl rfl | exact .inr rfl) (em_call (fn_lifted_rows T) ((hr).mono (by decide)) (by rfl) T.g_lifted_rows T.F_lifted_rows.kp T.b_lifted_rows takes_cx (am_cons (em_call (fn_turned T) ((hr).mono (by decide)) (by rfl) T.g_turned T.F_turned.kp T.b_turned takes_cx (am_cons (em_var (pv 4)) am_nil)) am_nil)))
  (bm_one (sm_expr (em_bm PySem.F.plainAttrs_list PySem.F.slot_list_extend PySem.F.type_list_extend md_extend (em_var (pv 3)) (am_cons (em_val (nm_lst (am_cons (em_call (fn_turned T) ((hr).mono (by decide)) (by rfl) T.g_turned T.F_turned.kp T.b_turned takes_cx (am_cons (em_ix (em_var (pv 5)) em_int fun _ _ => rfl) am_nil)) (am_cons (em_call (fn_turned T) ((hr).mono (by decide)) (by rfl) T.g_turned T.F_turned.kp T.b_turned takes_cx (am_cons (em_ix (em_var (pv 5)) em_int fun _ _ => rfl) am_nil)) am_nil)))) am_nil))))))
  (bm_one (sm_ret (em_callTy cd_tuple (by rfl) T.n_tuple (by rfl) (am_cons (em_var (pv 3)) am_nil)))))))
theorem fn_lifted_field (T : Facts K mg base) : FnM P w K mg base 4 (He.ga K "lifted_field") T.fd_lifted_field ["field"] m_lifted_field := fn_retV (fn_mD T.F_lifted_field sc_lifted_field fun A outer s H E hr => bm_lifted_field T hr)
/-! field_tower -/
set_option maxHeartbeats 0 in
theorem bm_field_tower (T : Facts K mg base) {A : Around} {outer : List PySem.Env} {s : Shared} {H : Hp} {E : XK} (hr : Room 4 (A.deeper (envOfC "field_tower" (defScope s_field_tower) s.heap.objs.size (He.ga K "field_tower") T.fd_field_tower.code))) :
  BM (cxOf (L2.CX P w) P w K mg base ["field", "levels", "rows", "_", "told"] "field_tower" (defScope s_field_tower) (He.ga K "field_tower") T.fd_field_tower.code A outer s H E) (fun c d _ H => E c d H) (defBody s_field_tower) b_field_tower :=
  (bm_cons (sm_expr (em_call (fn_check_levels T) ((hr).mono (by decide)) (by rfl) T.g_check_levels T.F_check_levels.kp T.b_check_levels takes_cx (am_cons (em_var (pv 1)) am_nil)))
  (bm_cons (sm_set sc_field_tower.nd rfl (by first | exact .inl rfl | exact .inr rfl) (em_loc (nm_lst am_nil)))
  (bm_cons (sm_for owns_cx rfl (im_range1 (by rfl) T.n_range (am_cons (em_var (pv 1)) am_nil)) (gm_name sc_field_tower.nd rfl (by first | exact .inl rfl | exact .inr rfl))
 (bm_cons (sm_set sc_field_tower.nd rfl (by first | exact .inl rfl | exact .inr rfl) (em_call (fn_lifted_field T) ((hr).mono (by decide)) (by rfl) T.g_lifted_field T.F_lifted_field.kp T.b_lifted_field takes_cx (am_cons (em_var (pv 0)) am_nil)))
  (bm_cons (sm_set sc_field_tower.nd rfl (by first | exact .inl rfl | exact .inr rfl) (em_ix (em_var (pv 4)) em_int fun _ _ => rfl))
  (bm_one (sm_expr (em_bm PySem.F.plainAttrs_list PySem.F.slot_list_append PySem.F.type_list_append md_append (em_var (pv 2)) (am_cons (em_slice (em_var (pv 4)) (om_some em_int) om_no) am_nil)))))))
  (bm_one (sm_ret (em_tup (am_cons (em_var (pv 0)) (am_cons (em_callTy cd_tuple (by rfl) T.n_tuple (by rfl) (am_cons (em_var (pv 2)) am_nil)) am_nil))))))))
theorem fn_field_tower (T : Facts K mg base) : FnM P w K mg base 5 (He.ga K "field_tower") T.fd_field_tower ["field", "levels"] m_field_tower := fn_retV (fn_mD T.F_field_tower sc_field_tower fun A outer s H E hr => bm_field_tower T hr)
/-! lowered_rows -/
set_option maxHeartbeats 0 in
theorem bm_lowered_rows (T : Facts K mg base) {A : Around} {outer : List PySem.Env} {s : Shared} {H : Hp} {E : XK} (hr : Room 2 (A.deeper (envOfC "lowered_rows" (defScope s_lowered_rows) s.heap.objs.size (He.ga K "lowered_rows") T.fd_lowered_rows.code))) :
  BM (cxOf (L2.CX P w) P w K mg base ["sums", "differences", "one", "other"] "lowered_rows" (defScope s_lowered_rows) (He.ga K "lowered_rows") T.fd_lowered_rows.code A outer s H E) (fun c d _ H => E c d H) (defBody s_lowered_rows) b_lowered_rows :=
  (bm_cons (sm_if (tm_cmp (opd_eq (hr).units) (em_callB cd_len (by rfl) T.n_len (by rfl) (am_cons (em_var (pv 1)) am_nil)) em_int (nomark _)) (bm_one (sm_ret (em_var (pv 0)))) bm_nil)
  (bm_one (sm_ret (em_callTy cd_tuple (by rfl) T.n_tuple (by rfl) (am_cons (em_val (nm_lc [("one", 2), ("other", 3)] rfl sc_lowered_rows.nd (im_zip (by rfl) T.n_zip (am_cons (em_var (pv 0)) (am_cons (em_var (pv 1)) am_nil))) (blkOk_by (by kernel_rfl)) (by decide) (fun _ _ _ _ _ => (gm_tup rfl (gms_cons (gm_name sc_lowered_rows.nd rfl (by first | exact .inl rfl | exact .inr rfl)) (gms_cons (gm_name sc_lowered_rows.nd rfl (by first | exact .inl rfl | exact .inr rfl)) gms_nil)))) (fun _ _ _ _ _ => ptsm_nil) (fun _ _ _ _ _ => (em_call (fn_lowered T) ((hr).mono (by decide)) (by rfl) T.g_lowered T.F_lowered.kp T.b_lowered tk0 (am_cons (em_var (pv 2)) (am_cons (em_var (pv 3)) am_nil)))))) am_nil)))))
theorem fn_lowered_rows (T : Facts K mg base) : FnM P w K mg base 3 (He.ga K "lowered_rows") T.fd_lowered_rows ["sums", "differences"] m_lowered_rows := fn_retV (fn_mD T.F_lowered_rows sc_lowered_rows fun A outer s H E hr => bm_lowered_rows T hr)
/-! lowered_field -/
set_option maxHeartbeats 0 in
theorem bm_lowered_field (T : Facts K mg base) {A : Around} {outer : List PySem.Env} {s : Shared} {H : Hp} {E : XK} (hr : Room 3 (A.deeper (envOfC "lowered_field" (defScope s_lowered_field) s.heap.objs.size (He.ga K "lowered_field") T.fd_lowered_field.code))) :
  BM (cxOf (L2.CX P w) P w K mg base ["sums", "others", "first", "second"] "lowered_field" (defScope s_lowered_field) (He.ga K "lowered_field") T.fd_lowered_field.code A outer s H E) (fun c d _ H => E c d H) (defBody s_lowered_field) b_lowered_field :=
  (bm_cons (sm_set sc_lowered_field.nd rfl (by first | exact .inl rfl | exact .inr rfl) (em_call (fn_turned T) ((hr).mono (by decide)) (by rfl) T.g_turned T.F_turned.kp T.b_turned takes_cx (am_cons (em_call (fn_lowered_rows T) ((hr).mono (by decide)) (by rfl) T.g_lowered_rows T.F_lowered_rows.kp T.b_lowered_rows takes_cx (am_cons (em_call (fn_turned T) ((hr).mono (by decide)) (by rfl) T.g_turned T.F_turned.kp T.b_turned takes_cx (am_cons (em_var (pv 0)) am_nil)) (am_cons (em_call (fn_turned T) ((hr).mono (by decide)) (by rfl) T.g_turned T.F_turned.kp T.b_turned takes_cx (am_cons (em_ix (em_var (pv 1)) em_int fun _ _ => rfl) am_nil)) am_nil))) am_nil)))
  (bm_cons (sm_set sc_lowered_field.nd rfl (by first | exact .inl rfl | exact .inr rfl) (em_call (fn_turned T) ((hr).mono (by decide)) (by rfl) T.g_turned T.F_turned.kp T.b_turned takes_cx (am_cons (em_call (fn_lowered_rows T) ((hr).mono (by decide)) (by rfl) T.g_lowered_rows T.F_lowered_rows.kp T.b_lowered_rows takes_cx (am_cons (em_call (fn_turned T) ((hr).mono (by decide)) (by rfl) T.g_turned T.F_turned.kp T.b_turned takes_cx (am_cons (em_ix (em_var (pv 1)) em_int fun _ _ => rfl) am_nil)) (am_cons (em_call (fn_turned T) ((hr).mono (by decide)) (by rfl) T.g_turned T.F_turned.kp T.b_turned takes_cx (am_cons (em_ix (em_var (pv 1)) em_int fun _ _ => rfl) am_nil)) am_nil))) am_nil)))
  (bm_one (sm_ret (em_call (fn_lowered_rows T) ((hr).mono (by decide)) (by rfl) T.g_lowered_rows T.F_lowered_rows.kp T.b_lowered_rows takes_cx (am_cons (em_var (pv 2)) (am_cons (em_var (pv 3)) am_nil)))))))
theorem fn_lowered_field (T : Facts K mg base) : FnM P w K mg base 4 (He.ga K "lowered_field") T.fd_lowered_field ["sums", "others"] m_lowered_field := fn_retV (fn_mD T.F_lowered_field sc_lowered_field fun A outer s H E hr => bm_lowered_field T hr)
/-! field_of -/
set_option maxHeartbeats 0 in
theorem bm_field_of (T : Facts K mg base) {A : Around} {outer : List PySem.Env} {s : Shared} {H : Hp} {E : XK} (hr : Room 4 (A.deeper (envOfC "field_of" (defScope s_field_of) s.heap.objs.size (He.ga K "field_of") T.fd_field_of.code))) :
  BM (cxOf (L2.CX P w) P w K mg base ["value", "field", "others"] "field_of" (defScope s_field_of) (He.ga K "field_of") T.fd_field_of.code A outer s H E) (fun c d _ H => E c d H) (defBody s_field_of) b_field_of :=
  (bm_cons (sm_set sc_field_of.nd rfl (by first | exact .inl rfl | exact .inr rfl) (em_ix (em_var (pv 0)) em_int fun _ _ => rfl))
  (bm_cons (sm_for owns_cx rfl (im_any (em_rev (em_ix (em_var (pv 0)) em_int fun _ _ => rfl))) (gm_name sc_field_of.nd rfl (by first | exact .inl rfl | exact .inr rfl))
 (bm_one (sm_set sc_field_of.nd rfl (by first | exact .inl rfl | exact .inr rfl) (em_call (fn_lowered_field T) ((hr).mono (by decide)) (by rfl) T.g_lowered_field T.F_lowered_field.kp T.b_lowered_field takes_cx (am_cons (em_var (pv 1)) (am_cons (em_var (pv 2)) am_nil))))))
  (bm_one (sm_ret (em_var (pv 1))))))
theorem fn_field_of (T : Facts K mg base) : FnM P w K mg base 5 (He.ga K "field_of") T.fd_field_of ["value"] m_field_of := fn_retV (fn_mD T.F_field_of sc_field_of fun A outer s H E hr => bm_field_of T hr)
/-! lean_field_tower -/
set_option maxHeartbeats 0 in
theorem bm_lean_field_tower (T : Facts K mg base) {A : Around} {outer : List PySem.Env} {s : Shared} {H : Hp} {E : XK} (hr : Room 7 (A.deeper (envOfC "lean_field_tower" (defScope s_lean_field_tower) s.heap.objs.size (He.ga K "lean_field_tower") T.fd_lean_field_tower.code))) :
  BM (cxOf (L2.CX P w) P w K mg base ["value", "planes", "found", "others", "many", "row", "field"] "lean_field_tower" (defScope s_lean_field_tower) (He.ga K "lean_field_tower") T.fd_lean_field_tower.code A outer s H E) (fun c d _ H => E c d H) (defBody s_lean_field_tower) b_lean_field_tower :=
  (bm_cons (sm_expr (em_call (fn_check_planes T) ((hr).mono (by decide)) (by rfl) T.g_check_planes T.F_check_planes.kp T.b_check_planes takes_cx (am_cons (em_var (pv 1)) (am_cons (em_callB cd_len (by rfl) T.n_len (by rfl) (am_cons (em_ix (em_var (pv 0)) em_int fun _ _ => rfl) am_nil)) am_nil))))
  (bm_cons (sm_set sc_lean_field_tower.nd rfl (by first | exact .inl rfl | exact .inr rfl) (em_loc (nm_lst am_nil)))
  (bm_cons (sm_for owns_cx rfl (im_zip (by rfl) T.n_zip (am_cons (em_ix (em_var (pv 0)) em_int fun _ _ => rfl) (am_cons (em_var (pv 1)) am_nil))) (gm_tup rfl (gms_cons (gm_name sc_lean_field_tower.nd rfl (by first | exact .inl rfl | exact .inr rfl)) (gms_cons (gm_name sc_lean_field_tower.nd rfl (by first | exact .inl rfl | exact .inr rfl)) gms_nil)))
 (bm_one (sm_expr (em_bm PySem.F.plainAttrs_list PySem.F.slot_list_append PySem.F.type_list_append md_append (em_var (pv 2)) (am_cons (em_callTy cd_tuple (by rfl) T.n_tuple (by rfl) (am_cons (em_val (nm_lc [("field", 6)] rfl sc_lean_field_tower.nd (im_any (em_var (pv 3))) (blkOk_by (by kernel_rfl)) (by decide) (fun _ _ _ _ _ => (gm_name sc_lean_field_tower.nd rfl (by first | exact .inl rfl | exact .inr rfl))) (fun _ _ _ _ _ => ptsm_nil) (fun _ _ _ _ _ => (em_callTy cd_tuple (by rfl) T.n_tuple (by rfl) (am_cons (em_val (nm_lc [("row", 5)] rfl sc_lean_field_tower.nd (im_any (em_var (pv 6))) (blkOk_by (by kernel_rfl)) (by decide) (fun _ _ _ _ _ => (gm_name sc_lean_field_tower.nd rfl (by first | exact .inl rfl | exact .inr rfl))) (fun _ _ _ _ _ => ptsm_nil) (fun _ _ _ _ _ => (em_call (fn_lean_row T) ((hr).mono (by decide)) (by rfl) T.g_lean_row T.F_lean_row.kp T.b_lean_row tk0 (am_cons (em_var (pv 5)) (am_cons (em_var (pv 4)) am_nil)))))) am_nil))))) am_nil)) am_nil)))))
  (bm_one (sm_ret (em_tup (am_cons (em_ix (em_var (pv 0)) em_int fun _ _ => rfl) (am_cons (em_callTy cd_tuple (by rfl) T.n_tuple (by rfl) (am_cons (em_var (pv 2)) am_nil)) am_nil))))))))
theorem fn_lean_field_tower (T : Facts K mg base) : FnM P w K mg base 8 (He.ga K "lean_field_tower") T.fd_lean_field_tower ["value", "planes"] m_lean_field_tower := fn_retV (fn_mD T.F_lean_field_tower sc_lean_field_tower fun A outer s H E hr => bm_lean_field_tower T hr)
/-! shown_field -/
set_option maxHeartbeats 0 in
theorem bm_shown_field (T : Facts K mg base) {A : Around} {outer : List PySem.Env} {s : Shared} {H : Hp} {E : XK} (hr : Room 8 (A.deeper (envOfC "shown_field" (defScope s_shown_field) s.heap.objs.size (He.ga K "shown_field") T.fd_shown_field.code))) :
  BM (cxOf (L2.CX P w) P w K mg base ["field", "planes"] "shown_field" (defScope s_shown_field) (He.ga K "shown_field") T.fd_shown_field.code A outer s H E) (fun c d _ H => E c d H) (defBody s_shown_field) b_shown_field :=
  (bm_cons (sm_expr (em_call (fn_check_planes T) ((hr).mono (by decide)) (by rfl) T.g_check_planes T.F_check_planes.kp T.b_check_planes takes_cx (am_cons (em_var (pv 1)) (am_cons em_non am_nil))))
  (bm_one (sm_ret (em_call (fn_field_of T) ((hr).mono (by decide)) (by rfl) T.g_field_of T.F_field_of.kp T.b_field_of takes_cx (am_cons (em_call (fn_lean_field_tower T) ((hr).mono (by decide)) (by rfl) T.g_lean_field_tower T.F_lean_field_tower.kp T.b_lean_field_tower takes_cx (am_cons (em_call (fn_field_tower T) ((hr).mono (by decide)) (by rfl) T.g_field_tower T.F_field_tower.kp T.b_field_tower takes_cx (am_cons (em_var (pv 0)) (am_cons (em_callB cd_len (by rfl) T.n_len (by rfl) (am_cons (em_var (pv 1)) am_nil)) am_nil))) (am_cons (em_var (pv 1)) am_nil))) am_nil)))))
theorem fn_shown_field (T : Facts K mg base) : FnM P w K mg base 9 (He.ga K "shown_field") T.fd_shown_field ["field", "planes"] m_shown_field := fn_retV (fn_mD T.F_shown_field sc_shown_field fun A outer s H E hr => bm_shown_field T hr)
/-! square_offsets -/
set_option maxHeartbeats 0 in
theorem bm_square_offsets (T : Facts K mg base) {A : Around} {outer : List PySem.Env} {s : Shared} {H : Hp} {E : XK} (hr : Room 2 (A.deeper (envOfC "square_offsets" (defScope s_square_offsets) s.heap.objs.size (He.ga K "square_offsets") T.fd_square_offsets.code))) :
  BM (cxOf (L2.CX P w) P w K mg base ["one", "other", "planes", "found", "above", "leaner", "first", "second", "left"] "square_offsets" (defScope s_square_offsets) (He.ga K "square_offsets") T.fd_square_offsets.code A outer s H E) (fun c d _ H => E c d H) (defBody s_square_offsets) b_square_offsets :=
  (bm_cons (sm_set sc_square_offsets.nd rfl (by first | exact .inl rfl | exact .inr rfl) (em_loc (nm_lst am_nil)))
  (bm_cons (sm_par rfl sc_square_offsets.nd rfl rfl (by decide) rfl rfl (am_cons (em_bin opd_sub (em_var (pv 0)) (em_bin opd_fdiv (em_var (pv 1)) em_int)) (am_cons (em_bin opd_sub (em_call (fn_lean T) ((hr).mono (by decide)) (by rfl) T.g_lean T.F_lean.kp T.b_lean takes_cx (am_cons (em_var (pv 0)) (am_cons (em_var (pv 2)) am_nil))) (em_bin opd_fdiv (em_call (fn_lean T) ((hr).mono (by decide)) (by rfl) T.g_lean T.F_lean.kp T.b_lean takes_cx (am_cons (em_var (pv 1)) (am_cons (em_var (pv 2)) am_nil))) em_int)) am_nil)) rfl)
  (bm_cons (sm_for owns_cx rfl (im_any (em_tup (am_cons (em_tup (am_cons (em_var (pv 4)) (am_cons (em_var (pv 5)) am_nil))) (am_cons (em_tup (am_cons (em_bin opd_add (em_var (pv 4)) (em_var (pv 1))) (am_cons (em_bin opd_add (em_var (pv 5)) (em_call (fn_lean T) ((hr).mono (by decide)) (by rfl) T.g_lean T.F_lean.kp T.b_lean takes_cx (am_cons (em_var (pv 1)) (am_cons (em_var (pv 2)) am_nil)))) am_nil))) am_nil)))) (gm_tup rfl (gms_cons (gm_name sc_square_offsets.nd rfl (by first | exact .inl rfl | exact .inr rfl)) (gms_cons (gm_name sc_square_offsets.nd rfl (by first | exact .inl rfl | exact .inr rfl)) gms_nil)))
 (bm_cons (sm_set sc_square_offsets.nd rfl (by first | exact .inl rfl | exact .inr rfl) (em_bin opd_sub (em_bin opd_fdiv (em_var (pv 6)) em_int) (em_bin opd_fdiv (em_var (pv 7)) em_int)))
  (bm_one (sm_expr (em_bm PySem.F.plainAttrs_list PySem.F.slot_list_extend PySem.F.type_list_extend md_extend (em_var (pv 3)) (am_cons (em_val (nm_lst (am_cons (em_var (pv 8)) (am_cons (em_bin opd_sub (em_bin opd_add (em_var (pv 8)) (em_var (pv 7))) (em_var (pv 6))) am_nil)))) am_nil))))))
  (bm_one (sm_ret (em_var (pv 3)))))))
theorem fn_square_offsets (T : Facts K mg base) : FnM P w K mg base 3 (He.ga K "square_offsets") T.fd_square_offsets ["one", "other", "planes"] m_square_offsets := fn_retV (fn_mD T.F_square_offsets sc_square_offsets fun A outer s H E hr => bm_square_offsets T hr)
/-! field_spans -/
set_option maxHeartbeats 0 in
theorem bm_field_spans (T : Facts K mg base) {A : Around} {outer : List PySem.Env} {s : Shared} {H : Hp} {E : XK} (hr : Room 3 (A.deeper (envOfC "field_spans" (defScope s_field_spans) s.heap.objs.size (He.ga K "field_spans") T.fd_field_spans.code))) :
  BM (cxOf (L2.CX P w) P w K mg base ["planes", "rests", "sides", "rest", "told", "one", "other", "found", "place", "ends", "rows"] "field_spans" (defScope s_field_spans) (He.ga K "field_spans") T.fd_field_spans.code A outer s H E) (fun c d _ H => E c d H) (defBody s_field_spans) b_field_spans :=
  (bm_cons (sm_expr (em_call (fn_check_plane T) ((hr).mono (by decide)) (by rfl) T.g_check_plane T.F_check_plane.kp T.b_check_plane takes_cx (am_cons (em_var (pv 0)) am_nil)))
  (bm_cons (sm_set sc_field_spans.nd rfl (by first | exact .inl rfl | exact .inr rfl) (em_callTy cd_rng (by rfl) T.n_range (by rfl) (am_cons (em_bin opd_shl em_int (em_var (pv 0))) am_nil)))
  (bm_cons (by first | exact sm_set sc_field_spans.nd rfl (by first | exact .inl rfl | exact .inr rfl) (em_val (nm_lc [("rest", 3)] rfl sc_field_spans.nd (im_rng (em_var (pv 1))) (blkOk_by (by kernel_rfl)) (by decide) (fun _ _ _ _ _ => (gm_name sc_field_spans.nd rfl (by first | exact .inl rfl | exact .inr rfl))) (fun _ _ _ _ _ => ptsm_nil) (fun _ _ _ _ _ => (em_call (fn_pair_offsets T) ((hr).mono (by decide)) (by rfl) T.g_pair_offsets T.F_pair_offsets.kp T.b_pair_offsets tk0 (am_cons (em_var (pv 3)) (am_cons (em_var (pv 0)) am_nil)))))) | exact sm_setLc asV (.inl rfl) [("rest", 3)] rfl sc_field_spans.nd rfl rfl (sw_true rfl rfl rfl (by decide +kernel)) (im_rng (em_var (pv 1))) (blkOk_by (by kernel_rfl)) (by decide) (fun _ _ _ _ _ => (gm_name sc_field_spans.nd rfl (by first | exact .inl rfl | exact .inr rfl))) (fun _ _ _ _ _ => ptsm_nil) (fun _ _ _ _ _ => (em_call (fn_pair_offsets T) ((hr).mono (by decide)) (by rfl) T.g_pair_offsets T.F_pair_offsets.kp T.b_pair_offsets tk0 (am_cons (em_var (pv 3)) (am_cons (em_var (pv 0)) am_nil)))))
  (bm_cons (by first | exact sm_set sc_field_spans.nd rfl (by first | exact .inl rfl | exact .inr rfl) (em_val (nm_lc2 [("one", 5), ("other", 6)] [6] rfl sc_field_spans.nd (im_rng (em_var (pv 1))) (blkOk_by (by kernel_rfl)) (by decide) (by decide) (by decide) (fun _ _ _ _ _ => (gm_name sc_field_spans.nd rfl (by first | exact .inl rfl | exact .inr rfl))) (fun _ _ _ _ _ => ptsm_nil) (fun _ _ _ _ _ => (im_rng (em_var (pv 1)))) (fun _ _ _ _ _ => (gm_name sc_field_spans.nd rfl (by first | exact .inl rfl | exact .inr rfl))) (fun _ _ _ _ _ => ptsm_nil) (fun _ _ _ _ _ => (em_call (fn_square_offsets T) ((hr).mono (by decide)) (by rfl) T.g_square_offsets T.F_square_offsets.kp T.b_square_offsets tk0 (am_cons (em_var (pv 5)) (am_cons (em_var (pv 6)) (am_cons (em_var (pv 0)) am_nil))))))) | exact sm_setLc2 asV (.inl rfl) [("one", 5), ("other", 6)] [6] rfl sc_field_spans.nd rfl rfl (sw_true rfl rfl rfl (by decide +kernel)) (im_rng (em_var (pv 1))) (blkOk_by (by kernel_rfl)) (by decide) (by decide) (by decide) (fun _ _ _ _ _ => (gm_name sc_field_spans.nd rfl (by first | exact .inl rfl | exact .inr rfl))) (fun _ _ _ _ _ => ptsm_nil) (fun _ _ _ _ _ => (im_rng (em_var (pv 1)))) (fun _ _ _ _ _ => (gm_name sc_field_spans.nd rfl (by first | exact .inl rfl | exact .inr rfl))) (fun _ _ _ _ _ => ptsm_nil) (fun _ _ _ _ _ => (em_call (fn_square_offsets T) ((hr).mono (by decide)) (by rfl) T.g_square_offsets T.F_square_offsets.kp T.b_square_offsets tk0 (am_cons (em_var (pv 5)) (am_cons (em_var (pv 6)) (am_cons (em_var (pv 0)) am_nil))))))
  (bm_cons (sm_set sc_field_spans.nd rfl (by first | exact .inl rfl | exact .inr rfl) (em_loc (nm_lst am_nil)))
  (bm_cons (sm_for owns_cx rfl (im_range1 (by rfl) T.n_range (am_cons em_int am_nil)) (gm_name sc_field_spans.nd rfl (by first | exact .inl rfl | exact .inr rfl))
 (bm_cons (by first | exact sm_set sc_field_spans.nd rfl (by first | exact .inl rfl | exact .inr rfl) (em_val (nm_lc [("one", 5)] rfl sc_field_spans.nd (im_any (em_var (pv 2))) (blkOk_by (by kernel_rfl)) (by decide) (fun _ _ _ _ _ => (gm_name sc_field_spans.nd rfl (by first | exact .inl rfl | exact .inr rfl))) (fun _ _ _ _ _ => ptsm_nil) (fun _ _ _ _ _ => (em_ix (em_var (pv 5)) (em_bin opd_fdiv (em_var (pv 8)) em_int) fun _ _ => rfl)))) | exact sm_setLc asV (.inl rfl) [("one", 5)] rfl sc_field_spans.nd rfl rfl (sw_true rfl rfl rfl (by decide +kernel)) (im_any (em_var (pv 2))) (blkOk_by (by kernel_rfl)) (by decide) (fun _ _ _ _ _ => (gm_name sc_field_spans.nd rfl (by first | exact .inl rfl | exact .inr rfl))) (fun _ _ _ _ _ => ptsm_nil) (fun _ _ _ _ _ => (em_ix (em_var (pv 5)) (em_bin opd_fdiv (em_var (pv 8)) em_int) fun _ _ => rfl)))
  (bm_cons (by first | exact sm_set sc_field_spans.nd rfl (by first | exact .inl rfl | exact .inr rfl) (em_val (nm_lc [("one", 5)] rfl sc_field_spans.nd (im_any (em_var (pv 4))) (blkOk_by (by kernel_rfl)) (by decide) (fun _ _ _ _ _ => (gm_name sc_field_spans.nd rfl (by first | exact .inl rfl | exact .inr rfl))) (fun _ _ _ _ _ => ptsm_nil) (fun _ _ _ _ _ => (em_ix (em_var (pv 5)) (em_var (pv 8)) fun _ _ => rfl)))) | exact sm_setLc asV (.inl rfl) [("one", 5)] rfl sc_field_spans.nd rfl rfl (sw_true rfl rfl rfl (by decide +kernel)) (im_any (em_var (pv 4))) (blkOk_by (by kernel_rfl)) (by decide) (fun _ _ _ _ _ => (gm_name sc_field_spans.nd rfl (by first | exact .inl rfl | exact .inr rfl))) (fun _ _ _ _ _ => ptsm_nil) (fun _ _ _ _ _ => (em_ix (em_var (pv 5)) (em_var (pv 8)) fun _ _ => rfl)))
  (bm_one (sm_expr (em_bm PySem.F.plainAttrs_list PySem.F.slot_list_append PySem.F.type_list_append md_append (em_var (pv 7)) (am_cons (em_tup (am_cons (em_bin opd_add (em_callB (cd_min rfl) (by rfl) T.n_min (by rfl) (am_cons (em_var (pv 9)) am_nil)) (em_callB (cd_min rfl) (by rfl) T.n_min (by rfl) (am_cons (em_var (pv 10)) am_nil))) (am_cons (em_bin opd_add (em_callB (cd_max rfl) (by rfl) T.n_max (by rfl) (am_cons (em_var (pv 9)) am_nil)) (em_callB (cd_max rfl) (by rfl) T.n_max (by rfl) (am_cons (em_var (pv 10)) am_nil))) am_nil))) am_nil)))))))
  (bm_one (sm_ret (em_callTy cd_tuple (by rfl) T.n_tuple (by rfl) (am_cons (em_var (pv 7)) am_nil))))))))))
theorem fn_field_spans (T : Facts K mg base) : FnM P w K mg base 4 (He.ga K "field_spans") T.fd_field_spans ["planes"] m_field_spans := fn_retV (fn_mD T.F_field_spans sc_field_spans fun A outer s H E hr => bm_field_spans T hr)
/-! field_bounds -/
set_option maxHeartbeats 0 in
theorem bm_field_bounds (T : Facts K mg base) {A : Around} {outer : List PySem.Env} {s : Shared} {H : Hp} {E : XK} (hr : Room 7 (A.deeper (envOfC "field_bounds" (defScope s_field_bounds) s.heap.objs.size (He.ga K "field_bounds") T.fd_field_bounds.code))) :
  BM (cxOf (L2.CX P w) P w K mg base ["planes", "one"] "field_bounds" (defScope s_field_bounds) (He.ga K "field_bounds") T.fd_field_bounds.code A outer s H E) (fun c d _ H => E c d H) (defBody s_field_bounds) b_field_bounds :=
  (bm_cons (sm_expr (em_call (fn_check_planes T) ((hr).mono (by decide)) (by rfl) T.g_check_planes T.F_check_planes.kp T.b_check_planes takes_cx (am_cons (em_var (pv 0)) (am_cons em_non am_nil))))
  (bm_one (sm_ret (em_call (fn_sums_of T) ((hr).mono (by decide)) (by rfl) T.g_sums_of T.F_sums_of.kp T.b_sums_of takes_cx (am_cons (em_val (nm_lc [("one", 1)] rfl sc_field_bounds.nd (im_any (em_var (pv 0))) (blkOk_by (by kernel_rfl)) (by decide) (fun _ _ _ _ _ => (gm_name sc_field_bounds.nd rfl (by first | exact .inl rfl | exact .inr rfl))) (fun _ _ _ _ _ => ptsm_nil) (fun _ _ _ _ _ => (em_call (fn_field_spans T) ((hr).mono (by decide)) (by rfl) T.g_field_spans T.F_field_spans.kp T.b_field_spans tk0 (am_cons (em_var (pv 1)) am_nil))))) am_nil)))))
theorem fn_field_bounds (T : Facts K mg base) : FnM P w K mg base 8 (He.ga K "field_bounds") T.fd_field_bounds ["planes"] m_field_bounds := fn_retV (fn_mD T.F_field_bounds sc_field_bounds fun A outer s H E hr => bm_field_bounds T hr)
/-! _law_field -/
noncomputable def e__law_field_1 : ME := (mCallF 2 m__law_take (mCons (mVar 0) (mCons (mC (.int 512)) mNil)))
noncomputable def e__law_field_2 : ME := (mCall dTuple (mCons (asV (mLc (mSrcA srcR1 (mCons (mVar 2) mNil)) (gN 4) mYes e__law_field_1 [4])) mNil))
noncomputable def e__law_field_3 : ME := (mCall dSum (mCons (mVar 5) mNil))
noncomputable def e__law_field_4 : ME := (mCallF 2 m__law_take (mCons (mVar 0) (mCons (mC (.int 3)) mNil)))
noncomputable def e__law_field_5 : ME := (mBin dSub (mBin dIx (mBin dIx (mVar 11) (mVar 4)) (mVar 14)) (mBin dIx (mBin dIx (mVar 3) (mVar 4)) (mVar 14)))
noncomputable def l__law_field_6 : MS := (sSet (gN 13) (mBin dAdd (mVar 13) (asV (mLc (mSrcA srcR1 (mCons (mVar 2) mNil)) (gN 14) mYes e__law_field_5 [14]))))
noncomputable def b__law_field : MS := (sSeq (sSet (gN 2) (mCallF 1 m__law_two (mCons (mVar 1) mNil))) (sSeq (sSet (gN 3) (mCall dTuple (mCons (asV (mLc (mSrcA srcR1 (mCons (mVar 2) mNil)) (gN 5) mYes e__law_field_2 [5])) mNil))) (sSeq (sPar3 6 7 8 (mCons (mCallF 2 m_field_tower (mCons (mVar 3) (mCons (mVar 1) mNil))) (mCons (mCall dSum (mCons (asV (mLc (mSrc (mVar 3)) (gN 5) mYes e__law_field_3 [5])) mNil)) (mCons (mCall dTuple (mCons (asV (mLc (mSrcA srcR1 (mCons (mVar 1) mNil)) (gN 9) mYes e__law_field_4 [9])) mNil)) mNil)))) (sSeq (sSet (gN 10) (mBin dIx (mBin dIx (mBin dIx (mVar 6) (mC (.int 0))) (mC (.int 0))) (mC (.int 0)))) (sSeq (sIf (mOr (mNot (mTru (mCallF 2 m__law_alike (mCons (mCallF 1 m_field_of (mCons (mVar 6) mNil)) (mCons (mVar 3) mNil))))) (mNot (mB (mChain dLe dLe (mBin dMul (mBin dMul (mVar 10) (mVar 2)) (mVar 2)) (mVar 7) (mBin dAdd (mBin dMul (mBin dMul (mVar 10) (mVar 2)) (mVar 2)) (mBin dMul (mBin dMul (mVar 1) (mVar 2)) (mVar 2))))))) (sRet (mC (.bl false))) sSkip) (sSeq (sSet (gTup 2 (gCons (gN 11) (gCons (gN 12) gNil))) (mTup (mCons (mCallF 2 m_shown_field (mCons (mVar 3) (mCons (mVar 8) mNil))) (mCons (mCallF 1 m_field_bounds (mCons (mVar 8) mNil)) mNil)))) (sSeq (sSet (gN 13) (asV (mLst mNil))) (sSeq (sFor (mSrcA srcR1 (mCons (mVar 2) mNil)) (gN 4) l__law_field_6) (sRet (mAndV (mBin dLe (mBin dIx (mVar 12) (mC (.int 0))) (mCall dMin (mCons (mVar 13) mNil))) (mBin dLe (mCall dMax (mCons (mVar 13) mNil)) (mBin dIx (mVar 12) (mC (.int 1))))))))))))))
noncomputable def m__law_field : List D → Store → Res D := retV (runF 15 b__law_field)
set_option maxHeartbeats 0 in
theorem bm__law_field (T : Facts K mg base) {A : Around} {outer : List PySem.Env} {s : Shared} {H : Hp} {E : XK} (hr : Room 10 (A.deeper (envOfC "_law_field" (defScope s__law_field) s.heap.objs.size (He.ga K "_law_field") T.fd__law_field.code))) :
  BM (cxOf (L2.CX P w) P w K mg base ["draws", "levels", "size", "field", "k", "row", "told", "total", "planes", "level", "last", "found", "span", "offsets", "j"] "_law_field" (defScope s__law_field) (He.ga K "_law_field") T.fd__law_field.code A outer s H E) (fun c d _ H => E c d H) (defBody s__law_field) b__law_field :=
  (bm_cons (sm_set sc__law_field.nd rfl (by first | exact .inl rfl | exact .inr rfl) (em_call (fn__law_two T) ((hr).mono (by decide)) (by rfl) T.g__law_two T.F__law_two.kp T.b__law_two takes_cx (am_cons (em_var (pv 1)) am_nil)))
  (bm_cons (sm_set sc__law_field.nd rfl (by first | exact .inl rfl | exact .inr rfl) (em_callTy cd_tuple (by rfl) T.n_tuple (by rfl) (am_cons (em_val (nm_lc [("row", 5)] rfl sc__law_field.nd (im_range1 (by rfl) T.n_range (am_cons (em_var (pv 2)) am_nil)) (blkOk_by (by kernel_rfl)) (by decide) (fun _ _ _ _ _ => (gm_name sc__law_field.nd rfl (by first | exact .inl rfl | exact .inr rfl))) (fun _ _ _ _ _ => ptsm_nil) (fun _ _ _ _ _ => (em_callTy cd_tuple (by rfl) T.n_tuple (by rfl) (am_cons (em_val (nm_lc [("k", 4)] rfl sc__law_field.nd (im_range1 (by rfl) T.n_range (am_cons (em_var (pv 2)) am_nil)) (blkOk_by (by kernel_rfl)) (by decide) (fun _ _ _ _ _ => (gm_name sc__law_field.nd rfl (by first | exact .inl rfl | exact .inr rfl))) (fun _ _ _ _ _ => ptsm_nil) (fun _ _ _ _ _ => (em_call (fn__law_take T) ((hr).mono (by decide)) (by rfl) T.g__law_take T.F__law_take.kp T.b__law_take tk0 (am_cons (em_var (pv 0)) (am_cons em_int am_nil)))))) am_nil))))) am_nil)))
  (bm_cons (sm_par3 rfl sc__law_field.nd rfl rfl rfl (by decide) (by decide) (by decide) rfl rfl rfl (am_cons (em_call (fn_field_tower T) ((hr).mono (by decide)) (by rfl) T.g_field_tower T.F_field_tower.kp T.b_field_tower takes_cx (am_cons (em_var (pv 3)) (am_cons (em_var (pv 1)) am_nil))) (am_cons (em_callB (cd_sum rfl) (by rfl) T.n_sum (by rfl) (am_cons (em_val (nm_lc [("row", 5)] rfl sc__law_field.nd (im_any (em_var (pv 3))) (blkOk_by (by kernel_rfl)) (by decide) (fun _ _ _ _ _ => (gm_name sc__law_field.nd rfl (by first | exact .inl rfl | exact .inr rfl))) (fun _ _ _ _ _ => ptsm_nil) (fun _ _ _ _ _ => (em_callB (cd_sum rfl) (by rfl) T.n_sum (by rfl) (am_cons (em_var (pv 5)) am_nil))))) am_nil)) (am_cons (em_callTy cd_tuple (by rfl) T.n_tuple (by rfl) (am_cons (em_val (nm_lc [("level", 9)] rfl sc__law_field.nd (im_range1 (by rfl) T.n_range (am_cons (em_var (pv 1)) am_nil)) (blkOk_by (by kernel_rfl)) (by decide) (fun _ _ _ _ _ => (gm_name sc__law_field.nd rfl (by first | exact .inl rfl | exact .inr rfl))) (fun _ _ _ _ _ => ptsm_nil) (fun _ _ _ _ _ => (em_call (fn__law_take T) ((hr).mono (by decide)) (by rfl) T.g__law_take T.F__law_take.kp T.b__law_take tk0 (am_cons (em_var (pv 0)) (am_cons em_int am_nil)))))) am_nil)) am_nil))) rfl)
  (bm_cons (sm_set sc__law_field.nd rfl (by first | exact .inl rfl | exact .inr rfl) (em_ix (em_ix (em_ix (em_var (pv 6)) em_int fun _ _ => rfl) em_int fun _ _ => rfl) em_int fun _ _ => rfl))
  (bm_cons (sm_if (tm_w (wm_or (tm_not (tm_tru (em_call (fn__law_alike T) ((hr).mono (by decide)) (by rfl) T.g__law_alike T.F__law_alike.kp T.b__law_alike takes_cx (am_cons (em_call (fn_field_of T) ((hr).mono (by decide)) (by rfl) T.g_field_of T.F_field_of.kp T.b_field_of takes_cx (am_cons (em_var (pv 6)) am_nil)) (am_cons (em_var (pv 3)) am_nil))) fun _ => rfl)) (wm_or1 (tm_not (tm_chain opd_le opd_le (em_bin opd_mul (em_bin opd_mul (em_var (pv 10)) (em_var (pv 2))) (em_var (pv 2))) (em_var (pv 7)) (em_bin opd_add (em_bin opd_mul (em_bin opd_mul (em_var (pv 10)) (em_var (pv 2))) (em_var (pv 2))) (em_bin opd_mul (em_bin opd_mul (em_var (pv 1)) (em_var (pv 2))) (em_var (pv 2))))))))) (bm_one (sm_ret em_bl)) bm_nil)
  (bm_cons (sm_asg (em_tup (am_cons (em_call (fn_shown_field T) ((hr).mono (by decide)) (by rfl) T.g_shown_field T.F_shown_field.kp T.b_shown_field takes_cx (am_cons (em_var (pv 3)) (am_cons (em_var (pv 8)) am_nil))) (am_cons (em_call (fn_field_bounds T) ((hr).mono (by decide)) (by rfl) T.g_field_bounds T.F_field_bounds.kp T.b_field_bounds takes_cx (am_cons (em_var (pv 8)) am_nil)) am_nil))) (gm_tup rfl (gms_cons (gm_name sc__law_field.nd rfl (by first | exact .inl rfl | exact .inr rfl)) (gms_cons (gm_name sc__law_field.nd rfl (by first | exact .inl rfl | exact .inr rfl)) gms_nil))))
  (bm_cons (sm_set sc__law_field.nd rfl (by first | exact .inl rfl | exact .inr rfl) (em_val (nm_lst am_nil)))
  (bm_cons (sm_for owns_cx rfl (im_range1 (by rfl) T.n_range (am_cons (em_var (pv 2)) am_nil)) (gm_name sc__law_field.nd rfl (by first | exact .inl rfl | exact .inr rfl))
 (bm_one (sm_set sc__law_field.nd rfl (by first | exact .inl rfl | exact .inr rfl) (em_bin opd_add (em_var (pv 13)) (em_val (nm_lc [("j", 14)] rfl sc__law_field.nd (im_range1 (by rfl) T.n_range (am_cons (em_var (pv 2)) am_nil)) (blkOk_by (by kernel_rfl)) (by decide) (fun _ _ _ _ _ => (gm_name sc__law_field.nd rfl (by first | exact .inl rfl | exact .inr rfl))) (fun _ _ _ _ _ => ptsm_nil) (fun _ _ _ _ _ => (em_bin opd_sub (em_ix (em_ix (em_var (pv 11)) (em_var (pv 4)) fun _ _ => rfl) (em_var (pv 14)) fun _ _ => rfl) (em_ix (em_ix (em_var (pv 3)) (em_var (pv 4)) fun _ _ => rfl) (em_var (pv 14)) fun _ _ => rfl)))))))))
  (bm_one (sm_ret (em_and (em_cmp opd_le (em_ix (em_var (pv 12)) em_int fun _ _ => rfl) (em_callB (cd_min rfl) (by rfl) T.n_min (by rfl) (am_cons (em_var (pv 13)) am_nil)) (nomark _)) (em_one (em_cmp opd_le (em_callB (cd_max rfl) (by rfl) T.n_max (by rfl) (am_cons (em_var (pv 13)) am_nil)) (em_ix (em_var (pv 12)) em_int fun _ _ => rfl) (nomark _))))))))))))))
theorem fn__law_field (T : Facts K mg base) : FnM P w K mg base 11 (He.ga K "_law_field") T.fd__law_field ["draws", "levels"] m__law_field := fn_retV (fn_mD T.F__law_field sc__law_field fun A outer s H E hr => bm__law_field T hr)
/-! law -/
noncomputable def l_law_1 : MS := (sSeq (sSet (gN 3) (mCallF 2 m__law_take (mCons (mVar 1) (mCons (mC (.int 6)) mNil)))) (sSeq (sSet (gN 4) (mCallF 2 m__law_row (mCons (mVar 1) (mCons (mCallF 1 m__law_two (mCons (mVar 3) mNil)) mNil)))) (sSeq (sSet (gN 5) (mCallF 2 m_tower (mCons (mVar 4) (mCons (mVar 3) mNil)))) (sSeq (sIf (mOr (mNot (mTru (mCallF 2 m__law_alike (mCons (mVar 5) (mCons (mCallF 2 m__law_own (mCons (mVar 4) (mCons (mVar 3) mNil))) mNil))))) (mOr (mNot (mTru (mCallF 2 m__law_alike (mCons (mCallF 1 m_row_of (mCons (mVar 5) mNil)) (mCons (mVar 4) mNil))))) (mOr (mNot (mTru (mCallF 2 m__law_means (mCons (mVar 4) (mCons (mVar 3) mNil))))) (mNot (mTru (mCallF 1 m__law_extremes (mCons (mVar 3) mNil))))))) (sRet (mC (.bl false))) sSkip) (sSeq (sIf (mOr (mNot (mTru (mCallF 3 m__law_changed (mCons (mVar 1) (mCons (mVar 4) (mCons (mVar 3) mNil)))))) (mOr (mNot (mTru (mCallF 3 m__law_planes (mCons (mVar 1) (mCons (mVar 4) (mCons (mVar 3) mNil)))))) (mNot (mTru (mCallF 2 m__law_field (mCons (mVar 1) (mCons (mCall dMin (mCons (mVar 3) (mCons (mC (.int 3)) mNil))) mNil))))))) (sRet (mC (.bl false))) sSkip) (sSeq (sSet (gN 6) (mCallF 2 m__law_row (mCons (mVar 1) (mCons (mBin dAdd (mC (.int 2)) (mCallF 2 m__law_take (mCons (mVar 1) (mCons (mC (.int 40)) mNil)))) mNil)))) (sSeq (sSet (gTup 2 (gCons (gN 7) (gCons (gN 8) gNil))) (mCallF 1 m_lifted (mCons (mVar 6) mNil))) (sIf (mOr (mNot (mTru (mCallF 2 m__law_alike (mCons (mTup (mCons (mVar 7) (mCons (mTup (mCons (mVar 8) mNil)) mNil))) (mCons (mCallF 2 m__law_own (mCons (mVar 6) (mCons (mC (.int 1)) mNil))) mNil))))) (mNot (mTru (mCallF 2 m__law_alike (mCons (mCallF 2 m_lowered (mCons (mVar 7) (mCons (mVar 8) mNil))) (mCons (mVar 6) mNil)))))) (sRet (mC (.bl false))) sSkip))))))))
noncomputable def b_law : MS := (sSeq (sSet (gN 1) (mCallF 1 m__law_draws (mCons (mVar 0) mNil))) (sSeq (sFor (mSrcA srcR1 (mCons (mC (.int 2)) mNil)) (gN 2) l_law_1) (sRet (mC (.bl true)))))
noncomputable def m_law : List D → Store → Res D := retV (runF 9 b_law)
set_option maxHeartbeats 0 in
theorem bm_law (T : Facts K mg base) {A : Around} {outer : List PySem.Env} {s : Shared} {H : Hp} {E : XK} (hr : Room 11 (A.deeper (envOfC "law" (defScope s_law) s.heap.objs.size (He.ga K "law") T.fd_law.code))) :
  BM (cxOf (L2.CX P w) P w K mg base ["script", "draws", "turn", "levels", "row", "told", "some", "sums", "differences"] "law" (defScope s_law) (He.ga K "law") T.fd_law.code A outer s H E) (fun c d _ H => E c d H) (defBody s_law) b_law :=
  (bm_cons (sm_set sc_law.nd rfl (by first | exact .inl rfl | exact .inr rfl) (em_call (fn__law_draws T) ((hr).mono (by decide)) (by rfl) T.g__law_draws T.F__law_draws.kp T.b__law_draws takes_cx (am_cons (em_var (pv 0)) am_nil)))
  (bm_cons (sm_for owns_cx rfl (im_range1 (by rfl) T.n_range (am_cons em_int am_nil)) (gm_name sc_law.nd rfl (by first | exact .inl rfl | exact .inr rfl))
 (bm_cons (sm_set sc_law.nd rfl (by first | exact .inl rfl | exact .inr rfl) (em_call (fn__law_take T) ((hr).mono (by decide)) (by rfl) T.g__law_take T.F__law_take.kp T.b__law_take takes_cx (am_cons (em_var (pv 1)) (am_cons em_int am_nil))))
  (bm_cons (sm_set sc_law.nd rfl (by first | exact .inl rfl | exact .inr rfl) (em_call (fn__law_row T) ((hr).mono (by decide)) (by rfl) T.g__law_row T.F__law_row.kp T.b__law_row takes_cx (am_cons (em_var (pv 1)) (am_cons (em_call (fn__law_two T) ((hr).mono (by decide)) (by rfl) T.g__law_two T.F__law_two.kp T.b__law_two takes_cx (am_cons (em_var (pv 3)) am_nil)) am_nil))))
  (bm_cons (sm_set sc_law.nd rfl (by first | exact .inl rfl | exact .inr rfl) (em_call (fn_tower T) ((hr).mono (by decide)) (by rfl) T.g_tower T.F_tower.kp T.b_tower takes_cx (am_cons (em_var (pv 4)) (am_cons (em_var (pv 3)) am_nil))))
  (bm_cons (sm_if (tm_w (wm_or (tm_not (tm_tru (em_call (fn__law_alike T) ((hr).mono (by decide)) (by rfl) T.g__law_alike T.F__law_alike.kp T.b__law_alike takes_cx (am_cons (em_var (pv 5)) (am_cons (em_call (fn__law_own T) ((hr).mono (by decide)) (by rfl) T.g__law_own T.F__law_own.kp T.b__law_own takes_cx (am_cons (em_var (pv 4)) (am_cons (em_var (pv 3)) am_nil))) am_nil))) fun _ => rfl)) (wm_or (tm_not (tm_tru (em_call (fn__law_alike T) ((hr).mono (by decide)) (by rfl) T.g__law_alike T.F__law_alike.kp T.b__law_alike takes_cx (am_cons (em_call (fn_row_of T) ((hr).mono (by decide)) (by rfl) T.g_row_of T.F_row_of.kp T.b_row_of takes_cx (am_cons (em_var (pv 5)) am_nil)) (am_cons (em_var (pv 4)) am_nil))) fun _ => rfl)) (wm_or (tm_not (tm_tru (em_call (fn__law_means T) ((hr).mono (by decide)) (by rfl) T.g__law_means T.F__law_means.kp T.b__law_means takes_cx (am_cons (em_var (pv 4)) (am_cons (em_var (pv 3)) am_nil))) fun _ => rfl)) (wm_or1 (tm_not (tm_tru (em_call (fn__law_extremes T) ((hr).mono (by decide)) (by rfl) T.g__law_extremes T.F__law_extremes.kp T.b__law_extremes takes_cx (am_cons (em_var (pv 3)) am_nil)) fun _ => rfl))))))) (bm_one (sm_ret em_bl)) bm_nil)
  (bm_cons (sm_if (tm_w (wm_or (tm_not (tm_tru (em_call (fn__law_changed T) ((hr).mono (by decide)) (by rfl) T.g__law_changed T.F__law_changed.kp T.b__law_changed takes_cx (am_cons (em_var (pv 1)) (am_cons (em_var (pv 4)) (am_cons (em_var (pv 3)) am_nil)))) fun _ => rfl)) (wm_or (tm_not (tm_tru (em_call (fn__law_planes T) ((hr).mono (by decide)) (by rfl) T.g__law_planes T.F__law_planes.kp T.b__law_planes takes_cx (am_cons (em_var (pv 1)) (am_cons (em_var (pv 4)) (am_cons (em_var (pv 3)) am_nil)))) fun _ => rfl)) (wm_or1 (tm_not (tm_tru (em_call (fn__law_field T) ((hr).mono (by decide)) (by rfl) T.g__law_field T.F__law_field.kp T.b__law_field takes_cx (am_cons (em_var (pv 1)) (am_cons (em_callB (cd_min rfl) (by rfl) T.n_min (by rfl) (am_cons (em_var (pv 3)) (am_cons em_int am_nil))) am_nil))) fun _ => rfl)))))) (bm_one (sm_ret em_bl)) bm_nil)
  (bm_cons (sm_set sc_law.nd rfl (by first | exact .inl rfl | exact .inr rfl) (em_call (fn__law_row T) ((hr).mono (by decide)) (by rfl) T.g__law_row T.F__law_row.kp T.b__law_row takes_cx (am_cons (em_var (pv 1)) (am_cons (em_bin opd_add em_int (em_call (fn__law_take T) ((hr).mono (by decide)) (by rfl) T.g__law_take T.F__law_take.kp T.b__law_take takes_cx (am_cons (em_var (pv 1)) (am_cons em_int am_nil)))) am_nil))))
  (bm_cons (sm_asg (em_call (fn_lifted T) ((hr).mono (by decide)) (by rfl) T.g_lifted T.F_lifted.kp T.b_lifted takes_cx (am_cons (em_var (pv 6)) am_nil)) (gm_tup rfl (gms_cons (gm_name sc_law.nd rfl (by first | exact .inl rfl | exact .inr rfl)) (gms_cons (gm_name sc_law.nd rfl (by first | exact .inl rfl | exact .inr rfl)) gms_nil))))
  (bm_one (sm_if (tm_w (wm_or (tm_not (tm_tru (em_call (fn__law_alike T) ((hr).mono (by decide)) (by rfl) T.g__law_alike T.F__law_alike.kp T.b__law_alike takes_cx (am_cons (em_tup (am_cons (em_var (pv 7)) (am_cons (em_tup (am_cons (em_var (pv 8)) am_nil)) am_nil))) (am_cons (em_call (fn__law_own T) ((hr).mono (by decide)) (by rfl) T.g__law_own T.F__law_own.kp T.b__law_own takes_cx (am_cons (em_var (pv 6)) (am_cons em_int am_nil))) am_nil))) fun _ => rfl)) (wm_or1 (tm_not (tm_tru (em_call (fn__law_alike T) ((hr).mono (by decide)) (by rfl) T.g__law_alike T.F__law_alike.kp T.b__law_alike takes_cx (am_cons (em_call (fn_lowered T) ((hr).mono (by decide)) (by rfl) T.g_lowered T.F_lowered.kp T.b_lowered takes_cx (am_cons (em_var (pv 7)) (am_cons (em_var (pv 8)) am_nil))) (am_cons (em_var (pv 6)) am_nil))) fun _ => rfl))))) (bm_one (sm_ret em_bl)) bm_nil))))))))))
  (bm_one (sm_ret em_bl))))
theorem fn_law (T : Facts K mg base) : FnM P w K mg base 12 (He.ga K "law") T.fd_law ["script"] m_law := fn_retV (fn_mD T.F_law sc_law fun A outer s H E hr => bm_law T hr)
end
end K40


set_option Elab.async false
set_option linter.all false
set_option maxRecDepth 100000
set_option maxHeartbeats 4000000
/-! Laws' bodies step by step; plain data are equal to themselves. -/
namespace M
open PySem PySem.Spec PyProof.Rows L2
section
variable [Tabs]
variable {S S1 S2 : Store} {e e1 : Env} {x y : ME}
/-- a statement comes to its end, the store being as R asks, the slots as P -/
def Goes (b : MS) (e : Env) (S : Store) (P : Env → Store → Prop) : Prop := ∃ e' S', b e S = some (.nx, e', S') ∧ P e' S'
theorem g_seq {p q : MS} {P : Env → Store → Prop} (h : p e S = some (.nx, e1, S1)) (g : Goes q e1 S1 P) : Goes (sSeq p q) e S P := by
  obtain ⟨e', S', g1, g2⟩ := g
  exact ⟨e', S', (seq_nx h).trans g1, g2⟩
theorem g_seqG {p q : MS} {P R : Env → Store → Prop} (h : Goes p e S R) (g : ∀ e1 S1, R e1 S1 → Goes q e1 S1 P) : Goes (sSeq p q) e S P := by
  obtain ⟨e1, S1, h1, h2⟩ := h
  exact g_seq h1 (g e1 S1 h2)
theorem g_end {p : MS} {P : Env → Store → Prop} (h : p e S = some (.nx, e1, S1)) (g : P e1 S1) : Goes p e S P := ⟨e1, S1, h, g⟩
theorem g_imp {p : MS} {P R : Env → Store → Prop} (h : Goes p e S R) (g : ∀ e1 S1, R e1 S1 → P e1 S1) : Goes p e S P := by
  obtain ⟨e1, S1, h1, h2⟩ := h
  exact ⟨e1, S1, h1, g _ _ h2⟩
theorem g_for {mi : MI} {g : MG} {b : MS} {xs : List D} (Inv : Env → Store → Prop) (hi : mi e S = .ok ⟨xs, []⟩ S1) (h0 : Inv e S1) (step : ∀ d ∈ xs, ∀ e S, Inv e S → ∃ e1 e2 S2, g d e S = some e1 ∧ b e1 S = some (.nx, e2, S2) ∧ Inv e2 S2) : Goes (sFor mi g b) e S Inv := by
  obtain ⟨e', S', h1, h2⟩ := for_ex (xs := xs) (g := g) (b := b) (fun _ => Inv) xs 0 e S1 h0 fun d hd k' e S _ hI => step d hd e S hI
  exact ⟨e', S', for_ok hi h2, h1⟩
theorem g_or2 {s t : MT} (hs : s e S = .ok false S1) (ht : t e S1 = .ok false S2) : mOr s t e S = .ok false S2 := by rw [x_mOr, hs, Res.bind_ok]; exact ht
theorem g_or3 {s t u : MT} {S3 : Store} (hs : s e S = .ok false S1) (ht : t e S1 = .ok false S2) (hu : u e S2 = .ok false S3) : mOr s (mOr t u) e S = .ok false S3 := g_or2 hs (g_or2 ht hu)
theorem g_andf {s t : MT} (h : s e S = .ok false S1) : mAnd s t e S = .ok false S1 := by rw [x_mAnd, h]; rfl
theorem g_andt {s t : MT} {c : Bool} (h : s e S = .ok true S1) (g : t e S1 = .ok c S2) : mAnd s t e S = .ok c S2 := by rw [x_mAnd, h, Res.bind_ok]; exact g
theorem g_not (h : x e S = .ok (.bl true) S1) : mNot (mTru x) e S = .ok false S1 := by rw [x_mNot, x_mTru, h]; rfl
theorem g_notT {t : MT} {c : Bool} (h : t e S = .ok c S1) : mNot t e S = .ok (!c) S1 := by rw [x_mNot, h]; rfl
theorem g_alike (hS : clS S2.length S2 = true) {d : D} (hx : x e S = .ok d S1) (hy : y e S1 = .ok d S2) (h : pl 7 d = true) : mCallF 2 m__law_alike (mCons x (mCons y mNil)) e S = .ok (.bl true) S2 := callF_ok (cons_ok hx (one_ok hy)) (alike_ok hS d h)
theorem g_nil {m : MA} (h : m e S = .ok [] S1) : mB (mBin dNe (asV m) (asV (mLst mNil))) e S = .ok false S1 := b_ok (bin_ok (asV_ok h) (asV_ok (lst_ok rfl (Nat.zero_le _))) (neL (x := []) (y := []) rfl))
theorem g_chain {z : ME} {u v w : Int} {S3 : Store} (hx : x e S = .ok (.int u) S1) (hy : y e S1 = .ok (.int v) S2) (hz : z e S2 = .ok (.int w) S3) (h : u ≤ v ∧ v ≤ w) : mChain dLe dLe x y z e S = .ok (.bl true) S3 := by
  unfold mChain
  rw [hx, Res.bind_ok, hy, Res.bind_ok]
  show (Res.of (some (D.bl (decide (u ≤ v)))) S2).bind _ = _
  rw [decide_eq_true h.1]
  show (z e S2).bind _ = _
  rw [hz, Res.bind_ok]
  show Res.of (some (D.bl (decide (v ≤ w)))) S3 = _
  rw [decide_eq_true h.2]; rfl
theorem g_mul0 {k : Nat} {d : D} (h : k ≤ 1000) : dMul (.tup [d]) (.int (k : Int)) S = some (.tup (List.replicate k d)) := by
  show (if (k : Int) ≤ 1000 ∧ -1000 ≤ (k : Int) ∧ [d].length ≤ 1000 then some (D.tup (List.replicate (k : Int).toNat [d]).flatten) else none) = _
  rw [if_pos ⟨by omega, by omega, by simp⟩, Int.toNat_natCast]
  congr 2
  induction k with
  | zero => rfl
  | succ k ih => rw [List.replicate_succ, List.replicate_succ, List.flatten_cons, ih (by omega)]; rfl
end
/-! plain data -/
mutual
/-- plain, so deep at most; texts of signs that there are -/
def pq : Nat → D → Bool
  | _, .non => true
  | _, .bl _ => true
  | _, .int _ => true
  | _, .str x => (PyData.str x).canLay0
  | n + 1, .tup xs => decide (xs.length ≤ 100000) && pqs n xs
  | n + 1, .lst xs => decide (xs.length ≤ 100000) && pqs n xs
  | _, _ => false
def pqs : Nat → List D → Bool
  | _, [] => true
  | n, d :: ds => pq n d && pqs n ds
end
mutual
theorem pq_pl : ∀ (d : D) (n : Nat), pq n d = true → pl n d = true
  | .non, n, _ => by cases n <;> rfl
  | .bl b, n, _ => by cases n <;> rfl
  | .int i, n, _ => by cases n <;> rfl
  | .str x, n, _ => by cases n <;> rfl
  | .tup xs, 0, h => by simp [pq] at h
  | .lst xs, 0, h => by simp [pq] at h
  | .tup xs, n + 1, h => by
    simp only [pq, Bool.and_eq_true] at h
    simp only [pl, Bool.and_eq_true]
    exact ⟨h.1, pqs_pls xs n h.2⟩
  | .lst xs, n + 1, h => by
    simp only [pq, Bool.and_eq_true] at h
    simp only [pl, Bool.and_eq_true]
    exact ⟨h.1, pqs_pls xs n h.2⟩
  | .fro xs, n, h => by cases n <;> simp [pq] at h
  | .loc m, n, h => by cases n <;> simp [pq] at h
  | .ref a, n, h => by cases n <;> simp [pq] at h
  | .ty a, n, h => by cases n <;> simp [pq] at h
  | .rng a b, n, h => by cases n <;> simp [pq] at h
theorem pqs_pls : ∀ (ds : List D) (n : Nat), pqs n ds = true → pls n ds = true
  | [], n, _ => by simp only [pls]
  | d :: ds, n, h => by
    simp only [pqs, Bool.and_eq_true] at h
    simp only [pls, pq_pl d n h.1, pqs_pls ds n h.2, Bool.and_self]
end
mutual
theorem pq_py : ∀ (d : D) (n : Nat), pq n d = true → ∃ p, toPy0 d = some p ∧ p.canLay0 = true ∧ p.depth ≤ n ∧ PyData.eqv p p = true
  | .non, n, _ => ⟨.none, rfl, rfl, by simp [PyData.depth], by simp [PyData.eqv]⟩
  | .bl b, n, _ => ⟨.bool b, rfl, rfl, by simp [PyData.depth], by simp [PyData.eqv]⟩
  | .int i, n, _ => ⟨.int i, rfl, rfl, by simp [PyData.depth], by simp [PyData.eqv]⟩
  | .str x, n, h => ⟨.str x, rfl, by cases n <;> exact h, by simp [PyData.depth], by simp [PyData.eqv]⟩
  | .tup xs, 0, h => by simp [pq] at h
  | .lst xs, 0, h => by simp [pq] at h
  | .tup xs, n + 1, h => by
    simp only [pq, Bool.and_eq_true] at h
    obtain ⟨ps, h1, h2, h3, h4⟩ := pqs_py xs n h.2
    exact ⟨.tuple ps, by simp only [toPy0, h1, Option.map_some], by simp only [PyData.canLay0, h2], by simp only [PyData.depth]; omega, by simp only [PyData.eqv, h4]⟩
  | .lst xs, n + 1, h => by
    simp only [pq, Bool.and_eq_true] at h
    obtain ⟨ps, h1, h2, h3, h4⟩ := pqs_py xs n h.2
    exact ⟨.list ps, by simp only [toPy0, h1, Option.map_some], by simp only [PyData.canLay0, h2], by simp only [PyData.depth]; omega, by simp only [PyData.eqv, h4]⟩
  | .fro xs, n, h => by cases n <;> simp [pq] at h
  | .loc m, n, h => by cases n <;> simp [pq] at h
  | .ref a, n, h => by cases n <;> simp [pq] at h
  | .ty a, n, h => by cases n <;> simp [pq] at h
  | .rng a b, n, h => by cases n <;> simp [pq] at h
theorem pqs_py : ∀ (ds : List D) (n : Nat), pqs n ds = true → ∃ ps, toPys0 ds = some ps ∧ PyData.canLayAll0 ps = true ∧ PyData.depthAll ps ≤ n ∧ PyData.eqvAll ps ps = true
  | [], n, _ => ⟨[], by simp only [toPys0], rfl, by simp [PyData.depthAll], by simp [PyData.eqvAll]⟩
  | d :: ds, n, h => by
    simp only [pqs, Bool.and_eq_true] at h
    obtain ⟨p, h1, h2, h3, h4⟩ := pq_py d n h.1
    obtain ⟨ps, k1, k2, k3, k4⟩ := pqs_py ds n h.2
    exact ⟨p :: ps, by simp only [toPys0, h1, k1], by simp only [PyData.canLayAll0, h2, k2, Bool.and_self], by simp only [PyData.depthAll]; omega, by simp only [PyData.eqvAll, h4, k4, Bool.and_self]⟩
end
section
variable [Tabs]
theorem dEq_self {S : Store} {d : D} {n : Nat} (h : pq n d = true) (hn : n ≤ 64) : dEq d d S = some (.bl true) := by
  by_cases hs : ∃ x, d = .str x
  · obtain ⟨x, rfl⟩ := hs
    show some (D.bl (decide (x = x))) = _
    rw [decide_eq_true rfl]
  · obtain ⟨p, h1, h2, h3, h4⟩ := pq_py d n h
    have ht : toPy S d = some p := by
      cases d with
      | loc m => cases n <;> simp [pq] at h
      | _ => exact h1
    have hsh : SeqAt.shaped p = true := by
      unfold SeqAt.shaped
      rw [Bool.and_eq_true]
      exact ⟨h2, decide_eq_true (by omega)⟩
    rw [dEq_gen (fun ⟨a, _, q, _⟩ => hs ⟨a, q⟩), ht]
    dsimp only
    rw [if_pos ⟨hsh, hsh⟩, h4]
theorem dNe_self {S : Store} {d : D} {n : Nat} (h : pq n d = true) (hn : n ≤ 64) : dNe d d S = some (.bl false) := by
  unfold dNe
  rw [dEq_self h hn]; rfl
theorem g_ne {S S1 S2 : Store} {e : Env} {x y : ME} {d : D} (hx : x e S = .ok d S1) (hy : y e S1 = .ok d S2) (h : pq 7 d = true) : mB (mBin dNe x y) e S = .ok false S2 := b_ok (bin_ok hx hy (dNe_self h (by decide)))
theorem g_alikeq {S S1 S2 : Store} {e : Env} {x y : ME} (hS : clS S2.length S2 = true) {d : D} (hx : x e S = .ok d S1) (hy : y e S1 = .ok d S2) (h : pq 7 d = true) : mCallF 2 m__law_alike (mCons x (mCons y mNil)) e S = .ok (.bl true) S2 := g_alike hS hx hy (pq_pl d 7 h)
theorem g_alike1 {S : Store} {e : Env} {x y : ME} (hS : clS S.length S = true) {d : D} (hx : x e S = .ok d S) (hy : y e S = .ok d S) (h : pq 7 d = true) : mCallF 2 m__law_alike (mCons x (mCons y mNil)) e S = .ok (.bl true) S := g_alikeq hS hx hy h
theorem g_ne1 {S : Store} {e : Env} {x y : ME} {d : D} (hx : x e S = .ok d S) (hy : y e S = .ok d S) (h : pq 7 d = true) : mB (mBin dNe x y) e S = .ok false S := g_ne hx hy h
theorem pqs_of {n : Nat} : ∀ {ds : List D}, (∀ d ∈ ds, pq n d = true) → pqs n ds = true
  | [], _ => by simp only [pqs]
  | d :: ds, h => by simp only [pqs, h d (by simp), pqs_of fun d m => h d (List.mem_cons_of_mem _ m), Bool.and_self]
theorem pq_int (n : Nat) (i : Int) : pq n (.int i) = true := by cases n <;> rfl
theorem pqs_I (n : Nat) (l : List Int) : pqs n (l.map D.int) = true := pqs_of fun d m => by
  obtain ⟨i, _, rfl⟩ := List.mem_map.mp m
  exact pq_int n i
theorem pq_tup {n : Nat} {xs : List D} (hz : xs.length ≤ 100000) (h : pqs n xs = true) : pq (n + 1) (.tup xs) = true := by
  simp only [pq, h, Bool.and_true]
  exact decide_eq_true hz
theorem pq_lst {n : Nat} {xs : List D} (hz : xs.length ≤ 100000) (h : pqs n xs = true) : pq (n + 1) (.lst xs) = true := by
  simp only [pq, h, Bool.and_true]
  exact decide_eq_true hz
theorem pq_two {n : Nat} {a b : D} (ha : pq n a = true) (hb : pq n b = true) : pq (n + 1) (.tup [a, b]) = true := pq_tup (by simp) (by simp only [pqs, ha, hb, Bool.and_self])
mutual
theorem pq_mono : ∀ (d : D) {n m : Nat}, n ≤ m → pq n d = true → pq m d = true
  | .non, n, m, _, _ => by cases m <;> rfl
  | .bl b, n, m, _, _ => by cases m <;> rfl
  | .int i, n, m, _, _ => by cases m <;> rfl
  | .str x, n, m, _, h => by cases n <;> cases m <;> exact h
  | .tup xs, 0, m, _, h => by simp [pq] at h
  | .lst xs, 0, m, _, h => by simp [pq] at h
  | .tup xs, n + 1, 0, l, _ => absurd l (by omega)
  | .lst xs, n + 1, 0, l, _ => absurd l (by omega)
  | .tup xs, n + 1, m + 1, l, h => by
    simp only [pq, Bool.and_eq_true] at h ⊢
    exact ⟨h.1, pqs_mono xs (by omega) h.2⟩
  | .lst xs, n + 1, m + 1, l, h => by
    simp only [pq, Bool.and_eq_true] at h ⊢
    exact ⟨h.1, pqs_mono xs (by omega) h.2⟩
  | .fro xs, n, _, _, h => by cases n <;> simp [pq] at h
  | .loc m, n, _, _, h => by cases n <;> simp [pq] at h
  | .ref a, n, _, _, h => by cases n <;> simp [pq] at h
  | .ty a, n, _, _, h => by cases n <;> simp [pq] at h
  | .rng a b, n, _, _, h => by cases n <;> simp [pq] at h
theorem pqs_mono : ∀ (ds : List D) {n m : Nat}, n ≤ m → pqs n ds = true → pqs m ds = true
  | [], n, m, _, _ => by simp only [pqs]
  | d :: ds, n, m, l, h => by
    simp only [pqs, Bool.and_eq_true] at h ⊢
    exact ⟨pq_mono d l h.1, pqs_mono ds l h.2⟩
end
end
end M


set_option Elab.async false
set_option linter.all false
set_option maxRecDepth 100000
set_option maxHeartbeats 4000000
namespace K40
open PySem PySem.Spec PyProof.Rows L2 M M.Lf
section
variable [Tabs]
theorem hSt (l : List Int) : clS (St l).length (St l) = true := clS_St l _
/-- a draw, the bound written -/
theorem c_take {e : M.Env} {i : Nat} {x : ME} {l l' : List Int} {n k : Nat} (h0 : e[i]? = some (some (.loc 0))) (hx : x e (St l) = .ok (.int (n : Int)) (St l)) (q : m__law_take [.loc 0, .int (n : Int)] (St l) = .ok (.int (k : Int)) (St l')) : mCallF 2 m__law_take (mCons (mVar i) (mCons x mNil)) e (St l) = .ok (.int (k : Int)) (St l') := callF_ok (cons_ok (var_ok h0) (one_ok hx)) q
theorem raise_len (m : Int) (r : List Int) : (raise m r).length = r.length := by simp [raise]
/-! plainness -/
theorem pq_row (n : Nat) {r : List Int} (h : r.length ≤ 100000) : pq (n + 1) (.tup (I r)) = true := pq_tup (by rw [List.length_map]; exact h) (pqs_I n r)
theorem pq_rows (n : Nat) {R : List (List Int)} (h : R.length ≤ 100000) (hr : ∀ r ∈ R, r.length ≤ 100000) : pq (n + 2) (.tup (Rws R)) = true := pq_tup (by rw [List.length_map]; exact h) (pqs_of fun d m => by
  obtain ⟨r, hm, rfl⟩ := List.mem_map.mp m
  exact pq_row n (hr r hm))
theorem pq_FD (n : Nat) (F : Fld) {h w : Nat} (h1 : h ≤ 5000) (h2 : w ≤ 5000) : pq (n + 2) (FD F h w) = true := pq_rows n (by rw [fldL_len]; omega) fun r m => by
  obtain ⟨i, _, rfl⟩ := List.mem_map.mp m
  rw [rowL_len]; omega
theorem pq_TW {s : List Int} {ds : List (List Int)} (hs : s.length ≤ 5000) (hd : ds.length ≤ 100) (h : ∀ d ∈ ds, d.length ≤ 5000) : pq 3 (TW (s, ds)) = true := pq_two (pq_row 1 (r := s) (by omega)) (pq_rows 0 (R := ds) (by omega) fun r m => by have := h r m; omega)
theorem pqs_FTs {a b : Nat} : ∀ (r : List F3), 2 ^ r.length * a ≤ 5000 → 2 ^ r.length * b ≤ 5000 → pqs 3 (FTs a b r) = true
  | [], _, _ => by simp only [FTs, pqs]
  | t :: r, h1, h2 => by
    rw [List.length_cons, p2] at h1 h2
    have ih := pqs_FTs (a := a) (b := b) r (by omega) (by omega)
    have g := fun F : Fld => pq_FD 0 F (show 2 ^ r.length * a ≤ 5000 by omega) (show 2 ^ r.length * b ≤ 5000 by omega)
    have h3 : pq 3 (tri t (2 ^ r.length * a) (2 ^ r.length * b)) = true := pq_tup (by simp) (by simp only [pqs, g, Bool.and_self])
    simp only [FTs, pqs, ih, h3, Bool.and_self]
theorem pq_FTW {s : Fld} {r : List F3} {a b : Nat} (ha : a ≤ 5000) (hb : b ≤ 5000) (hr : r.length ≤ 100) (h1 : 2 ^ r.length * a ≤ 5000) (h2 : 2 ^ r.length * b ≤ 5000) : pq 5 (FTW s r a b) = true :=
  pq_two (pq_mono _ (by decide) (pq_FD 0 s ha hb)) (pq_tup (by rw [FTs_len]; omega) (pqs_FTs r h1 h2))
/-- a line for each -/
theorem c_lines {S S1 : Store} {e : M.Env} {ms : ME} {me : ME} {F G : Fld} {h w v i : Nat} (hs : ms e S = .ok (FD F h w) S1) (hz : h ≤ 5000)
    (hm : ∀ k < h, me ((wipeE e [i]).set i (some (.tup (I (rowL (F k) w))))) S1 = .ok (.tup (I (rowL (G k) v))) S1) : mCall dTuple (mCons (asV (mLc (mSrc ms) (gN i) mYes me [i])) mNil) e S = .ok (FD G h v) S1 := by
  refine tuple_ok ((x_mLc' (src_tup (xs := Rws (fldL F h w)) hs) (by rw [rws_len]; omega)).trans ?_)
  have e1 : Rws (fldL F h w) = (List.range h).map fun k => D.tup (I (rowL (F k) w)) := by
    unfold fldL Rws
    rw [List.map_map]; rfl
  have e2 : Rws (fldL G h v) = (List.range h).map fun k => D.tup (I (rowL (G k) v)) := by
    unfold fldL Rws
    rw [List.map_map]; rfl
  rw [e2, e1]
  exact lc_map (S := S1) (t := gN i) (me := me) (e := wipeE e [i]) (fun k => D.tup (I (rowL (F k) w))) (fun k => D.tup (I (rowL (G k) v))) (List.range h) fun k hk => ⟨_, rfl, hm k (List.mem_range.mp hk)⟩
theorem near_at {a b : Int} : ∀ {x y : List Int} {i : Nat} {u v : Int}, Near a b x y → x[i]? = some u → y[i]? = some v → a ≤ u - v ∧ u - v ≤ b
  | u' :: x, v' :: y, 0, u, v, h, e1, e2 => by simp at e1 e2; subst e1 e2; exact h.1
  | u' :: x, v' :: y, i + 1, u, v, h, e1, e2 => near_at h.2 (by simpa using e1) (by simpa using e2)
  | [], _, _, _, _, _, e1, _ => by simp at e1
  | _ :: _, [], _, _, _, h, _, e2 => by simp at e2
theorem near_len {a b : Int} : ∀ {x y : List Int}, Near a b x y → x.length = y.length
  | _ :: x, _ :: y, h => by simp [near_len h.2]
  | [], [], _ => rfl
  | [], _ :: _, h => h.elim
  | _ :: _, [], h => h.elim
theorem I_app (a b : List Int) : I a ++ I b = I (a ++ b) := by simp [I]
theorem N_rep (k : Nat) : List.replicate k (D.int 0) = N (List.replicate k 0) := by
  induction k with
  | zero => rfl
  | succ k ih => rw [List.replicate_succ, List.replicate_succ, ih]; rfl
theorem tow_small (n : Nat) (r : List Int) (hr : r.length ≤ 5000) : (tow n r).1.length ≤ 5000 ∧ ∀ d ∈ (tow n r).2, d.length ≤ 5000 := by
  have h := lens_tow n r
  refine ⟨?_, fun d hd => Nat.le_trans (lens_le _ _ _ h d hd) hr⟩
  have : ∀ (n : Nat) (r : List Int), (tow n r).1.length ≤ r.length := by
    intro n
    induction n with
    | zero => intro r; exact Nat.le_refl _
    | succ n ih =>
      intro r
      have h1 := ih (lift r).1
      have h2 := (lift_len r).1
      show (tow n (lift r).1).1.length ≤ r.length
      omega
  have := this n r
  omega
theorem shown_len (r : List Int) (ps : List Nat) : (shown r ps).length = r.length := by
  have h := lens_lean (tow ps.length r).2 ps _ _ (tow_len _ _) (lens_tow ps.length r)
  exact lens_len _ _ _ h

/-! numbers, rows, the law's own lifting -/
theorem two_ok {S : Store} (hS : clS S.length S = true) {n : Nat} (hn : n ≤ 40) : m__law_two [.int (n : Int)] S = .ok (.int ((2 ^ n : Nat) : Int)) S := by
  have loop : ∀ (ds : List D) (c : Nat) (xs : List D) (o2 : Option D), c + ds.length ≤ 40 → ∃ o2', M.forM ⟨xs, []⟩ (gN 2) l__law_two_1 ds [some (.int (n : Int)), some (.int ((2 ^ c : Nat) : Int)), o2] S = some (.nx, [some (.int (n : Int)), some (.int ((2 ^ (c + ds.length) : Nat) : Int)), o2'], S) := by
    intro ds
    induction ds with
    | nil => intro c xs o2 _; exact ⟨o2, for_nil⟩
    | cons d ds ih =>
      intro c xs o2 hc
      simp only [List.length_cons] at hc
      obtain ⟨o2', h⟩ := ih (c + 1) xs (some d) (by omega)
      refine ⟨o2', (for_cons (e1 := [some (.int (n : Int)), some (.int ((2 ^ c : Nat) : Int)), some d]) (e2 := [some (.int (n : Int)), some (.int ((2 ^ (c + 1) : Nat) : Int)), some d]) rfl ?_).trans (h.trans ?_)⟩
      · refine set_ok (bin_ok (var_ok rfl) rfl ((x_mul (.inr (by decide))).trans (congrArg (fun z => some (D.int z)) ?_)))
        rw [Nat.pow_succ, Int.natCast_mul]; rfl
      · rw [List.length_cons, show c + 1 + ds.length = c + (ds.length + 1) by omega]
  obtain ⟨o2', h⟩ := loop (rng 0 n) 0 (rng 0 n) none (by rw [rng_len]; omega)
  rw [rng_len, Nat.zero_add] at h
  refine retV_id (run_rt (e' := [some (.int (n : Int)), some (.int ((2 ^ n : Nat) : Int)), o2']) ?_) hS rfl
  show b__law_two [some (.int (n : Int)), none, none] S = _
  refine (seq_nx (set_ok rfl)).trans ?_
  exact (seq_nx (for_ok (src_rng' n (by omega) (var_ok rfl)) h)).trans (ret_ok (var_ok rfl))
/-- drawn numbers by a range -/
theorem ints_draw {e : M.Env} {i j : Nat} {me : ME} {n : Nat} (hi : e[i]? = some (some (.int (n : Int)))) (hn : n ≤ 1000) (hm : ∀ (k : Nat) (l : List Int), ∃ (x : Int) (l' : List Int), me ((wipeE e [j]).set j (some (.int (k : Int)))) (St l) = .ok (.int x) (St l')) (l : List Int) :
    ∃ (r l' : List Int), r.length = n ∧ mCall dTuple (mCons (asV (mLc (mSrcA srcR1 (mCons (mVar i) mNil)) (gN j) mYes me [j])) mNil) e (St l) = .ok (.tup (I r)) (St l') := by
  obtain ⟨ys, l2, y1, y2, y3⟩ := lc_run (t := gN j) (me := me) (e := wipeE e [j]) (xs := rng 0 n) (P := fun (y : D) => ∃ x : Int, y = .int x ∧ True) St (rng 0 n) l (fun d hd l => by
    rw [rng_map] at hd
    obtain ⟨k, _, rfl⟩ := List.mem_map.mp hd
    obtain ⟨x, l', h⟩ := hm k l
    exact ⟨_, .int x, l', rfl, ⟨x, rfl, trivial⟩, h⟩)
  rw [rng_len] at y1
  obtain ⟨r, rfl, _⟩ := ints_of y2
  exact ⟨r, l2, by simpa using y1, tuple_ok ((x_mLc' (src_rng' n (by omega) (var_ok hi)) (by rw [rng_len]; omega)).trans y3)⟩
theorem row_ok (n : Nat) (hn : n ≤ 1000) (l : List Int) : ∃ (r l' : List Int), r.length = n ∧ m__law_row [.loc 0, .int (n : Int)] (St l) = .ok (.tup (I r)) (St l') := by
  obtain ⟨k, l1, hk, q0⟩ := take_nat 4 (by decide) l
  obtain ⟨f, l2, hf, q1⟩ := take_nat 2001 (by decide) l1
  obtain ⟨s, l3, hs, q2⟩ := take_nat 41 (by decide) l2
  have s1 : sSet (gTup 3 (gCons (gN 2) (gCons (gN 3) (gCons (gN 4) gNil)))) (mTup (mCons (mCallF 2 m__law_take (mCons (mVar 0) (mCons (mC (.int 4)) mNil))) (mCons (mBin dSub (mCallF 2 m__law_take (mCons (mVar 0) (mCons (mC (.int 2001)) mNil))) (mC (.int 1000))) (mCons (mBin dSub (mCallF 2 m__law_take (mCons (mVar 0) (mCons (mC (.int 41)) mNil))) (mC (.int 20))) mNil)))) [some (.loc 0), some (.int (n : Int)), none, none, none, none] (St l) =
      some (.nx, [some (.loc 0), some (.int (n : Int)), some (.int (k : Int)), some (.int ((f : Int) - 1000)), some (.int ((s : Int) - 20)), none], St l3) :=
    setg_ok (tup_ok (cons_ok (c_take rfl rfl q0) (cons_ok (bin_ok (c_take rfl rfl q1) rfl x_sub) (one_ok (bin_ok (c_take rfl rfl q2) rfl x_sub)))) (by show 3 ≤ sizeLine; decide)) rfl
  have fin : ∀ (r l' : List Int) (e' : M.Env), b__law_row [some (.loc 0), some (.int (n : Int)), none, none, none, none] (St l) = some (.rt (.tup (I r)), e', St l') → m__law_row [.loc 0, .int (n : Int)] (St l) = .ok (.tup (I r)) (St l') := fun r l' e' h =>
    (retV_ok (d := .tup (I r)) (d' := .tup (I r)) (S' := St l') (run_rt (e' := e') h) (clS_St _ _) (by simp only [M.fz, M.cl, cls_I, if_true])).trans rfl
  by_cases h0 : k = 0
  · subst h0
    obtain ⟨r, l4, hr, q3⟩ := ints_draw (e := [some (.loc 0), some (.int (n : Int)), some (.int ((0 : Nat) : Int)), some (.int ((f : Int) - 1000)), some (.int ((s : Int) - 20)), none]) (i := 1) (j := 5) (me := e__law_row_1) rfl hn (fun _ l => by
      obtain ⟨x, l', _, q⟩ := take_nat 200001 (by decide) l
      exact ⟨_, l', bin_ok (c_take rfl rfl q) rfl x_sub⟩) l3
    refine ⟨r, l4, hr, fin r l4 _ ((seq_nx s1).trans (seq_rt ((if_t ?_).trans (ret_ok q3))))⟩
    exact eqc_t rfl rfl
  · by_cases h1 : k = 1
    · subst h1
      obtain ⟨r, l4, hr, q3⟩ := ints_draw (e := [some (.loc 0), some (.int (n : Int)), some (.int ((1 : Nat) : Int)), some (.int ((f : Int) - 1000)), some (.int ((s : Int) - 20)), none]) (i := 1) (j := 5) (me := e__law_row_3) rfl hn (fun k l => ⟨_, l, bin_ok (var_ok rfl) (bin_ok (u := .int ((s : Int) - 20)) (v := .int (k : Int)) (var_ok rfl) (var_ok rfl) (x_mul (.inl (by omega)))) x_add⟩) l3
      refine ⟨r, l4, hr, fin r l4 _ ((seq_nx s1).trans ((seq_nx (if_skip (eqc_f rfl (by decide)))).trans (seq_rt ((if_t (eqc_t rfl rfl)).trans (ret_ok q3)))))⟩
    · obtain ⟨r, l4, hr, q3⟩ := ints_draw (e := [some (.loc 0), some (.int (n : Int)), some (.int (k : Int)), some (.int ((f : Int) - 1000)), some (.int ((s : Int) - 20)), none]) (i := 1) (j := 5) (me := e__law_row_5) rfl hn (fun _ l => by
        have : k = 2 ∨ k = 3 := by omega
        rcases this with rfl | rfl
        · obtain ⟨x, l', _, q⟩ := take_nat 3 (by decide) l
          exact ⟨_, l', bin_ok (var_ok rfl) (c_take rfl (bin_ok (v := .int ((0 : Nat) : Int)) (asV_ok (lst_ok (ds := [.int 3, .int 60]) (cons_ok rfl (one_ok rfl)) (by show 2 ≤ sizeLine; decide))) (bin_ok (var_ok rfl) rfl x_sub) (ix_lst _ 0 _ _ rfl)) q) x_add⟩
        · obtain ⟨x, l', _, q⟩ := take_nat 60 (by decide) l
          exact ⟨_, l', bin_ok (var_ok rfl) (c_take rfl (bin_ok (v := .int ((1 : Nat) : Int)) (asV_ok (lst_ok (ds := [.int 3, .int 60]) (cons_ok rfl (one_ok rfl)) (by show 2 ≤ sizeLine; decide))) (bin_ok (var_ok rfl) rfl x_sub) (ix_lst _ 1 _ _ rfl)) q) x_add⟩) l3
      refine ⟨r, l4, hr, fin r l4 _ ((seq_nx s1).trans ((seq_nx (if_skip (eqc_f rfl (by omega)))).trans ((seq_nx (if_skip (eqc_f rfl (by omega)))).trans (ret_ok q3))))⟩
def pairsOf : List Int → List (Int × Int)
  | a :: b :: r => (a, b) :: pairsOf r
  | _ => []
theorem pairs_len : ∀ r : List Int, (pairsOf r).length = r.length / 2
  | [] => rfl
  | [a] => by simp [pairsOf]
  | a :: b :: r => by simp only [pairsOf, List.length_cons, pairs_len r]; omega
theorem pairs_get : ∀ (r : List Int) (k : Nat) (p : Int × Int), (pairsOf r)[k]? = some p → r[2 * k]? = some p.1 ∧ r[2 * k + 1]? = some p.2
  | a :: b :: r, 0, p, h => by simp [pairsOf] at h; subst h; exact ⟨rfl, rfl⟩
  | a :: b :: r, k + 1, p, h => by
    have := pairs_get r k p (by simpa [pairsOf] using h)
    rw [show 2 * (k + 1) = 2 * k + 1 + 1 by omega]
    exact ⟨by simpa using this.1, by simpa using this.2⟩
  | [], _, _, h => by simp [pairsOf] at h
  | [_], _, _, h => by simp [pairsOf] at h
theorem lift_pairs : ∀ r : List Int, lift r = ((pairsOf r).map (fun p => (p.1 + p.2) / 2) ++ r.drop (2 * (pairsOf r).length), (pairsOf r).map fun p => p.2 - p.1)
  | [] => rfl
  | [a] => rfl
  | a :: b :: r => by
    rw [lift_cons, lift_pairs r]
    show (_ :: _, _) = ((a + b) / 2 :: _ ++ (a :: b :: r).drop (2 * ((pairsOf r).length + 1)), _)
    rw [show 2 * ((pairsOf r).length + 1) = 2 * (pairsOf r).length + 1 + 1 by omega, List.drop_succ_cons, List.drop_succ_cons, show a + (b - a) / 2 = (a + b) / 2 by omega]
    rfl
abbrev pD (p : Int × Int) : D := .tup [.int p.1, .int p.2]
theorem own_turn {S : Store} (r : List Int) (hz : r.length ≤ 5000) (acc : List (List Int)) (ha : acc.length ≤ 100) (o0 o1 o4 o5 o6 o7 o8 o9 o10 : Option D) : ∃ o5' o6' o7' o9' o10',
    l__law_own_4 [o0, o1, some (.tup (I r)), some (.loc S.length), o4, o5, o6, o7, o8, o9, o10] (S ++ [.lst (Rws acc)]) = some (.nx, [o0, o1, some (.tup (I (lift r).1)), some (.loc S.length), o4, o5', o6', o7', some (.tup (I (lift r).2)), o9', o10'], S ++ [.lst (Rws (acc ++ [(lift r).2]))]) := by
  generalize hp : pairsOf r = ps
  have hpl : ps.length = r.length / 2 := by rw [← hp]; exact pairs_len r
  have hl := lift_pairs r
  rw [hp] at hl
  refine ⟨some (.lst (ps.map pD)), o6, some (.tup (I (r.drop (2 * ps.length)))), o9, o10, ?_⟩
  unfold l__law_own_4
  refine (seq_nx (e1 := [o0, o1, some (.tup (I r)), some (.loc S.length), o4, some (.lst (ps.map pD)), o6, o7, o8, o9, o10]) (S1 := S ++ [.lst (Rws acc)]) (set_ok (asV_ok ((x_mLc' (src_rng' (r.length / 2) (by omega) (bin_ok (call_ok (one_ok (var_ok (d := .tup (I r)) rfl)) len_tup) rfl ((x_fdiv ⟨by decide, by decide⟩).trans (congrArg (fun z => some (D.int z)) (by rw [List.length_map]; omega))))) (by rw [rng_len]; omega)).trans ?_)))).trans ?_
  · rw [rng_map]
    have e1 : ps.map pD = (List.range (r.length / 2)).map fun k => pD (ps.getD k (0, 0)) := by
      refine List.ext_getElem (by simp [hpl]) fun i h1 h2 => ?_
      rw [List.getElem_map, List.getElem_map, List.getElem_range]
      have : i < ps.length := by simpa using h1
      simp [List.getD, List.getElem?_eq_getElem this]
    rw [e1]
    refine lc_map (S := S ++ [.lst (Rws acc)]) (t := gN 6) (me := e__law_own_1) (fun (k : Nat) => D.int (k : Int)) (fun k => pD (ps.getD k (0, 0))) (List.range (r.length / 2)) fun k hk => ?_
    have hk' : k < ps.length := by rw [hpl]; exact List.mem_range.mp hk
    have eg : ps.getD k (0, 0) = ps[k] := by simp [List.getD, List.getElem?_eq_getElem hk']
    have g := pairs_get r k ps[k] (by rw [hp]; exact List.getElem?_eq_getElem hk')
    rw [eg]
    have e2 : mBin dMul (mC (.int 2)) (mVar 6) ((wipeE [o0, o1, some (.tup (I r)), some (.loc S.length), o4, o5, o6, o7, o8, o9, o10] [6]).set 6 (some (.int (k : Int)))) (S ++ [.lst (Rws acc)]) = .ok (.int ((2 * k : Nat) : Int)) (S ++ [.lst (Rws acc)]) := bin_ok rfl (var_ok rfl) ((x_mul (.inl (by decide))).trans (congrArg (fun z => some (D.int z)) (by omega)))
    exact ⟨_, rfl, tup_ok (cons_ok (bin_ok (u := .tup (I r)) (v := .int ((2 * k : Nat) : Int)) (var_ok rfl) e2 (ixT g.1)) (one_ok (bin_ok (u := .tup (I r)) (v := .int ((2 * k + 1 : Nat) : Int)) (var_ok rfl) (bin_ok e2 rfl (x_add.trans (congrArg (fun z => some (D.int z)) (by omega)))) (ixT g.2)))) (by show 2 ≤ sizeLine; decide)⟩
  have hs : dSlice (.tup (I r)) (some ((2 * ps.length : Nat) : Int)) none (S ++ [.lst (Rws acc)]) = some (.tup (I (r.drop (2 * ps.length)))) := by
    show some (D.tup (cutD (I r) (some ((2 * ps.length : Nat) : Int)) none)) = _
    have h : cutD (I r) (some ((2 * ps.length : Nat) : Int)) none = ((I r).drop (HT.sIx (I r).length 0 (some ((2 * ps.length : Nat) : Int)))).take (HT.sIx (I r).length (I r).length none - HT.sIx (I r).length 0 (some ((2 * ps.length : Nat) : Int))) := rfl
    rw [h, HT.sIx_nat, show HT.sIx (I r).length (I r).length none = (I r).length from rfl, Nat.min_eq_left (by rw [List.length_map]; omega), List.take_of_length_le (by rw [List.length_drop]; exact Nat.le_refl _)]
    unfold I
    rw [List.map_drop]
  refine (seq_nx (set_ok (slice_ok (var_ok (d := .tup (I r)) rfl) (M.part_ok (k := ((2 * ps.length : Nat) : Int)) (bin_ok rfl (call_ok (one_ok (var_ok (d := .lst (ps.map pD)) rfl)) (len_lst.trans (by rw [List.length_map]))) ((x_mul (.inl (by decide))).trans (congrArg (fun z => some (D.int z)) (by omega))))) rfl hs))).trans ?_
  have comp : ∀ (me : ME) (f : Int × Int → Int) (e : M.Env), e[5]? = some (some (.lst (ps.map pD))) → (∀ p : Int × Int, me (((wipeE e [9, 10]).set 9 (some (.int p.1))).set 10 (some (.int p.2))) (S ++ [.lst (Rws acc)]) = .ok (.int (f p)) (S ++ [.lst (Rws acc)])) →
      mCall dTuple (mCons (asV (mLc (mSrc (mVar 5)) (gTup 2 (gCons (gN 9) (gCons (gN 10) gNil))) mYes me [9, 10])) mNil) e (S ++ [.lst (Rws acc)]) = .ok (.tup (I (ps.map f))) (S ++ [.lst (Rws acc)]) := fun me f e h5 hm => by
    refine tuple_ok ((x_mLc' (src_lst (var_ok h5)) (by rw [List.length_map]; omega)).trans ?_)
    have := lc_map (S := S ++ [.lst (Rws acc)]) (xs := ps.map pD) (t := gTup 2 (gCons (gN 9) (gCons (gN 10) gNil))) (me := me) (e := wipeE e [9, 10]) pD (fun p => D.int (f p)) ps fun p _ => ⟨_, rfl, hm p⟩
    refine Eq.trans this ?_
    unfold I
    rw [List.map_map]; rfl
  refine (seq_nx (setg_ok (tup_ok (cons_ok (bin_ok (comp e__law_own_2 (fun p => (p.1 + p.2) / 2) _ rfl fun p => bin_ok (bin_ok (var_ok rfl) (var_ok rfl) x_add) rfl (x_fdiv ⟨by decide, by decide⟩)) (var_ok (d := .tup (I (r.drop (2 * ps.length)))) rfl) ((cat_tup (by simp; omega)).trans (by rw [I_app]))) (one_ok (comp e__law_own_3 (fun p => p.2 - p.1) _ rfl fun p => bin_ok (var_ok rfl) (var_ok rfl) x_sub))) (by show 2 ≤ sizeLine; decide)) rfl)).trans ?_
  rw [hl]
  refine expr_ok (d := .non) (meth_ok (var_ok rfl) rcv_last (one_ok (var_ok rfl)) ((app_last (by rw [List.length_map]; omega)).trans ?_))
  rw [Rws, Rws, List.map_append]; rfl
theorem own_loop {S : Store} {xs : List D} {o0 o1 : Option D} : ∀ (ds : List D) (r : List Int) (acc : List (List Int)) (o4 o5 o6 o7 o8 o9 o10 : Option D), r.length ≤ 5000 → acc.length + ds.length ≤ 50 → ∃ o4' o5' o6' o7' o8' o9' o10',
    M.forM ⟨xs, []⟩ (gN 4) l__law_own_4 ds [o0, o1, some (.tup (I r)), some (.loc S.length), o4, o5, o6, o7, o8, o9, o10] (S ++ [.lst (Rws acc)]) =
      some (.nx, [o0, o1, some (.tup (I (tow ds.length r).1)), some (.loc S.length), o4', o5', o6', o7', o8', o9', o10'], S ++ [.lst (Rws (acc ++ (tow ds.length r).2))])
  | [], r, acc, o4, o5, o6, o7, o8, o9, o10, _, _ => ⟨o4, o5, o6, o7, o8, o9, o10, by
    rw [show (tow [].length r).2 = [] from rfl, List.append_nil]; exact for_nil⟩
  | d :: ds, r, acc, o4, o5, o6, o7, o8, o9, o10, hz, hn => by
    simp only [List.length_cons] at hn
    have hl := lift_len r
    obtain ⟨a5, a6, a7, a9, a10, h1⟩ := own_turn (S := S) r hz acc (by omega) o0 o1 (some d) o5 o6 o7 o8 o9 o10
    obtain ⟨b4, b5, b6, b7, b8, b9, b10, h2⟩ := own_loop (S := S) (xs := xs) (o0 := o0) (o1 := o1) ds (lift r).1 (acc ++ [(lift r).2]) (some d) a5 a6 a7 (some (.tup (I (lift r).2))) a9 a10 (by omega) (by simp; omega)
    refine ⟨b4, b5, b6, b7, b8, b9, b10, (for_cons rfl h1).trans (h2.trans ?_)⟩
    rw [List.append_assoc]; rfl
theorem own_ok {S : Store} (hS : clS S.length S = true) (r : List Int) {n : Nat} (hn : n ≤ 6) (hz : r.length ≤ 5000) : m__law_own [.tup (I r), .int (n : Int)] S = .ok (TW (tow n r)) S := by
  obtain ⟨b4, b5, b6, b7, b8, b9, b10, h⟩ := own_loop (S := S) (xs := rng 0 n) (o0 := some (.tup (I r))) (o1 := some (.int (n : Int))) (rng 0 n) r [] none none none none none none none hz (by rw [rng_len]; simp; omega)
  rw [rng_len, List.nil_append] at h
  refine (retV_ok (d := TW (tow n r)) (d' := TW (tow n r)) (S' := S ++ [.lst (Rws (tow n r).2)]) (run_rt (e' := [some (.tup (I r)), some (.int (n : Int)), some (.tup (I (tow n r).1)), some (.loc S.length), b4, b5, b6, b7, b8, b9, b10]) ?_) (by simpa using hS) ?_).trans (by simp)
  · show b__law_own [some (.tup (I r)), some (.int (n : Int)), none, none, none, none, none, none, none, none, none] S = _
    unfold b__law_own
    refine (seq_nx (setg_ok (tup_ok (cons_ok (var_ok rfl) (one_ok (asL_ok (lst_ok rfl (Nat.zero_le _))))) (by show 2 ≤ sizeLine; decide)) rfl)).trans ?_
    exact (seq_nx (for_ok (src_rng' n (by omega) (var_ok rfl)) h)).trans (ret_ok (tup_ok (cons_ok (var_ok rfl) (one_ok (call_ok (one_ok (var_ok rfl)) (tup_at (get_last _ _))))) (by show 2 ≤ sizeLine; decide)))
  · simp only [M.fz, M.cl, M.cls, cls_I, cls_Rws, Bool.and_true, if_true]
end
end K40


set_option Elab.async false
set_option linter.all false
set_option maxRecDepth 100000
set_option maxHeartbeats 4000000
/-! k40: means, extremes, changed rows, planes -/
namespace K40
open PySem PySem.Spec PyProof.Rows L2 M M.Lf
section
variable [Tabs]
theorem sum_t {S : Store} {l : List Int} : dSum [.tup (I l)] S = some (.int l.sum) := by
  show ((seqOf S (.tup (I l))).bind intsOf).map _ = _
  have : seqOf S (.tup (I l)) = some (I l) := rfl
  rw [this, Option.bind_some, ints_I]
  rfl
theorem row_fun (r : List Int) {n : Nat} (h : r.length = n) : ∃ f : Nat → Int, r = rowL f n := ⟨fun j => r.getD j 0, by rw [← h, rowL_of]⟩
theorem p32 {n : Nat} (hn : n ≤ 5) : 2 ^ n ≤ 32 := Nat.pow_le_pow_right (n := 2) (j := 5) (by decide) hn
theorem chain_ok {S : Store} {e : M.Env} {x y z : ME} {u v w : Int} (hx : x e S = .ok (.int u) S) (hy : y e S = .ok (.int v) S) (hz : z e S = .ok (.int w) S) (h : u ≤ v ∧ v ≤ w) : mChain dLe dLe x y z e S = .ok (.bl true) S := g_chain hx hy hz h
theorem ix_at {S : Store} {e : M.Env} {x : ME} {xs : List D} {d : D} (k : Nat) (hx : x e S = .ok (.tup xs) S) (h : xs[k]? = some d) : mBin dIx x (mC (.int (k : Int))) e S = .ok d S := bin_ok (v := .int (k : Int)) hx rfl (ix_tup xs k d _ h)
theorem means_ok {S : Store} (hS : clS S.length S = true) (r : List Int) {n : Nat} (hn : n ≤ 5) (hr : r.length = 2 ^ n) : m__law_means [.tup (I r), .int (n : Int)] S = .ok (.bl true) S := by
  have h32 := p32 hn
  obtain ⟨f, rfl⟩ := row_fun r hr
  have ht := tower_ok hS (rowL f (2 ^ n)) (n := n) (by omega) (by rw [rowL_len]; omega)
  have hm := last_mean n f
  have hl : (TW (tow n (rowL f (2 ^ n)))) = .tup [.tup (I [lastN n f]), .tup (Rws (tow n (rowL f (2 ^ n))).2)] := by
    show D.tup [.tup (I (tow n (rowL f (2 ^ n))).1), _] = _
    rw [tow_last]
  rw [hl] at ht
  refine retV_id (run_rt (e' := [some (.tup (I (rowL f (2 ^ n)))), some (.int (n : Int)), some (.int (lastN n f)), some (.int ((2 ^ n : Nat) : Int))]) ?_) hS rfl
  show b__law_means [some (.tup (I (rowL f (2 ^ n)))), some (.int (n : Int)), none, none] S = _
  refine (seq_nx (par_ok (ix_at 0 (ix_at 0 (callF_ok (cons_ok (var_ok rfl) (one_ok (var_ok rfl))) ht) rfl) rfl) (call_ok (one_ok (var_ok rfl)) (len_tup.trans (by rw [I_len]))))).trans (ret_ok ?_)
  have hc : ((2 ^ n : Nat) : Int) = 2 ^ n := Int.natCast_pow 2 n
  have e1 : ∀ e : M.Env, e[3]? = some (some (.int ((2 ^ n : Nat) : Int))) → e[2]? = some (some (.int (lastN n f))) → mBin dMul (mBin dMul (mC (.int 2)) (mVar 3)) (mVar 2) e S = .ok (.int (2 * ((2 ^ n : Nat) : Int) * lastN n f)) S := fun e h3 h2 => bin_ok (bin_ok rfl (var_ok h3) (x_mul (.inl (by decide)))) (var_ok h2) (x_mul (.inl (by omega)))
  refine chain_ok (u := 2 * ((2 ^ n : Nat) : Int) * lastN n f) (v := 2 * (rowL f (2 ^ n)).sum) (w := 2 * ((2 ^ n : Nat) : Int) * lastN n f + (n : Int) * ((2 ^ n : Nat) : Int)) (e1 _ rfl rfl) (bin_ok rfl (call_ok (one_ok (var_ok rfl)) sum_t) (x_mul (.inl (by decide)))) (bin_ok (e1 _ rfl rfl) (bin_ok (var_ok rfl) (var_ok rfl) (x_mul (.inl (by omega)))) x_add) ?_
  unfold sumN at hm
  rw [hc, Int.mul_assoc]
  generalize (rowL f (2 ^ n)).sum = A at *
  generalize (2 : Int) ^ n * lastN n f = B at *
  generalize (n : Int) * 2 ^ n = C at *
  omega
theorem eq_tt {S : Store} {e : M.Env} {x y : ME} {d : D} (hx : x e S = .ok d S) (hy : y e S = .ok d S) (h : pq 7 d = true) : mBin dEq x y e S = .ok (.bl true) S := bin_ok hx hy (dEq_self h (by decide))
theorem andV_tt {S : Store} {e : M.Env} {x y : ME} {d : D} (hx : x e S = .ok (.bl true) S) (hy : y e S = .ok d S) : mAndV x y e S = .ok d S := by rw [x_mAndV, hx, Res.bind_ok]; exact hy
theorem steep_len (n : Nat) : (steep n).length = 2 ^ n := by
  induction n with
  | zero => rfl
  | succ n ih => rw [steep, List.length_append, List.length_map, ih, Nat.pow_succ]; omega
theorem extremes_ok {S : Store} (hS : clS S.length S = true) {n : Nat} (hn : n ≤ 5) : m__law_extremes [.int (n : Int)] S = .ok (.bl true) S := by
  have h32 := p32 hn
  obtain ⟨k1, k2, k3⟩ := steep_last n (by omega)
  have hsl := steep_len n
  have loop : ∀ (ds : List D) (c : Nat) (xs : List D) (o2 o3 o4 : Option D), c + ds.length ≤ 5 → ∃ o2' o3', M.forM ⟨xs, []⟩ (gN 2) l__law_extremes_2 ds [some (.int (n : Int)), some (.tup (I (steep c))), o2, o3, o4] S = some (.nx, [some (.int (n : Int)), some (.tup (I (steep (c + ds.length)))), o2', o3', o4], S) := by
    intro ds
    induction ds with
    | nil => intro c xs o2 o3 o4 _; exact ⟨o2, o3, for_nil⟩
    | cons d ds ih =>
      intro c xs o2 o3 o4 hc
      simp only [List.length_cons] at hc
      have hcl := steep_len c
      have hc32 := p32 (show c ≤ 5 by omega)
      obtain ⟨o2', o3', h⟩ := ih (c + 1) xs (some d) o3 o4 (by omega)
      refine ⟨o2', o3', (for_cons (e1 := [some (.int (n : Int)), some (.tup (I (steep c))), some d, o3, o4]) (e2 := [some (.int (n : Int)), some (.tup (I (steep (c + 1)))), some d, o3, o4]) rfl ?_).trans (h.trans ?_)⟩
      · refine set_ok (bin_ok (var_ok rfl) (tuple_ok (ys := I ((steep c).map (· + 1))) ((x_mLc' (src_tup (xs := I (steep c)) (var_ok rfl)) (by rw [List.length_map]; omega)).trans ?_)) ((cat_tup (by rw [List.length_map, List.length_map, List.length_map]; omega)).trans (by rw [I_app]; rfl)))
        have := lc_map (S := S) (xs := I (steep c)) (t := gN 3) (me := e__law_extremes_1) (e := wipeE [some (.int (n : Int)), some (.tup (I (steep c))), some d, o3, o4] [3]) D.int (fun x => D.int (x + 1)) (steep c) fun x _ => ⟨_, rfl, bin_ok (var_ok rfl) rfl x_add⟩
        refine Eq.trans this ?_
        unfold I
        rw [List.map_map]; rfl
      · rw [List.length_cons, show c + 1 + ds.length = c + (ds.length + 1) by omega]
  obtain ⟨o2', o3', h⟩ := loop (rng 0 n) 0 (rng 0 n) none none none (by rw [rng_len]; omega)
  rw [rng_len, Nat.zero_add] at h
  have t1 := tower_ok hS (steep n) (n := n) (by omega) (by omega)
  have t2 := tower_ok hS (List.replicate (steep n).length 7) (n := n) (by omega) (by simp; omega)
  refine retV_id (run_rt (e' := [some (.int (n : Int)), some (.tup (I (steep n))), o2', o3', some (.tup (I (tow n (steep n)).1))]) ?_) hS rfl
  show b__law_extremes [some (.int (n : Int)), none, none, none, none] S = _
  refine (seq_nx (set_ok (tup_ok (one_ok rfl) (by show 1 ≤ sizeLine; decide)))).trans ((seq_nx (for_ok (src_rng' n (by omega) (var_ok rfl)) h)).trans ?_)
  refine (seq_nx (set_ok (ix_at 0 (callF_ok (cons_ok (var_ok rfl) (one_ok (var_ok rfl))) t1) rfl))).trans (ret_ok ?_)
  refine andV_tt (eq_tt (d := .tup (I [0])) ?_ (tup_ok (one_ok rfl) (by show 1 ≤ sizeLine; decide)) rfl) (andV_tt (eq_tt (d := .int (2 * (steep n).sum)) (bin_ok rfl (call_ok (one_ok (var_ok rfl)) sum_t) (x_mul (.inl (by decide)))) ?_ (pq_int _ _)) (eq_tt (d := .tup (I [7])) ?_ (tup_ok (one_ok rfl) (by show 1 ≤ sizeLine; decide)) rfl))
  · rw [k1]; exact var_ok rfl
  · rw [k2]
    exact bin_ok (var_ok rfl) (call_ok (one_ok (var_ok rfl)) (len_tup.trans (by rw [List.length_map]))) (x_mul (.inl (by omega)))
  · refine ix_at 0 (callF_ok (cons_ok (bin_ok (u := .tup [.int 7]) (v := .int ((steep n).length : Int)) (tup_ok (one_ok rfl) (by show 1 ≤ sizeLine; decide)) (call_ok (one_ok (var_ok rfl)) (len_tup.trans (by rw [List.length_map]))) ((g_mul0 (by omega)).trans ?_)) (one_ok (var_ok rfl))) t2) (by rw [k3]; rfl)
    unfold I
    rw [List.map_replicate]
/-- each raised, by a comprehension -/
theorem c_map {S : Store} {e : M.Env} {ms me : ME} {i : Nat} (f : Int → Int) {r : List Int} (hs : ms e S = .ok (.tup (I r)) S) (hz : r.length ≤ 5000) (hm : ∀ x : Int, me ((wipeE e [i]).set i (some (.int x))) S = .ok (.int (f x)) S) : mCall dTuple (mCons (asV (mLc (mSrc ms) (gN i) mYes me [i])) mNil) e S = .ok (.tup (I (r.map f))) S := by
  refine tuple_ok ((x_mLc' (src_tup hs) (by rw [List.length_map]; omega)).trans ?_)
  have := lc_map (S := S) (xs := I r) (t := gN i) (me := me) (e := wipeE e [i]) D.int (fun x => D.int (f x)) r fun x _ => ⟨_, rfl, hm x⟩
  refine Eq.trans this ?_
  unfold I
  rw [List.map_map]; rfl
theorem c_mapN {S : Store} {e : M.Env} {ma me : ME} {i : Nat} (f : Nat → Int) {n : Nat} (hs : ma e S = .ok (.int (n : Int)) S) (hz : n ≤ 5000) (hm : ∀ k < n, me ((wipeE e [i]).set i (some (.int (k : Int)))) S = .ok (.int (f k)) S) : mLc (mSrcA srcR1 (mCons ma mNil)) (gN i) mYes me [i] e S = .ok (I (rowL f n)) S := by
  refine (x_mLc' (src_rng' n (by omega) hs) (by rw [rng_len]; omega)).trans ?_
  rw [rng_map]
  have e1 : I (rowL f n) = (List.range n).map fun k => D.int (f k) := by
    unfold I rowL
    rw [List.map_map]; rfl
  rw [e1]
  exact lc_map (S := S) (t := gN i) (me := me) (fun (k : Nat) => D.int (k : Int)) (fun k => D.int (f k)) (List.range n) fun k hk => ⟨_, rfl, hm k (List.mem_range.mp hk)⟩
theorem pq_tow (n : Nat) (hn : n ≤ 6) (r : List Int) (hr : r.length ≤ 5000) : pq 7 (TW (tow n r)) = true :=
  pq_mono _ (by decide) (pq_TW (s := (tow n r).1) (ds := (tow n r).2) (tow_small n r hr).1 (by rw [tow_len]; omega) (tow_small n r hr).2)
theorem changed_ok (r : List Int) {n : Nat} (hn : n ≤ 5) (hr : r.length = 2 ^ n) (l : List Int) : ∃ l', m__law_changed [.loc 0, .tup (I r), .int (n : Int)] (St l) = .ok (.bl true) (St l') := by
  have h32 := p32 hn
  obtain ⟨m0, l1, hm0, q0⟩ := take_nat 2001 (by decide) l
  obtain ⟨f0, l2, hf0, q1⟩ := take_nat 99 (by decide) l1
  obtain ⟨s0, l3, hs0, q2⟩ := take_nat 41 (by decide) l2
  generalize hm : (m0 : Int) - 1000 = m
  generalize hf : (f0 : Int) - 49 = f
  generalize hs : (s0 : Int) - 20 = s
  have hS1 := hSt l1
  have hS3 := hSt l3
  have t0 := tower_ok hS1 r (n := n) (by omega) (by omega)
  have tr := tow_raise m n r
  have ts := tow_small n r (by omega)
  generalize hsm : r.map (· % 1000) = sm
  have hsml : sm.length = 2 ^ n := by rw [← hsm, List.length_map, hr]
  refine ⟨l3, (retV_ok (d := .bl true) (d' := .bl true) (S' := St l3) (run_rt (e' := [some (.loc 0), some (.tup (I r)), some (.int (n : Int)), some (.int m), some (.int ((2 ^ n : Nat) : Int)), some (TW (tow n r)), none, some (.int f), some (.int s), some (TW (tow 1 (rowL (fun k => f + s * (k : Int)) (2 ^ n)))), none, some (.tup (I sm)), some (TW (tow n (sm.map (((2 ^ n : Nat) : Int) * ·))))]) ?_) (clS_St _ _) rfl).trans rfl⟩
  show b__law_changed [some (.loc 0), some (.tup (I r)), some (.int (n : Int)), none, none, none, none, none, none, none, none, none, none] (St l) = _
  unfold b__law_changed
  refine (seq_nx (setg_ok (tup_ok (cons_ok (bin_ok (c_take rfl rfl q0) rfl (x_sub.trans (by rw [hm]))) (one_ok (callF_ok (one_ok (var_ok rfl)) (two_ok hS1 (by omega))))) (by show 2 ≤ sizeLine; decide)) rfl)).trans ?_
  refine (seq_nx (set_ok (callF_ok (cons_ok (var_ok rfl) (one_ok (var_ok rfl))) t0))).trans ?_
  refine (seq_nx (if_skip (g_not (g_alike1 hS1 (d := TW (tow n (raise m r))) ?_ ?_ (pq_tow n (by omega) _ (by unfold raise; rw [List.length_map]; omega)))))).trans ?_
  · exact callF_ok (cons_ok (c_map (· + m) (var_ok rfl) (by omega) fun x => bin_ok (var_ok rfl) (var_ok rfl) x_add) (one_ok (var_ok rfl))) (tower_ok hS1 _ (by omega) (by rw [List.length_map]; omega))
  · rw [tr]
    exact tup_ok (cons_ok (c_map (· + m) (ix_at 0 (var_ok (d := TW (tow n r)) rfl) rfl) ts.1 fun x => bin_ok (var_ok rfl) (var_ok rfl) x_add) (one_ok (ix_at 1 (var_ok (d := TW (tow n r)) rfl) rfl))) (by show 2 ≤ sizeLine; decide)
  refine (seq_nx (setg_ok (tup_ok (cons_ok (bin_ok (c_take rfl rfl q1) rfl (x_sub.trans (by rw [hf]))) (one_ok (bin_ok (c_take rfl rfl q2) rfl (x_sub.trans (by rw [hs]))))) (by show 2 ≤ sizeLine; decide)) rfl)).trans ?_
  refine (seq_nx (set_ok (callF_ok (cons_ok (tuple_ok (c_mapN (fun k => f + s * (k : Int)) (n := 2 ^ n) (call_ok (one_ok (var_ok (d := .tup (I r)) rfl)) (len_tup.trans (by rw [List.length_map, hr]))) (by omega) fun k hk => bin_ok (var_ok rfl) (bin_ok (v := .int (k : Int)) (var_ok rfl) (var_ok rfl) (x_mul (.inr (by omega)))) x_add)) (one_ok rfl)) (tower_ok hS3 _ (n := 1) (by decide) (by rw [rowL_len]; omega))))).trans ?_
  refine (seq_nx (if_skip (S1 := St l3) ?_)).trans ?_
  · by_cases h0 : n = 0
    · subst h0
      exact g_andf (b_ok (bin_ok (var_ok rfl) rfl (x_gt.trans rfl)))
    · obtain ⟨q, rfl⟩ : ∃ q, n = q + 1 := ⟨n - 1, by omega⟩
      refine g_andt (b_ok (bin_ok (var_ok rfl) rfl (x_gt.trans (by rw [decide_eq_true (by omega)])))) (g_not (g_alike1 hS3 (d := .tup [.tup (I (List.replicate (2 ^ q) s))]) ?_ ?_ ?_))
      · have e1 : tow 1 (rowL (fun k => f + s * (k : Int)) (2 ^ (q + 1))) = ((lift (rowL (fun k => f + s * (k : Int)) (2 ^ (q + 1)))).1, [(lift (rowL (fun k => f + s * (k : Int)) (2 ^ (q + 1)))).2]) := rfl
        have e2 : (lift (rowL (fun k => f + s * (k : Int)) (2 ^ (q + 1)))).2 = List.replicate (2 ^ q) s := by
          rw [Nat.pow_succ, Nat.mul_comm (2 ^ q) 2, lift_rowL, rising_D1]
          unfold rowL
          rw [List.map_const', List.length_range]
        refine (ix_at 1 (var_ok (d := TW (tow 1 (rowL (fun k => f + s * (k : Int)) (2 ^ (q + 1))))) rfl) (d := .tup [.tup (I (List.replicate (2 ^ q) s))]) ?_)
        show some (D.tup (Rws (tow 1 (rowL (fun k => f + s * (k : Int)) (2 ^ (q + 1)))).2)) = _
        rw [e1]
        show some (D.tup [.tup (I (lift (rowL (fun k => f + s * (k : Int)) (2 ^ (q + 1)))).2)]) = _
        rw [e2]
      · have hh : 2 ^ (q + 1) / 2 = 2 ^ q := by rw [Nat.pow_succ]; omega
        refine tup_ok (one_ok (bin_ok (u := .tup [.int s]) (v := .int ((2 ^ q : Nat) : Int)) (tup_ok (one_ok (var_ok rfl)) (by show 1 ≤ sizeLine; decide)) (bin_ok (call_ok (one_ok (var_ok (d := .tup (I r)) rfl)) len_tup) rfl ((x_fdiv ⟨by decide, by decide⟩).trans (congrArg (fun z => some (D.int z)) (by rw [List.length_map, hr]; omega)))) ((g_mul0 (by omega)).trans ?_))) (by show 1 ≤ sizeLine; decide)
        unfold I
        rw [List.map_replicate]
      · refine pq_mono (n := 2) _ (by decide) (pq_tup (by simp) ?_)
        simp only [pqs, Bool.and_true]
        exact pq_row 0 (by simp; omega)
  refine (seq_nx (set_ok (c_map (· % 1000) (var_ok (d := .tup (I r)) rfl) (by omega) fun x => bin_ok (v := .int 1000) (call_ok (one_ok (var_ok rfl)) x_int) rfl (x_mod (by decide))))).trans ?_
  rw [hsm]
  refine (seq_nx (set_ok (callF_ok (cons_ok (c_map (((2 ^ n : Nat) : Int) * ·) (var_ok (d := .tup (I sm)) rfl) (by omega) fun x => bin_ok (u := .int ((2 ^ n : Nat) : Int)) (var_ok rfl) (var_ok rfl) (x_mul (.inl (by omega)))) (one_ok (var_ok rfl))) (tower_ok hS3 _ (n := n) (by omega) (by rw [List.length_map]; omega))))).trans (ret_ok ?_)
  by_cases h0 : n = 0
  · subst h0
    rw [x_mOrV, bin_ok (u := .int ((0 : Nat) : Int)) (var_ok rfl) rfl x_eqI]
    rfl
  · rw [x_mOrV, bin_ok (u := .int (n : Int)) (var_ok rfl) rfl x_eqI, Res.bind_ok, decide_eq_false (by omega)]
    show mBin dEq _ _ _ _ = _
    obtain ⟨g, hg⟩ := row_fun sm hsml
    have e1 : sm.map (((2 ^ n : Nat) : Int) * ·) = rowL (fun j => 2 ^ n * g j) (2 ^ n) := by
      rw [hg, rowL_map, Int.natCast_pow]; rfl
    have e2 : (tow n (sm.map (((2 ^ n : Nat) : Int) * ·))).1 = [sm.sum] := by
      rw [e1, tow_last, great_last]
      unfold sumN
      rw [← hg]
    refine eq_tt (d := .int (((2 ^ n : Nat) : Int) * sm.sum)) ?_ (bin_ok (var_ok rfl) (call_ok (one_ok (var_ok rfl)) sum_t) (x_mul (.inl (by omega)))) (pq_int _ _)
    refine bin_ok (u := .int sm.sum) (v := .int ((2 ^ n : Nat) : Int)) (ix_at 0 (ix_at 0 (var_ok (d := TW (tow n (sm.map (((2 ^ n : Nat) : Int) * ·)))) rfl) rfl) ?_) (call_ok (one_ok (var_ok (d := .tup (I r)) rfl)) (len_tup.trans (by rw [List.length_map, hr]))) ((x_mul (.inr (by omega))).trans (congrArg (fun z => some (D.int z)) (Int.mul_comm _ _)))
    rw [e2]; rfl
end
end K40


set_option Elab.async false
set_option linter.all false
set_option maxRecDepth 100000
set_option maxHeartbeats 4000000
/-! k40: planes, fields, the law -/
namespace K40
open PySem PySem.Spec PyProof.Rows L2 M M.Lf
section
variable [Tabs]
theorem cat_lst {xs ys : List D} {S : Store} (h : xs.length + ys.length ≤ 100000) : dAdd (.lst xs) (.lst ys) S = some (.lst (xs ++ ys)) := if_pos (sz h)
theorem par3_ok {S : Store} {e : M.Env} {i j l : Nat} {x y z : ME} {a b c : D} {S1 S2 S3 : Store} (hx : x e S = .ok a S1) (hy : y e S1 = .ok b S2) (hz : z e S2 = .ok c S3) : sPar3 i j l (mCons x (mCons y (mCons z mNil))) e S = some (.nx, ((e.set i (some a)).set j (some b)).set l (some c), S3) := by
  unfold sPar3
  rw [cons_ok hx (cons_ok hy (one_ok hz))]
  rfl
/-- drawn planes -/
theorem planes_draw {e : M.Env} {i j : Nat} {me : ME} {n b : Nat} (h0 : e[0]? = some (some (.loc 0))) (hj : j ≠ 0) (hi : e[i]? = some (some (.int (n : Int)))) (hn : n ≤ 1000) (hb : 0 < b) (hm : ∀ e : M.Env, ∀ S, me e S = mCallF 2 m__law_take (mCons (mVar 0) (mCons (mC (.int (b : Int))) mNil)) e S) (l : List Int) :
    ∃ (ps : List Nat) (l' : List Int), ps.length = n ∧ (∀ p ∈ ps, p < b) ∧ mCall dTuple (mCons (asV (mLc (mSrcA srcR1 (mCons (mVar i) mNil)) (gN j) mYes me [j])) mNil) e (St l) = .ok (.tup (N ps)) (St l') := by
  obtain ⟨ys, l2, y1, y2, y3⟩ := lc_run (t := gN j) (me := me) (e := wipeE e [j]) (xs := rng 0 n) (P := fun (y : D) => ∃ x : Nat, y = .int (x : Int) ∧ x < b) St (rng 0 n) l (fun d hd l => by
    obtain ⟨x, l', hx, q⟩ := take_nat b hb l
    refine ⟨_, .int (x : Int), l', rfl, ⟨x, rfl, hx⟩, (hm _ _).trans (c_take ?_ rfl q)⟩
    rw [List.getElem?_set_ne hj]
    show (e.set j none)[0]? = _
    rw [List.getElem?_set_ne hj]; exact h0)
  rw [rng_len] at y1
  obtain ⟨ps, rfl, hps⟩ := nats_of y2
  exact ⟨ps, l2, by simpa using y1, hps, tuple_ok ((x_mLc' (src_rng' n (by omega) (var_ok hi)) (by rw [rng_len]; omega)).trans y3)⟩
theorem foldl_min_ge {k : Int} : ∀ (xs : List Int) (a : Int), k ≤ a → (∀ x ∈ xs, k ≤ x) → k ≤ xs.foldl min a
  | [], a, h, _ => h
  | y :: ys, a, h, q => foldl_min_ge ys (min a y) (by have := q y (by simp); omega) fun x m => q x (List.mem_cons_of_mem _ m)
theorem foldl_max_le {k : Int} : ∀ (xs : List Int) (a : Int), a ≤ k → (∀ x ∈ xs, x ≤ k) → xs.foldl max a ≤ k
  | [], a, h, _ => h
  | y :: ys, a, h, q => foldl_max_le ys (max a y) (by have := q y (by simp); omega) fun x m => q x (List.mem_cons_of_mem _ m)
theorem lo_ge {k : Int} {l : List Int} (h : l ≠ []) (q : ∀ x ∈ l, k ≤ x) : k ≤ lo l := by
  obtain ⟨x, xs, rfl⟩ := List.exists_cons_of_ne_nil h
  exact foldl_min_ge xs x (q x (by simp)) fun y m => q y (List.mem_cons_of_mem _ m)
theorem hi_le {k : Int} {l : List Int} (h : l ≠ []) (q : ∀ x ∈ l, x ≤ k) : hi l ≤ k := by
  obtain ⟨x, xs, rfl⟩ := List.exists_cons_of_ne_nil h
  exact foldl_max_le xs x (q x (by simp)) fun y m => q y (List.mem_cons_of_mem _ m)
theorem planes_ok (r : List Int) {n : Nat} (hn : n ≤ 5) (hr : r.length = 2 ^ n) (l : List Int) : ∃ l', m__law_planes [.loc 0, .tup (I r), .int (n : Int)] (St l) = .ok (.bl true) (St l') := by
  have h32 := p32 hn
  obtain ⟨ps, l1, hpl, hps, q0⟩ := planes_draw (e := [some (.loc 0), some (.tup (I r)), some (.int (n : Int)), none, none, none, none, none, none, none, none]) (i := 2) (j := 4) (me := e__law_planes_1) (n := n) (b := 5) rfl (by decide) rfl (by omega) (by decide) (fun _ _ => rfl) l
  have hps4 : ∀ p ∈ ps, p ≤ 4 := fun p hp => by have := hps p hp; omega
  have hS := hSt l1
  have hsh := shown_row_ok hS r hps4 (by omega) (by omega)
  have hsl := shown_len r ps
  have hnear := shown_near r ps hps4
  have hbo := bounds_ok hS hps4 (by omega)
  have hup := shown_raise 5 r ps
  have hsum : (tow n (shown r ps)).1 = (tow n r).1 := by
    obtain ⟨f, hf⟩ := row_fun r hr
    have := shown_sums ps 1 f
    rw [Nat.mul_one, hpl, ← hf] at this
    exact this
  have hz := shown_row_ok hS r (ps := List.replicate n 0) (fun p hp => by rw [List.eq_of_mem_replicate hp]; decide) (by simp; omega) (by omega)
  rw [shown_zero] at hz
  have hsr := shown_row_ok hS (raise 5 r) hps4 (by omega) (by rw [raise_len]; omega)
  rw [hup] at hsr
  generalize shown r ps = s at *
  generalize hof : rowL (fun i => s.getD i 0 - r.getD i 0) (2 ^ n) = off
  have hne : off ≠ [] := by
    have h0 : 0 < 2 ^ n := Nat.two_pow_pos _
    intro z
    have := congrArg List.length z
    rw [← hof, rowL_len] at this
    simp at this
  have hoff : ∀ x ∈ off, leastS ps ≤ x ∧ x ≤ mostS ps := fun x hx => by
    rw [← hof] at hx
    obtain ⟨i, hi, rfl⟩ := List.mem_map.mp hx
    have hi' := List.mem_range.mp hi
    have e1 : s[i]? = some (s.getD i 0) := by simp [List.getD, List.getElem?_eq_getElem (show i < s.length by omega)]
    have e2 : r[i]? = some (r.getD i 0) := by simp [List.getD, List.getElem?_eq_getElem (show i < r.length by omega)]
    exact near_at hnear e1 e2
  refine ⟨l1, (retV_ok (d := .bl true) (d' := .bl true) (S' := St l1) (run_rt (e' := [some (.loc 0), some (.tup (I r)), some (.int (n : Int)), some (.tup (N ps)), none, some (.int (leastS ps)), some (.int (mostS ps)), some (.tup (I s)), some (.lst (I off)), none, none]) ?_) (clS_St _ _) rfl).trans rfl⟩
  show b__law_planes [some (.loc 0), some (.tup (I r)), some (.int (n : Int)), none, none, none, none, none, none, none, none] (St l) = _
  unfold b__law_planes
  refine (seq_nx (set_ok q0)).trans ?_
  refine (seq_nx (setg_ok (callF_ok (one_ok (var_ok (d := .tup (N ps)) rfl)) hbo) rfl)).trans ?_
  refine (seq_nx (set_ok (callF_ok (cons_ok (var_ok rfl) (one_ok (var_ok (d := .tup (N ps)) rfl))) hsh))).trans ?_
  have hoffs : mLc (mSrcA srcR1 (mCons (mCall dLen (mCons (mVar 1) mNil)) mNil)) (gN 9) mYes e__law_planes_2 [9] [some (.loc 0), some (.tup (I r)), some (.int (n : Int)), some (.tup (N ps)), none, some (.int (leastS ps)), some (.int (mostS ps)), some (.tup (I s)), none, none, none] (St l1) = .ok (I off) (St l1) := by
    rw [← hof]
    refine c_mapN (fun i => s.getD i 0 - r.getD i 0) (n := 2 ^ n) (call_ok (one_ok (var_ok (d := .tup (I r)) rfl)) (len_tup.trans (by rw [List.length_map, hr]))) (by omega) fun i hi => ?_
    exact bin_ok (bin_ok (u := .tup (I s)) (v := .int (i : Int)) (var_ok rfl) (var_ok rfl) (ixT (by simp [List.getD, List.getElem?_eq_getElem (show i < s.length by omega)]))) (bin_ok (u := .tup (I r)) (v := .int (i : Int)) (var_ok rfl) (var_ok rfl) (ixT (by simp [List.getD, List.getElem?_eq_getElem (show i < r.length by omega)]))) x_sub
  refine (seq_nx (set_ok (asV_ok hoffs))).trans ?_
  refine (seq_nx (if_skip (S1 := St l1) (g_or2 (S1 := St l1) ?_ (g_or3 (S1 := St l1) (S2 := St l1) ?_ ?_ ?_)))).trans ?_
  · exact g_not (call_ok (cons_ok (var_ok (d := .tup (I s)) rfl) (one_ok rfl)) rfl)
  · exact ne_ff (call_ok (one_ok (var_ok (d := .tup (I s)) rfl)) len_tup) (call_ok (one_ok (var_ok (d := .tup (I r)) rfl)) len_tup) (neI (by rw [List.length_map, List.length_map, hsl]))
  · exact b_ok (bin_ok (call_ok (one_ok (var_ok (d := .lst (I off)) rfl)) (min_ok hne)) (var_ok rfl) (x_lt.trans (by rw [decide_eq_false (by have := lo_ge hne fun x m => (hoff x m).1; omega)])))
  · exact b_ok (bin_ok (call_ok (one_ok (var_ok (d := .lst (I off)) rfl)) (max_ok hne)) (var_ok rfl) (x_gt.trans (by rw [decide_eq_false (by have := hi_le hne fun x m => (hoff x m).2; omega)])))
  refine (seq_nx (if_skip (or_ff (g_not (g_alike1 hS (d := .tup (I r)) ?_ (var_ok rfl) (pq_mono _ (by decide) (pq_row 0 (r := r) (by omega))))) (g_not (g_alike1 hS (d := .tup (I (tow n r).1)) ?_ ?_ (pq_mono _ (by decide) (pq_row 0 (r := (tow n r).1) (by have := (tow_small n r (by omega)).1; omega)))))))).trans ?_
  · refine callF_ok (cons_ok (var_ok rfl) (one_ok (d := .tup (N (List.replicate n 0))) (bin_ok (u := .tup [.int 0]) (v := .int (n : Int)) (tup_ok (one_ok rfl) (by show 1 ≤ sizeLine; decide)) (var_ok rfl) ?_))) hz
    rw [← N_rep]
    exact g_mul0 (by omega)
  · rw [← hsum]
    exact ix_at 0 (callF_ok (cons_ok (var_ok rfl) (one_ok (var_ok rfl))) (tower_ok hS s (n := n) (by omega) (by omega))) rfl
  · exact ix_at 0 (callF_ok (cons_ok (var_ok rfl) (one_ok (var_ok rfl))) (tower_ok hS r (n := n) (by omega) (by omega))) rfl
  refine ret_ok (g_alike1 hS (d := .tup (I (raise 5 s))) ?_ ?_ (pq_mono _ (by decide) (pq_row 0 (r := raise 5 s) (by rw [raise_len]; omega))))
  · exact callF_ok (cons_ok (c_map (· + 5) (var_ok rfl) (by omega) fun x => bin_ok (var_ok rfl) rfl x_add) (one_ok (var_ok rfl))) hsr
  · exact c_map (· + 5) (var_ok rfl) (by omega) fun x => bin_ok (var_ok rfl) rfl x_add
theorem field_ok {n : Nat} (hn : n ≤ 3) (l : List Int) : ∃ l', m__law_field [.loc 0, .int (n : Int)] (St l) = .ok (.bl true) (St l') := by
  have h8 : 2 ^ n ≤ 8 := Nat.pow_le_pow_right (n := 2) (j := 3) (by decide) hn
  have h0 : 0 < 2 ^ n := Nat.two_pow_pos _
  -- the field
  obtain ⟨ys, l1, y1, y2, y3⟩ := lc_run (t := gN 5) (me := e__law_field_2) (e := wipeE [some (.loc 0), some (.int (n : Int)), some (.int ((2 ^ n : Nat) : Int)), none, none, none, none, none, none, none, none, none, none, none, none] [5]) (xs := rng 0 (2 ^ n)) (P := fun (y : D) => ∃ r : List Int, y = .tup (I r) ∧ r.length = 2 ^ n) St (rng 0 (2 ^ n)) l (fun d hd l => by
    obtain ⟨r, l', hr, q⟩ := ints_draw (e := [some (.loc 0), some (.int (n : Int)), some (.int ((2 ^ n : Nat) : Int)), none, none, some d, none, none, none, none, none, none, none, none, none]) (i := 2) (j := 4) (me := e__law_field_1) (n := 2 ^ n) rfl (by omega) (fun _ l => by
      obtain ⟨x, l', _, q⟩ := take_nat 512 (by decide) l
      exact ⟨_, l', c_take rfl rfl q⟩) l
    exact ⟨_, .tup (I r), l', rfl, ⟨r, rfl, hr⟩, q⟩)
  rw [rng_len] at y1
  obtain ⟨R, rfl, hR⟩ := rows_of y2
  have hRl : R.length = 2 ^ n := by simpa using y1
  obtain ⟨F, hF⟩ : ∃ F : Fld, fldL F (2 ^ n) (2 ^ n) = R := ⟨_, by
    have := fldL_of R (2 ^ n) hR
    rw [hRl] at this
    exact this⟩
  obtain ⟨ps, l2, hpl, hps, q1⟩ := planes_draw (e := [some (.loc 0), some (.int (n : Int)), some (.int ((2 ^ n : Nat) : Int)), some (FD F (2 ^ n) (2 ^ n)), none, none, none, none, none, none, none, none, none, none, none]) (i := 1) (j := 9) (me := e__law_field_4) (n := n) (b := 3) rfl (by decide) rfl (by omega) (by decide) (fun _ _ => rfl) l1
  have hps4 : ∀ p ∈ ps, p ≤ 4 := fun p hp => by have := hps p hp; omega
  have hS0 := hSt l
  have hS1 := hSt l1
  have hS := hSt l2
  have ft := field_tower_ok hS1 F (n := n) (a := 1) (b := 1) (by omega) (by decide) (by decide) (by omega) (by omega)
  rw [Nat.mul_one] at ft
  have tl := towF_len n F
  have fo := field_of_ok hS (towF n F).1 (towF n F).2 (a := 1) (b := 1) (by decide) (by decide) (by rw [tl]; omega) (by rw [tl]; omega)
  rw [back_tow, tl, Nat.mul_one] at fo
  have sf := shown_field_ok hS F (ps := ps) (a := 1) (b := 1) hps4 (by omega) (by decide) (by decide) (by rw [hpl]; omega) (by rw [hpl]; omega)
  rw [hpl, Nat.mul_one] at sf
  have fb := field_bounds_ok hS hps4 (by omega)
  have near := shF_near ps F hps4
  have hmean := lastF_mean n F
  have hlast := towF_last n F
  generalize hlv : lastF n F = last at *
  have htot : (R.map List.sum).sum = tot F (2 ^ n) (2 ^ n) := by
    rw [← hF]
    unfold fldL tot sumN rowL
    rw [List.map_map]; rfl
  generalize htv : tot F (2 ^ n) (2 ^ n) = total at *
  have s6 : ∀ (me : ME), (∀ (r : List Int) (S : Store), me ((wipeE [some (.loc 0), some (.int (n : Int)), some (.int ((2 ^ n : Nat) : Int)), some (FD F (2 ^ n) (2 ^ n)), none, none, none, none, none, none, none, none, none, none, none] [5]).set 5 (some (.tup (I r)))) S = .ok (.int r.sum) S) →
      mCall dSum (mCons (asV (mLc (mSrc (mVar 3)) (gN 5) mYes me [5])) mNil) [some (.loc 0), some (.int (n : Int)), some (.int ((2 ^ n : Nat) : Int)), some (FD F (2 ^ n) (2 ^ n)), none, none, none, none, none, none, none, none, none, none, none] (St l1) = .ok (.int total) (St l1) := fun me hme => by
    refine call_ok (one_ok (asV_ok (ds := I (R.map List.sum)) ((x_mLc' (src_tup (xs := Rws R) (var_ok (by rw [← hF]; rfl))) (by rw [List.length_map]; omega)).trans ?_))) ?_
    · have := lc_map (S := St l1) (xs := Rws R) (t := gN 5) (me := me) (e := wipeE [some (.loc 0), some (.int (n : Int)), some (.int ((2 ^ n : Nat) : Int)), some (FD F (2 ^ n) (2 ^ n)), none, none, none, none, none, none, none, none, none, none, none] [5]) (fun r => D.tup (I r)) (fun r => D.int r.sum) R fun r _ => ⟨_, rfl, hme r _⟩
      refine Eq.trans this ?_
      unfold I
      rw [List.map_map]; rfl
    · rw [sum_ok, htot]
  generalize hoff : (List.range (2 ^ n)).flatMap (fun i => (rowL (fun j => shF ps F i j - F i j) (2 ^ n))) = off
  have hoffm : ∀ x ∈ off, leastFS ps ≤ x ∧ x ≤ mostFS ps := fun x hx => by
    rw [← hoff] at hx
    obtain ⟨i, _, hx⟩ := List.mem_flatMap.mp hx
    obtain ⟨j, _, rfl⟩ := List.mem_map.mp hx
    exact near i j
  have hne : off ≠ [] := by
    intro z
    have hm : (shF ps F 0 0 - F 0 0) ∈ off := by
      rw [← hoff]
      exact List.mem_flatMap.mpr ⟨0, List.mem_range.mpr h0, List.mem_map.mpr ⟨0, List.mem_range.mpr h0, rfl⟩⟩
    rw [z] at hm
    simp at hm
  -- the offsets' loop
  have loop : ∀ (as : List Nat), (∀ i ∈ as, i < 2 ^ n) → ∀ (acc : List Int) (xs : List D) (o4 : Option D) (total' last' : D) (sp : D), acc.length + as.length * 8 ≤ 1000 → ∃ o4', M.forM ⟨xs, []⟩ (gN 4) l__law_field_6 (as.map fun (i : Nat) => D.int (i : Int)) [some (.loc 0), some (.int (n : Int)), some (.int ((2 ^ n : Nat) : Int)), some (FD F (2 ^ n) (2 ^ n)), o4, none, some (FTW (towF n F).1 (towF n F).2 1 1), some total', some (.tup (N ps)), none, some last', some (FD (shF ps F) (2 ^ n) (2 ^ n)), some sp, some (.lst (I acc)), none] (St l2) =
      some (.nx, [some (.loc 0), some (.int (n : Int)), some (.int ((2 ^ n : Nat) : Int)), some (FD F (2 ^ n) (2 ^ n)), o4', none, some (FTW (towF n F).1 (towF n F).2 1 1), some total', some (.tup (N ps)), none, some last', some (FD (shF ps F) (2 ^ n) (2 ^ n)), some sp, some (.lst (I (acc ++ as.flatMap fun i => rowL (fun j => shF ps F i j - F i j) (2 ^ n)))), none], St l2) := by
    intro as
    induction as with
    | nil => intro _ acc xs o4 t' l' sp _; exact ⟨o4, by rw [List.flatMap_nil, List.append_nil]; exact for_nil⟩
    | cons i as ih =>
      intro has acc xs o4 t' l' sp hz
      simp only [List.length_cons] at hz
      have hi := has i (by simp)
      obtain ⟨o4', h⟩ := ih (fun j m => has j (List.mem_cons_of_mem _ m)) (acc ++ rowL (fun j => shF ps F i j - F i j) (2 ^ n)) xs (some (.int (i : Int))) t' l' sp (by rw [List.length_append, rowL_len]; omega)
      rw [List.append_assoc] at h
      rw [List.flatMap_cons]
      refine ⟨o4', (for_cons (e1 := [some (.loc 0), some (.int (n : Int)), some (.int ((2 ^ n : Nat) : Int)), some (FD F (2 ^ n) (2 ^ n)), some (.int (i : Int)), none, some (FTW (towF n F).1 (towF n F).2 1 1), some t', some (.tup (N ps)), none, some l', some (FD (shF ps F) (2 ^ n) (2 ^ n)), some sp, some (.lst (I acc)), none]) (e2 := [some (.loc 0), some (.int (n : Int)), some (.int ((2 ^ n : Nat) : Int)), some (FD F (2 ^ n) (2 ^ n)), some (.int (i : Int)), none, some (FTW (towF n F).1 (towF n F).2 1 1), some t', some (.tup (N ps)), none, some l', some (FD (shF ps F) (2 ^ n) (2 ^ n)), some sp, some (.lst (I (acc ++ rowL (fun j => shF ps F i j - F i j) (2 ^ n)))), none]) rfl ?_).trans h⟩
      refine set_ok (bin_ok (u := .lst (I acc)) (v := .lst (I (rowL (fun j => shF ps F i j - F i j) (2 ^ n)))) (var_ok rfl) (asV_ok (c_mapN (fun j => shF ps F i j - F i j) (n := 2 ^ n) (var_ok rfl) (by omega) fun j hj => ?_)) ?_)
      · exact bin_ok (bin_ok (u := .tup (I (rowL (shF ps F i) (2 ^ n)))) (v := .int (j : Int)) (bin_ok (u := FD (shF ps F) (2 ^ n) (2 ^ n)) (v := .int (i : Int)) (var_ok rfl) (var_ok rfl) (ix_tup _ i _ _ (rws_at hi))) (var_ok rfl) (ix_tup _ j _ _ (I_at hj))) (bin_ok (u := .tup (I (rowL (F i) (2 ^ n)))) (v := .int (j : Int)) (bin_ok (u := FD F (2 ^ n) (2 ^ n)) (v := .int (i : Int)) (var_ok rfl) (var_ok rfl) (ix_tup _ i _ _ (rws_at hi))) (var_ok rfl) (ix_tup _ j _ _ (I_at hj))) x_sub
      · rw [← I_app]
        exact cat_lst (by rw [List.length_map, List.length_map, rowL_len]; omega)
  obtain ⟨o4', hloop⟩ := loop (List.range (2 ^ n)) (fun i m => List.mem_range.mp m) [] (rng 0 (2 ^ n)) none (.int total) (.int last) (.tup [.int (leastFS ps), .int (mostFS ps)]) (by simp; omega)
  rw [List.nil_append, hoff, ← rng_map] at hloop
  refine ⟨l2, (retV_ok (d := .bl true) (d' := .bl true) (S' := St l2) (run_rt (e' := [some (.loc 0), some (.int (n : Int)), some (.int ((2 ^ n : Nat) : Int)), some (FD F (2 ^ n) (2 ^ n)), o4', none, some (FTW (towF n F).1 (towF n F).2 1 1), some (.int total), some (.tup (N ps)), none, some (.int last), some (FD (shF ps F) (2 ^ n) (2 ^ n)), some (.tup [.int (leastFS ps), .int (mostFS ps)]), some (.lst (I off)), none]) ?_) (clS_St _ _) rfl).trans rfl⟩
  show b__law_field [some (.loc 0), some (.int (n : Int)), none, none, none, none, none, none, none, none, none, none, none, none, none] (St l) = _
  unfold b__law_field
  refine (seq_nx (set_ok (callF_ok (one_ok (var_ok rfl)) (two_ok hS0 (by omega))))).trans ?_
  refine (seq_nx (set_ok (d := FD F (2 ^ n) (2 ^ n)) (tuple_ok ((x_mLc' (src_rng' (2 ^ n) (by omega) (var_ok rfl)) (by rw [rng_len]; omega)).trans (by rw [hF]; exact y3))))).trans ?_
  refine (seq_nx (par3_ok (callF_ok (cons_ok (var_ok rfl) (one_ok (var_ok rfl))) ft) (s6 _ fun r S => call_ok (one_ok (var_ok rfl)) sum_t) q1)).trans ?_
  have c0 : ∀ X : Fld, (Rws (fldL X 1 1))[0]? = some (.tup (I (rowL (X 0) 1))) := fun X => rws_at (by decide)
  refine (seq_nx (set_ok (d := .int last) (ix_at 0 (ix_at 0 (ix_at 0 (var_ok (d := FTW (towF n F).1 (towF n F).2 1 1) rfl) rfl) (c0 _)) (by rw [← hlast]; exact I_at (by decide))))).trans ?_
  have hc : ((2 ^ n : Nat) : Int) = 2 ^ n := Int.natCast_pow 2 n
  have e1 : ∀ e : M.Env, e[10]? = some (some (.int last)) → e[2]? = some (some (.int ((2 ^ n : Nat) : Int))) → mBin dMul (mBin dMul (mVar 10) (mVar 2)) (mVar 2) e (St l2) = .ok (.int (last * ((2 ^ n : Nat) : Int) * ((2 ^ n : Nat) : Int))) (St l2) := fun e h3 h2 => bin_ok (bin_ok (var_ok h3) (var_ok h2) (x_mul (.inr (by omega)))) (var_ok h2) (x_mul (.inr (by omega)))
  refine (seq_nx (if_skip (or_ff (g_not (g_alike1 hS (d := FD F (2 ^ n) (2 ^ n)) (callF_ok (one_ok (var_ok rfl)) fo) (var_ok rfl) (pq_mono _ (by decide) (pq_FD 0 F (by omega) (by omega))))) (g_notT (S1 := St l2) (c := true) (b_ok (chain_ok (u := last * ((2 ^ n : Nat) : Int) * ((2 ^ n : Nat) : Int)) (v := total) (w := last * ((2 ^ n : Nat) : Int) * ((2 ^ n : Nat) : Int) + (n : Int) * ((2 ^ n : Nat) : Int) * ((2 ^ n : Nat) : Int)) (e1 _ rfl rfl) (var_ok rfl) (bin_ok (e1 _ rfl rfl) (bin_ok (bin_ok (var_ok rfl) (var_ok rfl) (x_mul (.inl (by omega)))) (var_ok rfl) (x_mul (.inr (by omega)))) x_add) ?_)))))).trans ?_
  · rw [hc, Int.mul_assoc, Int.mul_comm last, Int.mul_assoc (n : Int)]
    exact hmean
  refine (seq_nx (setg_ok (tup_ok (cons_ok (callF_ok (cons_ok (var_ok rfl) (one_ok (var_ok rfl))) sf) (one_ok (callF_ok (one_ok (var_ok rfl)) fb))) (by show 2 ≤ sizeLine; decide)) rfl)).trans ?_
  refine (seq_nx (set_ok (asV_ok (lst_ok rfl (Nat.zero_le _))))).trans ?_
  refine (seq_nx (for_ok (src_rng' (2 ^ n) (by omega) (var_ok rfl)) hloop)).trans (ret_ok ?_)
  have b1 := lo_ge hne fun x m => (hoffm x m).1
  have b2 := hi_le hne fun x m => (hoffm x m).2
  exact andV_tt (bin_ok (u := .int (leastFS ps)) (v := .int (lo off)) (ix_at 0 (var_ok (d := .tup [.int (leastFS ps), .int (mostFS ps)]) rfl) rfl) (call_ok (one_ok (var_ok rfl)) (min_ok hne)) (x_le.trans (by rw [decide_eq_true b1]))) (bin_ok (u := .int (hi off)) (v := .int (mostFS ps)) (call_ok (one_ok (var_ok rfl)) (max_ok hne)) (ix_at 1 (var_ok (d := .tup [.int (leastFS ps), .int (mostFS ps)]) rfl) rfl) (x_le.trans (by rw [decide_eq_true b2])))
end
end K40


set_option Elab.async false
set_option linter.all false
set_option maxRecDepth 100000
set_option maxHeartbeats 4000000
/-! k40: the law -/
namespace K40
open PySem PySem.Spec PyProof.Rows L2 M M.Lf
section
variable [Tabs]
abbrev Ev (o : Nat → Option D) : M.Env := [o 0, o 1, o 2, o 3, o 4, o 5, o 6, o 7, o 8]
theorem Ev_of : ∀ (e : M.Env), e.length = 9 → ∃ o, e = Ev o := fun e h => ⟨fun i => (e[i]?).getD none, List.ext_getElem? fun i => by
  by_cases hi : i < 9
  · have : i = 0 ∨ i = 1 ∨ i = 2 ∨ i = 3 ∨ i = 4 ∨ i = 5 ∨ i = 6 ∨ i = 7 ∨ i = 8 := by omega
    have e0 : e[i]? = some e[i] := List.getElem?_eq_getElem (by omega)
    rcases this with rfl | rfl | rfl | rfl | rfl | rfl | rfl | rfl | rfl <;> (rw [e0]; simp [e0])
  · rw [List.getElem?_eq_none (by omega), List.getElem?_eq_none (by simp [Ev]; omega)]⟩
def After (o0 : Option D) (e : M.Env) (S : Store) : Prop := ∃ l, e.length = 9 ∧ e[0]? = some o0 ∧ e[1]? = some (some (.loc 0)) ∧ S = St l
theorem turn {o0 : Option D} (o : Nat → Option D) (h0 : o 0 = o0) (h1 : o 1 = some (.loc 0)) (l : List Int) : Goes l_law_1 (Ev o) (St l) (After o0) := by
  obtain ⟨n, l1, hn, q0⟩ := take_nat 6 (by decide) l
  have h32 := p32 (show n ≤ 5 by omega)
  obtain ⟨r, l2, hr, q1⟩ := row_ok (2 ^ n) (by omega) l1
  have hS1 := hSt l1
  have hS2 := hSt l2
  obtain ⟨l3, q2⟩ := changed_ok r (show n ≤ 5 by omega) hr l2
  obtain ⟨l4, q3⟩ := planes_ok r (show n ≤ 5 by omega) hr l3
  obtain ⟨l5, q4⟩ := field_ok (n := min n 3) (by omega) l4
  obtain ⟨m, l6, hm, q5⟩ := take_nat 40 (by decide) l5
  obtain ⟨s, l7, hs, q6⟩ := row_ok (2 + m) (by omega) l6
  have hS7 := hSt l7
  have tw := tower_ok hS2 r (n := n) (by omega) (by omega)
  have hl := lift_len s
  unfold l_law_1
  refine g_seq (set_ok (c_take (congrArg some h1) rfl q0)) ?_
  refine g_seq (set_ok (callF_ok (cons_ok (var_ok (congrArg some h1)) (one_ok (callF_ok (one_ok (var_ok rfl)) (two_ok hS1 (by omega))))) q1)) ?_
  refine g_seq (set_ok (callF_ok (cons_ok (var_ok (d := .tup (I r)) rfl) (one_ok (var_ok (d := .int (n : Int)) rfl))) tw)) ?_
  refine g_seq (if_skip (g_or2 (S1 := St l2) (g_not (g_alike1 hS2 (d := TW (tow n r)) (var_ok rfl) (callF_ok (cons_ok (var_ok rfl) (one_ok (var_ok rfl))) (own_ok hS2 r (by omega) (by omega))) (pq_tow n (by omega) r (by omega)))) (g_or3 (S1 := St l2) (S2 := St l2) (g_not (g_alike1 hS2 (d := .tup (I r)) ?_ (var_ok rfl) (pq_mono _ (by decide) (pq_row 0 (r := r) (by omega))))) (g_not (callF_ok (cons_ok (var_ok rfl) (one_ok (var_ok rfl))) (means_ok hS2 r (n := n) (by omega) hr))) (g_not (callF_ok (one_ok (var_ok rfl)) (extremes_ok hS2 (n := n) (by omega))))))) ?_
  · have := row_of_ok hS2 (tow n r).1 (tow n r).2 (lens_tow n r) (by omega)
    rw [row_tow] at this
    exact callF_ok (one_ok (var_ok rfl)) this
  refine g_seq (if_skip (g_or3 (S1 := St l3) (S2 := St l4) (g_not (callF_ok (cons_ok (var_ok (congrArg some h1)) (cons_ok (var_ok rfl) (one_ok (var_ok rfl)))) q2)) (g_not (callF_ok (cons_ok (var_ok (congrArg some h1)) (cons_ok (var_ok rfl) (one_ok (var_ok rfl)))) q3)) (g_not (callF_ok (cons_ok (var_ok (congrArg some h1)) (one_ok (call_ok (cons_ok (var_ok (d := .int (n : Int)) rfl) (one_ok rfl)) ((min2 _ _).trans (congrArg (fun z => some (D.int z)) (show min (n : Int) 3 = ((min n 3 : Nat) : Int) by omega)))))) q4)))) ?_
  refine g_seq (set_ok (callF_ok (cons_ok (var_ok (congrArg some h1)) (one_ok (bin_ok rfl (c_take (congrArg some h1) rfl q5) (x_add.trans (congrArg (fun z => some (D.int z)) (show (2 : Int) + (m : Int) = ((2 + m : Nat) : Int) by omega)))))) q6)) ?_
  refine g_seq (setg_ok (callF_ok (one_ok (var_ok (d := .tup (I s)) rfl)) (lifted_ok hS7 s (by omega))) rfl) ?_
  refine g_end (if_skip (or_ff (g_not (g_alike1 hS7 (d := TW (tow 1 s)) ?_ (callF_ok (cons_ok (var_ok rfl) (one_ok rfl)) (own_ok hS7 s (n := 1) (by decide) (by omega))) (pq_tow 1 (by decide) s (by omega)))) (g_not (g_alike1 hS7 (d := .tup (I s)) ?_ (var_ok rfl) (pq_mono _ (by decide) (pq_row 0 (r := s) (by omega))))))) ⟨l7, rfl, congrArg some h0, congrArg some h1, rfl⟩
  · exact tup_ok (cons_ok (var_ok rfl) (one_ok (tup_ok (one_ok (var_ok rfl)) (by show 1 ≤ sizeLine; decide)))) (by show 2 ≤ sizeLine; decide)
  · have := lowered_ok hS7 (lift s).1 (lift s).2 (by omega) (by omega)
    rw [lower_lift] at this
    exact callF_ok (cons_ok (var_ok rfl) (one_ok (var_ok rfl))) this
theorem plain_law (ns : List Int) (hl : ns.length ≤ 63) (hb : ∀ z ∈ ns, Builtin.Int.intBits z ≤ 1048576) : ∃ S', m_law [.fro (ns.map D.int)] [] = .ok (.bl true) S' := by
  obtain ⟨l, hd⟩ := draws_ex ns hl
  have main : Goes (sFor (mSrcA srcR1 (mCons (mC (.int 2)) mNil)) (gN 2) l_law_1) (Ev fun i => if i = 0 then some (.fro (I ns)) else if i = 1 then some (.loc 0) else none) (St l) (After (some (.fro (I ns)))) := by
    refine g_for _ (src_rng 2 (by decide) rfl) ⟨l, rfl, rfl, rfl, rfl⟩ ?_
    rintro d hd e S ⟨l', g0, g1, g2, rfl⟩
    obtain ⟨o, rfl⟩ := Ev_of e g0
    obtain ⟨e2, S2, k1, k2⟩ := turn (o0 := some (.fro (I ns))) (fun i => if i = 2 then some d else o i) (Option.some.inj g1) (Option.some.inj g2) l'
    exact ⟨_, e2, S2, rfl, k1, k2⟩
  obtain ⟨e', S', hf, l', _, _, _, rfl⟩ := main
  refine ⟨(St l').take 0, (retV_ok (d := .bl true) (S' := St l') (run_rt (e' := e') ?_) rfl rfl)⟩
  refine (seq_nx (set_ok (callF_ok (one_ok (var_ok rfl)) hd))).trans ?_
  exact (seq_nx hf).trans (ret_ok rfl)
end
end K40


set_option Elab.async false
set_option linter.all false
set_option maxRecDepth 100000
set_option maxHeartbeats 4000000
namespace M
open PySem PySem.Spec PyProof.Rows L2
theorem tabB_of {base : Heap} {mg : Str → Option Value} {c P : Addr} (t : LamX.TabB base mg c P) : GxR.TabB base mg c P := ⟨t.code, t.bm, t.gP⟩
theorem cx_false {P : Program} {w : World} {H : Hp} {s s' : Shared} {e : Value} (h : L2.CX P w [] H s (fun _ _ _ => False) e s') : False := by
  obtain ⟨a, B, H', cls, d, rfl, fl, h1, h2, h3, h4, h5, z⟩ := h
  exact z
theorem code_ref {K : PySem.W.Frag} {x : Str} {params : Arguments} {body : List Stmt} {scope : Scope} {fd : FuncData} (F : FunD K x x params body scope [] [] (He.fAd K (x, none)) fd) : fd.code = .ref (He.codeOf K (x, none)) := by
  obtain ⟨oc, od, dV, kV, doc, pm, an, cdv, ct, osl, rfl, lk, hcd, _, _⟩ := F.ex
  obtain ⟨c, rfl⟩ := He.codeIn_ref hcd
  show Value.ref c = _
  rw [He.codeOf_eq lk rfl]
theorem spM_start {K : PySem.W.Frag} {mg : Str → Option Value} {H : Hp} {a : Addr} {ns : List Int} {m : List D → Store → Res D} {S' : Store} (e : m [.fro (ns.map D.int)] [] = .ok (.bl true) S') {cs : List (Addr × Addr)}
    (hT : ∀ p ∈ cs, H p.2 = some (.tbl #[])) (hS : SqL K H a (ns.map V.int)) : @spM ⟨cs.map (·.2)⟩ K mg 1 m [.ref a] H (fun v _ => v = .bl true) fun _ _ _ => False := by
  letI : Tabs := ⟨cs.map (·.2)⟩
  refine ⟨⟨[], []⟩, [.fro (ns.map D.int)], [], rfl, .cons ?_ .nil, ⟨rfl, List.nodup_nil, fun n o a e => by simp at e, fun a h => by simp at h, fun b hb => ?_⟩, ?_⟩
  · rcases hS with h | h
    · exact .fro h (by simp) (by simp) (RepDs.of_ints ns)
    · exact .frk h (RepDs.of_ints ns)
  · obtain ⟨p, hp, rfl⟩ := List.mem_map.mp hb
    exact ⟨#[], hT p hp, trivial, fun pos cv hc => by simp [codeAmong] at hc⟩
  · rw [e]
    exact fun ρ' H' f R' v r => r.inj_bl
end M


set_option Elab.async false
set_option linter.all false
set_option maxRecDepth 100000
set_option maxHeartbeats 0
namespace K40
open PySem PySem.Spec PyProof.Rows L2 M
def d__law_draws : He.DefD := ⟨("_law_draws", none), "_law_draws", "_law_draws", defArgs s__law_draws, defBody s__law_draws, defScope s__law_draws, [], []⟩
def d__law_take : He.DefD := ⟨("_law_take", none), "_law_take", "_law_take", defArgs s__law_take, defBody s__law_take, defScope s__law_take, [], []⟩
def d__law_row : He.DefD := ⟨("_law_row", none), "_law_row", "_law_row", defArgs s__law_row, defBody s__law_row, defScope s__law_row, [], []⟩
def d__law_two : He.DefD := ⟨("_law_two", none), "_law_two", "_law_two", defArgs s__law_two, defBody s__law_two, defScope s__law_two, [], []⟩
def d_is_number : He.DefD := ⟨("is_number", none), "is_number", "is_number", defArgs s_is_number, defBody s_is_number, defScope s_is_number, [], []⟩
def d_check_levels : He.DefD := ⟨("check_levels", none), "check_levels", "check_levels", defArgs s_check_levels, defBody s_check_levels, defScope s_check_levels, [], []⟩
def d_lifted : He.DefD := ⟨("lifted", none), "lifted", "lifted", defArgs s_lifted, defBody s_lifted, defScope s_lifted, [], []⟩
def d_tower : He.DefD := ⟨("tower", none), "tower", "tower", defArgs s_tower, defBody s_tower, defScope s_tower, [], []⟩
def d__law_alike : He.DefD := ⟨("_law_alike", none), "_law_alike", "_law_alike", defArgs s__law_alike, defBody s__law_alike, defScope s__law_alike, [], []⟩
def d__law_own : He.DefD := ⟨("_law_own", none), "_law_own", "_law_own", defArgs s__law_own, defBody s__law_own, defScope s__law_own, [], []⟩
def d_lowered : He.DefD := ⟨("lowered", none), "lowered", "lowered", defArgs s_lowered, defBody s_lowered, defScope s_lowered, [], []⟩
def d_row_of : He.DefD := ⟨("row_of", none), "row_of", "row_of", defArgs s_row_of, defBody s_row_of, defScope s_row_of, [], []⟩
def d__law_means : He.DefD := ⟨("_law_means", none), "_law_means", "_law_means", defArgs s__law_means, defBody s__law_means, defScope s__law_means, [], []⟩
def d__law_extremes : He.DefD := ⟨("_law_extremes", none), "_law_extremes", "_law_extremes", defArgs s__law_extremes, defBody s__law_extremes, defScope s__law_extremes, [], []⟩
def d__law_changed : He.DefD := ⟨("_law_changed", none), "_law_changed", "_law_changed", defArgs s__law_changed, defBody s__law_changed, defScope s__law_changed, [], []⟩
def d_are_planes : He.DefD := ⟨("are_planes", none), "are_planes", "are_planes", defArgs s_are_planes, defBody s_are_planes, defScope s_are_planes, [], []⟩
def d_check_planes : He.DefD := ⟨("check_planes", none), "check_planes", "check_planes", defArgs s_check_planes, defBody s_check_planes, defScope s_check_planes, [], []⟩
def d_sums_of : He.DefD := ⟨("sums_of", none), "sums_of", "sums_of", defArgs s_sums_of, defBody s_sums_of, defScope s_sums_of, [], []⟩
def d_check_plane : He.DefD := ⟨("check_plane", none), "check_plane", "check_plane", defArgs s_check_plane, defBody s_check_plane, defScope s_check_plane, [], []⟩
def d_lean : He.DefD := ⟨("lean", none), "lean", "lean", defArgs s_lean, defBody s_lean, defScope s_lean, [], []⟩
def d_pair_offsets : He.DefD := ⟨("pair_offsets", none), "pair_offsets", "pair_offsets", defArgs s_pair_offsets, defBody s_pair_offsets, defScope s_pair_offsets, [], []⟩
def d_spans : He.DefD := ⟨("spans", none), "spans", "spans", defArgs s_spans, defBody s_spans, defScope s_spans, [], []⟩
def d_bounds : He.DefD := ⟨("bounds", none), "bounds", "bounds", defArgs s_bounds, defBody s_bounds, defScope s_bounds, [], []⟩
def d_lean_row : He.DefD := ⟨("lean_row", none), "lean_row", "lean_row", defArgs s_lean_row, defBody s_lean_row, defScope s_lean_row, [], []⟩
def d_lean_tower : He.DefD := ⟨("lean_tower", none), "lean_tower", "lean_tower", defArgs s_lean_tower, defBody s_lean_tower, defScope s_lean_tower, [], []⟩
def d_shown_row : He.DefD := ⟨("shown_row", none), "shown_row", "shown_row", defArgs s_shown_row, defBody s_shown_row, defScope s_shown_row, [], []⟩
def d__law_planes : He.DefD := ⟨("_law_planes", none), "_law_planes", "_law_planes", defArgs s__law_planes, defBody s__law_planes, defScope s__law_planes, [], []⟩
def d_whole : He.DefD := ⟨("whole", none), "whole", "whole", defArgs s_whole, defBody s_whole, defScope s_whole, [], []⟩
def d_lifted_rows : He.DefD := ⟨("lifted_rows", none), "lifted_rows", "lifted_rows", defArgs s_lifted_rows, defBody s_lifted_rows, defScope s_lifted_rows, [], []⟩
def d_turned : He.DefD := ⟨("turned", none), "turned", "turned", defArgs s_turned, defBody s_turned, defScope s_turned, [], []⟩
def d_lifted_field : He.DefD := ⟨("lifted_field", none), "lifted_field", "lifted_field", defArgs s_lifted_field, defBody s_lifted_field, defScope s_lifted_field, [], []⟩
def d_field_tower : He.DefD := ⟨("field_tower", none), "field_tower", "field_tower", defArgs s_field_tower, defBody s_field_tower, defScope s_field_tower, [], []⟩
def d_lowered_rows : He.DefD := ⟨("lowered_rows", none), "lowered_rows", "lowered_rows", defArgs s_lowered_rows, defBody s_lowered_rows, defScope s_lowered_rows, [], []⟩
def d_lowered_field : He.DefD := ⟨("lowered_field", none), "lowered_field", "lowered_field", defArgs s_lowered_field, defBody s_lowered_field, defScope s_lowered_field, [], []⟩
def d_field_of : He.DefD := ⟨("field_of", none), "field_of", "field_of", defArgs s_field_of, defBody s_field_of, defScope s_field_of, [], []⟩
def d_lean_field_tower : He.DefD := ⟨("lean_field_tower", none), "lean_field_tower", "lean_field_tower", defArgs s_lean_field_tower, defBody s_lean_field_tower, defScope s_lean_field_tower, [], []⟩
def d_shown_field : He.DefD := ⟨("shown_field", none), "shown_field", "shown_field", defArgs s_shown_field, defBody s_shown_field, defScope s_shown_field, [], []⟩
def d_square_offsets : He.DefD := ⟨("square_offsets", none), "square_offsets", "square_offsets", defArgs s_square_offsets, defBody s_square_offsets, defScope s_square_offsets, [], []⟩
def d_field_spans : He.DefD := ⟨("field_spans", none), "field_spans", "field_spans", defArgs s_field_spans, defBody s_field_spans, defScope s_field_spans, [], []⟩
def d_field_bounds : He.DefD := ⟨("field_bounds", none), "field_bounds", "field_bounds", defArgs s_field_bounds, defBody s_field_bounds, defScope s_field_bounds, [], []⟩
def d__law_field : He.DefD := ⟨("_law_field", none), "_law_field", "_law_field", defArgs s__law_field, defBody s__law_field, defScope s__law_field, [], []⟩
def d_law : He.DefD := ⟨("law", none), "law", "law", defArgs s_law, defBody s_law, defScope s_law, [], []⟩
def fnl : List He.DefD := [d__law_draws, d__law_take, d__law_row, d__law_two, d_is_number, d_check_levels, d_lifted, d_tower, d__law_alike, d__law_own, d_lowered, d_row_of, d__law_means, d__law_extremes, d__law_changed, d_are_planes, d_check_planes, d_sums_of, d_check_plane, d_lean, d_pair_offsets, d_spans, d_bounds, d_lean_row, d_lean_tower, d_shown_row, d__law_planes, d_whole, d_lifted_rows, d_turned, d_lifted_field, d_field_tower, d_lowered_rows, d_lowered_field, d_field_of, d_lean_field_tower, d_shown_field, d_square_offsets, d_field_spans, d_field_bounds, d__law_field, d_law]
def fal : List He.Fa := [.glo "_law_draws", .glo "_law_take", .glo "_law_row", .glo "_law_two", .glo "is_number", .glo "check_levels", .glo "lifted", .glo "tower", .glo "_law_alike", .glo "_law_own", .glo "lowered", .glo "row_of", .glo "_law_means", .glo "_law_extremes", .glo "_law_changed", .glo "are_planes", .glo "check_planes", .glo "sums_of", .glo "check_plane", .glo "lean", .glo "pair_offsets", .glo "spans", .glo "bounds", .glo "lean_row", .glo "lean_tower", .glo "shown_row", .glo "_law_planes", .glo "whole", .glo "lifted_rows", .glo "turned", .glo "lifted_field", .glo "field_tower", .glo "lowered_rows", .glo "lowered_field", .glo "field_of", .glo "lean_field_tower", .glo "shown_field", .glo "square_offsets", .glo "field_spans", .glo "field_bounds", .glo "_law_field", .glo "law", .int "MOST_LEVELS" 6, .int "MOST_PLANES" 4, .free "abs", .free "all", .free "bool", .free "int", .free "isinstance", .free "len", .free "list", .free "max", .free "min", .free "range", .free "reversed", .free "str", .free "sum", .free "tuple", .free "zip"]
def tfl : List He.Defn := [("are_planes", none)]
abbrev Rw : PySem.W.OpenRow := PySem.W.OpenLaw.row PySem.Challenge.rw_lostastold_k40_whole_towers_and_what_the
abbrev hk : PySem.W.Hook := He.hookX 4 fal fnl [] tfl (fun _ => true)
def ob (s : PySem.W.SharedT) : He.AlX := He.obsX 4 fal fnl [] tfl (fun _ => true) (HandSHeadRun.getT s)
theorem ob_eq (s : PySem.W.SharedT) : ob s = hk.obs s.abs := He.obsX_eq (HandSHeadRun.getT_eq s)
def loose : List PySem.Str := ("LostError" :: "OutOfRange" :: "Malformed" :: "is_number" :: "MOST_LEVELS" :: "check_levels" :: "lifted" :: "lowered" :: "tower" :: "row_of" :: "turned" :: "lifted_rows" :: "whole" :: "lowered_rows" :: "lifted_field" :: "lowered_field" :: "field_tower" :: "field_of" :: "MOST_PLANES" :: "are_planes" :: "check_planes" :: "lean" :: "lean_row" :: "lean_tower" :: "lean_field_tower" :: "shown_row" :: "shown_field" :: "check_plane" :: "pair_offsets" :: "spans" :: "square_offsets" :: "field_spans" :: "sums_of" :: "bounds" :: "field_bounds" :: "_law_draws" :: "_law_take" :: "_law_alike" :: "_law_two" :: "_law_row" :: "_law_own" :: "_law_means" :: "_law_extremes" :: "_law_changed" :: "_law_planes" :: "_law_field" :: [] : List Str)
theorem run (w : World) : HandSHeadRun.RunEq Rw (PySem.W.view Rw.prog [52]) hk ob 6000 loose w := by
  intro os
  kernel_rfl
theorem facts {P : Program} {w : World} {K : PySem.W.Frag} {h : Heap} {mg : Str → Option Value} {f : Addr} (X : K.In h) (G : h.Ns mainGlobals mg) (hfa : mg ("law" : Str) = some (.ref f)) (c : He.SaysX fal fnl [] tfl (fun _ => true) w h K) {l : PySem.W.OpenLaw} :
    LamX.LawAtS l w K (L2.CX l.prog w) 12 63 "script" mg f h := by
  have D := c.t.d
  obtain ⟨fd__law_draws, F__law_draws⟩ := D.def_ 0 (d := d__law_draws) rfl
  obtain ⟨fd__law_take, F__law_take⟩ := D.def_ 1 (d := d__law_take) rfl
  obtain ⟨fd__law_row, F__law_row⟩ := D.def_ 2 (d := d__law_row) rfl
  obtain ⟨fd__law_two, F__law_two⟩ := D.def_ 3 (d := d__law_two) rfl
  obtain ⟨fd_is_number, F_is_number⟩ := D.def_ 4 (d := d_is_number) rfl
  obtain ⟨fd_check_levels, F_check_levels⟩ := D.def_ 5 (d := d_check_levels) rfl
  obtain ⟨fd_lifted, F_lifted⟩ := D.def_ 6 (d := d_lifted) rfl
  obtain ⟨fd_tower, F_tower⟩ := D.def_ 7 (d := d_tower) rfl
  obtain ⟨fd__law_alike, F__law_alike⟩ := D.def_ 8 (d := d__law_alike) rfl
  obtain ⟨fd__law_own, F__law_own⟩ := D.def_ 9 (d := d__law_own) rfl
  obtain ⟨fd_lowered, F_lowered⟩ := D.def_ 10 (d := d_lowered) rfl
  obtain ⟨fd_row_of, F_row_of⟩ := D.def_ 11 (d := d_row_of) rfl
  obtain ⟨fd__law_means, F__law_means⟩ := D.def_ 12 (d := d__law_means) rfl
  obtain ⟨fd__law_extremes, F__law_extremes⟩ := D.def_ 13 (d := d__law_extremes) rfl
  obtain ⟨fd__law_changed, F__law_changed⟩ := D.def_ 14 (d := d__law_changed) rfl
  obtain ⟨fd_are_planes, F_are_planes⟩ := D.def_ 15 (d := d_are_planes) rfl
  obtain ⟨fd_check_planes, F_check_planes⟩ := D.def_ 16 (d := d_check_planes) rfl
  obtain ⟨fd_sums_of, F_sums_of⟩ := D.def_ 17 (d := d_sums_of) rfl
  obtain ⟨fd_check_plane, F_check_plane⟩ := D.def_ 18 (d := d_check_plane) rfl
  obtain ⟨fd_lean, F_lean⟩ := D.def_ 19 (d := d_lean) rfl
  obtain ⟨fd_pair_offsets, F_pair_offsets⟩ := D.def_ 20 (d := d_pair_offsets) rfl
  obtain ⟨fd_spans, F_spans⟩ := D.def_ 21 (d := d_spans) rfl
  obtain ⟨fd_bounds, F_bounds⟩ := D.def_ 22 (d := d_bounds) rfl
  obtain ⟨fd_lean_row, F_lean_row⟩ := D.def_ 23 (d := d_lean_row) rfl
  obtain ⟨fd_lean_tower, F_lean_tower⟩ := D.def_ 24 (d := d_lean_tower) rfl
  obtain ⟨fd_shown_row, F_shown_row⟩ := D.def_ 25 (d := d_shown_row) rfl
  obtain ⟨fd__law_planes, F__law_planes⟩ := D.def_ 26 (d := d__law_planes) rfl
  obtain ⟨fd_whole, F_whole⟩ := D.def_ 27 (d := d_whole) rfl
  obtain ⟨fd_lifted_rows, F_lifted_rows⟩ := D.def_ 28 (d := d_lifted_rows) rfl
  obtain ⟨fd_turned, F_turned⟩ := D.def_ 29 (d := d_turned) rfl
  obtain ⟨fd_lifted_field, F_lifted_field⟩ := D.def_ 30 (d := d_lifted_field) rfl
  obtain ⟨fd_field_tower, F_field_tower⟩ := D.def_ 31 (d := d_field_tower) rfl
  obtain ⟨fd_lowered_rows, F_lowered_rows⟩ := D.def_ 32 (d := d_lowered_rows) rfl
  obtain ⟨fd_lowered_field, F_lowered_field⟩ := D.def_ 33 (d := d_lowered_field) rfl
  obtain ⟨fd_field_of, F_field_of⟩ := D.def_ 34 (d := d_field_of) rfl
  obtain ⟨fd_lean_field_tower, F_lean_field_tower⟩ := D.def_ 35 (d := d_lean_field_tower) rfl
  obtain ⟨fd_shown_field, F_shown_field⟩ := D.def_ 36 (d := d_shown_field) rfl
  obtain ⟨fd_square_offsets, F_square_offsets⟩ := D.def_ 37 (d := d_square_offsets) rfl
  obtain ⟨fd_field_spans, F_field_spans⟩ := D.def_ 38 (d := d_field_spans) rfl
  obtain ⟨fd_field_bounds, F_field_bounds⟩ := D.def_ 39 (d := d_field_bounds) rfl
  obtain ⟨fd__law_field, F__law_field⟩ := D.def_ 40 (d := d__law_field) rfl
  obtain ⟨fd_law, F_law⟩ := D.def_ 41 (d := d_law) rfl
  have g__law_draws := He.glo_ok X G (D.fact 0 (f := .glo "_law_draws") rfl)
  have g__law_take := He.glo_ok X G (D.fact 1 (f := .glo "_law_take") rfl)
  have g__law_row := He.glo_ok X G (D.fact 2 (f := .glo "_law_row") rfl)
  have g__law_two := He.glo_ok X G (D.fact 3 (f := .glo "_law_two") rfl)
  have g_is_number := He.glo_ok X G (D.fact 4 (f := .glo "is_number") rfl)
  have g_check_levels := He.glo_ok X G (D.fact 5 (f := .glo "check_levels") rfl)
  have g_lifted := He.glo_ok X G (D.fact 6 (f := .glo "lifted") rfl)
  have g_tower := He.glo_ok X G (D.fact 7 (f := .glo "tower") rfl)
  have g__law_alike := He.glo_ok X G (D.fact 8 (f := .glo "_law_alike") rfl)
  have g__law_own := He.glo_ok X G (D.fact 9 (f := .glo "_law_own") rfl)
  have g_lowered := He.glo_ok X G (D.fact 10 (f := .glo "lowered") rfl)
  have g_row_of := He.glo_ok X G (D.fact 11 (f := .glo "row_of") rfl)
  have g__law_means := He.glo_ok X G (D.fact 12 (f := .glo "_law_means") rfl)
  have g__law_extremes := He.glo_ok X G (D.fact 13 (f := .glo "_law_extremes") rfl)
  have g__law_changed := He.glo_ok X G (D.fact 14 (f := .glo "_law_changed") rfl)
  have g_are_planes := He.glo_ok X G (D.fact 15 (f := .glo "are_planes") rfl)
  have g_check_planes := He.glo_ok X G (D.fact 16 (f := .glo "check_planes") rfl)
  have g_sums_of := He.glo_ok X G (D.fact 17 (f := .glo "sums_of") rfl)
  have g_check_plane := He.glo_ok X G (D.fact 18 (f := .glo "check_plane") rfl)
  have g_lean := He.glo_ok X G (D.fact 19 (f := .glo "lean") rfl)
  have g_pair_offsets := He.glo_ok X G (D.fact 20 (f := .glo "pair_offsets") rfl)
  have g_spans := He.glo_ok X G (D.fact 21 (f := .glo "spans") rfl)
  have g_bounds := He.glo_ok X G (D.fact 22 (f := .glo "bounds") rfl)
  have g_lean_row := He.glo_ok X G (D.fact 23 (f := .glo "lean_row") rfl)
  have g_lean_tower := He.glo_ok X G (D.fact 24 (f := .glo "lean_tower") rfl)
  have g_shown_row := He.glo_ok X G (D.fact 25 (f := .glo "shown_row") rfl)
  have g__law_planes := He.glo_ok X G (D.fact 26 (f := .glo "_law_planes") rfl)
  have g_whole := He.glo_ok X G (D.fact 27 (f := .glo "whole") rfl)
  have g_lifted_rows := He.glo_ok X G (D.fact 28 (f := .glo "lifted_rows") rfl)
  have g_turned := He.glo_ok X G (D.fact 29 (f := .glo "turned") rfl)
  have g_lifted_field := He.glo_ok X G (D.fact 30 (f := .glo "lifted_field") rfl)
  have g_field_tower := He.glo_ok X G (D.fact 31 (f := .glo "field_tower") rfl)
  have g_lowered_rows := He.glo_ok X G (D.fact 32 (f := .glo "lowered_rows") rfl)
  have g_lowered_field := He.glo_ok X G (D.fact 33 (f := .glo "lowered_field") rfl)
  have g_field_of := He.glo_ok X G (D.fact 34 (f := .glo "field_of") rfl)
  have g_lean_field_tower := He.glo_ok X G (D.fact 35 (f := .glo "lean_field_tower") rfl)
  have g_shown_field := He.glo_ok X G (D.fact 36 (f := .glo "shown_field") rfl)
  have g_square_offsets := He.glo_ok X G (D.fact 37 (f := .glo "square_offsets") rfl)
  have g_field_spans := He.glo_ok X G (D.fact 38 (f := .glo "field_spans") rfl)
  have g_field_bounds := He.glo_ok X G (D.fact 39 (f := .glo "field_bounds") rfl)
  have g__law_field := He.glo_ok X G (D.fact 40 (f := .glo "_law_field") rfl)
  have g_law := He.glo_ok X G (D.fact 41 (f := .glo "law") rfl)
  obtain ⟨t_MOST_LEVELS, g_MOST_LEVELS⟩ := He.int_ok X G (D.fact 42 (f := .int "MOST_LEVELS" 6) rfl)
  obtain ⟨t_MOST_PLANES, g_MOST_PLANES⟩ := He.int_ok X G (D.fact 43 (f := .int "MOST_PLANES" 4) rfl)
  have n_abs := He.free_ok X G (D.fact 44 (f := .free "abs") rfl)
  have n_all := He.free_ok X G (D.fact 45 (f := .free "all") rfl)
  have n_bool := He.free_ok X G (D.fact 46 (f := .free "bool") rfl)
  have n_int := He.free_ok X G (D.fact 47 (f := .free "int") rfl)
  have n_isinstance := He.free_ok X G (D.fact 48 (f := .free "isinstance") rfl)
  have n_len := He.free_ok X G (D.fact 49 (f := .free "len") rfl)
  have n_list := He.free_ok X G (D.fact 50 (f := .free "list") rfl)
  have n_max := He.free_ok X G (D.fact 51 (f := .free "max") rfl)
  have n_min := He.free_ok X G (D.fact 52 (f := .free "min") rfl)
  have n_range := He.free_ok X G (D.fact 53 (f := .free "range") rfl)
  have n_reversed := He.free_ok X G (D.fact 54 (f := .free "reversed") rfl)
  have n_str := He.free_ok X G (D.fact 55 (f := .free "str") rfl)
  have n_sum := He.free_ok X G (D.fact 56 (f := .free "sum") rfl)
  have n_tuple := He.free_ok X G (D.fact 57 (f := .free "tuple") rfl)
  have n_zip := He.free_ok X G (D.fact 58 (f := .free "zip") rfl)
  have b__law_draws : Binds K fd__law_draws ["script"] [] := F__law_draws.bindsN fun _ _ _ _ _ _ us hl => match us, hl with | [_], _ => rfl
  have b__law_take : Binds K fd__law_take ["draws", "bound"] [] := F__law_take.bindsN fun _ _ _ _ _ _ us hl => match us, hl with | [_, _], _ => rfl
  have b__law_row : Binds K fd__law_row ["draws", "many"] [] := F__law_row.bindsN fun _ _ _ _ _ _ us hl => match us, hl with | [_, _], _ => rfl
  have b__law_two : Binds K fd__law_two ["many"] [] := F__law_two.bindsN fun _ _ _ _ _ _ us hl => match us, hl with | [_], _ => rfl
  have b_is_number : Binds K fd_is_number ["value", "least", "most"] [] := F_is_number.bindsN fun _ _ _ _ _ _ us hl => match us, hl with | [_, _, _], _ => rfl
  have b_check_levels : Binds K fd_check_levels ["levels"] [] := F_check_levels.bindsN fun _ _ _ _ _ _ us hl => match us, hl with | [_], _ => rfl
  have b_lifted : Binds K fd_lifted ["row"] [] := F_lifted.bindsN fun _ _ _ _ _ _ us hl => match us, hl with | [_], _ => rfl
  have b_tower : Binds K fd_tower ["row", "levels"] [] := F_tower.bindsN fun _ _ _ _ _ _ us hl => match us, hl with | [_, _], _ => rfl
  have b__law_alike : Binds K fd__law_alike ["found", "due"] [] := F__law_alike.bindsN fun _ _ _ _ _ _ us hl => match us, hl with | [_, _], _ => rfl
  have b__law_own : Binds K fd__law_own ["row", "levels"] [] := F__law_own.bindsN fun _ _ _ _ _ _ us hl => match us, hl with | [_, _], _ => rfl
  have b_lowered : Binds K fd_lowered ["sums", "differences"] [] := F_lowered.bindsN fun _ _ _ _ _ _ us hl => match us, hl with | [_, _], _ => rfl
  have b_row_of : Binds K fd_row_of ["value"] [] := F_row_of.bindsN fun _ _ _ _ _ _ us hl => match us, hl with | [_], _ => rfl
  have b__law_means : Binds K fd__law_means ["row", "levels"] [] := F__law_means.bindsN fun _ _ _ _ _ _ us hl => match us, hl with | [_, _], _ => rfl
  have b__law_extremes : Binds K fd__law_extremes ["levels"] [] := F__law_extremes.bindsN fun _ _ _ _ _ _ us hl => match us, hl with | [_], _ => rfl
  have b__law_changed : Binds K fd__law_changed ["draws", "row", "levels"] [] := F__law_changed.bindsN fun _ _ _ _ _ _ us hl => match us, hl with | [_, _, _], _ => rfl
  have b_are_planes : Binds K fd_are_planes ["value"] [] := F_are_planes.bindsN fun _ _ _ _ _ _ us hl => match us, hl with | [_], _ => rfl
  have b_check_planes : Binds K fd_check_planes ["planes", "levels"] [] := F_check_planes.bindsN fun _ _ _ _ _ _ us hl => match us, hl with | [_, _], _ => rfl
  have b_sums_of : Binds K fd_sums_of ["rows"] [] := F_sums_of.bindsN fun _ _ _ _ _ _ us hl => match us, hl with | [_], _ => rfl
  have b_check_plane : Binds K fd_check_plane ["planes"] [] := F_check_plane.bindsN fun _ _ _ _ _ _ us hl => match us, hl with | [_], _ => rfl
  have b_lean : Binds K fd_lean ["number", "planes"] [] := F_lean.bindsN fun _ _ _ _ _ _ us hl => match us, hl with | [_, _], _ => rfl
  have b_pair_offsets : Binds K fd_pair_offsets ["rest", "planes"] [] := F_pair_offsets.bindsN fun _ _ _ _ _ _ us hl => match us, hl with | [_, _], _ => rfl
  have b_spans : Binds K fd_spans ["planes"] [] := F_spans.bindsN fun _ _ _ _ _ _ us hl => match us, hl with | [_], _ => rfl
  have b_bounds : Binds K fd_bounds ["planes"] [] := F_bounds.bindsN fun _ _ _ _ _ _ us hl => match us, hl with | [_], _ => rfl
  have b_lean_row : Binds K fd_lean_row ["row", "planes"] [] := F_lean_row.bindsN fun _ _ _ _ _ _ us hl => match us, hl with | [_, _], _ => rfl
  have b_lean_tower : Binds K fd_lean_tower ["value", "planes"] [] := F_lean_tower.bindsN fun _ _ _ _ _ _ us hl => match us, hl with | [_, _], _ => rfl
  have b_shown_row : Binds K fd_shown_row ["row", "planes"] [] := F_shown_row.bindsN fun _ _ _ _ _ _ us hl => match us, hl with | [_, _], _ => rfl
  have b__law_planes : Binds K fd__law_planes ["draws", "row", "levels"] [] := F__law_planes.bindsN fun _ _ _ _ _ _ us hl => match us, hl with | [_, _, _], _ => rfl
  have b_whole : Binds K fd_whole ["field"] [] := F_whole.bindsN fun _ _ _ _ _ _ us hl => match us, hl with | [_], _ => rfl
  have b_lifted_rows : Binds K fd_lifted_rows ["field"] [] := F_lifted_rows.bindsN fun _ _ _ _ _ _ us hl => match us, hl with | [_], _ => rfl
  have b_turned : Binds K fd_turned ["field"] [] := F_turned.bindsN fun _ _ _ _ _ _ us hl => match us, hl with | [_], _ => rfl
  have b_lifted_field : Binds K fd_lifted_field ["field"] [] := F_lifted_field.bindsN fun _ _ _ _ _ _ us hl => match us, hl with | [_], _ => rfl
  have b_field_tower : Binds K fd_field_tower ["field", "levels"] [] := F_field_tower.bindsN fun _ _ _ _ _ _ us hl => match us, hl with | [_, _], _ => rfl
  have b_lowered_rows : Binds K fd_lowered_rows ["sums", "differences"] [] := F_lowered_rows.bindsN fun _ _ _ _ _ _ us hl => match us, hl with | [_, _], _ => rfl
  have b_lowered_field : Binds K fd_lowered_field ["sums", "others"] [] := F_lowered_field.bindsN fun _ _ _ _ _ _ us hl => match us, hl with | [_, _], _ => rfl
  have b_field_of : Binds K fd_field_of ["value"] [] := F_field_of.bindsN fun _ _ _ _ _ _ us hl => match us, hl with | [_], _ => rfl
  have b_lean_field_tower : Binds K fd_lean_field_tower ["value", "planes"] [] := F_lean_field_tower.bindsN fun _ _ _ _ _ _ us hl => match us, hl with | [_, _], _ => rfl
  have b_shown_field : Binds K fd_shown_field ["field", "planes"] [] := F_shown_field.bindsN fun _ _ _ _ _ _ us hl => match us, hl with | [_, _], _ => rfl
  have b_square_offsets : Binds K fd_square_offsets ["one", "other", "planes"] [] := F_square_offsets.bindsN fun _ _ _ _ _ _ us hl => match us, hl with | [_, _, _], _ => rfl
  have b_field_spans : Binds K fd_field_spans ["planes"] [] := F_field_spans.bindsN fun _ _ _ _ _ _ us hl => match us, hl with | [_], _ => rfl
  have b_field_bounds : Binds K fd_field_bounds ["planes"] [] := F_field_bounds.bindsN fun _ _ _ _ _ _ us hl => match us, hl with | [_], _ => rfl
  have b__law_field : Binds K fd__law_field ["draws", "levels"] [] := F__law_field.bindsN fun _ _ _ _ _ _ us hl => match us, hl with | [_, _], _ => rfl
  have b_law : Binds K fd_law ["script"] [] := F_law.bindsN fun _ _ _ _ _ _ us hl => match us, hl with | [_], _ => rfl
  have hc_are_planes : fd_are_planes.code = .ref (He.codeOf K ("are_planes", none)) := code_ref F_are_planes
  letI : Tabs := ⟨(tfl.map (He.cT K)).map (·.2)⟩
  have e := hfa.symm.trans g_law
  cases e
  have bA := FunD.bindsA (ps := ["script"]) F_law fun _ _ _ _ _ _ us hl => match us, hl with | [_], _ => rfl
  refine ⟨fd_law, tfl.map (He.cT K), spM K mg 1 m_law, ?_, ?_, ?_, fun s u => bA s [u] rfl, ?_, ?_⟩
  · intro p hp
    obtain ⟨q, hq, rfl⟩ := List.mem_map.mp hp
    exact c.empty q hq
  · intro p hp
    obtain ⟨q, hq, rfl⟩ := List.mem_map.mp hp
    exact c.out q hq
  · intro p hp
    obtain ⟨q, hq, rfl⟩ := List.mem_map.mp hp
    exact PySem.W.codeHd_of_K X (c.hd q hq)
  · intro H a ns hl hbits hT hS
    obtain ⟨S', e⟩ := plain_law ns hl hbits
    exact spM_start e hT hS
  · intro base KB GB TB
    exact fn_law (P := l.prog) (w := w) (K := K) (mg := mg) (base := base) ⟨fd__law_draws, F__law_draws, g__law_draws, b__law_draws, fd__law_take, F__law_take, g__law_take, b__law_take, fd__law_row, F__law_row, g__law_row, b__law_row, fd__law_two, F__law_two, g__law_two, b__law_two, fd_is_number, F_is_number, g_is_number, b_is_number, fd_check_levels, F_check_levels, g_check_levels, b_check_levels, fd_lifted, F_lifted, g_lifted, b_lifted, fd_tower, F_tower, g_tower, b_tower, fd__law_alike, F__law_alike, g__law_alike, b__law_alike, fd__law_own, F__law_own, g__law_own, b__law_own, fd_lowered, F_lowered, g_lowered, b_lowered, fd_row_of, F_row_of, g_row_of, b_row_of, fd__law_means, F__law_means, g__law_means, b__law_means, fd__law_extremes, F__law_extremes, g__law_extremes, b__law_extremes, fd__law_changed, F__law_changed, g__law_changed, b__law_changed, fd_are_planes, F_are_planes, g_are_planes, b_are_planes, He.codeOf K ("are_planes", none), (He.cT K ("are_planes", none)).2, hc_are_planes, tabB_of (TB (He.cT K ("are_planes", none)) (List.mem_map.mpr ⟨_, by simp [tfl], rfl⟩)), List.mem_map.mpr ⟨_, List.mem_map.mpr ⟨("are_planes", none), by simp [tfl], rfl⟩, rfl⟩, fd_check_planes, F_check_planes, g_check_planes, b_check_planes, fd_sums_of, F_sums_of, g_sums_of, b_sums_of, fd_check_plane, F_check_plane, g_check_plane, b_check_plane, fd_lean, F_lean, g_lean, b_lean, fd_pair_offsets, F_pair_offsets, g_pair_offsets, b_pair_offsets, fd_spans, F_spans, g_spans, b_spans, fd_bounds, F_bounds, g_bounds, b_bounds, fd_lean_row, F_lean_row, g_lean_row, b_lean_row, fd_lean_tower, F_lean_tower, g_lean_tower, b_lean_tower, fd_shown_row, F_shown_row, g_shown_row, b_shown_row, fd__law_planes, F__law_planes, g__law_planes, b__law_planes, fd_whole, F_whole, g_whole, b_whole, fd_lifted_rows, F_lifted_rows, g_lifted_rows, b_lifted_rows, fd_turned, F_turned, g_turned, b_turned, fd_lifted_field, F_lifted_field, g_lifted_field, b_lifted_field, fd_field_tower, F_field_tower, g_field_tower, b_field_tower, fd_lowered_rows, F_lowered_rows, g_lowered_rows, b_lowered_rows, fd_lowered_field, F_lowered_field, g_lowered_field, b_lowered_field, fd_field_of, F_field_of, g_field_of, b_field_of, fd_lean_field_tower, F_lean_field_tower, g_lean_field_tower, b_lean_field_tower, fd_shown_field, F_shown_field, g_shown_field, b_shown_field, fd_square_offsets, F_square_offsets, g_square_offsets, b_square_offsets, fd_field_spans, F_field_spans, g_field_spans, b_field_spans, fd_field_bounds, F_field_bounds, g_field_bounds, b_field_bounds, fd__law_field, F__law_field, g__law_field, b__law_field, fd_law, F_law, g_law, b_law, _, g_MOST_LEVELS, ⟨t_MOST_LEVELS, rfl⟩, _, g_MOST_PLANES, ⟨t_MOST_PLANES, rfl⟩, n_abs, n_all, n_bool, n_int, n_isinstance, n_len, n_list, n_max, n_min, n_range, n_reversed, n_str, n_sum, n_tuple, n_zip⟩
end K40
open PySem PySem.W PySem.Calls PyProof.Rows
theorem PySem.Challenge.cw_lostastold_k40_whole_towers_and_what_the_holds : PySem.Challenge.rw_lostastold_k40_whole_towers_and_what_the.Holds := by
  w_on; o_law
  refine HandSHeadRun.head_any (r := OpenLaw.row PySem.Challenge.rw_lostastold_k40_whole_towers_and_what_the) (q := view (OpenLaw.row PySem.Challenge.rw_lostastold_k40_whole_towers_and_what_the).prog [52]) (H := K40.hk) (ob := K40.ob) (M := 6000) (loose := K40.loose) (d := HandSHeadRun.topDef (OpenLaw.row PySem.Challenge.rw_lostastold_k40_whole_towers_and_what_the).prog 52) (kwd := []) K40.ob_eq
    (by kernel_rfl) (fun s => by kernel_rfl) K40.run (by kernel_rfl) (by kernel_rfl) (by kernel_rfl) (by rfl) (by first | assumption | decide +kernel) (by decide +kernel) ⟨rfl, rfl, rfl, rfl, rfl, by decide +kernel⟩ ?hw ?hc
  case hw => w_witness2
  case hc =>
    refine LamX.walk_ofTsE (l := PySem.Challenge.rw_lostastold_k40_whole_towers_and_what_the) (n := 63) (k := 12) (x := "script") (CX := fun w => L2.CX PySem.Challenge.rw_lostastold_k40_whole_towers_and_what_the.prog w) rfl (by decide) (by kernel_rfl) ⟨rfl, by decide, by decide⟩ ?F (fun w H s e s' z => M.cx_false z)
    intro w mg fa h Y G hmg0
    obtain ⟨K, KX, c⟩ := Y
    have hmg : mg ("law" : PySem.Str) = some (.ref fa) := by
      have e : (HandSHeadRun.topDef (OpenLaw.row PySem.Challenge.rw_lostastold_k40_whole_towers_and_what_the).prog 52).name = ("law" : PySem.Str) := by kernel_rfl
      rw [← e]
      exact hmg0
    exact ⟨K, KX, K40.facts (P := PySem.Challenge.rw_lostastold_k40_whole_towers_and_what_the.prog) KX G hmg c⟩

