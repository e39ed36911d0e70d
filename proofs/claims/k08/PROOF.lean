import PyProof.Rows.All
import Wide.All
import OpenK.AllK
import Wide.FinOn
import HandS.ForMost
import HandS.ForExc
import HandS.Evl
import HandS.AnyAll
import HandS.TupAny
import HandS.TupMul
import HandS.IsInst
import HandS.Style
import HandS.Conv
import HandS.StrMore
import HandS.Codes
import HandS.Deep
import HandS.SortInts
import HandS.Wide
import HandS.Zip
import HandS.Rev
import PyProof.P3In
import HandS.Text
import PyProof.WalksMore
import HandS.More
import HandS.Walk
import HandS.TryOnly
import HandS.Flow
import HandS.GenList
import HandS.Lambda
import HandS.RevTup
import HandS.Defaults
import HandS.HeadWalk
import HandS.HeadHook4
import HandS.Head2
import PySem.Challenge.RW_lostastold_k08_whole_pictures_in_parts
set_option Elab.async false
set_option linter.all false
set_option maxRecDepth 100000
/-! The value layer: data, store, what stands for what, results, judgements. -/
namespace M
open PySem PySem.Spec PyProof.Rows L2

/-- data: immutable values (lst: a list that nobody changes; fro: one that is locked from outside, as the script), and loc n: the n-th mutable object of the store -/
inductive D where
  | non | bl (b : Bool) | int (i : Int) | str (x : Str) | tup (xs : List D) | lst (xs : List D) | fro (xs : List D) | loc (n : Nat) | ref (a : Addr) | ty (n : String)
  deriving Inhabited
/-- a mutable object -/
inductive OB where
  | lst (xs : List D)
abbrev Store := List OB
abbrev Env := List (Option D)
/-- where the objects of the store stand; what is hidden: lists that are being made -/
structure Rh where
  l : List Addr
  h : List Addr
/-- the tables of code objects of the defs -/
class Tabs where
  t : List Addr
variable [Tabs]

/-- a list of the head's -/
def KL (K : PySem.W.Frag) (a : Addr) (xs : List V) : Prop := ∃ (o : Obj) (its : Array Value) (n : Nat), K.lookup a = some o ∧ o.cls = .type "list" ∧ o.dict = none ∧ o.data = .seq its n ∧ its.size ≤ sizeLine ∧ Vals xs its.toList
mutual
inductive RepD (K : PySem.W.Frag) (ρ : Rh) (H : Hp) : D → V → Prop
  | non : RepD K ρ H .non .non
  | bl (b : Bool) : RepD K ρ H (.bl b) (.bl b)
  | int (i : Int) : RepD K ρ H (.int i) (.int i)
  | str (x : Str) : RepD K ρ H (.str x) (.str x)
  | tup {a : Addr} {vs : List V} {ds : List D} : SqT K H a vs → RepDs K ρ H ds vs → RepD K ρ H (.tup ds) (.ref a)
  | lst {a : Addr} {vs : List V} {ds : List D} : H a = some (.lst vs) → a ∉ ρ.l → a ∉ ρ.h → RepDs K ρ H ds vs → RepD K ρ H (.lst ds) (.ref a)
  | fro {a : Addr} {vs : List V} {ds : List D} : Rd H a (.lst vs) → a ∉ ρ.l → a ∉ ρ.h → RepDs K ρ H ds vs → RepD K ρ H (.fro ds) (.ref a)
  | frk {a : Addr} {vs : List V} {ds : List D} : KL K a vs → RepDs K ρ H ds vs → RepD K ρ H (.fro ds) (.ref a)
  | loc {n : Nat} {a : Addr} : ρ.l[n]? = some a → RepD K ρ H (.loc n) (.ref a)
  | ref (a : Addr) : RepD K ρ H (.ref a) (.ref a)
  | ty (n : String) : RepD K ρ H (.ty n) (.ty n)
inductive RepDs (K : PySem.W.Frag) (ρ : Rh) (H : Hp) : List D → List V → Prop
  | nil : RepDs K ρ H [] []
  | cons {d : D} {ds : List D} {v : V} {vs : List V} : RepD K ρ H d v → RepDs K ρ H ds vs → RepDs K ρ H (d :: ds) (v :: vs)
end

/-- an object of the store stands at a -/
def ObRel (K : PySem.W.Frag) (ρ : Rh) (H : Hp) (a : Addr) : OB → Prop
  | .lst ds => ∃ vs, H a = some (.lst vs) ∧ RepDs K ρ H ds vs
/-- the object at c is a code object whose table stands at P -/
def CodeX (c P : Addr) : HO := .ext fun h => PySem.W.CodeHd h c P
/-- a table of code objects, each with its own table -/
def TabN (H : Hp) (P : Addr) : Prop := ∃ ps : Array Value, H P = some (.tbl ps) ∧ TriplesOk ps.toList ∧ ∀ (pos : Pos) (cv : Value), codeAmong pos ps.toList = some cv → ∃ c P' qs, cv = .ref c ∧ H c = some (CodeX c P') ∧ H P' = some (.tbl qs) ∧ TriplesOk qs.toList
theorem tabN_upd {H : Hp} {a p : Addr} {o : HO} (t : TabN H a) (hp : ∀ o', H p = some o' → ∃ vs, o' = .lst vs) : TabN (upd H p o) a := by
  obtain ⟨ps, e, k, d⟩ := t
  have ne : ∀ b u, H b = some u → (∀ vs, u ≠ .lst vs) → b ≠ p := fun b u e n z => by
    rw [z] at e
    obtain ⟨vs, q⟩ := hp u e
    exact n vs q
  refine ⟨ps, by rw [upd_ne (ne a _ e fun _ z => by cases z)]; exact e, k, fun pos cv hc => ?_⟩
  obtain ⟨c, P', qs, h1, h2, h3, h4⟩ := d pos cv hc
  exact ⟨c, P', qs, h1, by rw [upd_ne (ne c _ h2 fun _ z => by cases z)]; exact h2, by rw [upd_ne (ne P' _ h3 fun _ z => by cases z)]; exact h3, h4⟩
/-- H' b is no table -/
abbrev NT (o : HO) : Prop := ∀ ps, o ≠ .tbl ps
structure Rel (K : PySem.W.Frag) (ρ : Rh) (H : Hp) (S : Store) : Prop where
  len : ρ.l.length = S.length
  nd : ρ.l.Nodup
  at_ : ∀ (n : Nat) (o : OB) (a : Addr), S[n]? = some o → ρ.l[n]? = some a → ObRel K ρ H a o
  hid : ∀ a ∈ ρ.h, ∃ vs, H a = some (.lst vs)
  tab : ∀ a ∈ Tabs.t, TabN H a
/-- the heap has grown; only what ρ tells of may have changed -/
structure Fr (ρ : Rh) (H : Hp) (ρ' : Rh) (H' : Hp) : Prop where
  new : ∃ l, ρ' = ⟨ρ.l ++ l, ρ.h⟩ ∧ ∀ a ∈ l, H a = none
  keep : ∀ a o, H a = some o → a ∉ ρ.l → NT o → H' a = some o
  live : ∀ a o, H a = some o → ∃ o', H' a = some o'
def EnvRel (K : PySem.W.Frag) (ρ : Rh) (H : Hp) (σ : L2.St) (e : Env) : Prop :=
  σ.length = e.length ∧ ∀ (i : Nat) (d : D), e[i]? = some (some d) → ∃ v, σ[i]? = some (some v) ∧ RepD K ρ H d v

theorem Fr.refl (ρ : Rh) (H : Hp) : Fr ρ H ρ H := ⟨⟨[], by simp, by simp⟩, fun _ _ h _ _ => h, fun a o h => ⟨o, h⟩⟩
theorem Fr.trans {ρ ρ1 ρ2 : Rh} {H H1 H2 : Hp} (f : Fr ρ H ρ1 H1) (g : Fr ρ1 H1 ρ2 H2) : Fr ρ H ρ2 H2 := by
  obtain ⟨l, rfl, hl⟩ := f.new
  obtain ⟨k, rfl, hk⟩ := g.new
  refine ⟨⟨l ++ k, by simp, fun a m => ?_⟩, fun a o h n nt => g.keep a o (f.keep a o h n nt) (fun m => ?_) nt, fun a o h => ?_⟩
  · rcases List.mem_append.mp m with m | m
    · exact hl a m
    · cases q : H a with
      | none => rfl
      | some o =>
        obtain ⟨o', z⟩ := f.live a o q
        rw [hk a m] at z; cases z
  · rcases List.mem_append.mp m with m | m
    · exact n m
    · rw [hl a m] at h; cases h
  · obtain ⟨o', z⟩ := f.live a o h
    exact g.live a o' z
/-- a new object that the store does not tell of -/
theorem Fr.laid {ρ : Rh} {H : Hp} {p : Addr} {o : HO} (h : H p = none) : Fr ρ H ρ (upd H p o) :=
  ⟨⟨[], by simp, by simp⟩, fun a u e _ _ => by rw [upd_ne (ne_of_none e h)]; exact e, fun a u e => ⟨u, by rw [upd_ne (ne_of_none e h)]; exact e⟩⟩
/-- .. that it tells of from now on -/
theorem Fr.laidL {ρ : Rh} {H : Hp} {p : Addr} {o : HO} (h : H p = none) : Fr ρ H ⟨ρ.l ++ [p], ρ.h⟩ (upd H p o) :=
  ⟨⟨[p], rfl, by simpa using h⟩, fun a u e _ _ => by rw [upd_ne (ne_of_none e h)]; exact e, fun a u e => ⟨u, by rw [upd_ne (ne_of_none e h)]; exact e⟩⟩
/-- an object of the store is changed -/
theorem Fr.put {ρ : Rh} {H : Hp} {p : Addr} {o : HO} (h : p ∈ ρ.l) : Fr ρ H ρ (upd H p o) :=
  ⟨⟨[], by simp, by simp⟩, fun a u e n _ => by
    have z : a ≠ p := fun z => n (by rw [z]; exact h)
    rw [upd_ne z]; exact e, fun a u e => by
    by_cases z : a = p
    · exact ⟨o, by rw [z, upd_same]⟩
    · exact ⟨u, by rw [upd_ne z]; exact e⟩⟩
theorem Fr.at_ {ρ ρ' : Rh} {H H' : Hp} (f : Fr ρ H ρ' H') {n : Nat} {a : Addr} (h : ρ.l[n]? = some a) : ρ'.l[n]? = some a := by
  obtain ⟨l, rfl, _⟩ := f.new
  show (ρ.l ++ l)[n]? = some a
  rw [List.getElem?_append_left (List.getElem?_eq_some_iff.mp h).1]; exact h

theorem Fr.hid {ρ ρ' : Rh} {H H' : Hp} (f : Fr ρ H ρ' H') : ρ'.h = ρ.h := by obtain ⟨l, rfl, _⟩ := f.new; rfl
/-- what ρ tells of is no tuple -/
def Free (ρ : Rh) (H : Hp) : Prop := ∀ a ∈ ρ.l, ∃ vs, H a = some (.lst vs)
theorem Rel.free {K : PySem.W.Frag} {ρ : Rh} {H : Hp} {S : Store} (r : Rel K ρ H S) : Free ρ H := fun a m => by
  obtain ⟨n, hn, e⟩ := List.mem_iff_getElem.mp m
  have e1 : ρ.l[n]? = some a := List.getElem?_eq_some_iff.mpr ⟨hn, e⟩
  have hs : n < S.length := by rw [← r.len]; exact hn
  have q := r.at_ n S[n] a (List.getElem?_eq_getElem hs) e1
  cases h : S[n] with
  | lst ds => rw [h] at q; obtain ⟨vs, z, _⟩ := q; exact ⟨vs, z⟩
theorem sqt_fr {K : PySem.W.Frag} {ρ ρ' : Rh} {H H' : Hp} (F : Free ρ H) (f : Fr ρ H ρ' H') {a : Addr} {vs : List V} (h : SqT K H a vs) : SqT K H' a vs := by
  have key : ∀ o, H a = some o → (∀ ws, o ≠ .lst ws) → NT o → H' a = some o := fun o e ne nt => f.keep a o e (fun m => by
    obtain ⟨ws, z⟩ := F a m
    rw [e] at z
    exact ne ws (Option.some.inj z)) nt
  rcases h with (h | ⟨o, h⟩) | h
  · exact .inl (.inl (key _ h (fun ws z => by cases z) fun ps z => by cases z))
  · exact .inl (.inr ⟨o, key _ h (fun ws z => by cases z) fun ps z => by cases z⟩)
  · exact .inr h
theorem rd_fr {ρ ρ' : Rh} {H H' : Hp} (f : Fr ρ H ρ' H') {a : Addr} {ws : List V} (h : Rd H a (.lst ws)) (n : a ∉ ρ.l) : Rd H' a (.lst ws) ∧ a ∉ ρ'.l := by
  obtain ⟨l, rfl, hl⟩ := f.new
  have nn : ∀ o, H a = some o → a ∉ ρ.l ++ l := fun o e m => by
    rcases List.mem_append.mp m with m | m
    · exact n m
    · rw [hl a m] at e; cases e
  rcases h with h | ⟨o, h⟩
  · exact ⟨.inl (f.keep a _ h n fun ps z => by cases z), nn _ h⟩
  · exact ⟨.inr ⟨o, f.keep a _ h n fun ps z => by cases z⟩, nn _ h⟩
mutual
theorem RepD.fr {K : PySem.W.Frag} {ρ ρ' : Rh} {H H' : Hp} (F : Free ρ H) (f : Fr ρ H ρ' H') : ∀ (d : D) (v : V), RepD K ρ H d v → RepD K ρ' H' d v
  | .non, _, h => by cases h; exact .non
  | .bl b, _, h => by cases h; exact .bl b
  | .int i, _, h => by cases h; exact .int i
  | .str x, _, h => by cases h; exact .str x
  | .tup ds, _, h => by
    cases h with
    | tup hs hd => exact .tup (sqt_fr F f hs) (RepDs.fr F f ds _ hd)
  | .lst ds, _, h => by
    cases h with
    | lst hs hn hh hd =>
      obtain ⟨_, b⟩ := rd_fr f (Rd.of hs) hn
      exact .lst (f.keep _ _ hs hn fun ps z => by cases z) b (by rw [f.hid]; exact hh) (RepDs.fr F f ds _ hd)
  | .fro ds, _, h => by
    cases h with
    | fro hs hn hh hd =>
      obtain ⟨a, b⟩ := rd_fr f hs hn
      exact .fro a b (by rw [f.hid]; exact hh) (RepDs.fr F f ds _ hd)
    | frk hk hd => exact .frk hk (RepDs.fr F f ds _ hd)
  | .loc n, _, h => by
    cases h with
    | loc e => exact .loc (f.at_ e)
  | .ref a, _, h => by cases h; exact .ref a
  | .ty n, _, h => by cases h; exact .ty n
theorem RepDs.fr {K : PySem.W.Frag} {ρ ρ' : Rh} {H H' : Hp} (F : Free ρ H) (f : Fr ρ H ρ' H') : ∀ (ds : List D) (vs : List V), RepDs K ρ H ds vs → RepDs K ρ' H' ds vs
  | [], _, h => by cases h; exact .nil
  | d :: ds, _, h => by
    cases h with
    | cons h1 h2 => exact .cons (RepD.fr F f d _ h1) (RepDs.fr F f ds _ h2)
end
theorem EnvRel.fr {K : PySem.W.Frag} {ρ ρ' : Rh} {H H' : Hp} {σ : L2.St} {e : Env} (F : Free ρ H) (f : Fr ρ H ρ' H') (h : EnvRel K ρ H σ e) : EnvRel K ρ' H' σ e :=
  ⟨h.1, fun i d q => let ⟨v, a, b⟩ := h.2 i d q; ⟨v, a, RepD.fr F f d v b⟩⟩
section
variable {K : PySem.W.Frag} {ρ : Rh} {H : Hp} {ds es : List D} {vs ws : List V}
theorem RepDs.length : ∀ {ds : List D} {vs : List V}, RepDs K ρ H ds vs → ds.length = vs.length
  | [], _, h => by cases h; rfl
  | _ :: ds, _, h => by
    cases h with
    | cons h1 h2 => simp [RepDs.length h2]
theorem RepDs.get : ∀ {ds : List D} {vs : List V} {i : Nat} {d : D}, RepDs K ρ H ds vs → ds[i]? = some d → ∃ v, vs[i]? = some v ∧ RepD K ρ H d v
  | [], _, _, _, h, e => by simp at e
  | d :: ds, _, 0, _, h, e => by
    cases h with
    | cons h1 h2 => simp at e; subst e; exact ⟨_, rfl, h1⟩
  | d :: ds, _, i + 1, _, h, e => by
    cases h with
    | cons h1 h2 =>
      obtain ⟨v, a, b⟩ := RepDs.get (i := i) h2 (by simpa using e)
      exact ⟨v, by simpa using a, b⟩
theorem RepDs.getV : ∀ {ds : List D} {vs : List V} {i : Nat} {v : V}, RepDs K ρ H ds vs → vs[i]? = some v → ∃ d, ds[i]? = some d ∧ RepD K ρ H d v := fun {ds vs i v} h e => by
  have hl := h.length
  have hi : i < ds.length := by rw [hl]; exact (List.getElem?_eq_some_iff.mp e).1
  obtain ⟨w, a, b⟩ := h.get (List.getElem?_eq_getElem hi)
  rw [e] at a; cases a
  exact ⟨_, List.getElem?_eq_getElem hi, b⟩
theorem RepDs.append : ∀ {ds es : List D} {vs ws : List V}, RepDs K ρ H ds vs → RepDs K ρ H es ws → RepDs K ρ H (ds ++ es) (vs ++ ws)
  | [], _, _, _, h, g => by cases h; exact g
  | _ :: _, _, _, _, h, g => by
    cases h with
    | cons h1 h2 => exact .cons h1 (RepDs.append h2 g)
theorem RepDs.take : ∀ {ds : List D} {vs : List V} (n : Nat), RepDs K ρ H ds vs → RepDs K ρ H (ds.take n) (vs.take n)
  | _, _, 0, _ => by simp; exact .nil
  | [], _, n + 1, h => by cases h; exact .nil
  | _ :: _, _, n + 1, h => by
    cases h with
    | cons h1 h2 => exact .cons h1 (RepDs.take n h2)
theorem RepDs.drop : ∀ {ds : List D} {vs : List V} (n : Nat), RepDs K ρ H ds vs → RepDs K ρ H (ds.drop n) (vs.drop n)
  | _, _, 0, h => by simpa using h
  | [], _, n + 1, h => by cases h; exact .nil
  | _ :: _, _, n + 1, h => by
    cases h with
    | cons h1 h2 => exact RepDs.drop n h2
theorem RepDs.set {d : D} {v : V} (r : RepD K ρ H d v) : ∀ {ds : List D} {vs : List V} (i : Nat), RepDs K ρ H ds vs → RepDs K ρ H (ds.set i d) (vs.set i v)
  | [], _, _, h => by cases h; exact .nil
  | _ :: _, _, 0, h => by
    cases h with
    | cons h1 h2 => exact .cons r h2
  | _ :: _, _, i + 1, h => by
    cases h with
    | cons h1 h2 => exact .cons h1 (RepDs.set r i h2)
theorem RepDs.of_get : ∀ {ds : List D} {vs : List V}, ds.length = vs.length → (∀ (i : Nat) (d : D) (v : V), ds[i]? = some d → vs[i]? = some v → RepD K ρ H d v) → RepDs K ρ H ds vs
  | [], [], _, _ => .nil
  | [], _ :: _, h, _ => by simp at h
  | _ :: _, [], h, _ => by simp at h
  | d :: ds, v :: vs, h, q => .cons (q 0 d v rfl rfl) (RepDs.of_get (by simpa using h) fun i e w a b => q (i + 1) e w (by simpa using a) (by simpa using b))
theorem RepDs.reverse (h : RepDs K ρ H ds vs) : RepDs K ρ H ds.reverse vs.reverse := by
  have hl := h.length
  refine .of_get (by simp [hl]) fun i d v a b => ?_
  have hi : i < ds.length := by have := (List.getElem?_eq_some_iff.mp a).1; simpa using this
  rw [List.getElem?_reverse hi] at a
  rw [List.getElem?_reverse (by omega)] at b
  obtain ⟨w, c, r⟩ := h.get a
  rw [hl, b] at c; cases c
  exact r
theorem RepD.inj_int {i : Int} {v : V} (h : RepD K ρ H (.int i) v) : v = .int i := by cases h; rfl
theorem RepD.inj_str {x : Str} {v : V} (h : RepD K ρ H (.str x) v) : v = .str x := by cases h; rfl
theorem RepD.inj_bl {b : Bool} {v : V} (h : RepD K ρ H (.bl b) v) : v = .bl b := by cases h; rfl
theorem RepD.inj_non {v : V} (h : RepD K ρ H .non v) : v = .non := by cases h; rfl
theorem RepDs.ints : ∀ {ns : List Int} {vs : List V}, RepDs K ρ H (ns.map D.int) vs → vs = ns.map V.int
  | [], _, h => by cases h; rfl
  | n :: ns, _, h => by
    cases h with
    | cons h1 h2 => rw [h1.inj_int, RepDs.ints h2]; rfl
theorem RepDs.strs : ∀ {ns : List Str} {vs : List V}, RepDs K ρ H (ns.map D.str) vs → vs = ns.map V.str
  | [], _, h => by cases h; rfl
  | n :: ns, _, h => by
    cases h with
    | cons h1 h2 => rw [h1.inj_str, RepDs.strs h2]; rfl
theorem RepDs.of_ints : ∀ (ns : List Int), RepDs K ρ H (ns.map D.int) (ns.map V.int)
  | [] => .nil
  | n :: ns => .cons (.int n) (RepDs.of_ints ns)
theorem RepDs.of_strs : ∀ (ns : List Str), RepDs K ρ H (ns.map D.str) (ns.map V.str)
  | [] => .nil
  | n :: ns => .cons (.str n) (RepDs.of_strs ns)
end

/-! ### the relation under the heap's steps -/
section
variable {K : PySem.W.Frag} {ρ : Rh} {H : Hp} {S : Store}
theorem ObRel.fr {ρ' : Rh} {H' : Hp} {a : Addr} {o : OB} (F : Free ρ H) (f : Fr ρ H ρ' H') (h : ObRel K ρ H a o) (k : ∀ u, H a = some u → H' a = some u) : ObRel K ρ' H' a o := by
  cases o with
  | lst ds => obtain ⟨vs, e, r⟩ := h; exact ⟨vs, k _ e, RepDs.fr F f ds vs r⟩
theorem tabG_laid {a p : Addr} {o : HO} (t : TabN H a) (h : H p = none) : TabN (upd H p o) a := tabN_upd t fun o' e => by rw [h] at e; cases e
theorem Rel.laid (r : Rel K ρ H S) {p : Addr} {o : HO} (h : H p = none) : Rel K ρ (upd H p o) S :=
  ⟨r.len, r.nd, fun n u a e1 e2 => (r.at_ n u a e1 e2).fr r.free (Fr.laid h) fun w q => by rw [upd_ne (ne_of_none q h)]; exact q, fun a m => let ⟨vs, z⟩ := r.hid a m; ⟨vs, by rw [upd_ne (ne_of_none z h)]; exact z⟩, fun a m => tabG_laid (r.tab a m) h⟩
theorem Rel.lt (r : Rel K ρ H S) {n : Nat} {o : OB} (e : S[n]? = some o) : ∃ a, ρ.l[n]? = some a ∧ a ∈ ρ.l ∧ ObRel K ρ H a o := by
  have hn : n < ρ.l.length := by rw [r.len]; exact (List.getElem?_eq_some_iff.mp e).1
  exact ⟨ρ.l[n], List.getElem?_eq_getElem hn, List.getElem_mem hn, r.at_ n o _ e (List.getElem?_eq_getElem hn)⟩
theorem Rel.laidL (r : Rel K ρ H S) {p : Addr} {vs : List V} {ds : List D} (h : H p = none) (q : RepDs K ρ H ds vs) : Rel K ⟨ρ.l ++ [p], ρ.h⟩ (upd H p (.lst vs)) (S ++ [.lst ds]) := by
  have np : p ∉ ρ.l := fun m => by obtain ⟨ws, z⟩ := r.free p m; rw [h] at z; cases z
  have f : Fr ρ H ⟨ρ.l ++ [p], ρ.h⟩ (upd H p (.lst vs)) := Fr.laidL h
  refine ⟨by simp [r.len], ?_, fun n u a e1 e2 => ?_, fun a m => let ⟨vs, z⟩ := r.hid a m; ⟨vs, by rw [upd_ne (ne_of_none z h)]; exact z⟩, fun a m => tabG_laid (r.tab a m) h⟩
  · show (ρ.l ++ [p]).Nodup
    rw [List.nodup_append]
    exact ⟨r.nd, by simp, fun a ha b hb => by simp at hb; subst hb; rintro rfl; exact np ha⟩
  · have e2 : (ρ.l ++ [p])[n]? = some a := e2
    by_cases hn : n < S.length
    · rw [List.getElem?_append_left hn] at e1
      rw [List.getElem?_append_left (by rw [r.len]; exact hn)] at e2
      exact (r.at_ n u a e1 e2).fr r.free f fun w q => by rw [upd_ne (ne_of_none q h)]; exact q
    · rw [List.getElem?_append_right (by omega)] at e1
      rw [List.getElem?_append_right (by rw [r.len]; omega)] at e2
      rw [r.len] at e2
      have h0 : n - S.length = 0 := by
        rcases Nat.eq_zero_or_pos (n - S.length) with z | z
        · exact z
        · rw [List.getElem?_eq_none (by simp; omega)] at e1; cases e1
      rw [h0] at e1 e2
      simp at e1 e2
      subst e1 e2
      exact ⟨vs, upd_same, RepDs.fr r.free f ds vs q⟩
theorem Rel.put (r : Rel K ρ H S) {n : Nat} {p : Addr} {vs : List V} {ds : List D} (hp : ρ.l[n]? = some p) (q : RepDs K ρ H ds vs) : Rel K ρ (upd H p (.lst vs)) (S.set n (.lst ds)) := by
  have hn : n < ρ.l.length := (List.getElem?_eq_some_iff.mp hp).1
  have mp : p ∈ ρ.l := List.mem_of_getElem? hp
  have f : Fr ρ H ρ (upd H p (.lst vs)) := Fr.put mp
  refine ⟨by simp [r.len], r.nd, fun m u a e1 e2 => ?_, fun a m => let ⟨ws, z⟩ := r.hid a m; by
    by_cases e : a = p
    · exact ⟨vs, by rw [e, upd_same]⟩
    · exact ⟨ws, by rw [upd_ne e]; exact z⟩, fun a m => by
    refine tabN_upd (r.tab a m) fun o' e => ?_
    obtain ⟨ws, q⟩ := r.free p mp
    rw [q] at e
    exact ⟨ws, (Option.some.inj e).symm⟩⟩
  by_cases hm : m = n
  · subst hm
    rw [hp] at e2; cases e2
    rw [List.getElem?_set_self (by rw [← r.len]; exact hn)] at e1
    cases e1
    exact ⟨vs, upd_same, RepDs.fr r.free f ds vs q⟩
  · rw [List.getElem?_set_ne (Ne.symm hm)] at e1
    have na : a ≠ p := fun z => hm (by
      subst z
      obtain ⟨h1, z1⟩ := List.getElem?_eq_some_iff.mp e2
      obtain ⟨h2, z2⟩ := List.getElem?_eq_some_iff.mp hp
      exact (List.getElem_inj r.nd).mp (z1.trans z2.symm))
    exact (r.at_ m u a e1 e2).fr r.free f fun w q => by rw [upd_ne na]; exact q
end

/-- with one more hidden -/
abbrev Rh.hide (ρ : Rh) (p : Addr) : Rh := ⟨ρ.l, p :: ρ.h⟩
/-! ### hidden lists -/
/-- what ρ' sees too -/
structure Sees (H : Hp) (ρ ρ' : Rh) : Prop where
  loc : ∀ (n : Nat) (a : Addr), ρ.l[n]? = some a → ρ'.l[n]? = some a
  out : ∀ (a : Addr) (vs : List V), Rd H a (.lst vs) → a ∉ ρ.l → a ∉ ρ.h → a ∉ ρ'.l ∧ a ∉ ρ'.h
mutual
theorem RepD.sees {K : PySem.W.Frag} {ρ ρ' : Rh} {H : Hp} (s : Sees H ρ ρ') : ∀ (d : D) (v : V), RepD K ρ H d v → RepD K ρ' H d v
  | .non, _, h => by cases h; exact .non
  | .bl b, _, h => by cases h; exact .bl b
  | .int i, _, h => by cases h; exact .int i
  | .str x, _, h => by cases h; exact .str x
  | .tup ds, _, h => by
    cases h with
    | tup hs hd => exact .tup hs (RepDs.sees s ds _ hd)
  | .lst ds, _, h => by
    cases h with
    | lst hs hn hh hd =>
      obtain ⟨a, b⟩ := s.out _ _ (Rd.of hs) hn hh
      exact .lst hs a b (RepDs.sees s ds _ hd)
  | .fro ds, _, h => by
    cases h with
    | fro hs hn hh hd =>
      obtain ⟨a, b⟩ := s.out _ _ hs hn hh
      exact .fro hs a b (RepDs.sees s ds _ hd)
    | frk hk hd => exact .frk hk (RepDs.sees s ds _ hd)
  | .loc n, _, h => by
    cases h with
    | loc e => exact .loc (s.loc _ _ e)
  | .ref a, _, h => by cases h; exact .ref a
  | .ty n, _, h => by cases h; exact .ty n
theorem RepDs.sees {K : PySem.W.Frag} {ρ ρ' : Rh} {H : Hp} (s : Sees H ρ ρ') : ∀ (ds : List D) (vs : List V), RepDs K ρ H ds vs → RepDs K ρ' H ds vs
  | [], _, h => by cases h; exact .nil
  | d :: ds, _, h => by
    cases h with
    | cons h1 h2 => exact .cons (RepD.sees s d _ h1) (RepDs.sees s ds _ h2)
end
theorem EnvRel.sees {K : PySem.W.Frag} {ρ ρ' : Rh} {H : Hp} {σ : L2.St} {e : Env} (s : Sees H ρ ρ') (h : EnvRel K ρ H σ e) : EnvRel K ρ' H σ e :=
  ⟨h.1, fun i d q => let ⟨v, a, b⟩ := h.2 i d q; ⟨v, a, RepD.sees s d v b⟩⟩
theorem ObRel.sees {K : PySem.W.Frag} {ρ ρ' : Rh} {H : Hp} {a : Addr} {o : OB} (s : Sees H ρ ρ') (h : ObRel K ρ H a o) : ObRel K ρ' H a o := by
  cases o with
  | lst ds => obtain ⟨vs, e, r⟩ := h; exact ⟨vs, e, RepDs.sees s ds vs r⟩
section
variable {K : PySem.W.Frag} {ρ : Rh} {H : Hp} {S : Store} {p : Addr}
theorem rd_some {a : Addr} {u : HO} (h : Rd H a u) : H a ≠ none := by
  rcases h with h | ⟨o, h⟩ <;> (rw [h]; exact fun z => nomatch z)
theorem Sees.hide (h : H p = none) : Sees H ρ (ρ.hide p) := ⟨fun _ _ e => e, fun a vs r n m => ⟨n, fun z => by
  rcases List.mem_cons.mp z with z | z
  · rw [z] at r; exact rd_some r h
  · exact m z⟩⟩
theorem Sees.unhide : Sees H (ρ.hide p) ρ := ⟨fun _ _ e => e, fun a vs r n m => ⟨n, fun z => m (List.mem_cons_of_mem _ z)⟩⟩
theorem Sees.shown : Sees H (ρ.hide p) ⟨ρ.l ++ [p], ρ.h⟩ := ⟨fun n a e => by
    show (ρ.l ++ [p])[n]? = some a
    rw [List.getElem?_append_left (List.getElem?_eq_some_iff.mp e).1]; exact e,
  fun a vs r n m => ⟨fun z => by
    rcases List.mem_append.mp z with z | z
    · exact n z
    · rw [List.mem_singleton] at z
      exact m (by rw [z]; exact List.mem_cons_self), fun z => m (List.mem_cons_of_mem _ z)⟩⟩
/-- a new list is laid, hidden -/
theorem Rel.laidH (r : Rel K ρ H S) (h : H p = none) {vs : List V} : Rel K (ρ.hide p) (upd H p (.lst vs)) S := by
  have r2 := r.laid (o := .lst vs) h
  have np : p ∉ ρ.l := fun m => by obtain ⟨ws, z⟩ := r.free p m; rw [h] at z; cases z
  refine ⟨r.len, r.nd, fun n o a e1 e2 => ?_, fun a m => ?_, r2.tab⟩
  · have q := (r.at_ n o a e1 e2).sees (Sees.hide (p := p) h)
    have F : Free (ρ.hide p) H := r.free
    exact q.fr F (Fr.laid h) fun w q => by rw [upd_ne (ne_of_none q h)]; exact q
  · rcases List.mem_cons.mp m with m | m
    · exact ⟨vs, by rw [m, upd_same]⟩
    · exact r2.hid a m
theorem RepDs.laidH (r : Rel K ρ H S) (h : H p = none) {vs ws : List V} {ds : List D} (q : RepDs K ρ H ds ws) : RepDs K (ρ.hide p) (upd H p (.lst vs)) ds ws :=
  RepDs.fr (ρ := ρ.hide p) (show Free (ρ.hide p) H from r.free) (Fr.laid h) _ _ (RepDs.sees (Sees.hide h) _ _ q)
theorem EnvRel.laidH (r : Rel K ρ H S) (h : H p = none) {vs : List V} {σ : L2.St} {e : Env} (q : EnvRel K ρ H σ e) : EnvRel K (ρ.hide p) (upd H p (.lst vs)) σ e :=
  EnvRel.fr (ρ := ρ.hide p) (show Free (ρ.hide p) H from r.free) (Fr.laid h) (q.sees (Sees.hide h))
theorem Rel.unhide (r : Rel K (ρ.hide p) H S) : Rel K ρ H S := ⟨r.len, r.nd, fun n o a e1 e2 => (r.at_ n o a e1 e2).sees Sees.unhide, fun a m => r.hid a (List.mem_cons_of_mem _ m), r.tab⟩
theorem Rel.newh (r : Rel K ρ H S) (h : H p = none) : p ∉ ρ.l ∧ p ∉ ρ.h := by
  refine ⟨fun m => ?_, fun m => ?_⟩
  · obtain ⟨ws, z⟩ := r.free p m
    rw [h] at z; cases z
  · obtain ⟨ws, z⟩ := r.hid p m
    rw [h] at z; cases z
/-- a hidden list is shown: an object of the store from now on -/
theorem Rel.shown (r : Rel K (ρ.hide p) H S) (hp : p ∉ ρ.l) {vs : List V} {ds : List D} (e : H p = some (.lst vs)) (q : RepDs K (ρ.hide p) H ds vs) : Rel K ⟨ρ.l ++ [p], ρ.h⟩ H (S ++ [.lst ds]) := by
  refine ⟨by simpa using r.len, ?_, fun n u a e1 e2 => ?_, fun a m => r.hid a (List.mem_cons_of_mem _ m), r.tab⟩
  · show (ρ.l ++ [p]).Nodup
    rw [List.nodup_append]
    exact ⟨r.nd, by simp, fun a ha b hb => by simp at hb; subst hb; rintro rfl; exact hp ha⟩
  · have e2 : (ρ.l ++ [p])[n]? = some a := e2
    have hl : ρ.l.length = S.length := r.len
    by_cases hn : n < S.length
    · rw [List.getElem?_append_left hn] at e1
      rw [List.getElem?_append_left (by rw [hl]; exact hn)] at e2
      exact (r.at_ n u a e1 e2).sees Sees.shown
    · rw [List.getElem?_append_right (by omega)] at e1
      rw [List.getElem?_append_right (by rw [hl]; omega), hl] at e2
      have h0 : n - S.length = 0 := by
        rcases Nat.eq_zero_or_pos (n - S.length) with z | z
        · exact z
        · rw [List.getElem?_eq_none (by simp; omega)] at e1; cases e1
      rw [h0] at e1 e2
      simp at e1 e2
      subst e1 e2
      exact ⟨vs, e, RepDs.sees Sees.shown ds vs q⟩
theorem Fr.shown {ρ' : Rh} {H' : Hp} (f : Fr ρ H ρ' H') (h : H p = none) : Fr ρ H ⟨ρ'.l ++ [p], ρ'.h⟩ H' := by
  obtain ⟨l, rfl, hl⟩ := f.new
  refine ⟨⟨l ++ [p], by simp, fun a m => ?_⟩, f.keep, f.live⟩
  rcases List.mem_append.mp m with m | m
  · exact hl a m
  · rw [List.mem_singleton.mp m]; exact h
end

/-! ### results -/
inductive Res (α : Type) where
  | ok (a : α) (S : Store) | ex (c : Str) (S : Store) | bad
def Res.bind {α β : Type} (r : Res α) (f : α → Store → Res β) : Res β := match r with
  | .ok a S => f a S
  | .ex c S => .ex c S
  | .bad => .bad
@[simp] theorem Res.bind_ok {α β : Type} (a : α) (S : Store) (f : α → Store → Res β) : (Res.ok a S).bind f = f a S := rfl
@[simp] theorem Res.bind_ex {α β : Type} (c : Str) (S : Store) (f : α → Store → Res β) : (Res.ex c S : Res α).bind f = .ex c S := rfl
@[simp] theorem Res.bind_bad {α β : Type} (f : α → Store → Res β) : (Res.bad : Res α).bind f = .bad := rfl
abbrev ME := Env → Store → Res D
abbrev MT := Env → Store → Res Bool
abbrev MA := Env → Store → Res (List D)
inductive Fl where
  | nx | rt (d : D) | bk | ct | ex (c : Str)
/-- a statement: how it ends, the slots, the store; none: nothing is known -/
abbrev MS := Env → Store → Option (Fl × Env × Store)

/-! ### readings -/
section
variable (K : PySem.W.Frag) (mg : Str → Option Value) (W : WX)
/-- what a result must lead to: P of the value, the store, what ρ tells and the heap -/
def Post {α : Type} (P : α → Store → Rh → Hp → Prop) (ρ : Rh) (H : Hp) (σ : L2.St) : Res α → Prop
  | .ok a S' => ∀ ρ' H', Fr ρ H ρ' H' → Rel K ρ' H' S' → P a S' ρ' H'
  | .ex c S' => ∀ ρ' H' C, Fr ρ H ρ' H' → Rel K ρ' H' S' → mg c = some (.ref C) → W (.ref C) none σ H'
  | .bad => False
abbrev PostE (ρ : Rh) (H : Hp) (σ : L2.St) (Q : VK) : Res D → Prop := Post K mg W (fun d _ ρ' H' => ∀ v, RepD K ρ' H' d v → Q v H') ρ H σ
abbrev PostT (ρ : Rh) (H : Hp) (σ : L2.St) (Q : Bool → Hp → Prop) : Res Bool → Prop := Post K mg W (fun b _ _ H' => Q b H') ρ H σ
abbrev PostA (ρ : Rh) (H : Hp) (σ : L2.St) (Q : List V → Hp → Prop) : Res (List D) → Prop := Post K mg W (fun ds _ ρ' H' => ∀ vs, RepDs K ρ' H' ds vs → Q vs H') ρ H σ
def PostN (ρ : Rh) (H : Hp) (σ : L2.St) (Q : VK) : Res (List D) → Prop
  | .ok ds S' => ∀ ρ' H' p vs, Fr ρ H ρ' H' → Rel K (ρ'.hide p) H' S' → H p = none → p ∉ ρ'.l → H' p = some (.lst vs) → RepDs K (ρ'.hide p) H' ds vs → Q (.ref p) H'
  | .ex c S' => ∀ ρ' H' C, Fr ρ H ρ' H' → Rel K ρ' H' S' → mg c = some (.ref C) → W (.ref C) none σ H'
  | .bad => False
def PostS (ρ : Rh) (H : Hp) (Dn : Ends) : Option (Fl × Env × Store) → Prop
  | none => False
  | some (.nx, e', S') => ∀ ρ' H' σ', Fr ρ H ρ' H' → Rel K ρ' H' S' → EnvRel K ρ' H' σ' e' → Dn.nx σ' H'
  | some (.rt d, _, S') => ∀ ρ' H' v, Fr ρ H ρ' H' → Rel K ρ' H' S' → RepD K ρ' H' d v → Dn.rt v H'
  | some (.bk, e', S') => ∀ ρ' H' σ', Fr ρ H ρ' H' → Rel K ρ' H' S' → EnvRel K ρ' H' σ' e' → Dn.bk σ' H'
  | some (.ct, e', S') => ∀ ρ' H' σ', Fr ρ H ρ' H' → Rel K ρ' H' S' → EnvRel K ρ' H' σ' e' → Dn.ct σ' H'
  | some (.ex c, e', S') => ∀ ρ' H' σ' C, Fr ρ H ρ' H' → Rel K ρ' H' S' → EnvRel K ρ' H' σ' e' → mg c = some (.ref C) → W (.ref C) none σ' H'
def tE (m : ME) : TE := fun σ H Q => ∃ ρ e S, EnvRel K ρ H σ e ∧ Rel K ρ H S ∧ PostE K mg W ρ H σ Q (m e S)
def tN (m : MA) : TE := fun σ H Q => ∃ ρ e S, EnvRel K ρ H σ e ∧ Rel K ρ H S ∧ PostN K mg W ρ H σ Q (m e S)
def tT (m : MT) : TT := fun σ H Q => ∃ ρ e S, EnvRel K ρ H σ e ∧ Rel K ρ H S ∧ PostT K mg W ρ H σ Q (m e S)
def tA (m : MA) : TA := fun σ H Q => ∃ ρ e S, EnvRel K ρ H σ e ∧ Rel K ρ H S ∧ PostA K mg W ρ H σ Q (m e S)
def tS (m : MS) : TS := fun Dn σ H => ∃ ρ e S, EnvRel K ρ H σ e ∧ Rel K ρ H S ∧ PostS K mg W ρ H Dn (m e S)
end
section
variable {K : PySem.W.Frag} {mg : Str → Option Value} {W : WX} {ρ ρ1 : Rh} {H H1 : Hp} {σ : L2.St}
theorem Post.fr {α : Type} {P : α → Store → Rh → Hp → Prop} (f : Fr ρ H ρ1 H1) : ∀ {r : Res α}, Post K mg W P ρ H σ r → Post K mg W P ρ1 H1 σ r
  | .ok _ _, h => fun ρ' H' g => h ρ' H' (f.trans g)
  | .ex _ _, h => fun ρ' H' C g => h ρ' H' C (f.trans g)
  | .bad, h => h
theorem Post.mono {α : Type} {P P' : α → Store → Rh → Hp → Prop} : ∀ {r : Res α}, Post K mg W P ρ H σ r → (∀ a S ρ' H', Fr ρ H ρ' H' → Rel K ρ' H' S → P a S ρ' H' → P' a S ρ' H') → Post K mg W P' ρ H σ r
  | .ok _ _, h, k => fun ρ' H' g R => k _ _ _ _ g R (h ρ' H' g R)
  | .ex _ _, h, _ => h
  | .bad, h, _ => h
/-- one behind the other -/
theorem Post.bind {α β : Type} {P : β → Store → Rh → Hp → Prop} {f : α → Store → Res β} : ∀ {r : Res α}, Post K mg W P ρ H σ (r.bind f) → Post K mg W (fun a S1 ρ1 H1 => Post K mg W P ρ1 H1 σ (f a S1)) ρ H σ r
  | .ok _ _, h => fun ρ' H' g R => Post.fr g h
  | .ex _ _, h => h
  | .bad, h => h
theorem PostN.fr {Q : VK} (f : Fr ρ H ρ1 H1) : ∀ {r : Res (List D)}, PostN K mg W ρ H σ Q r → PostN K mg W ρ1 H1 σ Q r
  | .ok _ _, h => fun ρ' H' p vs g R n => h ρ' H' p vs (f.trans g) R (by
      cases q : H p with
      | none => rfl
      | some o => obtain ⟨o', z⟩ := f.live p o q; rw [n] at z; cases z)
  | .ex _ _, h => fun ρ' H' C g => h ρ' H' C (f.trans g)
  | .bad, h => h
theorem PostS.fr {Dn : Ends} (f : Fr ρ H ρ1 H1) : ∀ {r : Option (Fl × Env × Store)}, PostS K mg W ρ H Dn r → PostS K mg W ρ1 H1 Dn r
  | none, h => h
  | some (.nx, _, _), h => fun ρ' H' σ' g => h ρ' H' σ' (f.trans g)
  | some (.rt _, _, _), h => fun ρ' H' v g => h ρ' H' v (f.trans g)
  | some (.bk, _, _), h => fun ρ' H' σ' g => h ρ' H' σ' (f.trans g)
  | some (.ct, _, _), h => fun ρ' H' σ' g => h ρ' H' σ' (f.trans g)
  | some (.ex _, _, _), h => fun ρ' H' σ' C g => h ρ' H' σ' C (f.trans g)
end

/-! ### judgements -/
section
variable (X : Cx) (W : WX)
abbrev EM (e : Expr) (m : ME) : Prop := PE X e (tE X.K X.mg W m)
abbrev NM (e : Expr) (m : MA) : Prop := PE X e (tN X.K X.mg W m)
abbrev TM (e : Expr) (m : MT) : Prop := PT X e (tT X.K X.mg W m)
abbrev WM (e : Expr) (m : MT) : Prop := PW X e (tT X.K X.mg W m)
abbrev AM (es : List Expr) (m : MA) : Prop := PA X es (tA X.K X.mg W m)
abbrev SM (s : Stmt) (m : MS) : Prop := PS X s (tS X.K X.mg W m)
abbrev BM (b : List Stmt) (m : MS) : Prop := PSs X b (tS X.K X.mg W m)
end
section
variable {X : Cx} {e : Expr} {es : List Expr} {st : Stmt} {sts : List Stmt}
theorem pe_imp {t t' : TE} (h : PE X e t) (i : ∀ σ H Q, t' σ H Q → t σ H Q) : PE X e t' := ⟨fun pins s σ H Q I q => h.run pins s σ H Q I (i _ _ _ q)⟩
theorem pt_imp {t t' : TT} (h : PT X e t) (i : ∀ σ H Q, t' σ H Q → t σ H Q) : PT X e t' := ⟨fun pins s σ H Q I q => h.run pins s σ H Q I (i _ _ _ q)⟩
theorem pw_imp {t t' : TT} (h : PW X e t) (i : ∀ σ H Q, t' σ H Q → t σ H Q) : PW X e t' := ⟨fun wh pins s σ H Q I q => h.run wh pins s σ H Q I (i _ _ _ q)⟩
theorem pa_imp {t t' : TA} (h : PA X es t) (i : ∀ σ H Q, t' σ H Q → t σ H Q) : PA X es t' := ⟨fun pos pins s σ H Q I q => h.run pos pins s σ H Q I (i _ _ _ q)⟩
theorem ps_imp {t t' : TS} (h : PS X st t) (i : ∀ D σ H, t' D σ H → t D σ H) : PS X st t' := ⟨fun pins s σ H D I q => h.run pins s σ H D I (i _ _ _ q)⟩
theorem pss_imp {t t' : TS} (h : PSs X sts t) (i : ∀ D σ H, t' D σ H → t D σ H) : PSs X sts t' := ⟨fun pins s σ H D I q => h.run pins s σ H D I (i _ _ _ q)⟩
end
end M


set_option Elab.async false
set_option linter.all false
set_option maxRecDepth 100000
set_option maxHeartbeats 2000000
namespace M
open PySem PySem.Spec PyProof.Rows L2
variable [Tabs]

/-! ### reading lists -/
/-- the items of a list or of a tuple -/
def lstOf (S : Store) : D → Option (List D)
  | .lst xs => some xs
  | .fro xs => some xs
  | .loc n => match S[n]? with
    | some (.lst xs) => some xs
    | _ => none
  | _ => none
/-- .. of a list that is not locked -/
def lstOf' (S : Store) : D → Option (List D)
  | .lst xs => some xs
  | .loc n => match S[n]? with
    | some (.lst xs) => some xs
    | _ => none
  | _ => none
def seqOf (S : Store) : D → Option (List D)
  | .tup xs => some xs
  | d => lstOf S d
section
variable {K : PySem.W.Frag} {ρ : Rh} {H : Hp} {S : Store} {d : D} {v : V} {xs : List D}
theorem lstOf'_rep (R : Rel K ρ H S) (h : RepD K ρ H d v) (e : lstOf' S d = some xs) : ∃ a vs, v = .ref a ∧ H a = some (.lst vs) ∧ RepDs K ρ H xs vs := by
  cases d <;> simp only [lstOf'] at e <;> try cases e
  case lst => cases h with | lst a b b' c => exact ⟨_, _, rfl, a, c⟩
  case loc n =>
    cases h with
    | loc ha =>
      split at e
      · rename_i ys hs
        cases e
        obtain ⟨vs, q, r⟩ := R.at_ n _ _ hs ha
        exact ⟨_, vs, rfl, q, r⟩
      · cases e
theorem lstOf_rep (R : Rel K ρ H S) (h : RepD K ρ H d v) (e : lstOf S d = some xs) : ∃ a vs, v = .ref a ∧ SqL K H a vs ∧ RepDs K ρ H xs vs := by
  cases d <;> simp only [lstOf] at e <;> try cases e
  case lst => cases h with | lst a b b' c => exact ⟨_, _, rfl, .inl (Rd.of a), c⟩
  case fro => cases h with
    | fro a b b' c => exact ⟨_, _, rfl, .inl a, c⟩
    | frk a c => exact ⟨_, _, rfl, .inr a, c⟩
  case loc n =>
    cases h with
    | loc ha =>
      split at e
      · rename_i ys hs
        cases e
        obtain ⟨vs, q, r⟩ := R.at_ n _ _ hs ha
        exact ⟨_, vs, rfl, .inl (Rd.of q), r⟩
      · cases e
theorem seqOf_rep (R : Rel K ρ H S) (h : RepD K ρ H d v) (e : seqOf S d = some xs) : ∃ a vs, v = .ref a ∧ (SqL K H a vs ∨ SqT K H a vs) ∧ RepDs K ρ H xs vs := by
  by_cases ht : ∃ ys, d = .tup ys
  · obtain ⟨ys, rfl⟩ := ht
    simp only [seqOf] at e
    cases e
    cases h with | tup a b => exact ⟨_, _, rfl, .inr a, b⟩
  · have e' : lstOf S d = some xs := by
      cases d <;> first | exact e | exact absurd ⟨_, rfl⟩ ht
    obtain ⟨a, vs, h1, h2, h3⟩ := lstOf_rep R h e'
    exact ⟨a, vs, h1, .inl h2, h3⟩
end

/-! ### what a pure operation comes to -/
def PostV (K : PySem.W.Frag) (ρ : Rh) (H : Hp) (S : Store) (Q : VK) : Option D → Prop
  | some d => ∀ ρ' H', Fr ρ H ρ' H' → Rel K ρ' H' S → ∀ v, RepD K ρ' H' d v → Q v H'
  | none => False
def Res.of {α : Type} (o : Option α) (S : Store) : Res α := match o with
  | some d => .ok d S
  | none => .bad
@[simp] theorem Res.of_some {α : Type} (d : α) (S : Store) : Res.of (some d) S = .ok d S := rfl
@[simp] theorem Res.of_none {α : Type} (S : Store) : Res.of (none : Option α) S = .bad := rfl
section
variable {K : PySem.W.Frag} {mg : Str → Option Value} {W : WX} {ρ : Rh} {H : Hp} {S : Store} {σ : L2.St} {Q : VK}
theorem PostE.of {o : Option D} (h : PostE K mg W ρ H σ Q (Res.of o S)) : PostV K ρ H S Q o := by
  cases o with
  | none => exact h
  | some d => exact h
/-- a value that is there -/
theorem PostV.use (R : Rel K ρ H S) {d : D} {v : V} (r : RepD K ρ H d v) (h : PostV K ρ H S Q (some d)) : Q v H := h ρ H (Fr.refl _ _) R v r
/-- a new tuple, a new list by value -/
theorem PostV.newT (R : Rel K ρ H S) {ds : List D} {vs : List V} (r : RepDs K ρ H ds vs) (h : PostV K ρ H S Q (some (.tup ds))) : ∀ p, H p = none → Q (.ref p) (upd H p (.tup vs)) := fun p hp =>
  h ρ _ (Fr.laid hp) (R.laid hp) _ (.tup (SqT.of upd_same) (RepDs.fr R.free (Fr.laid hp) _ _ r))
theorem PostV.newL (R : Rel K ρ H S) {ds : List D} {vs : List V} (r : RepDs K ρ H ds vs) (h : PostV K ρ H S Q (some (.lst ds))) : ∀ p, H p = none → Q (.ref p) (upd H p (.lst vs)) := fun p hp =>
  h ρ _ (Fr.laid hp) (R.laid hp) _ (.lst upd_same (R.newh hp).1 (R.newh hp).2 (RepDs.fr R.free (Fr.laid hp) _ _ r))
end
/-- two values, a pure operation on them -/
abbrev DOp := D → D → Store → Option D
def OpD (X : Cx) (f : Value → Value → Sem Value) (g : DOp) : Prop :=
  ∀ (pins : List (Addr × Obj)) (s : Shared) (σ : L2.St) (ρ : Rh) (H : Hp) (S : Store) (dx dy : D) (vx vy : V) (ux uy : Value) (Q : VK), Inv X pins σ H s → Rel X.K ρ H S → RepD X.K ρ H dx vx → RepD X.K ρ H dy vy → RelV vx ux → RelV vy uy →
    PostV X.K ρ H S Q (g dx dy S) → wpAny (model X.prog X.w) X.A (f ux uy) (EP X pins σ Q) X.xe s
def rOpD (K : PySem.W.Frag) (g : DOp) : R2 := fun x y H Q => ∃ ρ S dx dy, Rel K ρ H S ∧ RepD K ρ H dx x ∧ RepD K ρ H dy y ∧ PostV K ρ H S Q (g dx dy S)
theorem OpD.r {X : Cx} {f : Value → Value → Sem Value} {g : DOp} (o : OpD X f g) : OpR X f (rOpD X.K g) := fun pins s σ H x y v u Q I rx ry ⟨ρ, S, dx, dy, R, r1, r2, q⟩ => o pins s σ ρ H S dx dy x y v u Q I R r1 r2 rx ry q

/-! ### expressions -/
def mVar (i : Nat) : ME := fun e S => match e[i]? with
  | some (some d) => .ok d S
  | _ => .bad
def mC (d : D) : ME := fun _ S => .ok d S
def mBin (g : DOp) (a b : ME) : ME := fun e S => (a e S).bind fun x S1 => (b e S1).bind fun y S2 => .of (g x y S2) S2
section
variable {X : Cx} {W : WX} {a b c : Expr} {ma mb mc : ME} {pos : Pos}
theorem em_var {e : Expr} {i : Nat} (h : PE X e (tVar i)) : EM X W e (mVar i) := pe_imp h fun σ H Q ⟨ρ, e, S, he, R, q⟩ => by
  unfold mVar at q
  split at q
  · rename_i d hd
    obtain ⟨v, h1, h2⟩ := he.2 i d hd
    exact ⟨v, h1, q ρ H (Fr.refl _ _) R v h2⟩
  · exact q.elim
theorem em_c {e : Expr} {v : V} {d : D} (h : PE X e (tC v)) (r : ∀ ρ H, RepD X.K ρ H d v) : EM X W e (mC d) := pe_imp h fun σ H Q ⟨ρ, e, S, he, R, q⟩ => q ρ H (Fr.refl _ _) R v (r ρ H)
theorem em_int {i : Int} {j pos} : EM X W (.Constant (.int i) j pos) (mC (.int i)) := em_c pe_int fun _ _ => .int i
theorem em_str {x : Str} {j pos} : EM X W (.Constant (.str x) j pos) (mC (.str x)) := em_c pe_str fun _ _ => .str x
theorem em_bl {b : Bool} {j pos} : EM X W (.Constant (.bool b) j pos) (mC (.bl b)) := em_c pe_bl fun _ _ => .bl b
theorem em_non {j pos} : EM X W (.Constant .none j pos) (mC .non) := em_c pe_non fun _ _ => .non
/-- two in a row -/
theorem tE_bin {g : D → D → Store → Res D} {r : R2} (hr : ∀ ρ H S dx dy vx vy Q σ, Rel X.K ρ H S → RepD X.K ρ H dx vx → RepD X.K ρ H dy vy → PostE X.K X.mg W ρ H σ Q (g dx dy S) → r vx vy H Q) {σ : L2.St} {H : Hp} {Q : VK}
    (h : tE X.K X.mg W (fun e S => (ma e S).bind fun x S1 => (mb e S1).bind fun y S2 => g x y S2) σ H Q) : tOp r (tE X.K X.mg W ma) (tE X.K X.mg W mb) σ H Q := by
  obtain ⟨ρ, e, S, he, R, q⟩ := h
  refine ⟨ρ, e, S, he, R, (Post.bind q).mono fun x S1 ρ1 H1 f1 R1 q v rx => ?_⟩
  refine ⟨ρ1, e, S1, he.fr R.free f1, R1, (Post.bind q).mono fun y S2 ρ2 H2 f2 R2 q v2 ry => ?_⟩
  exact hr ρ2 H2 S2 x y v v2 Q σ R2 (RepD.fr R1.free f2 _ _ rx) ry q
theorem em_bin {op : Operator} {g : DOp} (o : OpD X (binaryOp op) g) (ha : EM X W a ma) (hb : EM X W b mb) : EM X W (.BinOp a op b pos) (mBin g ma mb) :=
  pe_imp (pe_op o.r ha hb) fun σ H Q h => tE_bin (fun ρ H S dx dy vx vy Q σ R rx ry q => ⟨ρ, S, dx, dy, R, rx, ry, q.of⟩) h
/-- a comparison as a value -/
theorem em_cmp {op : CmpOp} {g : DOp} (o : OpD X (compareOp op) g) (ha : EM X W a ma) (hb : EM X W b mb) (hm : behindInMarks op b = false) : EM X W (.Compare a [op] [b] pos) (mBin g ma mb) :=
  pe_imp (pe_cmpR o.r ha hb hm) fun σ H Q h => tE_bin (fun ρ H S dx dy vx vy Q σ R rx ry q => ⟨ρ, S, dx, dy, R, rx, ry, q.of⟩) h
/-- the truth value of a value that is one -/
def bOf : D → Option Bool
  | .bl b => some b
  | _ => none
def mB (m : ME) : MT := fun e S => (m e S).bind fun d S1 => .of (bOf d) S1
theorem tE_test {m : ME} {σ : L2.St} {H : Hp} {Q : Bool → Hp → Prop} (h : tT X.K X.mg W (mB m) σ H Q) : tE X.K X.mg W m σ H fun x H' => ∃ k, x = .bl k ∧ Q k H' := by
  obtain ⟨ρ, e, S, he, R, q⟩ := h
  refine ⟨ρ, e, S, he, R, (Post.bind q).mono fun x S1 ρ1 H1 f1 R1 q v rx => ?_⟩
  cases x with
  | bl b => cases rx; exact ⟨b, rfl, q ρ1 H1 (Fr.refl _ _) R1⟩
  | _ => exact q.elim
theorem tOp_mono {r : R2} {ta tb : TE} {σ : L2.St} {H : Hp} {Q : VK} (h : tOp r ta tb σ H Q) : tOp r ta tb σ H Q := h
theorem tm_cmp {op : CmpOp} {g : DOp} (o : OpD X (compareOp op) g) (ha : EM X W a ma) (hb : EM X W b mb) (hm : behindInMarks op b = false) : TM X W (.Compare a [op] [b] pos) (mB (mBin g ma mb)) :=
  pt_imp (pt_cmpR o.r ha hb hm) fun σ H Q h => tE_bin (fun ρ H S dx dy vx vy Q σ R rx ry q => ⟨ρ, S, dx, dy, R, rx, ry, q.of⟩) (tE_test h)
/-- the truth of any value -/
def truOf (S : Store) : D → Option Bool
  | .non => some false
  | .bl b => some b
  | .int i => some (i != 0)
  | .str x => if x.length ≤ sizeLine then some ((x.length : Int) != 0) else none
  | d => match seqOf S d with
    | some xs => some (!xs.isEmpty)
    | none => none
def mTru (m : ME) : MT := fun e S => (m e S).bind fun d S1 => .of (truOf S1 d) S1
theorem isEmpty_rep {K : PySem.W.Frag} {ρ : Rh} {H : Hp} {xs : List D} {vs : List V} (h : RepDs K ρ H xs vs) : vs.isEmpty = xs.isEmpty := by
  cases h <;> rfl
theorem truOf_rep {K : PySem.W.Frag} {ρ : Rh} {H : Hp} {S : Store} (R : Rel K ρ H S) {d : D} {v : V} {k : Bool} (h : RepD K ρ H d v) (e : truOf S d = some k) : TruV K v H k := by
  have seq : ∀ {xs}, seqOf S d = some xs → k = (!xs.isEmpty) → TruV K v H k := fun {xs} e1 e2 => by
    obtain ⟨a, vs, rfl, q, r⟩ := seqOf_rep R h e1
    rw [← isEmpty_rep r] at e2
    rcases q with q | q
    · exact .inl ⟨vs, q, e2⟩
    · exact .inr (.inl ⟨vs, q, e2⟩)
  have gen : (match seqOf S d with | some xs => some (!xs.isEmpty) | none => none) = some k → TruV K v H k := fun z => by
    split at z
    · rename_i xs e1
      exact seq e1 (Option.some.inj z).symm
    · cases z
  cases d with
  | non => cases h; exact (Option.some.inj e).symm
  | bl b => cases h; exact (Option.some.inj e).symm
  | int i => cases h; exact (Option.some.inj e).symm
  | str x =>
    cases h
    have e : (if x.length ≤ sizeLine then some ((x.length : Int) != 0) else none) = some k := e
    by_cases hz : x.length ≤ sizeLine
    · rw [if_pos hz] at e
      exact ⟨hz, (Option.some.inj e).symm⟩
    · rw [if_neg hz] at e
      cases e
  | tup xs => exact gen e
  | lst xs => exact gen e
  | fro xs => exact gen e
  | loc n => exact gen e
  | ref a => exact gen e
  | ty n => exact gen e
theorem tm_tru (ha : EM X W a ma) (he : ∀ whole, isTrue a X.env whole = (do let v ← whole; standAt a.pos; holding [v] (truthy v))) : TM X W a (mTru ma) :=
  pt_imp (pt_truth ha he) fun σ H Q h => by
    obtain ⟨ρ, e, S, he, R, q⟩ := h
    refine ⟨ρ, e, S, he, R, (Post.bind q).mono fun x S1 ρ1 H1 f1 R1 q v rx => ?_⟩
    cases hk : truOf S1 x with
    | none => rw [hk] at q; exact q.elim
    | some k =>
      rw [hk] at q
      exact ⟨k, truOf_rep R1 rx hk, q ρ1 H1 (Fr.refl _ _) R1⟩
/-! and, or, not -/
def mAnd (a b : MT) : MT := fun e S => (a e S).bind fun c S1 => if c = true then b e S1 else .ok false S1
def mOr (a b : MT) : MT := fun e S => (a e S).bind fun c S1 => if c = true then .ok true S1 else b e S1
def mNot (a : MT) : MT := fun e S => (a e S).bind fun c S1 => .ok (!c) S1
variable {ta tb : MT} {rest : List Expr}
theorem tT_then {σ : L2.St} {H : Hp} {Q : Bool → Hp → Prop} {t : MT} {f : Bool → Env → Store → Res Bool} {u : Bool → Hp → Prop}
    (hu : ∀ ρ H c e S, EnvRel X.K ρ H σ e → Rel X.K ρ H S → PostT X.K X.mg W ρ H σ Q (f c e S) → u c H)
    (h : tT X.K X.mg W (fun e S => (t e S).bind fun c S1 => f c e S1) σ H Q) : tT X.K X.mg W t σ H u := by
  obtain ⟨ρ, e, S, he, R, q⟩ := h
  exact ⟨ρ, e, S, he, R, (Post.bind q).mono fun x S1 ρ1 H1 f1 R1 q => hu ρ1 H1 x e S1 (he.fr R.free f1) R1 q⟩
theorem wm_and1 (ha : TM X W a ta) : WM X W (.BoolOp .And [a] pos) ta := pw_and1 ha
theorem wm_or1 (ha : TM X W a ta) : WM X W (.BoolOp .Or [a] pos) ta := pw_or1 ha
theorem wm_and (ha : TM X W a ta) (hb : WM X W (.BoolOp .And (b :: rest) pos) tb) : WM X W (.BoolOp .And (a :: b :: rest) pos) (mAnd ta tb) :=
  pw_imp (pw_and ha hb) fun σ H Q h => tT_then (f := fun c e S => if c = true then tb e S else .ok false S) (fun ρ H c e S he R q => by
    cases c with
    | true => exact ⟨ρ, e, S, he, R, q⟩
    | false => exact q ρ H (Fr.refl _ _) R) h
theorem wm_or (ha : TM X W a ta) (hb : WM X W (.BoolOp .Or (b :: rest) pos) tb) : WM X W (.BoolOp .Or (a :: b :: rest) pos) (mOr ta tb) :=
  pw_imp (pw_or ha hb) fun σ H Q h => tT_then (f := fun c e S => if c = true then .ok true S else tb e S) (fun ρ H c e S he R q => by
    cases c with
    | false => exact ⟨ρ, e, S, he, R, q⟩
    | true => exact q ρ H (Fr.refl _ _) R) h
theorem tm_w (h : WM X W a ta) : TM X W a ta := h.pt
theorem tm_not (ha : TM X W a ta) : TM X W (.UnaryOp .Not a pos) (mNot ta) :=
  pt_imp (pt_not ha) fun σ H Q h => tT_then (f := fun c e S => .ok (!c) S) (fun ρ H c e S he R q => q ρ H (Fr.refl _ _) R) h
/-! .. as values -/
def mIte (t : MT) (a b : ME) : ME := fun e S => (t e S).bind fun c S1 => if c = true then a e S1 else b e S1
def mAndV (a b : ME) : ME := fun e S => (a e S).bind fun d S1 => match d with
  | .bl c => if c = true then b e S1 else .ok (.bl false) S1
  | _ => .bad
def mOrV (a b : ME) : ME := fun e S => (a e S).bind fun d S1 => match d with
  | .bl c => if c = true then .ok (.bl true) S1 else b e S1
  | _ => .bad
def mNotV (a : ME) : ME := fun e S => (a e S).bind fun d S1 => match d with
  | .bl c => .ok (.bl (!c)) S1
  | _ => .bad
theorem tE_then {σ : L2.St} {H : Hp} {Q : VK} {t : ME} {f : D → Env → Store → Res D} {u : VK}
    (hu : ∀ ρ H d v e S, EnvRel X.K ρ H σ e → Rel X.K ρ H S → RepD X.K ρ H d v → PostE X.K X.mg W ρ H σ Q (f d e S) → u v H)
    (h : tE X.K X.mg W (fun e S => (t e S).bind fun c S1 => f c e S1) σ H Q) : tE X.K X.mg W t σ H u := by
  obtain ⟨ρ, e, S, he, R, q⟩ := h
  exact ⟨ρ, e, S, he, R, (Post.bind q).mono fun x S1 ρ1 H1 f1 R1 q v r => hu ρ1 H1 x v e S1 (he.fr R.free f1) R1 r q⟩
theorem em_one {op} (ha : EM X W a ma) : EM X W (.BoolOp op [a] pos) ma := pe_one ha
theorem em_and (ha : EM X W a ma) (hb : EM X W (.BoolOp .And (b :: rest) pos) mb) : EM X W (.BoolOp .And (a :: b :: rest) pos) (mAndV ma mb) :=
  pe_imp (pe_and ha hb) fun σ H Q h => tE_then (f := fun d e S => match d with | .bl c => if c = true then mb e S else .ok (.bl false) S | _ => .bad) (fun ρ H d v e S he R r q => by
    cases d with
    | bl c =>
      cases r
      refine ⟨c, rfl, ?_⟩
      cases c with
      | true => exact ⟨ρ, e, S, he, R, q⟩
      | false => exact q ρ H (Fr.refl _ _) R _ (.bl false)
    | _ => exact q.elim) h
theorem em_or (ha : EM X W a ma) (hb : EM X W (.BoolOp .Or (b :: rest) pos) mb) : EM X W (.BoolOp .Or (a :: b :: rest) pos) (mOrV ma mb) :=
  pe_imp (pe_or ha hb) fun σ H Q h => tE_then (f := fun d e S => match d with | .bl c => if c = true then .ok (.bl true) S else mb e S | _ => .bad) (fun ρ H d v e S he R r q => by
    cases d with
    | bl c =>
      cases r
      refine ⟨c, rfl, ?_⟩
      cases c with
      | false => exact ⟨ρ, e, S, he, R, q⟩
      | true => exact q ρ H (Fr.refl _ _) R _ (.bl true)
    | _ => exact q.elim) h
theorem em_not (ha : EM X W a ma) : EM X W (.UnaryOp .Not a pos) (mNotV ma) :=
  pe_imp (pe_not ha) fun σ H Q h => tE_then (f := fun d e S => match d with | .bl c => .ok (.bl (!c)) S | _ => .bad) (fun ρ H d v e S he R r q => by
    cases d with
    | bl c => cases r; exact ⟨c, rfl, q ρ H (Fr.refl _ _) R _ (.bl _)⟩
    | _ => exact q.elim) h
theorem em_ite (hc : TM X W c ta) (ha : EM X W a ma) (hb : EM X W b mb) : EM X W (.IfExp c a b pos) (mIte ta ma mb) :=
  pe_imp (pe_ifExp hc ha hb) fun σ H Q ⟨ρ, e, S, he, R, q⟩ => by
    refine ⟨ρ, e, S, he, R, (Post.bind q).mono fun x S1 ρ1 H1 f1 R1 q => ?_⟩
    cases x with
    | true => exact ⟨ρ1, e, S1, he.fr R.free f1, R1, q⟩
    | false => exact ⟨ρ1, e, S1, he.fr R.free f1, R1, q⟩
end
end M


set_option Elab.async false
set_option linter.all false
set_option maxRecDepth 100000
set_option maxHeartbeats 4000000
namespace M
open PySem PySem.Spec PyProof.Rows L2
variable [Tabs]

/-! ### tuple * int, the cases that HandS.TupMul leaves -/
theorem tuple_mulSame (l : Addr) (items : Array Value) (n : Nat) (dd : Option Addr) (sl : Array (Option Value)) (x : Int) (u : Tok) (c0 : (decide (x < -(2 ^ 63)) || decide (x ≥ 2 ^ 63)) = false) (c1 : (items.isEmpty || x == 1) = true) :
    Meets (Builtin.«tuple.__mul__» ⟨[.ref l, .int x u], []⟩) (fun _ R s => s.heap.get? l = some { cls := .type "tuple", dict := dd, data := .seq items n, slots := sl } ∧ R (.ok (.ret (Value.ref l))) s) :=
  .of_wp fun prog w A R s h => by
    obtain ⟨hp, g, d, tk, os⟩ := s
    obtain ⟨hl, h⟩ := h
    have f1 := AutoSeq1.idx_int
    wp_walk using wpAny_loadPart' hl
    repeat (first
      | (refine wpAny_ite_false (decide_eq_false (by rw [c0]; exact Bool.false_ne_true)) ?_; wp_walk using wpAny_loadPart' hl)
      | (refine wpAny_ite_true (decide_eq_true (by rw [c1])) ?_; wp_walk using wpAny_loadPart' hl))
    exact ⟨_, rfl, h⟩
theorem tuple_mulNone (l : Addr) (items : Array Value) (n : Nat) (dd : Option Addr) (sl : Array (Option Value)) (x : Int) (u : Tok) (c0 : (decide (x < -(2 ^ 63)) || decide (x ≥ 2 ^ 63)) = false) (c1 : (items.isEmpty || x == 1) = false) (c2 : (decide (x ≤ 0) || items.isEmpty) = true) :
    Meets (Builtin.«tuple.__mul__» ⟨[.ref l, .int x u], []⟩) (fun _ R s => s.heap.get? l = some { cls := .type "tuple", dict := dd, data := .seq items n, slots := sl } ∧
      R (.ok (.ret (Value.ref s.heap.objs.size))) { s with heap := s.heap.push { cls := Value.type "tuple", data := Data.seq #[] }, toks := s.toks }) :=
  .of_wp fun prog w A R s h => by
    obtain ⟨hp, g, d, tk, os⟩ := s
    obtain ⟨hl, h⟩ := h
    have f1 := AutoSeq1.idx_int
    wp_walk using wpAny_loadPart' hl
    repeat (first
      | (refine wpAny_ite_false (decide_eq_false (by rw [c0]; exact Bool.false_ne_true)) ?_; wp_walk using wpAny_loadPart' hl)
      | (refine wpAny_ite_false (decide_eq_false (by rw [c1]; exact Bool.false_ne_true)) ?_; wp_walk using wpAny_loadPart' hl)
      | (refine wpAny_ite_true (decide_eq_true (by rw [c2])) ?_; wp_walk using wpAny_loadPart' hl))
    exact ⟨_, rfl, h⟩

section
variable {X : Cx}
/-- tuple * int -/
theorem op_repT_same {xs : List V} {l : Addr} {k : Int} {pins : List (Addr × Obj)} {s : Shared} {σ : L2.St} {H : Hp} {Q : VK} {t : Tok} (I : Inv X pins σ H s) (hT : SqT X.K H l xs) (hk : -(2 ^ 63) ≤ k ∧ k < 2 ^ 63) (h1 : xs = [] ∨ k = 1) (q : Q (.ref l) H) :
    wpAny (model X.prog X.w) X.A (binaryOp .Mult (.ref l) (.int k t)) (EP X pins σ Q) X.xe s := by
  obtain ⟨its, r, ⟨⟨cls, dd, data, sl⟩, ho, hc, n, hd⟩, hs⟩ := I.tuple hT
  simp only at hc hd
  subst hc hd
  have c0 : (decide (k < -(2 ^ 63)) || decide (k ≥ 2 ^ 63)) = false := by
    rw [decide_eq_false (by omega), decide_eq_false (by omega)] <;> rfl
  have c1 : (its.toArray.isEmpty || k == 1) = true := by
    rcases h1 with h1 | h1
    · subst h1; cases r; rfl
    · subst h1; simp
  exact wpAny_binaryOp_repeat_ref (T := "tuple") (U := "int") (by decide) ⟨_, ho, rfl⟩ (fun s' => typeIs_int s' k t) noFill_tuple_mul F.fills_int_mul F.slot_int_rmul repeat_tuple F.slot_int_index.lookup
    (call_meets F.slot_int_rmul (typeIs_int s k t) F.entry_int_rmul (F.args_int_rmul_2 _ _) (int_rmul_tuple k t l its.toArray n dd sl)
      ⟨ho, rfl, ⟨_, ho, rfl⟩, call_meets F.slot_tuple_mul ⟨_, ho, rfl⟩ F.entry_tuple_mul (F.args_tuple_mul_2 _ _) (tuple_mulSame l its.toArray n dd sl k t c0 c1) ⟨ho, .ref l, H, I, rfl, q⟩⟩)
theorem op_repT_none {xs : List V} {l : Addr} {k : Int} {pins : List (Addr × Obj)} {s : Shared} {σ : L2.St} {H : Hp} {Q : VK} {t : Tok} (I : Inv X pins σ H s) (hT : SqT X.K H l xs) (hk : -(2 ^ 63) ≤ k ∧ k < 2 ^ 63) (h1 : xs ≠ []) (h2 : k ≤ 0) (q : ∀ p, H p = none → Q (.ref p) (upd H p (.tup []))) :
    wpAny (model X.prog X.w) X.A (binaryOp .Mult (.ref l) (.int k t)) (EP X pins σ Q) X.xe s := by
  obtain ⟨its, r, ⟨⟨cls, dd, data, sl⟩, ho, hc, n, hd⟩, hs⟩ := I.tuple hT
  simp only at hc hd
  subst hc hd
  have c0 : (decide (k < -(2 ^ 63)) || decide (k ≥ 2 ^ 63)) = false := by
    rw [decide_eq_false (by omega), decide_eq_false (by omega)] <;> rfl
  have hi : its.toArray.isEmpty = false := by
    cases its with
    | nil => cases r; exact absurd rfl h1
    | cons a b => rfl
  have c1 : (its.toArray.isEmpty || k == 1) = false := by
    rw [hi, Bool.false_or]
    exact beq_eq_false_iff_ne.mpr (by omega)
  have c2 : (decide (k ≤ 0) || its.toArray.isEmpty) = true := by
    rw [decide_eq_true h2]; rfl
  refine wpAny_binaryOp_repeat_ref (T := "tuple") (U := "int") (by decide) ⟨_, ho, rfl⟩ (fun s' => typeIs_int s' k t) noFill_tuple_mul F.fills_int_mul F.slot_int_rmul repeat_tuple F.slot_int_index.lookup
    (call_meets F.slot_int_rmul (typeIs_int s k t) F.entry_int_rmul (F.args_int_rmul_2 _ _) (int_rmul_tuple k t l its.toArray n dd sl)
      ⟨ho, rfl, ⟨_, ho, rfl⟩, call_meets F.slot_tuple_mul ⟨_, ho, rfl⟩ F.entry_tuple_mul (F.args_tuple_mul_2 _ _) (tuple_mulNone l its.toArray n dd sl k t c0 c1 c2) ⟨ho, ?_⟩⟩)
  refine ⟨.ref s.heap.objs.size, _, I.laid (t' := s.toks) (o := .tup []) (fun b ob q => Heap.get?_push_of_some _ q) (Nat.le_refl _) ?_, rfl, q _ (I.hok.fresh (Nat.le_refl _))⟩
  exact ⟨Nat.zero_le _, [], .nil, IsTup.new _ _⟩
end

/-! ### numbers -/
/-- a product that the model reckons whatever the size of one side -/
def mulOk (i j : Int) : Bool := decide (i.natAbs < 2 ^ 64) || decide (j.natAbs < 2 ^ 64) || decide (i.natAbs < 2 ^ 400000 ∧ j.natAbs < 2 ^ 400000)
def dAdd : DOp
  | .int i, .int j, _ => some (.int (i + j))
  | .str x, .str y, _ => if x.length + y.length ≤ sizeLine then some (.str (x ++ y)) else none
  | .tup xs, .tup ys, _ => if xs.length + ys.length ≤ sizeLine then some (.tup (xs ++ ys)) else none
  | x, y, S => match lstOf' S x, lstOf' S y with
    | some xs, some ys => if xs.length + ys.length ≤ sizeLine then some (.lst (xs ++ ys)) else none
    | _, _ => none
def dSub : DOp
  | .int i, .int j, _ => some (.int (i - j))
  | _, _, _ => none
def dMul : DOp
  | .int i, .int j, _ => if i.natAbs < 2 ^ 64 ∨ j.natAbs < 2 ^ 64 then some (.int (i * j)) else none
  | .str x, .int k, _ => if k < 2 ^ 20 ∧ -(2 ^ 20) < k ∧ x.length * k.toNat ≤ 2 ^ 20 then some (.str (Txt.mul x k)) else none
  | .tup xs, .int k, _ => if k ≤ 1000 ∧ -1000 ≤ k ∧ xs.length ≤ 1000 then some (.tup (List.replicate k.toNat xs).flatten) else none
  | x, .int k, S => match lstOf' S x with
    | some xs => if k ≤ 1000 ∧ -1000 ≤ k ∧ xs.length ≤ 1000 then some (.lst (List.replicate k.toNat xs).flatten) else none
    | none => none
  | _, _, _ => none
def dFdiv : DOp
  | .int i, .int j, _ => if 0 < j ∧ j < 1073741824 then some (.int (i / j)) else none
  | _, _, _ => none
def dMod : DOp
  | .int i, .int j, _ => if 0 < j then some (.int (i % j)) else none
  | _, _, _ => none
def dPow : DOp
  | .int i, .int j, _ => if 0 ≤ j ∧ j ≤ 1000000 ∧ i.natAbs < 2 ^ 64 then some (.int (i ^ j.toNat)) else none
  | _, _, _ => none
def dShl : DOp
  | .int i, .int j, _ => if 0 ≤ j ∧ j ≤ 1000000 ∧ i.natAbs < 2 ^ 64 then some (.int (i * 2 ^ j.toNat)) else none
  | _, _, _ => none
def dShr : DOp
  | .int i, .int j, _ => if 0 ≤ j then some (.int (i / 2 ^ j.toNat)) else none
  | _, _, _ => none
def dAnd : DOp
  | .int i, .int j, _ => some (.int (Builtin.bitAnd i j))
  | _, _, _ => none
def dXor : DOp
  | .int i, .int j, _ => some (.int (Builtin.bitXor i j))
  | _, _, _ => none
section
variable {X : Cx}
theorem inj1 {α : Type} {a b : α} (h : some a = some b) : a = b := Option.some.inj h
/-- two ints by HandS's rule -/
theorem opd_int {f : Value → Value → Sem Value} {g : DOp} (h : ∀ (dx dy : D) (S : Store) (d : D), g dx dy S = some d → ∃ i j, dx = .int i ∧ dy = .int j ∧
      ∀ (pins : List (Addr × Obj)) (s : Shared) (σ : L2.St) (H : Hp) (vx vy : Value) (Q : VK), Inv X pins σ H s → RelV (.int i) vx → RelV (.int j) vy → (∀ v, (∀ ρ, RepD X.K ρ H d v) → Q v H) → wpAny (model X.prog X.w) X.A (f vx vy) (EP X pins σ Q) X.xe s) : OpD X f g :=
  fun pins s σ ρ H S dx dy vx vy ux uy Q I R rx ry r1 r2 q => by
    cases e : g dx dy S with
    | none => rw [e] at q; exact q.elim
    | some d =>
      rw [e] at q
      obtain ⟨i, j, rfl, rfl, k⟩ := h dx dy S d e
      cases rx
      cases ry
      exact k pins s σ H ux uy Q I r1 r2 fun v rv => q ρ H (Fr.refl _ _) R v (rv ρ)
theorem opd_sub : OpD X (binaryOp .Sub) dSub := opd_int fun dx dy S d e => by
  cases dx <;> cases dy <;> simp only [dSub] at e <;> try cases e
  rename_i i j
  exact ⟨i, j, rfl, rfl, fun pins s σ H vx vy Q I r1 r2 q => op_sub pins s σ H _ _ vx vy Q I r1 r2 ⟨i, j, rfl, rfl, q _ fun ρ => .int _⟩⟩
theorem opd_fdiv : OpD X (binaryOp .FloorDiv) dFdiv := opd_int fun dx dy S d e => by
  cases dx <;> cases dy <;> simp only [dFdiv] at e <;> try cases e
  rename_i i j
  split at e
  · rename_i hc
    cases e
    exact ⟨i, j, rfl, rfl, fun pins s σ H vx vy Q I r1 r2 q => op_fdiv pins s σ H _ _ vx vy Q I r1 r2 ⟨i, j, rfl, rfl, hc, q _ fun ρ => .int _⟩⟩
  · cases e
theorem opd_mod : OpD X (binaryOp .Mod) dMod := opd_int fun dx dy S d e => by
  cases dx <;> cases dy <;> simp only [dMod] at e <;> try cases e
  rename_i i j
  split at e
  · rename_i hc
    cases e
    exact ⟨i, j, rfl, rfl, fun pins s σ H vx vy Q I r1 r2 q => op_mod pins s σ H _ _ vx vy Q I r1 r2 ⟨i, j, rfl, rfl, hc, q _ fun ρ => .int _⟩⟩
  · cases e
theorem opd_pow : OpD X (binaryOp .Pow) dPow := opd_int fun dx dy S d e => by
  cases dx <;> cases dy <;> simp only [dPow] at e <;> try cases e
  rename_i i j
  split at e
  · rename_i hc
    cases e
    exact ⟨i, j, rfl, rfl, fun pins s σ H vx vy Q I r1 r2 q => op_pow pins s σ H _ _ vx vy Q I r1 r2 ⟨i, j, rfl, rfl, hc, q _ fun ρ => .int _⟩⟩
  · cases e
theorem opd_shl : OpD X (binaryOp .LShift) dShl := opd_int fun dx dy S d e => by
  cases dx <;> cases dy <;> simp only [dShl] at e <;> try cases e
  rename_i i j
  split at e
  · rename_i hc
    cases e
    exact ⟨i, j, rfl, rfl, fun pins s σ H vx vy Q I r1 r2 q => op_shl pins s σ H _ _ vx vy Q I r1 r2 ⟨i, j, rfl, rfl, hc, q _ fun ρ => .int _⟩⟩
  · cases e
theorem opd_shr : OpD X (binaryOp .RShift) dShr := opd_int fun dx dy S d e => by
  cases dx <;> cases dy <;> simp only [dShr] at e <;> try cases e
  rename_i i j
  split at e
  · rename_i hc
    cases e
    exact ⟨i, j, rfl, rfl, fun pins s σ H vx vy Q I r1 r2 q => op_shr pins s σ H _ _ vx vy Q I r1 r2 ⟨i, j, rfl, rfl, hc, q _ fun ρ => .int _⟩⟩
  · cases e
theorem opd_and : OpD X (binaryOp .BitAnd) dAnd := opd_int fun dx dy S d e => by
  cases dx <;> cases dy <;> simp only [dAnd] at e <;> try cases e
  rename_i i j
  exact ⟨i, j, rfl, rfl, fun pins s σ H vx vy Q I r1 r2 q => op_and pins s σ H _ _ vx vy Q I r1 r2 ⟨i, j, rfl, rfl, q _ fun ρ => .int _⟩⟩
theorem opd_xor : OpD X (binaryOp .BitXor) dXor := opd_int fun dx dy S d e => by
  cases dx <;> cases dy <;> simp only [dXor] at e <;> try cases e
  rename_i i j
  exact ⟨i, j, rfl, rfl, fun pins s σ H vx vy Q I r1 r2 q => op_xor pins s σ H _ _ vx vy Q I r1 r2 ⟨i, j, rfl, rfl, q _ fun ρ => .int _⟩⟩
theorem rep_nil {K : PySem.W.Frag} {ρ : Rh} {H : Hp} {ds : List D} {vs : List V} (h : RepDs K ρ H ds vs) : vs = [] ↔ ds = [] := by
  cases h <;> simp
theorem opd_add : OpD X (binaryOp .Add) dAdd := fun pins s σ ρ H S dx dy vx vy ux uy Q I R rx ry r1 r2 q => by
  have lists : ∀ xs ys, lstOf' S dx = some xs → lstOf' S dy = some ys → PostV X.K ρ H S Q (if xs.length + ys.length ≤ sizeLine then some (.lst (xs ++ ys)) else none) → wpAny (model X.prog X.w) X.A (binaryOp .Add ux uy) (EP X pins σ Q) X.xe s := fun xs ys e1 e2 q => by
    obtain ⟨a, vs, rfl, ha, ra⟩ := lstOf'_rep R rx e1
    obtain ⟨b, ws, rfl, hb, rb⟩ := lstOf'_rep R ry e2
    by_cases hz : xs.length + ys.length ≤ sizeLine
    · rw [if_pos hz] at q
      refine op_cat pins s σ H _ _ ux uy Q I r1 r2 ⟨a, b, vs, ws, rfl, rfl, ha, hb, by rw [← ra.length, ← rb.length]; exact hz, q.newL R (ra.append rb)⟩
    · rw [if_neg hz] at q; exact q.elim
  have gen : PostV X.K ρ H S Q (match lstOf' S dx, lstOf' S dy with
    | some xs, some ys => if xs.length + ys.length ≤ sizeLine then some (.lst (xs ++ ys)) else none
    | _, _ => none) → wpAny (model X.prog X.w) X.A (binaryOp .Add ux uy) (EP X pins σ Q) X.xe s := fun q => by
    split at q
    · exact lists _ _ (by assumption) (by assumption) q
    · exact q.elim
  by_cases h1 : (∃ i j, dx = .int i ∧ dy = .int j) ∨ (∃ x y, dx = .str x ∧ dy = .str y) ∨ (∃ x y, dx = .tup x ∧ dy = .tup y)
  · rcases h1 with ⟨i, j, rfl, rfl⟩ | ⟨x, y, rfl, rfl⟩ | ⟨x, y, rfl, rfl⟩
    · cases rx; cases ry
      exact op_add pins s σ H _ _ ux uy Q I r1 r2 ⟨i, j, rfl, rfl, q.use R (.int _)⟩
    · cases rx; cases ry
      simp only [dAdd] at q
      by_cases hz : x.length + y.length ≤ sizeLine
      · rw [if_pos hz] at q
        exact op_add_str pins s σ H _ _ ux uy Q I r1 r2 ⟨x, y, rfl, rfl, hz, q.use R (.str _)⟩
      · rw [if_neg hz] at q; exact q.elim
    · simp only [dAdd] at q
      by_cases hz : x.length + y.length ≤ sizeLine
      · rw [if_pos hz] at q
        cases rx with
        | tup hx rx =>
        cases ry with
        | tup hy ry =>
          rename_i a vs b ws
          refine op_catA pins s σ H _ _ ux uy Q I r1 r2 ⟨a, b, vs, ws, rfl, rfl, hx, hy, by rw [← rx.length, ← ry.length]; exact hz, fun e => ?_, fun _ e => ?_, fun _ _ => q.newT R (rx.append ry)⟩
          · rw [(rep_nil rx).mp e] at q
            exact q.use R (.tup hy ry)
          · rw [(rep_nil ry).mp e, List.append_nil] at q
            exact q.use R (.tup hx rx)
      · rw [if_neg hz] at q; exact q.elim
  · cases dx <;> cases dy <;> first
      | exact gen q
      | exact (h1 (.inl ⟨_, _, rfl, rfl⟩)).elim
      | exact (h1 (.inr (.inl ⟨_, _, rfl, rfl⟩))).elim
      | exact (h1 (.inr (.inr ⟨_, _, rfl, rfl⟩))).elim
theorem rep_flat {K : PySem.W.Frag} {ρ : Rh} {H : Hp} {ds : List D} {vs : List V} (h : RepDs K ρ H ds vs) : ∀ n : Nat, RepDs K ρ H (List.replicate n ds).flatten (List.replicate n vs).flatten
  | 0 => .nil
  | n + 1 => by simp only [List.replicate_succ, List.flatten_cons]; exact h.append (rep_flat h n)
theorem opd_mul : OpD X (binaryOp .Mult) dMul := fun pins s σ ρ H S dx dy vx vy ux uy Q I R rx ry r1 r2 q => by
  cases dy with
  | int k =>
    cases ry
    have lists : ∀ xs, lstOf' S dx = some xs → PostV X.K ρ H S Q (if k ≤ 1000 ∧ -1000 ≤ k ∧ xs.length ≤ 1000 then some (.lst (List.replicate k.toNat xs).flatten) else none) → wpAny (model X.prog X.w) X.A (binaryOp .Mult ux uy) (EP X pins σ Q) X.xe s := fun xs e1 q => by
      obtain ⟨a, vs, rfl, ha, ra⟩ := lstOf'_rep R rx e1
      by_cases hz : k ≤ 1000 ∧ -1000 ≤ k ∧ xs.length ≤ 1000
      · rw [if_pos hz] at q
        refine op_rep pins s σ H _ _ ux uy Q I r1 r2 ⟨a, k, vs, rfl, rfl, ha, by omega, by omega, ?_, q.newL R (rep_flat ra _)⟩
        rw [← ra.length, sizeLine_eq]
        have : xs.length * k.toNat ≤ 1000 * 1000 := Nat.mul_le_mul hz.2.2 (by omega)
        omega
      · rw [if_neg hz] at q; exact q.elim
    have gen : PostV X.K ρ H S Q (match lstOf' S dx with
      | some xs => if k ≤ 1000 ∧ -1000 ≤ k ∧ xs.length ≤ 1000 then some (.lst (List.replicate k.toNat xs).flatten) else none
      | none => none) → wpAny (model X.prog X.w) X.A (binaryOp .Mult ux uy) (EP X pins σ Q) X.xe s := fun q => by
      split at q
      · exact lists _ (by assumption) q
      · exact q.elim
    cases dx with
    | int i =>
      cases rx
      simp only [dMul] at q
      by_cases hz : i.natAbs < 2 ^ 64 ∨ k.natAbs < 2 ^ 64
      · rw [if_pos hz] at q
        exact op_mul pins s σ H _ _ ux uy Q I r1 r2 ⟨i, k, rfl, rfl, hz.elim (fun h => .inl ⟨by omega, by omega⟩) (fun h => .inr ⟨by omega, by omega⟩), q.use R (.int _)⟩
      · rw [if_neg hz] at q; exact q.elim
    | str x =>
      cases rx
      simp only [dMul] at q
      by_cases hz : k < 2 ^ 20 ∧ -(2 ^ 20) < k ∧ x.length * k.toNat ≤ 2 ^ 20
      · rw [if_pos hz] at q
        obtain ⟨t, rfl⟩ := r1
        obtain ⟨u, rfl⟩ := r2
        refine SB.mul ⟨by rw [decide_eq_false (by omega), decide_eq_false (by omega)] <;> rfl, fun h1 h2 h3 => ?_, fun h1 h2 => ?_⟩ fun t' tk => ⟨.str (Txt.mul x k), H, I.tok tk, ⟨_, rfl⟩, q.use R (.str _)⟩
        · have hx : (x.length : Int) ≤ 2 ^ 20 := by
            have : x.length * 1 ≤ x.length * k.toNat := Nat.mul_le_mul_left _ (by omega)
            omega
          have : (2 ^ 63 - 1) / k ≥ (2 ^ 63 - 1) / (2 ^ 20) := by
            rw [ge_iff_le, Int.le_ediv_iff_mul_le (by omega)]
            have h5 : ((2 ^ 63 - 1) / (2 ^ 20) : Int) * k ≤ ((2 ^ 63 - 1) / (2 ^ 20) : Int) * 2 ^ 20 := Int.mul_le_mul_of_nonneg_left (by omega) (by decide)
            have h6 : ((2 ^ 63 - 1) / (2 ^ 20) : Int) * 2 ^ 20 ≤ 2 ^ 63 - 1 := by decide
            omega
          have h7 : ((2 ^ 63 - 1) / (2 ^ 20) : Int) ≥ 2 ^ 20 := by decide
          omega
        · unfold Builtin.Str.tooLong
          rw [sizeLine_eq]
          exact decide_eq_false (by omega)
      · rw [if_neg hz] at q; exact q.elim
    | tup xs =>
      simp only [dMul] at q
      by_cases hz : k ≤ 1000 ∧ -1000 ≤ k ∧ xs.length ≤ 1000
      · rw [if_pos hz] at q
        cases rx with
        | tup hx rx =>
          rename_i a vs
          cases r1
          by_cases h0 : xs = []
          · subst h0
            cases rx
            obtain ⟨t, rfl⟩ := r2
            refine op_repT_same I hx ⟨by omega, by omega⟩ (.inl rfl) ?_
            have e : (List.replicate k.toNat ([] : List D)).flatten = [] := by simp
            rw [e] at q
            exact q.use R (.tup hx .nil)
          · have h0' : vs ≠ [] := fun z => h0 ((rep_nil rx).mp z)
            by_cases h1 : k = 1
            · subst h1
              obtain ⟨t, rfl⟩ := r2
              refine op_repT_same I hx ⟨by omega, by omega⟩ (.inr rfl) ?_
              have e : (List.replicate (1 : Int).toNat xs).flatten = xs := by simp
              rw [e] at q
              exact q.use R (.tup hx rx)
            · by_cases h2 : k ≤ 0
              · obtain ⟨t, rfl⟩ := r2
                refine op_repT_none I hx ⟨by omega, by omega⟩ h0' h2 ?_
                have e : k.toNat = 0 := by omega
                rw [e] at q
                exact q.newT R .nil
              · exact op_repT pins s σ H _ _ _ uy Q I (show L2.RelV (.ref a) (Value.ref a) from rfl) r2 ⟨a, k, vs, rfl, rfl, hx, h0', by omega, by omega, by rw [← rx.length]; omega, q.newT R (rep_flat rx _)⟩
      · rw [if_neg hz] at q; exact q.elim
    | _ => exact gen q
  | _ => cases dx <;> exact q.elim
/-! negation -/
def dNeg : D → Store → Option D
  | .int i, _ => some (.int (-i))
  | _, _ => none
end
end M


set_option Elab.async false
set_option linter.all false
set_option maxRecDepth 100000
set_option maxHeartbeats 4000000
namespace M
open PySem PySem.Spec PyProof.Rows L2
variable [Tabs]

/-! ### data as the model's own -/
mutual
def toPy0 : D → Option PyData
  | .non => some .none
  | .bl b => some (.bool b)
  | .int i => some (.int i)
  | .str x => some (.str x)
  | .tup xs => (toPys0 xs).map .tuple
  | .lst xs => (toPys0 xs).map .list
  | .fro _ => none
  | .loc _ => none
  | .ref _ => none
  | .ty _ => none
def toPys0 : List D → Option (List PyData)
  | [] => some []
  | d :: ds => match toPy0 d, toPys0 ds with
    | some p, some ps => some (p :: ps)
    | _, _ => none
end
def toPy (S : Store) : D → Option PyData
  | .loc n => match S[n]? with
    | some (.lst xs) => (toPys0 xs).map .list
    | _ => none
  | d => toPy0 d
section
variable {K : PySem.W.Frag} {ρ : Rh} {H : Hp} {S : Store}
mutual
theorem toPy0_rep : ∀ (d : D) (v : V) (p : PyData), RepD K ρ H d v → toPy0 d = some p → Dp K H v p
  | .non, _, _, h, e => by cases h; simp only [toPy0] at e; cases e; exact .non
  | .bl b, _, _, h, e => by cases h; simp only [toPy0] at e; cases e; exact .bl b
  | .int i, _, _, h, e => by cases h; simp only [toPy0] at e; cases e; exact .int i
  | .str x, _, _, h, e => by cases h; simp only [toPy0] at e; cases e; exact .str x
  | .tup ds, _, _, h, e => by
    cases h with
    | tup hs hd =>
      simp only [toPy0, Option.map_eq_some_iff] at e
      obtain ⟨ps, e1, rfl⟩ := e
      exact .tup hs (toPys0_rep ds _ ps hd e1)
  | .lst ds, _, _, h, e => by
    cases h with
    | lst hs _ _ hd =>
      simp only [toPy0, Option.map_eq_some_iff] at e
      obtain ⟨ps, e1, rfl⟩ := e
      exact .lst (.inl (.inl hs)) (toPys0_rep ds _ ps hd e1)
  | .fro ds, _, _, h, e => by simp only [toPy0] at e; cases e
  | .loc _, _, _, _, e => by simp only [toPy0] at e; cases e
  | .ref _, _, _, _, e => by simp only [toPy0] at e; cases e
  | .ty _, _, _, _, e => by simp only [toPy0] at e; cases e
theorem toPys0_rep : ∀ (ds : List D) (vs : List V) (ps : List PyData), RepDs K ρ H ds vs → toPys0 ds = some ps → DpAll K H vs ps
  | [], _, _, h, e => by cases h; simp only [toPys0] at e; cases e; exact .nil
  | d :: ds, _, _, h, e => by
    cases h with
    | cons h1 h2 =>
      simp only [toPys0] at e
      split at e
      · cases e
        exact .cons (toPy0_rep d _ _ h1 (by assumption)) (toPys0_rep ds _ _ h2 (by assumption))
      · cases e
end
theorem toPy_rep (R : Rel K ρ H S) {d : D} {v : V} {p : PyData} (h : RepD K ρ H d v) (e : toPy S d = some p) : Dp K H v p := by
  cases d with
  | loc n =>
    cases h with
    | loc ha =>
      simp only [toPy] at e
      split at e
      · rename_i xs hs
        rw [Option.map_eq_some_iff] at e
        obtain ⟨ps, e1, rfl⟩ := e
        obtain ⟨vs, q, r⟩ := R.at_ n _ _ hs ha
        exact .lst (.inl (.inl q)) (toPys0_rep xs _ ps r e1)
      · cases e
  | _ => exact toPy0_rep _ _ _ h e
end

/-! ### comparisons -/
def dEq : DOp
  | .str x, .str y, _ => some (.bl (decide (x = y)))
  | x, y, S => match toPy S x, toPy S y with
    | some p, some q => if SeqAt.shaped p = true ∧ SeqAt.shaped q = true then some (.bl (PyData.eqv p q)) else none
    | _, _ => none
def dNot : D → Option D
  | .bl b => some (.bl (!b))
  | _ => none
def dNe : DOp := fun x y S => (dEq x y S).bind dNot
def dLt : DOp
  | .int i, .int j, _ => some (.bl (decide (i < j)))
  | .str x, .str y, _ => some (.bl (decide (x.cps.toList < y.cps.toList)))
  | _, _, _ => none
def dLe : DOp
  | .int i, .int j, _ => some (.bl (decide (i ≤ j)))
  | .str x, .str y, _ => some (.bl (!decide (y.cps.toList < x.cps.toList)))
  | _, _, _ => none
def dGt : DOp
  | .int i, .int j, _ => some (.bl (decide (j < i)))
  | .str x, .str y, _ => some (.bl (decide (y.cps.toList < x.cps.toList)))
  | _, _, _ => none
def dGe : DOp
  | .int i, .int j, _ => some (.bl (decide (j ≤ i)))
  | .str x, .str y, _ => some (.bl (!decide (x.cps.toList < y.cps.toList)))
  | _, _, _ => none
def isNon : D → Bool
  | .non => true
  | _ => false
def dIs : DOp
  | x, .non, _ => some (.bl (isNon x))
  | .bl a, .bl b, _ => some (.bl (decide (a = b)))
  | _, _, _ => none
def dIsNot : DOp
  | x, .non, _ => some (.bl (!isNon x))
  | .bl a, .bl b, _ => some (.bl (!decide (a = b)))
  | _, _, _ => none
def dIn : DOp
  | .str x, .str y, _ => some (.bl (Txt.contains y x))
  | x, y, S => match toPy S x, toPy S y with
    | some p, some (.list qs) => if SeqAt.shaped p = true ∧ SeqAt.shaped (.list qs) = true then some (.bl (qs.any fun z => PyData.eqv z p)) else none
    | some p, some (.tuple qs) => if SeqAt.shaped p = true ∧ SeqAt.shaped (.list qs) = true then some (.bl (qs.any fun z => PyData.eqv z p)) else none
    | _, _ => none
def dNotIn : DOp := fun x y S => (dIn x y S).bind dNot
section
variable {X : Cx}
theorem isNon_rep {K : PySem.W.Frag} {ρ : Rh} {H : Hp} {d : D} {v : V} (h : RepD K ρ H d v) : decide (v = V.non) = isNon d := by
  cases h <;> rfl
theorem dEq_gen {x y : D} {S : Store} (h : ¬ ∃ a b, x = .str a ∧ y = .str b) : dEq x y S = match toPy S x, toPy S y with
    | some p, some q => if SeqAt.shaped p = true ∧ SeqAt.shaped q = true then some (.bl (PyData.eqv p q)) else none
    | _, _ => none := by
  cases x <;> cases y <;> first | rfl | exact (h ⟨_, _, rfl, rfl⟩).elim
theorem opd_eq (hu : X.A.units + 64 < cLine) : OpD X (compareOp .Eq) dEq := fun pins s σ ρ H S dx dy vx vy ux uy Q I R rx ry r1 r2 q => by
  by_cases h : ∃ a b, dx = .str a ∧ dy = .str b
  · obtain ⟨a, b, rfl, rfl⟩ := h
    cases rx; cases ry
    refine op_eq pins s σ H _ _ ux uy Q I r1 r2 ⟨rfl, ?_⟩
    have e : decide (V.str a = V.str b) = decide (a = b) := by simp
    rw [e]
    exact q.use R (.bl _)
  · rw [dEq_gen h] at q
    split at q
    · rename_i p p' h1 h2
      by_cases hs : SeqAt.shaped p = true ∧ SeqAt.shaped p' = true
      · rw [if_pos hs] at q
        exact op_eqD hu pins s σ H _ _ ux uy Q I r1 r2 ⟨p, p', toPy_rep R rx h1, toPy_rep R ry h2, hs.1, hs.2, q.use R (.bl _)⟩
      · rw [if_neg hs] at q; exact q.elim
    · exact q.elim
theorem opd_ne (hu : X.A.units + 64 < cLine) : OpD X (compareOp .NotEq) dNe := fun pins s σ ρ H S dx dy vx vy ux uy Q I R rx ry r1 r2 q => by
  unfold dNe at q
  by_cases h : ∃ a b, dx = .str a ∧ dy = .str b
  · obtain ⟨a, b, rfl, rfl⟩ := h
    cases rx; cases ry
    refine op_ne pins s σ H _ _ ux uy Q I r1 r2 ⟨rfl, ?_⟩
    have e : decide (V.str a = V.str b) = decide (a = b) := by simp
    rw [e]
    exact q.use R (.bl _)
  · rw [dEq_gen h] at q
    split at q
    · rename_i p p' h1 h2
      by_cases hs : SeqAt.shaped p = true ∧ SeqAt.shaped p' = true
      · rw [if_pos hs] at q
        exact op_neD hu pins s σ H _ _ ux uy Q I r1 r2 ⟨p, p', toPy_rep R rx h1, toPy_rep R ry h2, hs.1, hs.2, q.use R (.bl _)⟩
      · rw [if_neg hs] at q; exact q.elim
    · exact q.elim
theorem opd_lt : OpD X (compareOp .Lt) dLt := fun pins s σ ρ H S dx dy vx vy ux uy Q I R rx ry r1 r2 q => by
  cases dx <;> cases dy <;> first
    | exact q.elim
    | (cases rx; cases ry; exact op_lt pins s σ H _ _ ux uy Q I r1 r2 ⟨_, _, rfl, rfl, q.use R (.bl _)⟩)
    | (cases rx; cases ry; exact op_lt_str pins s σ H _ _ ux uy Q I r1 r2 ⟨_, _, rfl, rfl, q.use R (.bl _)⟩)
theorem opd_le : OpD X (compareOp .LtE) dLe := fun pins s σ ρ H S dx dy vx vy ux uy Q I R rx ry r1 r2 q => by
  cases dx <;> cases dy <;> first
    | exact q.elim
    | (cases rx; cases ry; exact op_le pins s σ H _ _ ux uy Q I r1 r2 ⟨_, _, rfl, rfl, q.use R (.bl _)⟩)
    | (cases rx; cases ry; exact op_le_str pins s σ H _ _ ux uy Q I r1 r2 ⟨_, _, rfl, rfl, q.use R (.bl _)⟩)
theorem opd_gt : OpD X (compareOp .Gt) dGt := fun pins s σ ρ H S dx dy vx vy ux uy Q I R rx ry r1 r2 q => by
  cases dx <;> cases dy <;> first
    | exact q.elim
    | (cases rx; cases ry; exact op_gt pins s σ H _ _ ux uy Q I r1 r2 ⟨_, _, rfl, rfl, q.use R (.bl _)⟩)
    | (cases rx; cases ry; exact op_gt_str pins s σ H _ _ ux uy Q I r1 r2 ⟨_, _, rfl, rfl, q.use R (.bl _)⟩)
theorem opd_ge : OpD X (compareOp .GtE) dGe := fun pins s σ ρ H S dx dy vx vy ux uy Q I R rx ry r1 r2 q => by
  cases dx <;> cases dy <;> first
    | exact q.elim
    | (cases rx; cases ry; exact op_ge pins s σ H _ _ ux uy Q I r1 r2 ⟨_, _, rfl, rfl, q.use R (.bl _)⟩)
    | (cases rx; cases ry; exact op_ge_str pins s σ H _ _ ux uy Q I r1 r2 ⟨_, _, rfl, rfl, q.use R (.bl _)⟩)
theorem opd_is : OpD X (compareOp .Is) dIs := fun pins s σ ρ H S dx dy vx vy ux uy Q I R rx ry r1 r2 q => by
  cases dy with
  | non =>
    have e : dIs dx .non S = some (.bl (isNon dx)) := by cases dx <;> rfl
    rw [e] at q
    have e2 := isNon_rep rx
    cases ry
    refine op_isN pins s σ H _ _ ux uy Q I r1 r2 ⟨rfl, ?_⟩
    rw [e2]
    exact q.use R (.bl _)
  | bl b =>
    cases dx with
    | bl a => cases rx; cases ry; exact op_isBl pins s σ H _ _ ux uy Q I r1 r2 ⟨a, b, rfl, rfl, q.use R (.bl _)⟩
    | _ => exact q.elim
  | _ => cases dx <;> exact q.elim
theorem opd_isNot : OpD X (compareOp .IsNot) dIsNot := fun pins s σ ρ H S dx dy vx vy ux uy Q I R rx ry r1 r2 q => by
  cases dy with
  | non =>
    have e : dIsNot dx .non S = some (.bl (!isNon dx)) := by cases dx <;> rfl
    rw [e] at q
    have e2 := isNon_rep rx
    cases ry
    refine op_notN pins s σ H _ _ ux uy Q I r1 r2 ⟨rfl, ?_⟩
    rw [e2]
    exact q.use R (.bl _)
  | bl b =>
    cases dx with
    | bl a => cases rx; cases ry; exact op_notBl pins s σ H _ _ ux uy Q I r1 r2 ⟨a, b, rfl, rfl, q.use R (.bl _)⟩
    | _ => exact q.elim
  | _ => cases dx <;> exact q.elim
theorem dIn_gen {x y : D} {S : Store} (h : ¬ ∃ a b, x = .str a ∧ y = .str b) : dIn x y S = match toPy S x, toPy S y with
    | some p, some (.list qs) => if SeqAt.shaped p = true ∧ SeqAt.shaped (.list qs) = true then some (.bl (qs.any fun z => PyData.eqv z p)) else none
    | some p, some (.tuple qs) => if SeqAt.shaped p = true ∧ SeqAt.shaped (.list qs) = true then some (.bl (qs.any fun z => PyData.eqv z p)) else none
    | _, _ => none := by
  cases x <;> cases y <;> first | rfl | exact (h ⟨_, _, rfl, rfl⟩).elim
theorem in_room {d : PyData} {qs : List PyData} (sd : SeqAt.shaped d = true) (hu : X.A.units + 65 < cLine) : X.A.units + 1 + min (PyData.depthAll qs) d.depth < cLine := by
  have h1 := SeqAt.depth_of_shaped sd
  have h2 := Nat.min_le_right (PyData.depthAll qs) d.depth
  omega
theorem opd_in_ (neg : Bool) (hu : X.A.units + 65 < cLine) : OpD X (compareOp (if neg then .NotIn else .In)) (if neg then dNotIn else dIn) := fun pins s σ ρ H S dx dy vx vy ux uy Q I R rx ry r1 r2 q => by
  by_cases h : ∃ a b, dx = .str a ∧ dy = .str b
  · obtain ⟨a, b, rfl, rfl⟩ := h
    cases rx; cases ry
    obtain ⟨t, rfl⟩ := r1
    obtain ⟨u, rfl⟩ := r2
    cases neg
    · exact SB.contains ⟨.bl _, H, I, rfl, q.use R (.bl _)⟩
    · exact SB.notContains ⟨.bl _, H, I, rfl, q.use R (.bl _)⟩
  · have fin : ∀ (k : Bool), dIn dx dy S = some (.bl k) → Q (.bl (if neg then !k else k)) H := fun k e => by
      cases neg
      · simp only [Bool.false_eq_true, if_false] at q ⊢
        rw [e] at q
        exact q.use R (.bl _)
      · simp only [if_true] at q ⊢
        unfold dNotIn at q
        rw [e] at q
        exact q.use R (.bl _)
    have none : dIn dx dy S = none → wpAny (model X.prog X.w) X.A (compareOp (if neg then .NotIn else .In) ux uy) (EP X pins σ Q) X.xe s := fun e => by
      cases neg
      · simp only [Bool.false_eq_true, if_false] at q
        rw [e] at q; exact q.elim
      · simp only [if_true] at q
        unfold dNotIn at q
        rw [e] at q; exact q.elim
    cases hd : dIn dx dy S with
    | none => exact none hd
    | some d =>
      have hd' := hd
      rw [dIn_gen h] at hd'
      split at hd'
      · rename_i p qs h1 h2
        split at hd'
        · rename_i hs
          cases hd'
          have fin := fin _ hd
          have d1 := toPy_rep R rx h1
          have d2 := toPy_rep R ry h2
          obtain ⟨as, e1⟩ := Dp.reads I p vx ux d1 r1
          obtain ⟨bs, e2⟩ := Dp.reads I (.list qs) vy uy d2 r2
          cases neg
          · exact SeqAt.in_list_reads e2 e1 (SeqAt.canLay_of_shaped hs.2) (SeqAt.canLay_of_shaped hs.1) (in_room hs.1 hu) ⟨.bl _, H, I, rfl, fin⟩
          · exact SeqAt.notIn_list_reads e2 e1 (SeqAt.canLay_of_shaped hs.2) (SeqAt.canLay_of_shaped hs.1) (in_room hs.1 hu) ⟨.bl _, H, I, rfl, fin⟩
        · cases hd'
      · rename_i p qs h1 h2
        split at hd'
        · rename_i hs
          cases hd'
          have fin := fin _ hd
          have d1 := toPy_rep R rx h1
          have d2 := toPy_rep R ry h2
          obtain ⟨as, e1⟩ := Dp.reads I p vx ux d1 r1
          obtain ⟨bs, e2⟩ := Dp.reads I (.tuple qs) vy uy d2 r2
          cases neg
          · exact SeqAt.in_tuple_reads e2 e1 (SeqAt.canLay_of_shaped hs.2) (SeqAt.canLay_of_shaped hs.1) (in_room hs.1 hu) ⟨.bl _, H, I, rfl, fin⟩
          · exact SeqAt.notIn_tuple_reads e2 e1 (SeqAt.canLay_of_shaped hs.2) (SeqAt.canLay_of_shaped hs.1) (in_room hs.1 hu) ⟨.bl _, H, I, rfl, fin⟩
        · cases hd'
      · cases hd'
theorem opd_in (hu : X.A.units + 65 < cLine) : OpD X (compareOp .In) dIn := opd_in_ false hu
theorem opd_notIn (hu : X.A.units + 65 < cLine) : OpD X (compareOp .NotIn) dNotIn := opd_in_ true hu
/-! two comparisons -/
def mChain (g g' : DOp) (a b c : ME) : ME := fun e S => (a e S).bind fun x S1 => (b e S1).bind fun y S2 => (Res.of (g x y S2) S2).bind fun k S3 => match k with
  | .bl k => if k = true then (c e S3).bind fun z S4 => .of (g' y z S4) S4 else .ok (.bl false) S3
  | _ => .bad
variable {W : WX} {a b c : Expr} {ma mb mc : ME} {pos : Pos}
theorem tE_chain {g g' : DOp} {σ : L2.St} {H : Hp} {Q : VK} (h : tE X.K X.mg W (mChain g g' ma mb mc) σ H Q) : tChain (rOpD X.K g) (rOpD X.K g') (tE X.K X.mg W ma) (tE X.K X.mg W mb) (tE X.K X.mg W mc) σ H Q := by
  obtain ⟨ρ, e, S, he, R, q⟩ := h
  refine ⟨ρ, e, S, he, R, (Post.bind q).mono fun x S1 ρ1 H1 f1 R1 q vx rx => ?_⟩
  refine ⟨ρ1, e, S1, he.fr R.free f1, R1, (Post.bind q).mono fun y S2 ρ2 H2 f2 R2 q vy ry => ?_⟩
  refine ⟨ρ2, S2, x, y, R2, RepD.fr R1.free f2 _ _ rx, ry, ?_⟩
  cases hk : g x y S2 with
  | none => rw [hk] at q; exact q.elim
  | some k =>
    rw [hk] at q
    intro ρ3 H3 f3 R3 v rv
    have q := Post.fr f3 q
    cases k with
    | bl k =>
      cases rv
      refine ⟨k, rfl, ?_⟩
      cases k with
      | true =>
        rw [if_pos rfl]
        refine ⟨ρ3, e, S2, ((he.fr R.free f1).fr R1.free f2).fr R2.free f3, R3, (Post.bind (r := mc e S2) (f := fun z S4 => Res.of (g' y z S4) S4) q).mono fun z S4 ρ4 H4 f4 R4 q vz rz => ?_⟩
        exact ⟨ρ4, S4, y, z, R4, RepD.fr R3.free f4 _ _ (RepD.fr R2.free f3 _ _ ry), rz, PostE.of (σ := σ) q⟩
      | false => exact q ρ3 H3 (Fr.refl _ _) R3 _ (.bl false)
    | _ => exact q.elim
theorem em_chain {op op' : CmpOp} {g g' : DOp} (o : OpD X (compareOp op) g) (o' : OpD X (compareOp op') g') (ha : EM X W a ma) (hb : EM X W b mb) (hc : EM X W c mc) (hm : lastMarks [op, op'] [b, c] = false := by with_unfolding_all rfl) :
    EM X W (.Compare a [op, op'] [b, c] pos) (mChain g g' ma mb mc) := pe_imp (pe_chain o.r o'.r ha hb hc hm) fun σ H Q h => tE_chain h
theorem tm_chain {op op' : CmpOp} {g g' : DOp} (o : OpD X (compareOp op) g) (o' : OpD X (compareOp op') g') (ha : EM X W a ma) (hb : EM X W b mb) (hc : EM X W c mc) (hm : lastMarks [op, op'] [b, c] = false := by with_unfolding_all rfl) :
    TM X W (.Compare a [op, op'] [b, c] pos) (mB (mChain g g' ma mb mc)) := pt_imp (pt_chain o.r o'.r ha hb hc hm) fun σ H Q h => tE_chain (tE_test h)
/-! negation -/
def mUn (g : D → Store → Option D) (a : ME) : ME := fun e S => (a e S).bind fun x S1 => .of (g x S1) S1
theorem em_neg (ha : EM X W a ma) : EM X W (.UnaryOp .USub a pos) (mUn dNeg ma) :=
  pe_imp (pe_un un_neg ha) fun σ H Q h => tE_then (f := fun x e S => .of (dNeg x S) S) (fun ρ H d v e S he R r q => by
    cases d with
    | int i => cases r; exact ⟨i, rfl, q ρ H (Fr.refl _ _) R _ (.int _)⟩
    | _ => exact q.elim) h
end
end M


set_option Elab.async false
set_option linter.all false
set_option maxRecDepth 100000
set_option maxHeartbeats 4000000
namespace M
open PySem PySem.Spec PyProof.Rows L2
variable [Tabs]

/-! ### items -/
def dIx : DOp
  | .str x, .int i, _ => if x.length ≤ sizeLine then (atI x.cps.toList i).map fun c => .str ⟨#[c]⟩ else none
  | d, .int i, S => (seqOf S d).bind fun xs => atI xs i
  | _, _, _ => none
theorem atI_rep {K : PySem.W.Frag} {ρ : Rh} {H : Hp} {xs : List D} {vs : List V} {i : Int} {d : D} (h : RepDs K ρ H xs vs) (e : atI xs i = some d) : ∃ v, atI vs i = some v ∧ RepD K ρ H d v := by
  unfold atI at e ⊢
  rw [← h.length]
  cases q : ixN xs.length i with
  | none => rw [q] at e; cases e
  | some j =>
    rw [q] at e
    obtain ⟨v, a, b⟩ := h.get (i := j) e
    exact ⟨v, a, b⟩
section
variable {X : Cx} {W : WX} {a b c : Expr} {ma mb mc : ME} {pos : Pos}
theorem em_ix (ha : EM X W a ma) (hb : EM X W b mb) (hs : PlainIx b) : EM X W (.Subscript a b pos) (mBin dIx ma mb) :=
  pe_imp (pe_ix ix_seq ha hb hs) fun σ H Q h => tE_bin (fun ρ H S dx dy vx vy Q σ R rx ry q => by
    have q := PostE.of q
    have seq : ∀ xs i, seqOf S dx = some xs → dy = .int i → PostV X.K ρ H S Q (atI xs i) → rIx X.K vx vy H Q := fun xs i e ei qa => by
      subst ei
      cases ry
      obtain ⟨a, vs, rfl, hq, r⟩ := seqOf_rep R rx e
      cases hk : atI xs i with
      | none => rw [hk] at qa; exact qa.elim
      | some d =>
        rw [hk] at qa
        obtain ⟨v, hv, rv⟩ := atI_rep r hk
        rcases hq with hq | hq
        · exact .inl ⟨a, vs, i, v, rfl, rfl, hq, hv, qa.use R rv⟩
        · exact .inr (.inl ⟨a, vs, i, v, rfl, rfl, hq, hv, qa.use R rv⟩)
    cases dy with
    | int i =>
      have gen : PostV X.K ρ H S Q ((seqOf S dx).bind fun xs => atI xs i) → rIx X.K vx vy H Q := fun q => by
        cases e : seqOf S dx with
        | none => rw [e] at q; exact q.elim
        | some xs => rw [e] at q; exact seq xs i e rfl q
      cases dx with
      | str x =>
        cases rx; cases ry
        simp only [dIx] at q
        by_cases hz : x.length ≤ sizeLine
        · rw [if_pos hz] at q
          cases hk : atI x.cps.toList i with
          | none => rw [hk] at q; exact q.elim
          | some c => rw [hk] at q; exact .inr (.inr ⟨x, i, c, rfl, rfl, hz, hk, q.use R (.str _)⟩)
        · rw [if_neg hz] at q; exact q.elim
      | _ => exact gen q
    | _ => cases dx <;> exact q.elim) h

/-! ### slices -/
def cutD (xs : List D) (lo hi : Option Int) : List D := (xs.drop (HT.sIx xs.length 0 lo)).take (HT.sIx xs.length xs.length hi - HT.sIx xs.length 0 lo)
theorem cutD_rep {K : PySem.W.Frag} {ρ : Rh} {H : Hp} {xs : List D} {vs : List V} (h : RepDs K ρ H xs vs) (lo hi : Option Int) : RepDs K ρ H (cutD xs lo hi) (cutV vs lo hi) := by
  unfold cutD cutV
  rw [h.length]
  exact (h.drop _).take _
theorem cutD_whole {xs : List D} {lo hi : Option Int} (h : HT.sIx xs.length 0 lo = 0 ∧ HT.sIx xs.length xs.length hi = xs.length) : cutD xs lo hi = xs := by
  unfold cutD
  rw [h.1, h.2]
  simp
def dSlice (d : D) (lo hi : Option Int) (S : Store) : Option D := match d with
  | .str x => if x.length ≤ sizeLine then some (.str (Txt.slice x lo hi)) else none
  | .tup xs => some (.tup (cutD xs lo hi))
  | d => (lstOf S d).map fun xs => .lst (cutD xs lo hi)
/-- a part of a slice -/
abbrev MO := Env → Store → Res (Option Int)
def mNo : MO := fun _ S => .ok none S
def iOf : D → Option Int
  | .int i => some i
  | _ => none
def mPart (m : ME) : MO := fun e S => (m e S).bind fun d S1 => .of ((iOf d).map some) S1
def tO (K : PySem.W.Frag) (mg : Str → Option Value) (W : WX) (m : MO) : TO := fun σ H Q => ∃ ρ e S, EnvRel K ρ H σ e ∧ Rel K ρ H S ∧ Post K mg W (fun o _ _ H' => Q o H') ρ H σ (m e S)
abbrev OM (X : Cx) (W : WX) (e : Option Expr) (m : MO) : Prop := PO X e (tO X.K X.mg W m)
theorem om_no : OM X W none mNo := ⟨fun pins s σ H Q I ⟨ρ, e, S, he, R, q⟩ => po_none.run pins s σ H Q I (q ρ H (Fr.refl _ _) R)⟩
theorem om_some (h : EM X W a ma) : OM X W (some a) (mPart ma) := ⟨fun pins s σ H Q I ⟨ρ, e, S, he, R, q⟩ => (po_some h).run pins s σ H Q I ⟨ρ, e, S, he, R, (Post.bind q).mono fun d S1 ρ1 H1 f1 R1 q v rv => by
  cases d with
  | int i => cases rv; exact ⟨i, rfl, q ρ1 H1 (Fr.refl _ _) R1⟩
  | _ => exact q.elim⟩⟩
def mSlice (a : ME) (lo hi : MO) : ME := fun e S => (a e S).bind fun d S1 => (lo e S1).bind fun l S2 => (hi e S2).bind fun h S3 => .of (dSlice d l h S3) S3
theorem em_slice {lo hi : Option Expr} {ml mh : MO} {p2 : Pos} (ha : EM X W a ma) (hl : OM X W lo ml) (hh : OM X W hi mh) : EM X W (.Subscript a (.Slice lo hi none p2) pos) (mSlice ma ml mh) :=
  pe_imp (pe_slice (sl_tupA.or (sl_list.or C8.sl_txt)) ha hl hh) fun σ H Q ⟨ρ, e, S, he, R, q⟩ => by
    refine ⟨ρ, e, S, he, R, (Post.bind q).mono fun d S1 ρ1 H1 f1 R1 q v rv => ?_⟩
    refine ⟨ρ1, e, S1, he.fr R.free f1, R1, (Post.bind q).mono fun l S2 ρ2 H2 f2 R2 q => ?_⟩
    refine ⟨ρ2, e, S2, (he.fr R.free f1).fr R1.free f2, R2, (Post.bind q).mono fun h S3 ρ3 H3 f3 R3 q => ?_⟩
    have rv := RepD.fr R2.free f3 _ _ (RepD.fr R1.free f2 _ _ rv)
    have q := PostE.of (σ := σ) q
    have gen : PostV X.K ρ3 H3 S3 Q ((lstOf S3 d).map fun xs => .lst (cutD xs l h)) → rSlL X.K v l h H3 Q := fun q => by
      cases e : lstOf S3 d with
      | none => rw [e] at q; exact q.elim
      | some xs =>
        rw [e] at q
        obtain ⟨a, vs, rfl, hq, r⟩ := lstOf_rep R3 rv e
        exact ⟨a, vs, rfl, hq, q.newL R3 (cutD_rep r l h)⟩
    cases d with
    | str x =>
      cases rv
      simp only [dSlice] at q
      by_cases hz : x.length ≤ sizeLine
      · rw [if_pos hz] at q; exact .inr (.inr ⟨x, rfl, hz, q.use R3 (.str _)⟩)
      · rw [if_neg hz] at q; exact q.elim
    | tup xs =>
      cases rv with
      | tup hx rx =>
        rename_i a vs
        simp only [dSlice] at q
        refine .inl ⟨a, vs, rfl, hx, fun hw => ?_, fun _ => q.newT R3 (cutD_rep rx l h)⟩
        rw [← rx.length] at hw
        rw [cutD_whole hw] at q
        exact q.use R3 (.tup hx rx)
    | _ => exact .inr (.inl (gen q))

/-! ### backwards -/
theorem adjust_back (n : Nat) : Builtin.Slice.sliceAdjust none none (-1) (n : Int) = ((n : Int) - 1, -1) := by
  unfold Builtin.Slice.sliceAdjust
  simp
theorem places_back (n : Nat) : Builtin.Slice.slicePlaces ((n : Int) - 1) (-1) (-1) = n := by
  unfold Builtin.Slice.slicePlaces
  have h1 : ¬ ((-1 : Int) > 0) := by omega
  simp only [h1, if_false]
  by_cases h : (n : Int) - 1 > -1
  · rw [if_pos h, show (- -1 : Int) = 1 by decide, Int.ediv_one]; omega
  · rw [if_neg h]; omega
theorem fm_congr {α β : Type} {f g : α → Option β} : ∀ {l : List α}, (∀ x ∈ l, f x = g x) → l.filterMap f = l.filterMap g
  | [], _ => rfl
  | x :: l, h => by
    rw [List.filterMap_cons, List.filterMap_cons, h x List.mem_cons_self, fm_congr fun y hy => h y (List.mem_cons_of_mem _ hy)]
theorem pick_back (xs : Array Value) : ((List.range xs.size).filterMap fun (m : Nat) => xs[(((xs.size : Int) - 1) + (m : Int) * -1).toNat]?).toArray = xs.toList.reverse.toArray := by
  have e : (List.range xs.size).filterMap (fun (m : Nat) => xs[(((xs.size : Int) - 1) + (m : Int) * -1).toNat]?) = ((List.range xs.size).map fun k => xs.size - 1 - k).filterMap (xs[·]?) := by
    rw [List.filterMap_map]
    apply fm_congr
    intro k hk
    have := List.mem_range.mp hk
    show xs[_]? = xs[xs.size - 1 - k]?
    congr 1
    omega
  rw [e, PySem.W.krv_range, List.filterMap_reverse, PySem.W.krv_all]
theorem getItem_tuple_back {prog : Program} {w : World} {A : Around} {E : Value → Shared → Prop} {s : Shared} {t sl : Addr} {items : Array Value} {tk : Tok} {Q : Value → Shared → Prop} (ht : IsTup s.heap t items) (hs : s.heap.IsSliceOf sl .none .none (.int (-1) tk))
    (h : Q (.ref s.heap.objs.size) { s with heap := s.heap.push { cls := .type "tuple", data := .seq items.toList.reverse.toArray } }) (hsz : items.size ≤ sizeLine) : wpAny (model prog w) A (getItem (.ref t) (.ref sl)) Q E s := by
  have htake : sizeOk (.seq items.toList.reverse.toArray) := by
    show items.toList.reverse.toArray.size ≤ sizeLine
    rw [List.size_toArray, List.length_reverse, Array.length_toList]
    exact hsz
  obtain ⟨os, hos, hcs, hds⟩ := id hs
  have hTs : s.TypeIs (.ref sl) "slice" := ⟨os, hos, hcs⟩
  unfold getItem
  try with_reducible refine wpAny_holding ?_
  first | refine wpAny_bind (wpAny_pure ?_) | skip
  refine wpAny_bind (wpAny_sequenceKey ht.typeIs (by decide) ?_)
  refine wpAny_bind (wpAny_callSpecial?_slot (name := Str.ofString "__getitem__") ht.typeIs PyProof.Rows.slot_tuple_getitem
    (wpAny_call_entry PyProof.Rows.slot_tuple_getitem ht.typeIs entry_tuple_getitem ?_ (args_tuple_getitem _ _)))
  show wpAny _ _ (Builtin.Tuple.tupleItemsOf (.ref t) >>= _) _ _ s
  refine wpAny_bind (tupleItemsOf_ ht ?_)
  refine wpAny_bind (wpAny_typeOf hTs ?_)
  rw [if_pos (by decide)]
  refine wpAny_bind ?_
  unfold Builtin.Slice.sliceApplied Builtin.Slice.sliceFields
  refine wpAny_bind (wpAny_bind (wpAny_field hos hds (x := .none) rfl (wpAny_bind (wpAny_field hos hds (x := .none) rfl (wpAny_bind (wpAny_field hos hds (x := .int (-1) tk) rfl (wpAny_pure ?_)))))))
  refine wpAny_bind (HT.slicePart_ (o := some (-1)) (.int (-1) tk) ?_)
  show wpAny _ _ (if ((-1 : Int) == 0) = true then _ else _) _ _ s
  rw [if_neg (by decide)]
  refine wpAny_bind (HT.slicePart_ (o := none) .none (wpAny_bind (HT.slicePart_ (o := none) .none (wpAny_bind (wpAny_pure ?_)))))
  show wpAny _ _ (match Builtin.Slice.sliceAdjust none none (-1) (items.size : Int) with | (lo, hi) => pure (lo, (-1 : Int), Builtin.Slice.slicePlaces lo hi (-1))) _ _ s
  rw [adjust_back]
  show wpAny _ _ (pure ((items.size : Int) - 1, (-1 : Int), Builtin.Slice.slicePlaces ((items.size : Int) - 1) (-1) (-1))) _ _ s
  rw [places_back]
  refine wpAny_pure ?_
  have hno : ¬ ((((items.size : Int) - 1) == 0 && (-1 : Int) == 1 && items.size == items.size) = true) := by simp
  show wpAny _ _ (if (((items.size : Int) - 1) == 0 && (-1 : Int) == 1 && items.size == items.size) = true then _ else _) _ _ s
  rw [if_neg hno, pick_back]
  first
    | exact wpAny_bind (m := Builtin.Tuple.tupleExact _) (wpAny_newObj_type (wpAny_pure ⟨_, rfl, wpAny_pure h⟩) htake)
    | exact wpAny_bind (m := Builtin.Tuple.tupleExact _) (wpAny_newObj_type (wpAny_bind (wpAny_pure (wpAny_pure ⟨_, rfl, wpAny_pure h⟩))) htake)
    | exact wpAny_bind (wpAny_bind (m := Builtin.Tuple.tupleExact _) (wpAny_newObj_type (wpAny_pure (wpAny_pure ⟨_, rfl, wpAny_pure h⟩)) htake))
    | exact wpAny_bind (wpAny_bind (m := Builtin.Tuple.tupleExact _) (wpAny_newObj_type (wpAny_pure ⟨_, rfl, wpAny_pure h⟩) htake))
def rRev (K : PySem.W.Frag) : V → Hp → VK → Prop := fun x H Q => (∃ a xs, x = .ref a ∧ SqL K H a xs ∧ ∀ p, H p = none → Q (.ref p) (upd H p (.lst xs.reverse))) ∨ (∃ a xs, x = .ref a ∧ SqT K H a xs ∧ ∀ p, H p = none → Q (.ref p) (upd H p (.tup xs.reverse)))
def tRev (K : PySem.W.Frag) (te : TE) : TE := fun σ H Q => te σ H fun x H1 => rRev K x H1 Q
theorem pe_rev {e : Expr} {te : TE} {k : Nat} {p1 p2 p3 pos : Pos} (he : PE X e te) : PE X (.Subscript e (.Slice none none (some (.UnaryOp .USub (.Constant (.int 1) k p1) p2)) p3) pos) (tRev X.K te) := by
  refine ⟨fun pins s σ H Q I h => ?_⟩
  refine Subscript_ (thn (he.run pins s σ H _ I h) fun v s1 ⟨x, H1, I1, r1, q1⟩ => ?_)
  have hst : PO X (some (.UnaryOp .USub (.Constant (.int 1) k p1) p2)) (tPart (tUn (rU fun i => .int (-i)) (tC (.int 1)))) := po_some (pe_un un_neg pe_int)
  refine wpAny_Slice (thn (po_none.run pins s1 σ H1 (fun o H2 => o = none ∧ H2 = H1) I1 ⟨rfl, rfl⟩) fun vl s2 ⟨l, H2, I2, pl, el, e2⟩ => ?_)
  subst el e2
  refine thn (po_none.run pins s2 σ H2 (fun o H3 => o = none ∧ H3 = H2) I2 ⟨rfl, rfl⟩) fun vu s3 ⟨u, H3, I3, pu, eu, e3⟩ => ?_
  subst eu e3
  refine thn (hst.run pins s3 σ H3 (fun o H4 => o = some (-1) ∧ H4 = H3) I3 ⟨1, rfl, -1, rfl, rfl, rfl⟩) fun vs s4 ⟨o, H4, I4, ps, eo, e4⟩ => ?_
  subst eo e4
  have I5 : Inv X pins σ H4 { s4 with heap := s4.heap.push { cls := .type "slice", data := .fields #[vl, vu, vs] } } := I4.kept (t' := s4.toks) fun b ob q => Heap.get?_push_of_some _ q
  rcases q1 with ⟨a, xs, ex, hx, q⟩ | ⟨a, xs, ex, hx, q⟩
  · subst ex
    cases r1
    obtain ⟨its, r, ht, hz⟩ := I5.list hx
    have hlen := r.length
    show wpAny (model X.prog X.w) X.A (subscriptTail e (.Slice none none (some (.UnaryOp .USub (.Constant (.int 1) k p1) p2)) p3) (.ref a) (.ref s4.heap.objs.size)) (EP X pins σ Q) X.xe { s4 with heap := s4.heap.push { cls := .type "slice", data := .fields #[vl, vu, vs] } }
    refine tail_any (ops := [.ref a, .ref s4.heap.objs.size]) ht.isList.typeIs (PySem.slot_list_getitem.lookup) ?_ (by with_unfolding_all rfl)
    refine wpAny_getItem_list_slice ht.isList (Heap.IsSliceOf.new _ vl vu vs) pl pu ps (by decide) ?_ (by rw [List.size_toArray]; omega)
    rw [PySem.W.krv_pick]
    refine ⟨.ref _, _, I5.laid (t' := s4.toks) (o := .lst xs.reverse) (fun b ob q => Heap.get?_push_of_some _ q) (Nat.le_refl _) ?_, rfl, q _ (I5.hok.fresh (Nat.le_refl _))⟩
    exact ⟨by rw [List.length_reverse]; exact hz, _, 0, r.reverse, Heap.get?_push_size _ rfl⟩
  · subst ex
    cases r1
    obtain ⟨its, r, ht, hz⟩ := I5.tuple hx
    have hlen := r.length
    cases pl; cases pu; cases ps
    show wpAny (model X.prog X.w) X.A (subscriptTail e (.Slice none none (some (.UnaryOp .USub (.Constant (.int 1) k p1) p2)) p3) (.ref a) (.ref s4.heap.objs.size)) (EP X pins σ Q) X.xe { s4 with heap := s4.heap.push { cls := .type "slice", data := .fields #[.none, .none, .int (-1) _] } }
    refine tail_any (ops := [.ref a, .ref s4.heap.objs.size]) ht.typeIs (PyProof.Rows.slot_tuple_getitem.lookup) ?_ (by with_unfolding_all rfl)
    refine getItem_tuple_back ht (Heap.IsSliceOf.new _ _ _ _) ?_ (by rw [List.size_toArray]; omega)
    refine ⟨.ref _, _, I5.laid (t' := s4.toks) (o := .tup xs.reverse) (fun b ob q => Heap.get?_push_of_some _ q) (Nat.le_refl _) ?_, rfl, q _ (I5.hok.fresh (Nat.le_refl _))⟩
    exact ⟨by rw [List.length_reverse]; exact hz, _, by simpa using r.reverse, IsTup.new _ _⟩
def dRev (d : D) (S : Store) : Option D := match d with
  | .tup xs => some (.tup xs.reverse)
  | d => (lstOf S d).map fun xs => .lst xs.reverse
theorem em_rev {k : Nat} {p1 p2 p3 : Pos} (ha : EM X W a ma) : EM X W (.Subscript a (.Slice none none (some (.UnaryOp .USub (.Constant (.int 1) k p1) p2)) p3) pos) (mUn dRev ma) :=
  pe_imp (pe_rev ha) fun σ H Q h => tE_then (f := fun x e S => .of (dRev x S) S) (fun ρ H d v e S he R r q => by
    have q := PostE.of (σ := σ) q
    have gen : PostV X.K ρ H S Q ((lstOf S d).map fun xs => .lst xs.reverse) → rRev X.K v H Q := fun q => by
      cases e : lstOf S d with
      | none => rw [e] at q; exact q.elim
      | some xs =>
        rw [e] at q
        obtain ⟨a, vs, rfl, hq, r⟩ := lstOf_rep R r e
        exact .inl ⟨a, vs, rfl, hq, q.newL R r.reverse⟩
    cases d with
    | tup xs => cases r with | tup hx rx => exact .inr ⟨_, _, rfl, hx, q.newT R rx.reverse⟩
    | _ => exact gen q) h
end
end M


set_option Elab.async false
set_option linter.all false
set_option maxRecDepth 100000
set_option maxHeartbeats 4000000
namespace M
open PySem PySem.Spec PyProof.Rows L2
variable [Tabs]

section
variable {X : Cx} {W : WX} {a b c e : Expr} {es : List Expr} {ma mb mc : ME} {m : MA} {pos : Pos}
/-! ### arguments, displays -/
def mNil : MA := fun _ S => .ok [] S
def mCons (a : ME) (r : MA) : MA := fun e S => (a e S).bind fun d S1 => (r e S1).bind fun ds S2 => .ok (d :: ds) S2
theorem am_nil : AM X W [] mNil := pa_imp pa_nil fun σ H Q ⟨ρ, e, S, he, R, q⟩ => q ρ H (Fr.refl _ _) R [] .nil
theorem am_cons (ha : EM X W e ma) (hr : AM X W es m) (hs : starEach (e :: es) X.env = (false, eval e X.env) :: starEach es X.env := by rfl) : AM X W (e :: es) (mCons ma m) :=
  pa_imp (pa_cons ha hr hs) fun σ H Q ⟨ρ, e, S, he, R, q⟩ => ⟨ρ, e, S, he, R, (Post.bind q).mono fun d S1 ρ1 H1 f1 R1 q v rv => ⟨ρ1, e, S1, he.fr R.free f1, R1, (Post.bind q).mono fun ds S2 ρ2 H2 f2 R2 q vs rvs =>
    q ρ2 H2 (Fr.refl _ _) R2 (v :: vs) (.cons (RepD.fr R1.free f2 _ _ rv) rvs)⟩⟩
/-- arguments, then something by their values -/
theorem tA_then {β : Type} {g : List D → Store → Res D} {σ : L2.St} {H : Hp} {Q : VK} {u : List V → Hp → Prop}
    (hu : ∀ ρ H ds vs S, Rel X.K ρ H S → RepDs X.K ρ H ds vs → PostE X.K X.mg W ρ H σ Q (g ds S) → u vs H)
    (h : tE X.K X.mg W (fun e S => (m e S).bind fun ds S1 => g ds S1) σ H Q) : tA X.K X.mg W m σ H u := by
  obtain ⟨ρ, e, S, he, R, q⟩ := h
  exact ⟨ρ, e, S, he, R, (Post.bind q).mono fun ds S1 ρ1 H1 f1 R1 q vs r => hu ρ1 H1 ds vs S1 R1 r q⟩
def mTup (m : MA) : ME := fun e S => (m e S).bind fun ds S1 => .of (if ds.length ≤ sizeLine then some (.tup ds) else none) S1
theorem em_tup {k} (h : AM X W es m) : EM X W (.Tuple es k pos) (mTup m) :=
  pe_imp (pe_tup h) fun σ H Q h => tA_then (g := fun ds S => .of (if ds.length ≤ sizeLine then some (.tup ds) else none) S) (β := D) (fun ρ H ds vs S R r q => by
    have q := PostE.of (σ := σ) q
    by_cases hz : ds.length ≤ sizeLine
    · rw [if_pos hz] at q
      exact ⟨by rw [← r.length]; exact hz, q.newT R r⟩
    · rw [if_neg hz] at q; exact q.elim) h
/-- a list of written items -/
def mLst (m : MA) : MA := fun e S => (m e S).bind fun ds S1 => .of (if ds.length ≤ sizeLine then some ds else none) S1
theorem PostN.of_new {σ : L2.St} {Q : VK} {ρ : Rh} {H : Hp} {S : Store} {ds : List D} {vs : List V} (R : Rel X.K ρ H S) (r : RepDs X.K ρ H ds vs) (q : PostN X.K X.mg W ρ H σ Q (.ok ds S)) : ∀ p, H p = none → Q (.ref p) (upd H p (.lst vs)) := fun p hp =>
  q ρ _ p vs (Fr.laid hp) (R.laidH hp) hp (R.newh hp).1 upd_same (RepDs.laidH R hp r)
theorem PostN.bind {α : Type} {σ : L2.St} {Q : VK} {ρ : Rh} {H : Hp} {f : α → Store → Res (List D)} : ∀ {r : Res α}, PostN X.K X.mg W ρ H σ Q (r.bind f) → Post X.K X.mg W (fun a S1 ρ1 H1 => PostN X.K X.mg W ρ1 H1 σ Q (f a S1)) ρ H σ r
  | .ok _ _, h => fun ρ' H' g R => PostN.fr g h
  | .ex _ _, h => h
  | .bad, h => h
theorem nm_lst (h : AM X W es m) : NM X W (.List es pos) (mLst m) :=
  pe_imp (pe_lst h) fun σ H Q ⟨ρ, e, S, he, R, q⟩ => ⟨ρ, e, S, he, R, (PostN.bind q).mono fun ds S1 ρ1 H1 f1 R1 q vs r => by
    by_cases hz : ds.length ≤ sizeLine
    · rw [if_pos hz] at q
      exact ⟨by rw [← r.length]; exact hz, PostN.of_new R1 r q⟩
    · rw [if_neg hz] at q; exact q.elim⟩
/-- a new list by value; as an object of the store -/
def asV (m : MA) : ME := fun e S => (m e S).bind fun ds S1 => .ok (.lst ds) S1
def asL (m : MA) : ME := fun e S => (m e S).bind fun ds S1 => .ok (.loc S1.length) (S1 ++ [.lst ds])
theorem em_val (h : NM X W e m) : EM X W e (asV m) := pe_imp h fun σ H Q ⟨ρ, e, S, he, R, q⟩ => ⟨ρ, e, S, he, R, by
  unfold asV at q
  cases hk : m e S with
  | bad => rw [hk] at q; exact q
  | ex c S1 => rw [hk] at q; exact q
  | ok ds S1 =>
    rw [hk] at q
    exact fun ρ' H' p vs f R' hp hn e1 r => q ρ' H' f R'.unhide _ (.lst e1 hn (fun m => by
      obtain ⟨ws, z⟩ := R.hid p (by rw [← f.hid]; exact m)
      rw [hp] at z; cases z) (RepDs.sees Sees.unhide _ _ r))⟩
theorem em_loc (h : NM X W e m) : EM X W e (asL m) := pe_imp h fun σ H Q ⟨ρ, e, S, he, R, q⟩ => ⟨ρ, e, S, he, R, by
  unfold asL at q
  cases hk : m e S with
  | bad => rw [hk] at q; exact q
  | ex c S1 => rw [hk] at q; exact q
  | ok ds S1 =>
    rw [hk] at q
    exact fun ρ' H' p vs f R' hp hn e1 r => q _ H' (f.shown hp) (R'.shown hn e1 r) _ (.loc (by
      show (ρ'.l ++ [p])[S1.length]? = some p
      have : ρ'.l.length = S1.length := R'.len
      rw [List.getElem?_append_right (by omega), this]; simp))⟩

/-! ### calls of what is built in -/
def CallD (X : Cx) (f : Value) (g : List D → Store → Option D) : Prop :=
  ∀ (pins : List (Addr × Obj)) (s : Shared) (σ : L2.St) (ρ : Rh) (H : Hp) (S : Store) (ds : List D) (vs : List V) (us : List Value) (Q : VK), Inv X pins σ H s → Rel X.K ρ H S → RepDs X.K ρ H ds vs → Vals vs us →
    PostV X.K ρ H S Q (g ds S) → wpAny (model X.prog X.w) X.A (call f us) (EP X pins σ Q) X.xe s
theorem CallD.r {f : Value} {g : List D → Store → Option D} (o : CallD X f g) : CallR X f (fun vs H Q => ∃ ρ S ds, Rel X.K ρ H S ∧ RepDs X.K ρ H ds vs ∧ PostV X.K ρ H S Q (g ds S)) :=
  fun pins s σ H xs us Q I r ⟨ρ, S, ds, R, rd, q⟩ => o pins s σ ρ H S ds xs us Q I R rd r q
def mCall (g : List D → Store → Option D) (m : MA) : ME := fun e S => (m e S).bind fun ds S1 => .of (g ds S1) S1
variable {id T : String} {x : Str} {p : Pos}
theorem em_callB {g : List D → Store → Option D} (o : CallD X (.builtin id) g) (hg : Gl X x) (hm : X.mg x = none) (hv : bootBuiltins x = some (.builtin id)) (ha : AM X W (e :: es) m) (hn : x ≠ "__name__" := by decide) (hdb : (x == ("__debug__" : Str)) = false := by decide)
    (he : starEach (e :: es) X.env = (false, eval e X.env) :: starEach es X.env := by rfl) (hpl : (backTo pos (starEach es X.env)).any (·.1) = false := by rfl) : EM X W (.Call (.Name x p) (e :: es) [] pos) (mCall g m) :=
  pe_imp (pe_callB o.r hg hm hv ha hn hdb he hpl) fun σ H Q h => tA_then (β := D) (g := fun ds S => .of (g ds S) S) (fun ρ H ds vs S R r q => ⟨ρ, S, ds, R, r, PostE.of (σ := σ) q⟩) h
theorem em_callTy {g : List D → Store → Option D} (o : CallD X (.type T) g) (hg : Gl X x) (hm : X.mg x = none) (hv : bootBuiltins x = some (.type T)) (ha : AM X W (e :: es) m) (hn : x ≠ "__name__" := by decide) (hdb : (x == ("__debug__" : Str)) = false := by decide)
    (he : starEach (e :: es) X.env = (false, eval e X.env) :: starEach es X.env := by rfl) (hpl : (backTo pos (starEach es X.env)).any (·.1) = false := by rfl) : EM X W (.Call (.Name x p) (e :: es) [] pos) (mCall g m) :=
  pe_imp (pe_callTy o.r hg hm hv ha hn hdb he hpl) fun σ H Q h => tA_then (β := D) (g := fun ds S => .of (g ds S) S) (fun ρ H ds vs S R r q => ⟨ρ, S, ds, R, r, PostE.of (σ := σ) q⟩) h
/-- .. that make a new list -/
def CallN (X : Cx) (f : Value) (g : List D → Store → Option (List D)) : Prop :=
  ∀ (pins : List (Addr × Obj)) (s : Shared) (σ : L2.St) (ρ : Rh) (H : Hp) (S : Store) (ds : List D) (vs : List V) (us : List Value) (Q : VK), Inv X pins σ H s → Rel X.K ρ H S → RepDs X.K ρ H ds vs → Vals vs us →
    (∃ zs, g ds S = some zs ∧ ∀ ws, RepDs X.K ρ H zs ws → ∀ p, H p = none → Q (.ref p) (upd H p (.lst ws))) → wpAny (model X.prog X.w) X.A (call f us) (EP X pins σ Q) X.xe s
def mCallN (g : List D → Store → Option (List D)) (m : MA) : MA := fun e S => (m e S).bind fun ds S1 => .of (g ds S1) S1
theorem tA_thenN {g : List D → Store → Res (List D)} {σ : L2.St} {H : Hp} {Q : VK} {u : List V → Hp → Prop}
    (hu : ∀ ρ H ds vs S, Rel X.K ρ H S → RepDs X.K ρ H ds vs → PostN X.K X.mg W ρ H σ Q (g ds S) → u vs H)
    (h : tN X.K X.mg W (fun e S => (m e S).bind fun ds S1 => g ds S1) σ H Q) : tA X.K X.mg W m σ H u := by
  obtain ⟨ρ, e, S, he, R, q⟩ := h
  exact ⟨ρ, e, S, he, R, (PostN.bind q).mono fun ds S1 ρ1 H1 f1 R1 q vs r => hu ρ1 H1 ds vs S1 R1 r q⟩
theorem CallN.r {f : Value} {g : List D → Store → Option (List D)} (o : CallN X f g) : CallR X f (fun vs H Q => ∃ ρ S ds, Rel X.K ρ H S ∧ RepDs X.K ρ H ds vs ∧ ∃ zs, g ds S = some zs ∧ ∀ ws, RepDs X.K ρ H zs ws → ∀ p, H p = none → Q (.ref p) (upd H p (.lst ws))) :=
  fun pins s σ H xs us Q I r ⟨ρ, S, ds, R, rd, q⟩ => o pins s σ ρ H S ds xs us Q I R rd r q
theorem nm_callTy {g : List D → Store → Option (List D)} (o : CallN X (.type T) g) (hg : Gl X x) (hm : X.mg x = none) (hv : bootBuiltins x = some (.type T)) (ha : AM X W (e :: es) m) (hn : x ≠ "__name__" := by decide) (hdb : (x == ("__debug__" : Str)) = false := by decide)
    (he : starEach (e :: es) X.env = (false, eval e X.env) :: starEach es X.env := by rfl) (hpl : (backTo pos (starEach es X.env)).any (·.1) = false := by rfl) : NM X W (.Call (.Name x p) (e :: es) [] pos) (mCallN g m) :=
  pe_imp (pe_callTy o.r hg hm hv ha hn hdb he hpl) fun σ H Q h => tA_thenN (g := fun ds S => .of (g ds S) S) (fun ρ H ds vs S R r q => ⟨ρ, S, ds, R, r, by
    cases hz : g ds S with
    | none => rw [hz] at q; exact q.elim
    | some zs => rw [hz] at q; exact ⟨zs, rfl, fun ws rw' => PostN.of_new R rw' q⟩⟩) h
theorem nm_callB {g : List D → Store → Option (List D)} (o : CallN X (.builtin id) g) (hg : Gl X x) (hm : X.mg x = none) (hv : bootBuiltins x = some (.builtin id)) (ha : AM X W (e :: es) m) (hn : x ≠ "__name__" := by decide) (hdb : (x == ("__debug__" : Str)) = false := by decide)
    (he : starEach (e :: es) X.env = (false, eval e X.env) :: starEach es X.env := by rfl) (hpl : (backTo pos (starEach es X.env)).any (·.1) = false := by rfl) : NM X W (.Call (.Name x p) (e :: es) [] pos) (mCallN g m) :=
  pe_imp (pe_callB o.r hg hm hv ha hn hdb he hpl) fun σ H Q h => tA_thenN (g := fun ds S => .of (g ds S) S) (fun ρ H ds vs S R r q => ⟨ρ, S, ds, R, r, by
    cases hz : g ds S with
    | none => rw [hz] at q; exact q.elim
    | some zs => rw [hz] at q; exact ⟨zs, rfl, fun ws rw' => PostN.of_new R rw' q⟩⟩) h
end
end M


set_option Elab.async false
set_option linter.all false
set_option maxRecDepth 100000
set_option maxHeartbeats 4000000
namespace M
open PySem PySem.Spec PyProof.Rows L2
variable [Tabs]

/-! ### walks over tuples of ints -/
section
variable {prog : Program} {w : World} {A : Around} {E : Value → Shared → Prop} {s : Shared} {l : Addr} {its : List Value} {ns : List Int}
theorem iter_tup {items : Array Value} {Q : Value → Shared → Prop} (hl : IsTup s.heap l items)
    (h : ∀ s₂ : Shared, s₂ = { s with heap := s.heap.push { cls := .type "tuple_iterator", data := .fields #[.ref l, .int 0 0] } } →
      (s₂.heap.IsTupleIter s.heap.objs.size l 0 ∧ s₂.heap.IsTuple l items) → (∀ b ∈ [s.heap.objs.size, l], b < s₂.heap.objs.size) → l ≠ s.heap.objs.size → Q (.ref s.heap.objs.size) s₂) :
    wpAny (model prog w) A (pyIter (.ref l)) Q E s := by
  have hlt : l < s.heap.objs.size := hl.lt
  have hl' : s.heap.IsTuple l items := hl
  refine wpAny_pyIter_tuple hl' (h _ rfl ⟨⟨_, Heap.get?_push_size _ rfl, rfl, rfl⟩, hl'.push _⟩ (fun b hb => ?_) (Nat.ne_of_lt hlt))
  show b < (s.heap.push _).objs.size
  rw [Heap.size_push]
  rcases List.mem_cons.mp hb with rfl | hb
  · exact Nat.lt_succ_self _
  · rcases List.mem_cons.mp hb with rfl | hb
    · exact Nat.lt_succ_of_lt hlt
    · cases hb
theorem tkept {b₀ : Addr} {h h' : Heap} {o₀ : Obj} (hk : ∀ b o, b ∉ [h.objs.size] → (h.push o₀).get? b = some o → h'.get? b = some o) : ∀ b o, h.get? b = some o → h'.get? b = some o := fun b o e =>
  hk b o (fun m => by
    rcases List.mem_cons.mp m with m | m
    · have := Heap.lt_size e; rw [m] at this; exact Nat.lt_irrefl _ this
    · cases m) (Heap.get?_push_of_some _ e)
theorem sum_tup (hh : A.handled = none) (hl : IsTup s.heap l its.toArray) (hi : IntsAre its ns) {Q : Value → Shared → Prop}
    (h : ∀ h' tk t', (∀ b o, s.heap.get? b = some o → h'.get? b = some o) → Q (.int ns.sum t') { s with heap := h', toks := tk }) : wpAny (model prog w) A (call (.builtin "sum") [.ref l]) Q E s := by
  obtain ⟨xs, e⟩ := hi.allInts.items
  have hn : numsOf (intItems xs).toList = ns := by rw [← e]; exact hi.numsOf
  rw [nums_intItems] at hn
  rw [e] at hl
  refine call_sum_walkG (iter_tup hl fun s₂ e st hfp hlI => ?_)
  subst e
  refine ⟨_, _, _, _, _, _, numAt xs, rfl, Walks.tuple (A := A.in1) hh _ l hlI (intItems xs), st, hfp, (fun _ _ => intItems_at), fun h' tk t' hk => ?_⟩
  have := h h' tk t' (tkept (b₀ := l) hk)
  rw [← hn] at this
  simpa [intItems, preSum_eq, List.take_of_length_le] using this
theorem max_tup (hh : A.handled = none) (hl : IsTup s.heap l its.toArray) (hi : IntsAre its ns) (hne : 0 < ns.length) {Q : Value → Shared → Prop}
    (h : ∀ h' tk M t', (∀ b o, s.heap.get? b = some o → h'.get? b = some o) → M ∈ ns → (∀ a, a ∈ ns → a ≤ M) → Q (.int M t') { s with heap := h', toks := tk }) : wpAny (model prog w) A (call (.builtin "max") [.ref l]) Q E s := by
  obtain ⟨xs, e⟩ := hi.allInts.items
  have hn : numsOf (intItems xs).toList = ns := by rw [← e]; exact hi.numsOf
  rw [nums_intItems] at hn
  subst hn
  rw [e] at hl
  have hsz : 0 < xs.size := by simpa using hne
  refine call_max_walk (iter_tup hl fun s₂ e st hfp hlI => ?_)
  subst e
  refine ⟨_, _, _, _, _, _, _, rfl, Walks.tuple (A := A.in1) hh _ l hlI (intItems xs), st, hfp, by simpa [intItems] using hsz, CmpOf.ints_gt (numAt xs) (fun _ _ => intItems_at), fun v h' tk hP hk => ?_⟩
  have hv : (intItems xs)[argBest (fun i j => decide (numAt xs i > numAt xs j)) (xs.size - 1)]? = some v := by simpa [intItems] using hP
  obtain ⟨t, rfl⟩ := intItems_at hv
  obtain ⟨h1, h2⟩ := argBest_gt (numAt xs) (xs.size - 1)
  refine h h' tk _ t (tkept (b₀ := l) hk) ?_ fun a ha => ?_
  · rw [numAt_eq]; exact PySem.getD_mem (by rw [List.length_map, Array.length_toList]; omega)
  · obtain ⟨j, hj, rfl⟩ := mem_getD ha
    rw [List.length_map, Array.length_toList] at hj
    rw [← numAt_eq]; exact h2 j (by omega)
theorem min_tup (hh : A.handled = none) (hl : IsTup s.heap l its.toArray) (hi : IntsAre its ns) (hne : 0 < ns.length) {Q : Value → Shared → Prop}
    (h : ∀ h' tk M t', (∀ b o, s.heap.get? b = some o → h'.get? b = some o) → M ∈ ns → (∀ a, a ∈ ns → M ≤ a) → Q (.int M t') { s with heap := h', toks := tk }) : wpAny (model prog w) A (call (.builtin "min") [.ref l]) Q E s := by
  obtain ⟨xs, e⟩ := hi.allInts.items
  have hn : numsOf (intItems xs).toList = ns := by rw [← e]; exact hi.numsOf
  rw [nums_intItems] at hn
  subst hn
  rw [e] at hl
  have hsz : 0 < xs.size := by simpa using hne
  refine call_min_walk (iter_tup hl fun s₂ e st hfp hlI => ?_)
  subst e
  refine ⟨_, _, _, _, _, _, _, rfl, Walks.tuple (A := A.in1) hh _ l hlI (intItems xs), st, hfp, by simpa [intItems] using hsz, CmpOf.ints_lt (numAt xs) (fun _ _ => intItems_at), fun v h' tk hP hk => ?_⟩
  have hv : (intItems xs)[argBest (fun i j => decide (numAt xs i < numAt xs j)) (xs.size - 1)]? = some v := by simpa [intItems] using hP
  obtain ⟨t, rfl⟩ := intItems_at hv
  obtain ⟨h1, h2⟩ := argBest_lt (numAt xs) (xs.size - 1)
  refine h h' tk _ t (tkept (b₀ := l) hk) ?_ fun a ha => ?_
  · rw [numAt_eq]; exact PySem.getD_mem (by rw [List.length_map, Array.length_toList]; omega)
  · obtain ⟨j, hj, rfl⟩ := mem_getD ha
    rw [List.length_map, Array.length_toList] at hj
    rw [← numAt_eq]; exact h2 j (by omega)
end

/-! ### lists of ints, of texts -/
def intsOf : List D → Option (List Int)
  | [] => some []
  | .int i :: ds => (intsOf ds).map (i :: ·)
  | _ => none
def strsOf : List D → Option (List Str)
  | [] => some []
  | .str x :: ds => (strsOf ds).map (x :: ·)
  | _ => none
theorem intsOf_eq : ∀ {ds : List D} {ns : List Int}, intsOf ds = some ns → ds = ns.map D.int
  | [], _, h => by simp only [intsOf] at h; cases h; rfl
  | d :: ds, ns, h => by
    cases d <;> simp only [intsOf] at h <;> try cases h
    rw [Option.map_eq_some_iff] at h
    obtain ⟨ms, h1, rfl⟩ := h
    rw [intsOf_eq h1]; rfl
theorem strsOf_eq : ∀ {ds : List D} {ns : List Str}, strsOf ds = some ns → ds = ns.map D.str
  | [], _, h => by simp only [strsOf] at h; cases h; rfl
  | d :: ds, ns, h => by
    cases d <;> simp only [strsOf] at h <;> try cases h
    rw [Option.map_eq_some_iff] at h
    obtain ⟨ms, h1, rfl⟩ := h
    rw [strsOf_eq h1]; rfl
@[simp] theorem intsOf_map : ∀ ns : List Int, intsOf (ns.map D.int) = some ns
  | [] => rfl
  | n :: ns => by simp [intsOf, intsOf_map ns]
@[simp] theorem strsOf_map : ∀ ns : List Str, strsOf (ns.map D.str) = some ns
  | [] => rfl
  | n :: ns => by simp [strsOf, strsOf_map ns]

def maxI : List Int → Option Int
  | [] => none
  | x :: xs => some (xs.foldl max x)
def minI : List Int → Option Int
  | [] => none
  | x :: xs => some (xs.foldl min x)
theorem foldl_max : ∀ (xs : List Int) (x : Int), x ≤ xs.foldl max x ∧ (∀ y ∈ xs, y ≤ xs.foldl max x) ∧ (xs.foldl max x = x ∨ xs.foldl max x ∈ xs)
  | [], x => ⟨Int.le_refl _, by simp, .inl rfl⟩
  | a :: xs, x => by
    obtain ⟨h1, h2, h3⟩ := foldl_max xs (max x a)
    simp only [List.foldl_cons]
    refine ⟨by omega, fun y hy => ?_, ?_⟩
    · rcases List.mem_cons.mp hy with rfl | hy
      · omega
      · exact h2 y hy
    · rcases h3 with h3 | h3
      · rw [h3]
        by_cases h : x ≤ a
        · right; rw [Int.max_eq_right h]; exact List.mem_cons_self
        · left; omega
      · right; exact List.mem_cons_of_mem _ h3
theorem foldl_min : ∀ (xs : List Int) (x : Int), xs.foldl min x ≤ x ∧ (∀ y ∈ xs, xs.foldl min x ≤ y) ∧ (xs.foldl min x = x ∨ xs.foldl min x ∈ xs)
  | [], x => ⟨Int.le_refl _, by simp, .inl rfl⟩
  | a :: xs, x => by
    obtain ⟨h1, h2, h3⟩ := foldl_min xs (min x a)
    simp only [List.foldl_cons]
    refine ⟨by omega, fun y hy => ?_, ?_⟩
    · rcases List.mem_cons.mp hy with rfl | hy
      · omega
      · exact h2 y hy
    · rcases h3 with h3 | h3
      · rw [h3]
        by_cases h : a ≤ x
        · right; rw [Int.min_eq_right h]; exact List.mem_cons_self
        · left; omega
      · right; exact List.mem_cons_of_mem _ h3
theorem maxI_spec {ns : List Int} {m : Int} (h : maxI ns = some m) : m ∈ ns ∧ ∀ y ∈ ns, y ≤ m := by
  cases ns with
  | nil => cases h
  | cons x xs =>
    cases h
    obtain ⟨h1, h2, h3⟩ := foldl_max xs x
    refine ⟨?_, fun y hy => ?_⟩
    · rcases h3 with h3 | h3
      · rw [h3]; exact List.mem_cons_self
      · exact List.mem_cons_of_mem _ h3
    · rcases List.mem_cons.mp hy with rfl | hy
      · exact h1
      · exact h2 y hy
theorem minI_spec {ns : List Int} {m : Int} (h : minI ns = some m) : m ∈ ns ∧ ∀ y ∈ ns, m ≤ y := by
  cases ns with
  | nil => cases h
  | cons x xs =>
    cases h
    obtain ⟨h1, h2, h3⟩ := foldl_min xs x
    refine ⟨?_, fun y hy => ?_⟩
    · rcases h3 with h3 | h3
      · rw [h3]; exact List.mem_cons_self
      · exact List.mem_cons_of_mem _ h3
    · rcases List.mem_cons.mp hy with rfl | hy
      · exact h1
      · exact h2 y hy

/-! ### the built-in functions -/
def dLen : List D → Store → Option D
  | [.str x], _ => if x.length ≤ sizeLine then some (.int x.length) else none
  | [d], S => (seqOf S d).map fun xs => .int xs.length
  | _, _ => none
def dAbs : List D → Store → Option D
  | [.int i], _ => some (.int (if i < 0 then -i else i))
  | _, _ => none
def dInt : List D → Store → Option D
  | [.int i], _ => some (.int i)
  | [.bl k], _ => some (.int (if k then 1 else 0))
  | [.str x], _ => if x.length ≤ 640 then (PySem.intText? x).map .int else none
  | _, _ => none
def dStr : List D → Store → Option D
  | [.int i], _ => if i.natAbs < 2 ^ 1000 then some (.str (toString i)) else none
  | _, _ => none
def dSum : List D → Store → Option D
  | [d], S => ((seqOf S d).bind intsOf).map fun ns => .int ns.sum
  | _, _ => none
def dMax : List D → Store → Option D
  | [.int i, .int j], _ => some (.int (if j > i then j else i))
  | [d], S => (((seqOf S d).bind intsOf).bind maxI).map .int
  | _, _ => none
def dMin : List D → Store → Option D
  | [.int i, .int j], _ => some (.int (if j < i then j else i))
  | [d], S => (((seqOf S d).bind intsOf).bind minI).map .int
  | _, _ => none
def dTuple : List D → Store → Option D
  | [d], S => (seqOf S d).map .tup
  | _, _ => none
section
variable {X : Cx}
theorem reps1 {K : PySem.W.Frag} {ρ : Rh} {H : Hp} {d : D} {vs : List V} (h : RepDs K ρ H [d] vs) : ∃ v, vs = [v] ∧ RepD K ρ H d v := by
  cases h with | cons a b => cases b; exact ⟨_, rfl, a⟩
theorem reps2 {K : PySem.W.Frag} {ρ : Rh} {H : Hp} {d e : D} {vs : List V} (h : RepDs K ρ H [d, e] vs) : ∃ v w, vs = [v, w] ∧ RepD K ρ H d v ∧ RepD K ρ H e w := by
  cases h with | cons a b => cases b with | cons b c => cases c; exact ⟨_, _, rfl, a, b⟩
/-- a sequence, one argument -/
theorem cd_seq {f : Value} {g : List D → Store → Option D} {h : List D → Option D} (hg : ∀ ds S, g ds S ≠ none → (∃ d xs, ds = [d] ∧ seqOf S d = some xs ∧ g ds S = h xs))
    (k : ∀ (pins : List (Addr × Obj)) (s : Shared) (σ : L2.St) (ρ : Rh) (H : Hp) (S : Store) (a : Addr) (vs : List V) (xs : List D) (u : Value) (Q : VK), L2.Inv X pins σ H s → Rel X.K ρ H S → RepDs X.K ρ H xs vs → L2.RelV (.ref a) u → (SqL X.K H a vs ∨ (SqT X.K H a vs)) →
      PostV X.K ρ H S Q (h xs) → wpAny (model X.prog X.w) X.A (call f [u]) (EP X pins σ Q) X.xe s) : CallD X f g := fun pins s σ ρ H S ds vs us Q I R r rv q => by
  by_cases hn : g ds S = none
  · rw [hn] at q; exact q.elim
  · obtain ⟨d, xs, rfl, e, e2⟩ := hg ds S hn
    rw [e2] at q
    obtain ⟨v, rfl, r1⟩ := reps1 r
    obtain ⟨a, ws, rfl, hq, rx⟩ := seqOf_rep R r1 e
    cases rv with
    | cons ru rt =>
      cases rt
      exact k pins s σ ρ H S a ws xs _ Q I R rx ru hq q
theorem cd_len : CallD X (.builtin "len") dLen := fun pins s σ ρ H S ds vs us Q I R r rv q => by
  have gen : ∀ d, ds = [d] → PostV X.K ρ H S Q ((seqOf S d).map fun xs => .int xs.length) → wpAny (model X.prog X.w) X.A (call (.builtin "len") us) (EP X pins σ Q) X.xe s := fun d e qa => by
    subst e
    cases hs : seqOf S d with
    | none => rw [hs] at qa; exact qa.elim
    | some xs =>
      rw [hs] at qa
      obtain ⟨v, rfl, r1⟩ := reps1 r
      obtain ⟨a, ws, rfl, hq, rx⟩ := seqOf_rep R r1 hs
      refine call_len_seq pins s σ H _ us Q I rv ⟨a, ws, rfl, hq, ?_⟩
      rw [← rx.length]
      exact qa.use R (.int _)
  match ds, r, q, gen with
  | [], _, q, _ => exact q.elim
  | d :: _ :: _, _, q, _ => (cases d <;> exact q.elim)
  | [d], r, q, gen =>
    cases d with
    | str x =>
      simp only [dLen] at q
      by_cases hz : x.length ≤ sizeLine
      · rw [if_pos hz] at q
        obtain ⟨v, rfl, r1⟩ := reps1 r
        cases r1
        exact call_len_str pins s σ H _ us Q I rv ⟨x, rfl, hz, q.use R (.int _)⟩
      · rw [if_neg hz] at q; exact q.elim
    | _ => exact gen _ rfl q
theorem cd_abs : CallD X (.builtin "abs") dAbs := fun pins s σ ρ H S ds vs us Q I R r rv q => by
  match ds, r, q with
  | [], _, q => exact q.elim
  | d :: _ :: _, _, q => (cases d <;> exact q.elim)
  | [d], r, q =>
    cases d with
    | int i =>
      obtain ⟨v, rfl, r1⟩ := reps1 r
      cases r1
      exact call_abs pins s σ H _ us Q I rv ⟨i, rfl, q.use R (.int _)⟩
    | _ => exact q.elim
theorem cd_int : CallD X (.type "int") dInt := fun pins s σ ρ H S ds vs us Q I R r rv q => by
  match ds, r, q with
  | [], _, q => exact q.elim
  | d :: _ :: _, _, q => (cases d <;> exact q.elim)
  | [d], r, q =>
    cases d with
    | int i =>
      obtain ⟨v, rfl, r1⟩ := reps1 r
      cases r1
      exact call_int1 pins s σ H _ us Q I rv (.inl ⟨i, rfl, q.use R (.int _)⟩)
    | bl k =>
      obtain ⟨v, rfl, r1⟩ := reps1 r
      cases r1
      exact call_int1 pins s σ H _ us Q I rv (.inr ⟨k, rfl, q.use R (.int _)⟩)
    | str x =>
      simp only [dInt] at q
      by_cases hz : x.length ≤ 640
      · rw [if_pos hz] at q
        cases hx : PySem.intText? x with
        | none => rw [hx] at q; exact q.elim
        | some n =>
          rw [hx] at q
          obtain ⟨v, rfl, r1⟩ := reps1 r
          cases r1
          exact call_int_str pins s σ H _ us Q I rv ⟨x, n, rfl, hx, hz, q.use R (.int _)⟩
      · rw [if_neg hz] at q; exact q.elim
    | _ => exact q.elim
theorem cd_str : CallD X (.type "str") dStr := fun pins s σ ρ H S ds vs us Q I R r rv q => by
  match ds, r, q with
  | [], _, q => exact q.elim
  | d :: _ :: _, _, q => (cases d <;> exact q.elim)
  | [d], r, q =>
    cases d with
    | int i =>
      simp only [dStr] at q
      by_cases hz : i.natAbs < 2 ^ 1000
      · rw [if_pos hz] at q
        obtain ⟨v, rfl, r1⟩ := reps1 r
        cases r1
        refine call_str_int pins s σ H _ us Q I rv ⟨i, rfl, ?_, q.use R (.str _)⟩
        by_cases h0 : i.natAbs = 0
        · rw [h0]; decide
        · have := (Nat.log2_lt h0).mpr hz
          omega
      · rw [if_neg hz] at q; exact q.elim
    | _ => exact q.elim
theorem seq1 {g : List D → Store → Option D} {h : List D → Option D} (e0 : ∀ S, g [] S = none) (e2 : ∀ d d' r S, g (d :: d' :: r) S = none) (e1 : ∀ d S, g [d] S = (seqOf S d).bind h) : ∀ ds S, g ds S ≠ none → (∃ d xs, ds = [d] ∧ seqOf S d = some xs ∧ g ds S = h xs)
  | [], S, n => (n (e0 S)).elim
  | d :: d' :: r, S, n => (n (e2 d d' r S)).elim
  | [d], S, n => by
    rw [e1] at n
    cases hs : seqOf S d with
    | none => rw [hs] at n; exact (n rfl).elim
    | some xs => exact ⟨d, xs, rfl, hs, by rw [e1, hs]; rfl⟩
theorem tup_of {pins : List (Addr × Obj)} {s : Shared} {σ : L2.St} {H : Hp} {a : Addr} {ns : List Int} (I : L2.Inv X pins σ H s) (h : SqT X.K H a (ns.map V.int)) : ∃ its : List Value, IsTup s.heap a its.toArray ∧ IntsAre its ns := by
  obtain ⟨its, rv, ht, _⟩ := I.tuple h
  exact ⟨its, ht, rv.ints⟩
theorem cd_sum (hc : X.calm = true) : CallD X (.builtin "sum") dSum := cd_seq (h := fun xs => (intsOf xs).map fun ns => .int ns.sum)
  (seq1 (fun _ => rfl) (fun _ _ _ _ => rfl) fun d S => by simp only [dSum]; cases seqOf S d <;> rfl)
  fun pins s σ ρ H S a vs xs u Q I R rx ru hq q => by
    cases hi : intsOf xs with
    | none => rw [hi] at q; exact q.elim
    | some ns =>
      rw [hi] at q
      have e := intsOf_eq hi
      subst e
      have e := RepDs.ints rx
      subst e
      rcases hq with hq | hq
      · exact L2.cr_sum hc pins s σ H _ _ Q I (.cons ru .nil) ⟨a, ns, rfl, hq, q.use R (.int _)⟩
      · obtain ⟨its, ht, hi⟩ := tup_of I hq
        cases ru
        exact sum_tup (I.ok.hd hc) ht hi fun h' tk t' hk => ⟨.int _, H, I.kept hk, ⟨_, rfl⟩, q.use R (.int _)⟩
theorem max_uniq {ns : List Int} {m m' : Int} (h : maxI ns = some m) (h1 : m' ∈ ns) (h2 : ∀ y ∈ ns, y ≤ m') : m' = m := by
  obtain ⟨a, b⟩ := maxI_spec h
  exact Int.le_antisymm (b m' h1) (h2 m a)
theorem min_uniq {ns : List Int} {m m' : Int} (h : minI ns = some m) (h1 : m' ∈ ns) (h2 : ∀ y ∈ ns, m' ≤ y) : m' = m := by
  obtain ⟨a, b⟩ := minI_spec h
  exact Int.le_antisymm (h2 m a) (b m' h1)
theorem cd_max1 (hc : X.calm = true) : CallD X (.builtin "max") (fun ds S => match ds with | [d] => (((seqOf S d).bind intsOf).bind maxI).map .int | _ => none) := cd_seq (h := fun xs => ((intsOf xs).bind maxI).map .int)
  (seq1 (fun _ => rfl) (fun _ _ _ _ => rfl) fun d S => by
    show (((seqOf S d).bind intsOf).bind _).map D.int = _
    cases seqOf S d <;> rfl)
  fun pins s σ ρ H S a vs xs u Q I R rx ru hq q => by
    cases hi : intsOf xs with
    | none => rw [hi] at q; exact q.elim
    | some ns =>
      rw [hi] at q
      have e := intsOf_eq hi
      subst e
      have e := RepDs.ints rx
      subst e
      cases hm : maxI ns with
      | none => simp only [Option.bind_some, hm] at q; exact q.elim
      | some m =>
        simp only [Option.bind_some, hm] at q
        have hl : 0 < ns.length := List.length_pos_of_mem (maxI_spec hm).1
        rcases hq with hq | hq
        · exact L2.cr_max hc pins s σ H _ _ Q I (.cons ru .nil) ⟨a, ns, rfl, hq, hl, fun m' h1 h2 => by rw [max_uniq hm h1 h2]; exact q.use R (.int _)⟩
        · obtain ⟨its, ht, hi⟩ := tup_of I hq
          cases ru
          exact max_tup (I.ok.hd hc) ht hi hl fun h' tk m' t' hk h1 h2 => ⟨.int _, H, I.kept hk, ⟨_, rfl⟩, by rw [max_uniq hm h1 h2]; exact q.use R (.int _)⟩
theorem cd_min1 (hc : X.calm = true) : CallD X (.builtin "min") (fun ds S => match ds with | [d] => (((seqOf S d).bind intsOf).bind minI).map .int | _ => none) := cd_seq (h := fun xs => ((intsOf xs).bind minI).map .int)
  (seq1 (fun _ => rfl) (fun _ _ _ _ => rfl) fun d S => by
    show (((seqOf S d).bind intsOf).bind _).map D.int = _
    cases seqOf S d <;> rfl)
  fun pins s σ ρ H S a vs xs u Q I R rx ru hq q => by
    cases hi : intsOf xs with
    | none => rw [hi] at q; exact q.elim
    | some ns =>
      rw [hi] at q
      have e := intsOf_eq hi
      subst e
      have e := RepDs.ints rx
      subst e
      cases hm : minI ns with
      | none => simp only [Option.bind_some, hm] at q; exact q.elim
      | some m =>
        simp only [Option.bind_some, hm] at q
        have hl : 0 < ns.length := List.length_pos_of_mem (minI_spec hm).1
        rcases hq with hq | hq
        · exact L2.cr_min hc pins s σ H _ _ Q I (.cons ru .nil) ⟨a, ns, rfl, hq, hl, fun m' h1 h2 => by rw [min_uniq hm h1 h2]; exact q.use R (.int _)⟩
        · obtain ⟨its, ht, hi⟩ := tup_of I hq
          cases ru
          exact min_tup (I.ok.hd hc) ht hi hl fun h' tk m' t' hk h1 h2 => ⟨.int _, H, I.kept hk, ⟨_, rfl⟩, by rw [min_uniq hm h1 h2]; exact q.use R (.int _)⟩
theorem cd_max (hc : X.calm = true) : CallD X (.builtin "max") dMax := fun pins s σ ρ H S ds vs us Q I R r rv q => by
  match ds, r, q with
  | [], _, q => exact q.elim
  | [d], r, q => exact cd_max1 hc pins s σ ρ H S [d] vs us Q I R r rv (by cases d <;> exact q)
  | [d, e], r, q =>
    obtain ⟨v, w, rfl, r1, r2⟩ := reps2 r
    cases d with
    | int i =>
      cases e with
      | int j => cases r1; cases r2; exact call_max2 hc pins s σ H _ us Q I rv ⟨i, j, rfl, q.use R (.int _)⟩
      | _ => exact q.elim
    | _ => exact q.elim
  | d :: e :: _ :: _, _, q => (cases d <;> cases e <;> exact q.elim)
theorem cd_min (hc : X.calm = true) : CallD X (.builtin "min") dMin := fun pins s σ ρ H S ds vs us Q I R r rv q => by
  match ds, r, q with
  | [], _, q => exact q.elim
  | [d], r, q => exact cd_min1 hc pins s σ ρ H S [d] vs us Q I R r rv (by cases d <;> exact q)
  | [d, e], r, q =>
    obtain ⟨v, w, rfl, r1, r2⟩ := reps2 r
    cases d with
    | int i =>
      cases e with
      | int j => cases r1; cases r2; exact call_min2 hc pins s σ H _ us Q I rv ⟨i, j, rfl, q.use R (.int _)⟩
      | _ => exact q.elim
    | _ => exact q.elim
  | d :: e :: _ :: _, _, q => (cases d <;> cases e <;> exact q.elim)
theorem cd_tuple : CallD X (.type "tuple") dTuple := fun pins s σ ρ H S ds vs us Q I R r rv q => by
  match ds, r, q with
  | [], _, q => exact q.elim
  | _ :: _ :: _, _, q => exact q.elim
  | [d], r, q =>
    simp only [dTuple] at q
    obtain ⟨v, rfl, r1⟩ := reps1 r
    by_cases ht : ∃ ys, d = .tup ys
    · obtain ⟨ys, rfl⟩ := ht
      simp only [seqOf, Option.map_some] at q
      cases r1 with
      | tup hx rx => exact call_tuple_of pins s σ H _ us Q I rv ⟨_, _, rfl, .inr ⟨hx, q.use R (.tup hx rx)⟩⟩
    · have e' : seqOf S d = lstOf S d := by cases d <;> first | rfl | exact (ht ⟨_, rfl⟩).elim
      rw [e'] at q
      cases hs : lstOf S d with
      | none => rw [hs] at q; exact q.elim
      | some xs =>
        rw [hs] at q
        obtain ⟨a, ws, rfl, hq, rx⟩ := lstOf_rep R r1 hs
        exact call_tuple_of pins s σ H _ us Q I rv ⟨a, ws, rfl, .inl ⟨hq, q.newT R rx⟩⟩
/-- list(x): a new list -/
def nList : List D → Store → Option (List D)
  | [d], S => seqOf S d
  | _, _ => none
theorem cn_list : CallN X (.type "list") nList := fun pins s σ ρ H S ds vs us Q I R r rv ⟨zs, e, q⟩ => by
  match ds, r, e with
  | [], _, e => cases e
  | _ :: _ :: _, _, e => cases e
  | [d], r, e =>
    simp only [nList] at e
    obtain ⟨v, rfl, r1⟩ := reps1 r
    obtain ⟨a, ws, rfl, hq, rx⟩ := seqOf_rep R r1 e
    exact call_list_of pins s σ H _ us Q I rv ⟨a, ws, rfl, hq, q ws rx⟩
end
end M


set_option Elab.async false
set_option linter.all false
set_option maxRecDepth 100000
set_option maxHeartbeats 4000000
namespace M
open PySem PySem.Spec PyProof.Rows L2
variable [Tabs]

/-- what a method comes to: a value and the store behind it -/
def PostVS (K : PySem.W.Frag) (ρ : Rh) (H : Hp) (Q : VK) : Option (D × Store) → Prop
  | some (d, S') => ∀ ρ' H', Fr ρ H ρ' H' → Rel K ρ' H' S' → ∀ v, RepD K ρ' H' d v → Q v H'
  | none => False
def Res.ofS {α : Type} : Option (α × Store) → Res α
  | some (d, S) => .ok d S
  | none => .bad
@[simp] theorem Res.ofS_some {α : Type} (d : α) (S : Store) : Res.ofS (some (d, S)) = .ok d S := rfl
@[simp] theorem Res.ofS_none {α : Type} : Res.ofS (none : Option (α × Store)) = .bad := rfl
theorem PostE.ofS {K : PySem.W.Frag} {mg : Str → Option Value} {W : WX} {ρ : Rh} {H : Hp} {σ : L2.St} {Q : VK} {o : Option (D × Store)} (h : PostE K mg W ρ H σ Q (Res.ofS o)) : PostVS K ρ H Q o := by
  cases o with
  | none => exact h
  | some d => exact h
abbrev MtF := D → List D → Store → Option (D × Store)
/-- the receiver's type -/
def rcv (T : String) (S : Store) (d : D) : Bool := match d with
  | .str _ => T == "str"
  | d => (lstOf S d).isSome && T == "list"
def MtD (X : Cx) (id : String) (g : MtF) : Prop :=
  ∀ (pins : List (Addr × Obj)) (s : Shared) (σ : L2.St) (ρ : Rh) (H : Hp) (S : Store) (d : D) (x : V) (ds : List D) (vs : List V) (u : Value) (us : List Value) (Q : VK), L2.Inv X pins σ H s → Rel X.K ρ H S → RepD X.K ρ H d x → RepDs X.K ρ H ds vs → L2.RelV x u → Vals vs us →
    PostVS X.K ρ H Q (g d ds S) → wpAny (model X.prog X.w) X.A (call (.builtin id) (u :: us)) (EP X pins σ Q) X.xe s
theorem MtD.r {X : Cx} {id : String} {g : MtF} (o : MtD X id g) : MtR X id (fun x vs H Q => ∃ ρ S d ds, Rel X.K ρ H S ∧ RepD X.K ρ H d x ∧ RepDs X.K ρ H ds vs ∧ PostVS X.K ρ H Q (g d ds S)) :=
  fun pins s σ H x xs v us Q I rx rs ⟨ρ, S, d, ds, R, r1, r2, q⟩ => o pins s σ ρ H S d x ds xs v us Q I R r1 r2 rx rs q
def mMeth (T : String) (g : MtF) (o : ME) (m : MA) : ME := fun e S => (o e S).bind fun d S1 => if rcv T S1 d = true then (m e S1).bind fun ds S2 => .ofS (g d ds S2) else .bad
theorem rcv_tyV {K : PySem.W.Frag} {ρ : Rh} {H : Hp} {S : Store} (R : Rel K ρ H S) {T : String} {d : D} {v : V} (h : RepD K ρ H d v) (e : rcv T S d = true) : tyV K T v H := by
  have gen : ((lstOf S d).isSome && T == "list") = true → tyV K T v H := fun z => by
    rw [Bool.and_eq_true] at z
    obtain ⟨xs, hx⟩ := Option.isSome_iff_exists.mp z.1
    obtain ⟨a, vs, rfl, hq, _⟩ := lstOf_rep R h hx
    exact .inl ⟨eq_of_beq z.2, vs, hq⟩
  cases d with
  | str x => cases h; exact eq_of_beq (show (T == "str") = true from e)
  | _ => exact gen e
section
variable {X : Cx} {W : WX} {o e : Expr} {es : List Expr} {mo : ME} {m : MA} {name : Str} {apos cpos : Pos} {T id : String} {g : MtF}
theorem em_bm0 (pa : PlainAttrs T) (slot : Slot T name id) (hty : typeOf (.builtin id) = pure (.type "method_descriptor")) (hm : MtD X id g) (ho : EM X W o mo)
    (hbase : attributeBase o name X.env (eval o X.env) = eval o X.env := by rfl) (hline : (apos.endLine == cpos.line) = true := by rfl) : EM X W (.Call (.Attribute o name apos) [] [] cpos) (mMeth T g mo mNil) :=
  pe_imp (pe_bm0 pa slot hty hm.r ho hbase hline) fun σ H Q h => tE_then (f := fun d e S => if rcv T S d = true then (mNil e S).bind fun ds S2 => .ofS (g d ds S2) else .bad) (fun ρ H d v e S he R r q => by
    by_cases hr : rcv T S d = true
    · rw [if_pos hr] at q
      exact ⟨rcv_tyV R r hr, ρ, S, d, [], R, r, .nil, PostE.ofS (σ := σ) q⟩
    · rw [if_neg hr] at q; exact q.elim) h
theorem em_bm (pa : PlainAttrs T) (slot : Slot T name id) (hty : typeOf (.builtin id) = pure (.type "method_descriptor")) (hm : MtD X id g) (ho : EM X W o mo) (ha : AM X W (e :: es) m)
    (hbase : attributeBase o name X.env (eval o X.env) = eval o X.env := by rfl)
    (hfew : ((backTo cpos (starEach (e :: es) X.env)).all (fun x => !x.1) && (backToKw cpos (keywordEach [] X.env)).all (fun x => x.1.isSome)
      && decide ((e :: es).length + ([] : List Keyword).length + (if ([] : List Keyword).isEmpty then 0 else 1) < 30)) = true := by rfl)
    (hline : (apos.endLine == cpos.line) = true := by rfl) (hs : starEach (e :: es) X.env = (false, eval e X.env) :: starEach es X.env := by rfl) (hplain : (backTo cpos (starEach es X.env)).any (·.1) = false := by rfl) :
    EM X W (.Call (.Attribute o name apos) (e :: es) [] cpos) (mMeth T g mo m) :=
  pe_imp (pe_bm pa slot hty hm.r ho ha hbase hfew hline hs hplain) fun σ H Q h => tE_then (f := fun d e S => if rcv T S d = true then (m e S).bind fun ds S2 => .ofS (g d ds S2) else .bad) (fun ρ H d v e S he R r q => by
    by_cases hr : rcv T S d = true
    · rw [if_pos hr] at q
      refine ⟨rcv_tyV R r hr, ρ, e, S, he, R, (Post.bind q).mono fun ds S2 ρ2 H2 f2 R2 q vs rs => ?_⟩
      exact ⟨ρ2, S2, d, ds, R2, RepD.fr R.free f2 _ _ r, rs, PostE.ofS (σ := σ) q⟩
    · rw [if_neg hr] at q; exact q.elim) h

/-! ### lists that change -/
def seqOf' (S : Store) : D → Option (List D)
  | .tup xs => some xs
  | d => lstOf' S d
def gAppend : MtF
  | .loc n, [d], S => match S[n]? with
    | some (.lst xs) => if xs.length < sizeLine then some (.non, S.set n (.lst (xs ++ [d]))) else none
    | _ => none
  | _, _, _ => none
def gExtend : MtF
  | .loc n, [d], S => match S[n]?, seqOf' S d with
    | some (.lst xs), some ys => if xs.length + ys.length ≤ sizeLine then some (.non, S.set n (.lst (xs ++ ys))) else none
    | _, _ => none
  | _, _, _ => none
def gPop : MtF
  | .loc n, [], S => match S[n]? with
    | some (.lst xs) => (xs.getLast?).map fun d => (d, S.set n (.lst xs.dropLast))
    | _ => none
  | _, _, _ => none
def gInsert : MtF
  | .loc n, [.int i, d], S => match S[n]? with
    | some (.lst xs) => if xs.length < sizeLine ∧ 0 ≤ i ∧ i < 2 ^ 62 then some (.non, S.set n (.lst (xs.take i.toNat ++ [d] ++ xs.drop i.toNat))) else none
    | _ => none
  | _, _, _ => none
variable {K : PySem.W.Frag} {ρ : Rh} {H : Hp} {S : Store} {Q : VK}
/-- the list at loc n -/
theorem loc_at (R : Rel K ρ H S) {n : Nat} {x : V} {xs : List D} (r : RepD K ρ H (.loc n) x) (e : S[n]? = some (.lst xs)) : ∃ a vs, x = .ref a ∧ ρ.l[n]? = some a ∧ H a = some (.lst vs) ∧ RepDs K ρ H xs vs := by
  cases r with
  | loc ha =>
    obtain ⟨vs, q, r⟩ := R.at_ n _ _ e ha
    exact ⟨_, vs, rfl, ha, q, r⟩
theorem PostVS.put (R : Rel K ρ H S) {n : Nat} {a : Addr} (ha : ρ.l[n]? = some a) {ds : List D} {vs : List V} (r : RepDs K ρ H ds vs) {d : D} {v : V} (rd : RepD K ρ H d v) (q : PostVS K ρ H Q (some (d, S.set n (.lst ds)))) : Q v (upd H a (.lst vs)) :=
  q ρ _ (Fr.put (List.mem_of_getElem? ha)) (R.put ha r) v (RepD.fr R.free (Fr.put (List.mem_of_getElem? ha)) _ _ rd)
theorem md_append : MtD X "list.append" gAppend := fun pins s σ ρ H S d x ds vs u us Q I R r1 r2 ru rs q => by
  cases d with
  | loc n =>
    match ds, r2, q with
    | [], _, q => exact q.elim
    | _ :: _ :: _, _, q => exact q.elim
    | [d], r2, q =>
      simp only [gAppend] at q
      split at q
      · rename_i xs hs
        by_cases hz : xs.length < sizeLine
        · rw [if_pos hz] at q
          obtain ⟨a, ws, rfl, ha, hH, rx⟩ := loc_at R r1 hs
          obtain ⟨v, rfl, rv⟩ := reps1 r2
          exact mt_append pins s σ H _ _ u us Q I ru rs ⟨a, ws, v, rfl, rfl, hH, by rw [← rx.length]; exact hz, q.put R ha (rx.append (.cons rv .nil)) .non⟩
        · rw [if_neg hz] at q; exact q.elim
      · exact q.elim
  | _ => cases ds <;> exact q.elim
/-- xs.extend(a tuple) -/
theorem list_extend_tup (l : Addr) (items : Array Value) (n : Nat) (b : Addr) (items2 : Array Value) (n2 : Nat) (dd : Option Addr) (sl : Array (Option Value)) (hs0 : ¬(!items.isEmpty && Builtin.List.listTooLong (items.size + items2.size)) = true) (hs1 : items.size ≤ sizeLine) (hs2 : items.size + items2.size ≤ sizeLine + 1) :
    Meets (Builtin.«list.extend» ⟨[.ref l, .ref b], []⟩) (fun _ R s => s.heap.get? l = some { cls := .type "list", dict := none, data := .seq items n, slots := #[] } ∧ s.heap.get? b = some { cls := .type "tuple", dict := dd, data := .seq items2 n2, slots := sl } ∧ R (.ok (.ret Value.none)) { s with heap := s.heap.update l (Obj.mapSeq fun x => x ++ items2), toks := s.toks }) :=
  .of_wp fun prog w A R s h => by
    obtain ⟨hp, g, d, tk, os⟩ := s; obtain ⟨hl, hb, h⟩ := h; have f1 := AutoSeq1.idx_int; have f2 := AutoSeq1.sub_tuple_tuple; have f3 := AutoSeq1.sub_list_list; have f4 := AutoSeq1.sub_tuple_list; have f5 := AutoSeq1.sub_list_tuple;
    have hz' : (items ++ items2).size ≤ sizeLine + 1 := by rw [Array.size_append]; exact hs2
    wp_walk using (wpAny_updateSeq hl rfl (hz := hs1) (_hz' := hz')), wpAny_loadPart' hl, wpAny_loadPart' hb; exact ⟨_, rfl, h⟩
theorem mt_extendT {l b : Addr} {xs zs : List V} {pins : List (Addr × Obj)} {s : Shared} {σ : L2.St} {H : Hp} {Q : VK} (I : L2.Inv X pins σ H s) (hH : H l = some (.lst xs)) (hB : SqT X.K H b zs) (hz : xs.length + zs.length ≤ sizeLine) (q : Q .non (upd H l (.lst (xs ++ zs)))) :
    wpAny (model X.prog X.w) X.A (call (.builtin "list.extend") [.ref l, .ref b]) (EP X pins σ Q) X.xe s := by
  obtain ⟨z, its, n, r, hl, e⟩ := I.lstM hH
  obtain ⟨its2, r2, ⟨⟨cls, dd, data, sl⟩, e2, hc, n2, hd⟩, hs⟩ := I.tuple hB
  simp only at hc hd
  subst hc hd
  have hl2 := r2.length
  have hsz : its.toArray.size + its2.toArray.size ≤ sizeLine := by rw [List.size_toArray, List.size_toArray]; omega
  have hlong : ¬ (!its.toArray.isEmpty && Builtin.List.listTooLong (its.toArray.size + its2.toArray.size)) = true := by
    rw [notLongL hsz, Bool.and_false]
    exact Bool.false_ne_true
  refine call_meets F.slot_list_extend ⟨_, e, rfl⟩ F.entry_list_extend (F.args_list_extend_2 _ _)
    (list_extend_tup l its.toArray n b its2.toArray n2 dd sl hlong (by rw [List.size_toArray]; omega) (by omega)) ⟨e, e2, ?_⟩
  refine ⟨.non, _, I.lset (its' := its ++ its2) hH e (by simp) (r.append r2) ?_, rfl, q⟩
  rw [List.length_append]
  omega
theorem md_extend : MtD X "list.extend" gExtend := fun pins s σ ρ H S d x ds vs u us Q I R r1 r2 ru rs q => by
  cases d with
  | loc n =>
    match ds, r2, q with
    | [], _, q => exact q.elim
    | _ :: _ :: _, _, q => exact q.elim
    | [d], r2, q =>
      simp only [gExtend] at q
      split at q
      · rename_i xs ys hs hy
        by_cases hz : xs.length + ys.length ≤ sizeLine
        · rw [if_pos hz] at q
          obtain ⟨a, ws, rfl, ha, hH, rx⟩ := loc_at R r1 hs
          obtain ⟨v, rfl, rv⟩ := reps1 r2
          have hz' : ∀ zs, RepDs X.K ρ H ys zs → ws.length + zs.length ≤ sizeLine := fun zs rz => by rw [← rx.length, ← rz.length]; exact hz
          by_cases ht : ∃ zs, d = .tup zs
          · obtain ⟨zs, rfl⟩ := ht
            simp only [seqOf'] at hy
            cases hy
            cases rv with
            | tup hx ry =>
              cases ru
              cases rs with
              | cons ra rs =>
                cases rs
                cases ra
                exact mt_extendT I hH hx (hz' _ ry) (q.put R ha (rx.append ry) .non)
          · have hy' : lstOf' S d = some ys := by
              cases d <;> first | exact hy | exact (ht ⟨_, rfl⟩).elim
            obtain ⟨b, zs, rfl, hb, rz⟩ := lstOf'_rep R rv hy'
            exact mt_extend pins s σ H _ _ u us Q I ru rs ⟨a, b, ws, zs, rfl, rfl, hH, hb, hz' _ rz, q.put R ha (rx.append rz) .non⟩
        · rw [if_neg hz] at q; exact q.elim
      · exact q.elim
  | _ => cases ds <;> exact q.elim
theorem md_pop : MtD X "list.pop" gPop := fun pins s σ ρ H S d x ds vs u us Q I R r1 r2 ru rs q => by
  cases d with
  | loc n =>
    match ds, r2, q with
    | _ :: _, _, q => exact q.elim
    | [], r2, q =>
      simp only [gPop] at q
      split at q
      · rename_i xs hs
        cases hl : xs.getLast? with
        | none => rw [hl] at q; exact q.elim
        | some y =>
          rw [hl] at q
          obtain ⟨a, ws, rfl, ha, hH, rx⟩ := loc_at R r1 hs
          cases r2
          rw [List.getLast?_eq_getElem?] at hl
          obtain ⟨v, hv, rv⟩ := rx.get hl
          have hlen := rx.length
          refine mt_pop pins s σ H _ _ u us Q I ru rs ⟨a, ws, v, rfl, rfl, hH, by rw [← hlen]; exact hv, q.put R ha ?_ rv⟩
          rw [List.dropLast_eq_take, List.dropLast_eq_take, ← hlen]
          exact rx.take _
      · exact q.elim
  | _ => cases ds <;> exact q.elim
theorem md_insert : MtD X "list.insert" gInsert := fun pins s σ ρ H S d x ds vs u us Q I R r1 r2 ru rs q => by
  cases d with
  | loc n =>
    match ds, r2, q with
    | [], _, q => exact q.elim
    | [d], _, q => (cases d <;> exact q.elim)
    | d :: _ :: _ :: _, _, q => (cases d <;> exact q.elim)
    | [d, y], r2, q =>
      cases d with
      | int i =>
        simp only [gInsert] at q
        split at q
        · rename_i xs hs
          by_cases hz : xs.length < sizeLine ∧ 0 ≤ i ∧ i < 2 ^ 62
          · rw [if_pos hz] at q
            obtain ⟨a, ws, rfl, ha, hH, rx⟩ := loc_at R r1 hs
            obtain ⟨v, w, rfl, rv, rw'⟩ := reps2 r2
            cases rv
            refine mt_insert pins s σ H _ _ u us Q I ru rs ⟨a, ws, i, w, rfl, rfl, hH, by rw [← rx.length]; exact hz.1, hz.2.1, by omega, q.put R ha ?_ .non⟩
            exact ((rx.take _).append (.cons rw' .nil)).append (rx.drop _)
          · rw [if_neg hz] at q; exact q.elim
        · exact q.elim
      | _ => exact q.elim
  | _ =>
    match ds, q with
    | [], q => exact q.elim
    | [_], q => exact q.elim
    | a :: _ :: _, q => (cases a <;> exact q.elim)

/-! ### texts -/
/-- a pure method of a text -/
def gStr (h : Str → List D → Store → Option D) : MtF
  | .str x, ds, S => (h x ds S).map fun d => (d, S)
  | _, _, _ => none
theorem PostVS.use (R : Rel K ρ H S) {d : D} {v : V} (r : RepD K ρ H d v) (q : PostVS K ρ H Q (some (d, S))) : Q v H := q ρ H (Fr.refl _ _) R v r
theorem PostVS.toV {o : Option D} (q : PostVS K ρ H Q (o.map fun d => (d, S))) : PostV K ρ H S Q o := by
  cases o with
  | none => exact q
  | some d => exact q
theorem md_str {h : Str → List D → Store → Option D} (k : ∀ (pins : List (Addr × Obj)) (s : Shared) (σ : L2.St) (ρ : Rh) (H : Hp) (S : Store) (x : Str) (ds : List D) (vs : List V) (u : Value) (us : List Value) (Q : VK), L2.Inv X pins σ H s → Rel X.K ρ H S → RepDs X.K ρ H ds vs → L2.RelV (.str x) u → Vals vs us →
      PostV X.K ρ H S Q (h x ds S) → wpAny (model X.prog X.w) X.A (call (.builtin id) (u :: us)) (EP X pins σ Q) X.xe s) : MtD X id (gStr h) := fun pins s σ ρ H S d x ds vs u us Q I R r1 r2 ru rs q => by
  cases d with
  | str y => cases r1; exact k pins s σ ρ H S y ds vs u us Q I R r2 ru rs (PostVS.toV q)
  | _ => exact q.elim
def hJoin (x : Str) : List D → Store → Option D
  | [d], S => ((seqOf S d).bind strsOf).bind fun ys => if (ys.map (·.length)).sum + ys.length * x.length ≤ 16777216 then some (.str (Txt.join x ys)) else none
  | _, _ => none
def hSplit (x : Str) : List D → Store → Option D
  | [.str y], _ => if (y.length == 0) = false ∧ x.length + 2 ≤ sizeLine then some (.lst ((Txt.split x y).map .str)) else none
  | _, _ => none
def hStarts (x : Str) : List D → Store → Option D
  | [.str y], _ => some (.bl (Txt.startswith x y))
  | [.str y, .int i], _ => some (.bl (Txt.startswith3 x y i))
  | _, _ => none
def hFind (x : Str) : List D → Store → Option D
  | [.str y], _ => some (.int (Txt.find x y))
  | [.str y, .int i], _ => some (.int (Txt.find3 x y i))
  | _, _ => none
def hCount (x : Str) : List D → Store → Option D
  | [.str y], _ => some (.int (Txt.count x y))
  | _, _ => none
/-- the place of a part that is there -/
def hIndex (x : Str) : List D → Store → Option D
  | [.str y], _ => match Builtin.Str.occurrences x y 0 x.length 1 with
    | i :: _ => some (.int i)
    | [] => none
  | _, _ => none
theorem md_join : MtD X "str.join" (gStr hJoin) := md_str fun pins s σ ρ H S x ds vs u us Q I R r2 ru rs q => by
  match ds, r2, q with
  | [], _, q => exact q.elim
  | _ :: _ :: _, _, q => exact q.elim
  | [d], r2, q =>
    simp only [hJoin] at q
    obtain ⟨v, rfl, rv⟩ := reps1 r2
    cases hs : seqOf S d with
    | none => rw [hs] at q; exact q.elim
    | some xs =>
      obtain ⟨a, ws, rfl, hq, rx⟩ := seqOf_rep R rv hs
      simp only [hs, Option.bind_some] at q
      cases hy : strsOf xs with
      | none => rw [hy] at q; exact q.elim
      | some ys =>
        simp only [hy, Option.bind_some] at q
        have e := strsOf_eq hy
        subst e
        have e := RepDs.strs rx
        subst e
        by_cases hz : (ys.map (·.length)).sum + ys.length * x.length ≤ 16777216
        · rw [if_pos hz] at q
          exact mt_join pins s σ H _ _ u us Q I ru rs ⟨x, a, ys, rfl, rfl, hq, hz, q.use R (.str _)⟩
        · rw [if_neg hz] at q; exact q.elim
theorem md_split : MtD X "str.split" (gStr hSplit) := md_str fun pins s σ ρ H S x ds vs u us Q I R r2 ru rs q => by
  match ds, r2, q with
  | [], _, q => exact q.elim
  | d :: _ :: _, _, q => (cases d <;> exact q.elim)
  | [d], r2, q =>
    cases d with
    | str y =>
      simp only [hSplit] at q
      obtain ⟨v, rfl, rv⟩ := reps1 r2
      cases rv
      by_cases hz : (y.length == 0) = false ∧ x.length + 2 ≤ sizeLine
      · rw [if_pos hz] at q
        exact mt_split pins s σ H _ _ u us Q I ru rs ⟨x, y, rfl, rfl, hz.1, hz.2, q.newL R (RepDs.of_strs _)⟩
      · rw [if_neg hz] at q; exact q.elim
    | _ => exact q.elim
theorem str2 {P : Prop} {h : Str → List D → Store → Option D} {ds : List D} {S : Store} {x : Str} (e0 : h x [] S = none) (e1 : ∀ d, (∀ y, d ≠ .str y) → h x [d] S = none) (e2 : ∀ d e, (∀ y i, ¬ (d = .str y ∧ e = .int i)) → h x [d, e] S = none) (e3 : ∀ a b c r, h x (a :: b :: c :: r) S = none)
    (hn : h x ds S ≠ none) (k1 : ∀ y, ds = [.str y] → P) (k2 : ∀ y i, ds = [.str y, .int i] → P) : P := by
  match ds with
  | [] => exact (hn e0).elim
  | [d] =>
    by_cases hd : ∃ y, d = .str y
    · obtain ⟨y, rfl⟩ := hd; exact k1 y rfl
    · exact (hn (e1 d fun y z => hd ⟨y, z⟩)).elim
  | [d, e] =>
    by_cases hd : ∃ y i, d = .str y ∧ e = .int i
    · obtain ⟨y, i, rfl, rfl⟩ := hd; exact k2 y i rfl
    · exact (hn (e2 d e fun y i z => hd ⟨y, i, z⟩)).elim
  | a :: b :: c :: r => exact (hn (e3 a b c r)).elim
theorem md_starts : MtD X "str.startswith" (gStr hStarts) := md_str fun pins s σ ρ H S x ds vs u us Q I R r2 ru rs q => by
  by_cases hn : hStarts x ds S = none
  · rw [hn] at q; exact q.elim
  · refine str2 (h := hStarts) (x := x) (S := S) rfl (fun d h => by cases d <;> first | rfl | exact (h _ rfl).elim) (fun d e h => by cases d <;> first | rfl | (cases e <;> first | rfl | exact (h _ _ ⟨rfl, rfl⟩).elim)) (fun a b c r => by cases a <;> first | rfl | (cases b <;> rfl)) hn (fun y e => ?_) fun y i e => ?_
    · subst e
      obtain ⟨v, rfl, rv⟩ := reps1 r2
      cases rv
      exact mt_startswith pins s σ H _ _ u us Q I ru rs ⟨x, y, rfl, rfl, q.use R (.bl _)⟩
    · subst e
      obtain ⟨v, w, rfl, rv, rw'⟩ := reps2 r2
      cases rv; cases rw'
      exact mt_startswith3 pins s σ H _ _ u us Q I ru rs ⟨x, y, i, rfl, rfl, q.use R (.bl _)⟩
theorem md_find : MtD X "str.find" (gStr hFind) := md_str fun pins s σ ρ H S x ds vs u us Q I R r2 ru rs q => by
  by_cases hn : hFind x ds S = none
  · rw [hn] at q; exact q.elim
  · refine str2 (h := hFind) (x := x) (S := S) rfl (fun d h => by cases d <;> first | rfl | exact (h _ rfl).elim) (fun d e h => by cases d <;> first | rfl | (cases e <;> first | rfl | exact (h _ _ ⟨rfl, rfl⟩).elim)) (fun a b c r => by cases a <;> first | rfl | (cases b <;> rfl)) hn (fun y e => ?_) fun y i e => ?_
    · subst e
      obtain ⟨v, rfl, rv⟩ := reps1 r2
      cases rv
      exact mt_find pins s σ H _ _ u us Q I ru rs ⟨x, y, rfl, rfl, q.use R (.int _)⟩
    · subst e
      obtain ⟨v, w, rfl, rv, rw'⟩ := reps2 r2
      cases rv; cases rw'
      exact mt_find3 pins s σ H _ _ u us Q I ru rs ⟨x, y, i, rfl, rfl, q.use R (.int _)⟩
theorem md_count : MtD X "str.count" (gStr hCount) := md_str fun pins s σ ρ H S x ds vs u us Q I R r2 ru rs q => by
  match ds, r2, q with
  | [], _, q => exact q.elim
  | d :: _ :: _, _, q => (cases d <;> exact q.elim)
  | [d], r2, q =>
    cases d with
    | str y =>
      obtain ⟨v, rfl, rv⟩ := reps1 r2
      cases rv
      exact mt_count pins s σ H _ _ u us Q I ru rs ⟨x, y, rfl, rfl, q.use R (.int _)⟩
    | _ => exact q.elim
theorem md_index : MtD X "str.index" (gStr hIndex) := md_str fun pins s σ ρ H S x ds vs u us Q I R r2 ru rs q => by
  match ds, r2, q with
  | [], _, q => exact q.elim
  | d :: _ :: _, _, q => (cases d <;> exact q.elim)
  | [d], r2, q =>
    cases d with
    | str y =>
      obtain ⟨v, rfl, rv⟩ := reps1 r2
      cases rv
      simp only [hIndex] at q
      split at q
      · rename_i i r ho
        obtain ⟨t, rfl⟩ := ru
        cases rs with
        | cons r1 rs =>
          cases rs
          obtain ⟨u, rfl⟩ := r1
          exact PySem.SC.index ho ⟨.int (i : Nat), H, I.tok _, ⟨_, rfl⟩, q.use R (.int _)⟩
      · exact q.elim
    | _ => exact q.elim
end
end M


set_option Elab.async false
set_option linter.all false
set_option maxRecDepth 100000
set_option maxHeartbeats 4000000
namespace M
open PySem PySem.Spec PyProof.Rows L2
variable [Tabs]

/-! ### isinstance -/
def tyName (S : Store) : D → Option String
  | .non => some "NoneType"
  | .bl _ => some "bool"
  | .int _ => some "int"
  | .str _ => some "str"
  | .tup _ => some "tuple"
  | .lst _ => some "list"
  | .fro _ => none
  | .loc n => match S[n]? with
    | some (.lst _) => some "list"
    | _ => none
  | _ => none
def isT (t T : String) : Option Bool := match T with
  | "int" => some (t == "int" || t == "bool")
  | "bool" => some (t == "bool")
  | "str" => some (t == "str")
  | "tuple" => some (t == "tuple")
  | "list" => some (t == "list")
  | _ => none
def dIsInst : List D → Store → Option D
  | [d, .ty T], S => (tyName S d).bind fun t => (isT t T).map .bl
  | _, _ => none
theorem isT_kit : ∀ t ∈ ["NoneType", "bool", "int", "str", "tuple", "list"], ∀ T ∈ ["int", "bool", "str", "tuple", "list"], kitB t T = isT t T := by decide +kernel
theorem isT_of {t T : String} {b : Bool} (ht : t ∈ ["NoneType", "bool", "int", "str", "tuple", "list"]) (h : isT t T = some b) : kitB t T = some b := by
  rw [← h]
  refine isT_kit t ht T ?_
  unfold isT at h
  split at h <;> first | (simp; done) | cases h
section
variable {K : PySem.W.Frag} {ρ : Rh} {H : Hp} {S : Store}
theorem rd_ty {a : Addr} {vs : List V} (h : Rd H a (.lst vs)) : TyX K H (.ref a) (.type "list") := by
  rcases h with h | ⟨o, h⟩
  · exact .base (.lst h)
  · exact .base (.frz h)
theorem sqt_ty {a : Addr} {vs : List V} (h : SqT K H a vs) : TyX K H (.ref a) (.type "tuple") := by
  rcases h with (h | ⟨o, h⟩) | ⟨o, its, n, hk, hc, _⟩
  · exact .base (.tup h)
  · exact .fTuple h
  · exact .kTuple hk hc
theorem tyName_rep (R : Rel K ρ H S) {d : D} {v : V} {t : String} (h : RepD K ρ H d v) (e : tyName S d = some t) : TyX K H v (.type t) ∧ t ∈ ["NoneType", "bool", "int", "str", "tuple", "list"] := by
  cases d with
  | non => cases h; cases e; exact ⟨.base .non, by simp⟩
  | bl b => cases h; cases e; exact ⟨.base (.bl b), by simp⟩
  | int b => cases h; cases e; exact ⟨.base (.int b), by simp⟩
  | str b => cases h; cases e; exact ⟨.base (.str b), by simp⟩
  | tup b => cases h with | tup hx _ => cases e; exact ⟨sqt_ty hx, by simp⟩
  | lst b => cases h with | lst hx _ _ _ => cases e; exact ⟨rd_ty (Rd.of hx), by simp⟩
  | fro b => cases e
  | loc n =>
    simp only [tyName] at e
    split at e
    · rename_i xs hs
      cases e
      obtain ⟨a, vs, rfl, _, hH, _⟩ := loc_at R h hs
      exact ⟨rd_ty (Rd.of hH), by simp⟩
    · cases e
  | ref a => cases e
  | ty n => cases e
end
section
variable {X : Cx}
theorem cd_isinst : CallD X (.builtin "isinstance") dIsInst := fun pins s σ ρ H S ds vs us Q I R r rv q => by
  match ds, r, q with
  | [], _, q => exact q.elim
  | [_], _, q => exact q.elim
  | _ :: e :: _ :: _, _, q => (cases e <;> exact q.elim)
  | [d, e], r, q =>
    cases e with
    | ty T =>
      simp only [dIsInst] at q
      cases ht : tyName S d with
      | none => rw [ht] at q; exact q.elim
      | some t =>
        simp only [ht, Option.bind_some] at q
        cases hb : isT t T with
        | none => rw [hb] at q; exact q.elim
        | some b =>
          rw [hb] at q
          obtain ⟨v, w, rfl, r1, r2⟩ := reps2 r
          cases r2
          obtain ⟨hty, hm⟩ := tyName_rep R r1 ht
          exact call_isi pins s σ H _ us Q I rv ⟨v, .ty T, .type t, .type T, b, rfl, .ty T, hty, kit_ty (isT_of hm hb), q.use R (.bl b)⟩
    | _ => exact q.elim
variable {W : WX} {x : Str} {T : String} {pos : Pos}
theorem em_ty (hg : Gl X x) (hm : X.mg x = none) (hv : bootBuiltins x = some (.type T)) (hn : x ≠ "__name__" := by decide) (hd : (x == ("__debug__" : Str)) = false := by decide) : EM X W (.Name x pos) (mC (.ty T)) :=
  em_c (pe_bltn hg hm hv (v := .ty T) rfl hn hd) fun _ _ => .ty T
end

/-! ### defs -/
/-- what a def promises by its mirror -/
def spM (K : PySem.W.Frag) (mg : Str → Option Value) (n : Nat) (g : List D → Store → Res D) : Sp := fun vs H Q E =>
  ∃ ρ ds S, ds.length = n ∧ RepDs K ρ H ds vs ∧ Rel K ρ H S ∧ PostE K mg (fun c d _ H => E c d H) ρ H [] Q (g ds S)
theorem spM_len {K : PySem.W.Frag} {mg : Str → Option Value} {n : Nat} {g : List D → Store → Res D} {vs : List V} {H : Hp} {Q : VK} {E : XK} (h : spM K mg n g vs H Q E) : vs.length = n := by
  obtain ⟨ρ, ds, S, hl, r, _⟩ := h
  rw [← r.length, hl]
theorem PostE.toσ {K : PySem.W.Frag} {mg : Str → Option Value} {W : WX} {ρ : Rh} {H : Hp} {σ : L2.St} {Q : VK} : ∀ {r : Res D}, PostE K mg W ρ H σ Q r → PostE K mg (fun c d _ H => W c d σ H) ρ H [] Q r
  | .ok _ _, h => h
  | .ex _ _, h => h
  | .bad, h => h
def mCallF (n : Nat) (g : List D → Store → Res D) (m : MA) : ME := fun e S => (m e S).bind fun ds S1 => if ds.length = n then g ds S1 else .bad
abbrev FnM (P : Program) (w : World) (K : PySem.W.Frag) (mg : Str → Option Value) (base : Heap) (k : Nat) (f : Addr) (fd : FuncData) (ps : List Str) (g : List D → Store → Res D) : Prop := FnOk P w K mg base (L2.CX P w) k f fd ps (spM K mg ps.length g)
section
variable {X : Cx} {W : WX} {k : Nat} {f : Addr} {fd : FuncData} {ps : List Str} {g : List D → Store → Res D} {x : Str} {p pos : Pos} {e : Expr} {es : List Expr} {m : MA}
theorem em_call (F : FnM X.prog X.w X.K X.mg X.base k f fd ps g) (hr : Room k X.A) (hg : Gl X x) (hm : X.mg x = some (.ref f)) (hk : PySem.W.keepIn X.K (.ref f) = true) (hb : Binds X.K fd ps []) (tk : Takes X W)
    (ha : AM X W (e :: es) m) {n : Nat} (hn : ps.length = n := by rfl) (hdb : (x == ("__debug__" : Str)) = false := by decide) (he : starEach (e :: es) X.env = (false, eval e X.env) :: starEach es X.env := by rfl) (hpl : (backTo pos (starEach es X.env)).any (·.1) = false := by rfl) :
    EM X W (.Call (.Name x p) (e :: es) [] pos) (mCallF n g m) := by
  subst hn
  exact pe_imp (pe_callS (E := WE W) F hr hg hm hk hb (fun σ => passAt tk σ) ha hdb he hpl) fun σ H Q h => tA_then (β := D) (g := fun ds S => if ds.length = ps.length then g ds S else .bad) (fun ρ H ds vs S R r q => by
    by_cases hl : ds.length = ps.length
    · rw [if_pos hl] at q
      exact ⟨ρ, ds, S, hl, r, R, q.toσ⟩
    · rw [if_neg hl] at q; exact q.elim) h
theorem em_call0 (F : FnM X.prog X.w X.K X.mg X.base k f fd ps g) (hr : Room k X.A) (hg : Gl X x) (hm : X.mg x = some (.ref f)) (hk : PySem.W.keepIn X.K (.ref f) = true) (hb : Binds X.K fd ps []) (tk : Takes X fun c d _ H => False)
    (hps : ps = []) (hdb : (x == ("__debug__" : Str)) = false := by decide) : EM X W (.Call (.Name x p) [] [] pos) (mCallF 0 (fun ds S => match g ds S with | .ex _ _ => .bad | r => r) mNil) :=
  pe_imp (pe_call0 (E := fun _ _ _ => False) F hr hg hm hk hb .nil (fun pins σ H s e s' I c => tk e s' (XE.of_call I (fun _ _ _ h => h) c)) hdb) fun σ H Q ⟨ρ, e, S, he, R, q⟩ => by
    subst hps
    refine ⟨ρ, [], S, rfl, .nil, R, ?_⟩
    have q : PostE X.K X.mg W ρ H σ Q (match g [] S with | .ex _ _ => .bad | r => r) := q
    cases hg : g [] S with
    | bad => rw [hg] at q; exact q.elim
    | ex c S1 => rw [hg] at q; exact q.elim
    | ok d S1 => rw [hg] at q; exact q
end
/-- a body run at its arguments -/
def runF (n : Nat) (b : MS) (ds : List D) (S : Store) : Res D := match b (ds.map some ++ List.replicate (n - ds.length) none) S with
  | some (.rt d, _, S') => .ok d S'
  | some (.nx, _, S') => .ok .non S'
  | some (.ex c, _, S') => .ex c S'
  | _ => .bad
theorem env_start {K : PySem.W.Frag} {ρ : Rh} {H : Hp} {N : List Str} {ds : List D} {vs : List V} (h : RepDs K ρ H ds vs) : EnvRel K ρ H (L2.start N vs) (ds.map some ++ List.replicate (N.length - ds.length) none) := by
  have hl := h.length
  refine ⟨by unfold L2.start; simp [hl], fun i d e => ?_⟩
  by_cases hi : i < ds.length
  · rw [List.getElem?_append_left (by simpa using hi), List.getElem?_map] at e
    cases hd : ds[i]? with
    | none => rw [hd] at e; cases e
    | some d' =>
      rw [hd] at e
      cases e
      obtain ⟨v, a, b⟩ := h.get hd
      refine ⟨v, ?_, b⟩
      unfold L2.start
      rw [List.getElem?_append_left (by simpa [← hl] using hi), List.getElem?_map, a]; rfl
  · rw [List.getElem?_append_right (by simpa using hi), List.getElem?_replicate] at e
    split at e <;> cases e
section
variable {P : Program} {w : World} {K : PySem.W.Frag} {mg : Str → Option Value} {base : Heap}
theorem fn_m {x qual : Str} {st : Stmt} {f : Addr} {fd : FuncData} {N ps : List Str} {k : Nat} {b : MS} (F : L2.Fun K x qual st f fd) (S : FnScope N ps (defScope st))
    (hbody : ∀ (cdv : Value) (A : Around) (outer : List PySem.Env) (s : Shared) (H : Hp) (E : XK), Room k (A.deeper (envOfC qual (defScope st) s.heap.objs.size f cdv)) →
      BM (cxOf (L2.CX P w) P w K mg base N qual (defScope st) f cdv A outer s H E) (fun c d _ H => E c d H) (defBody st) b) : FnM P w K mg base (k + 1) f fd ps (runF N.length b) := by
  refine F.okX S (fun vs H Q E h => spM_len h) (fun cdv A outer s H vs Q E hr h => ⟨_, hbody cdv A outer s H E hr, ?_⟩)
  obtain ⟨ρ, ds, S, hl, r, R, q⟩ := h
  refine ⟨ρ, _, S, env_start r, R, ?_⟩
  show PostS K mg _ ρ H _ _
  unfold runF at q
  split at q
  · rename_i d e' S' hb
    rw [hb]
    exact fun ρ' H' v f R' r => q ρ' H' f R' v r
  · rename_i e' S' hb
    rw [hb]
    exact fun ρ' H' σ' f R' _ => q ρ' H' f R' _ .non
  · rename_i c e' S' hb
    rw [hb]
    exact fun ρ' H' σ' C f R' _ => q ρ' H' C f R'
  · exact q.elim
end

/-! ### behind a call: what nobody sees any more is forgotten -/
mutual
/-- no object from n on is named -/
def cl (n : Nat) : D → Bool
  | .tup xs => cls n xs
  | .lst xs => cls n xs
  | .fro xs => cls n xs
  | .loc m => decide (m < n)
  | _ => true
def cls (n : Nat) : List D → Bool
  | [] => true
  | d :: ds => cl n d && cls n ds
end
def clO (n : Nat) : OB → Bool
  | .lst xs => cls n xs
def clS (n : Nat) (S : Store) : Bool := S.all (clO n)
section
variable {K : PySem.W.Frag} {ρ : Rh} {l : List Addr} {H : Hp} {S : Store} {n : Nat}
/-- ρ2 tells the first n as ρ1, and nothing that ρ1 does not -/
structure Cut (n : Nat) (ρ1 ρ2 : Rh) : Prop where
  sub : ∀ x ∈ ρ2.l, x ∈ ρ1.l
  hh : ρ2.h = ρ1.h
  pre : ∀ m a, m < n → ρ1.l[m]? = some a → ρ2.l[m]? = some a
mutual
theorem RepD.cut {ρ1 ρ2 : Rh} (k : Cut n ρ1 ρ2) : ∀ (d : D) (v : V), cl n d = true → RepD K ρ1 H d v → RepD K ρ2 H d v
  | .non, _, _, h => by cases h; exact .non
  | .bl b, _, _, h => by cases h; exact .bl b
  | .int i, _, _, h => by cases h; exact .int i
  | .str x, _, _, h => by cases h; exact .str x
  | .tup ds, _, c, h => by
    cases h with
    | tup hs hd => exact .tup hs (RepDs.cut k ds _ c hd)
  | .lst ds, _, c, h => by
    cases h with
    | lst hs hn' hh hd => exact .lst hs (fun m => hn' (k.sub _ m)) (by rw [k.hh]; exact hh) (RepDs.cut k ds _ c hd)
  | .fro ds, _, c, h => by
    cases h with
    | fro hs hn' hh hd => exact .fro hs (fun m => hn' (k.sub _ m)) (by rw [k.hh]; exact hh) (RepDs.cut k ds _ c hd)
    | frk hk hd => exact .frk hk (RepDs.cut k ds _ c hd)
  | .loc m, _, c, h => by
    cases h with
    | loc e => exact .loc (k.pre m _ (of_decide_eq_true c) e)
  | .ref a, _, _, h => by cases h; exact .ref a
  | .ty n, _, _, h => by cases h; exact .ty n
theorem RepDs.cut {ρ1 ρ2 : Rh} (k : Cut n ρ1 ρ2) : ∀ (ds : List D) (vs : List V), cls n ds = true → RepDs K ρ1 H ds vs → RepDs K ρ2 H ds vs
  | [], _, _, h => by cases h; exact .nil
  | d :: ds, _, c, h => by
    cases h with
    | cons h1 h2 =>
      simp only [cls, Bool.and_eq_true] at c
      exact .cons (RepD.cut k d _ c.1 h1) (RepDs.cut k ds _ c.2 h2)
end
theorem Cut.of (hn : ρ.l.length = n) {l' : List Addr} (h : ∀ x ∈ l', x ∈ l) : Cut n ⟨ρ.l ++ l, ρ.h⟩ ⟨ρ.l ++ l', ρ.h⟩ := ⟨fun x m => by
    rcases List.mem_append.mp m with m | m
    · exact List.mem_append_left _ m
    · exact List.mem_append_right _ (h x m), rfl, fun m a hm e => by
    have e : (ρ.l ++ l)[m]? = some a := e
    rw [List.getElem?_append_left (by omega)] at e
    show (ρ.l ++ l')[m]? = some a
    rw [List.getElem?_append_left (by omega)]; exact e⟩
theorem Cut.back (hn : ρ.l.length = n) : Cut n ⟨ρ.l ++ l, ρ.h⟩ ρ := ⟨fun x m => List.mem_append_left _ m, rfl, fun m a hm e => by
    have e : (ρ.l ++ l)[m]? = some a := e
    rw [List.getElem?_append_left (by omega)] at e; exact e⟩
theorem RepD.back (hn : ρ.l.length = n) (d : D) (v : V) (c : cl n d = true) (h : RepD K ⟨ρ.l ++ l, ρ.h⟩ H d v) : RepD K ρ H d v := RepD.cut (Cut.back hn) d v c h
theorem RepDs.back (hn : ρ.l.length = n) (ds : List D) (vs : List V) (c : cls n ds = true) (h : RepDs K ⟨ρ.l ++ l, ρ.h⟩ H ds vs) : RepDs K ρ H ds vs := RepDs.cut (Cut.back hn) ds vs c h
theorem ObRel.cut {ρ1 ρ2 : Rh} (k : Cut n ρ1 ρ2) {a : Addr} {o : OB} (c : clO n o = true) (h : ObRel K ρ1 H a o) : ObRel K ρ2 H a o := by
  cases o with
  | lst ds => obtain ⟨vs, h1, h2⟩ := h; exact ⟨vs, h1, RepDs.cut k ds vs c h2⟩
theorem Rel.at_take {ρ2 : Rh} (r : Rel K ⟨ρ.l ++ l, ρ.h⟩ H S) (hn : ρ.l.length = n) (c : clS n (S.take n) = true) (k : Cut n ⟨ρ.l ++ l, ρ.h⟩ ρ2) {m : Nat} {o : OB} {a : Addr} (e1 : (S.take n)[m]? = some o) (e2 : ρ.l[m]? = some a) : ObRel K ρ2 H a o := by
  have hm : m < ρ.l.length := (List.getElem?_eq_some_iff.mp e2).1
  have e1' : S[m]? = some o := by rw [List.getElem?_take] at e1; split at e1 <;> first | exact e1 | cases e1
  exact (r.at_ m o a e1' (show (ρ.l ++ l)[m]? = some a by rw [List.getElem?_append_left hm]; exact e2)).cut k (List.all_eq_true.mp c o (List.mem_of_getElem? e1))
theorem Rel.back (r : Rel K ⟨ρ.l ++ l, ρ.h⟩ H S) (hn : ρ.l.length = n) (c : clS n (S.take n) = true) : Rel K ρ H (S.take n) := by
  have hl : (ρ.l ++ l).length = S.length := r.len
  rw [List.length_append] at hl
  exact ⟨by rw [List.length_take]; omega, (List.nodup_append.mp r.nd).1, fun m o a e1 e2 => r.at_take hn c (Cut.back hn) e1 e2, r.hid, r.tab⟩
/-- .. and one of the others is still told of -/
theorem Rel.backK (r : Rel K ⟨ρ.l ++ l, ρ.h⟩ H S) (hn : ρ.l.length = n) (c : clS n (S.take n) = true) {a : Addr} (ha : a ∈ l) {vs : List V} {xs : List D} (hH : H a = some (.lst vs)) (cx : cls n xs = true) (rx : RepDs K ⟨ρ.l ++ l, ρ.h⟩ H xs vs) : Rel K ⟨ρ.l ++ [a], ρ.h⟩ H (S.take n ++ [.lst xs]) := by
  have hl : (ρ.l ++ l).length = S.length := r.len
  rw [List.length_append] at hl
  have k : Cut n ⟨ρ.l ++ l, ρ.h⟩ ⟨ρ.l ++ [a], ρ.h⟩ := Cut.of hn fun x m => by rw [List.mem_singleton.mp m]; exact ha
  have na : a ∉ ρ.l := fun mem => (List.nodup_append.mp r.nd).2.2 a mem a ha rfl
  refine ⟨?_, ?_, fun m o b e1 e2 => ?_, r.hid, r.tab⟩
  · show (ρ.l ++ [a]).length = _
    rw [List.length_append, List.length_append, List.length_take, List.length_singleton, List.length_singleton]
    omega
  · show (ρ.l ++ [a]).Nodup
    rw [List.nodup_append]
    exact ⟨(List.nodup_append.mp r.nd).1, by simp, fun x hx b hb => by simp at hb; subst hb; rintro rfl; exact na hx⟩
  · have e2 : (ρ.l ++ [a])[m]? = some b := e2
    have ht : (S.take n).length = n := by rw [List.length_take]; omega
    by_cases hm : m < n
    · rw [List.getElem?_append_left (by omega)] at e1
      rw [List.getElem?_append_left (by omega)] at e2
      exact r.at_take hn c k e1 e2
    · rw [List.getElem?_append_right (by omega), ht] at e1
      rw [List.getElem?_append_right (by omega), hn] at e2
      have h0 : m - n = 0 := by
        rcases Nat.eq_zero_or_pos (m - n) with z | z
        · exact z
        · rw [List.getElem?_eq_none (by simp; omega)] at e1; cases e1
      rw [h0] at e1 e2
      simp at e1 e2
      subst e1 e2
      exact ⟨vs, hH, RepDs.cut k xs vs cx rx⟩
end
/-- what comes back: a list of the callee's own is a value from now on -/
def fz (n : Nat) (S : Store) : D → Option D
  | .loc m => if m < n then some (.loc m) else match S[m]? with
    | some (.lst ds) => if cls n ds then some (.lst ds) else none
    | none => none
  | d => if cl n d then some d else none
def retV (g : List D → Store → Res D) : List D → Store → Res D := fun ds S => match g ds S with
  | .ok d S' => if clS S.length (S'.take S.length) = true then match fz S.length S' d with
    | some d' => .ok d' (S'.take S.length)
    | none => .bad else .bad
  | .ex c S' => if clS S.length (S'.take S.length) = true then .ex c (S'.take S.length) else .bad
  | .bad => .bad
/-- .. it stays an object of the store -/
def retK (g : List D → Store → Res D) : List D → Store → Res D := fun ds S => match g ds S with
  | .ok (.loc m) S' => if clS S.length (S'.take S.length) = true ∧ S.length ≤ m then match S'[m]? with
    | some (.lst xs) => if cls S.length xs then .ok (.loc S.length) (S'.take S.length ++ [.lst xs]) else .bad
    | none => .bad else .bad
  | .ok _ _ => .bad
  | .ex c S' => if clS S.length (S'.take S.length) = true then .ex c (S'.take S.length) else .bad
  | .bad => .bad
section
variable {K : PySem.W.Frag} {mg : Str → Option Value} {W : WX} {ρ : Rh} {H : Hp} {S : Store} {σ : L2.St} {Q : VK}
theorem fz_rep {ρ' : Rh} {H' : Hp} {S' : Store} (R : Rel K ρ H S) (f : Fr ρ H ρ' H') (R' : Rel K ρ' H' S') {d d' : D} {v : V} (e : fz S.length S' d = some d') (r : RepD K ρ' H' d v) : RepD K ρ H' d' v := by
  obtain ⟨l, rfl, hl⟩ := f.new
  have gen : (if cl S.length d then some d else none) = some d' → RepD K ρ H' d' v := fun e => by
    split at e
    · rename_i c
      cases e
      exact RepD.back R.len _ _ c r
    · cases e
  cases d with
  | loc m =>
    simp only [fz] at e
    split at e
    · rename_i hm
      cases e
      exact RepD.back R.len _ _ (by unfold cl; exact decide_eq_true hm) r
    · rename_i hm
      split at e
      · rename_i ds hs
        split at e
        · rename_i c
          cases e
          obtain ⟨a, vs, rfl, ha, hH, rx⟩ := loc_at R' r hs
          refine .lst hH (fun mem => ?_) (fun mem => ?_) (RepDs.back R.len _ _ c rx)
          · have nd := R'.nd
            have ha : (ρ.l ++ l)[m]? = some a := ha
            have hlen := R.len
            rw [List.getElem?_append_right (by omega)] at ha
            exact (List.nodup_append.mp nd).2.2 a mem a (List.mem_of_getElem? ha) rfl
          · obtain ⟨ws, z⟩ := R.hid a mem
            have ha : (ρ.l ++ l)[m]? = some a := ha
            have hlen := R.len
            rw [List.getElem?_append_right (by omega)] at ha
            rw [hl a (List.mem_of_getElem? ha)] at z
            cases z
        · cases e
      · cases e
  | _ => exact gen e
theorem Fr.cut {ρ' : Rh} {H' : Hp} (f : Fr ρ H ρ' H') : Fr ρ H ρ H' := ⟨⟨[], by simp, by simp⟩, f.keep, f.live⟩
theorem PostE.retV {g : List D → Store → Res D} {ds : List D} (R : Rel K ρ H S) (q : PostE K mg W ρ H σ Q (retV g ds S)) : PostE K mg W ρ H σ Q (g ds S) := by
  unfold M.retV at q
  cases hg : g ds S with
  | bad => rw [hg] at q; exact q
  | ex c S' =>
    rw [hg] at q
    dsimp only at q
    split at q
    · rename_i hc
      intro ρ' H' C f R' hC
      obtain ⟨l, rfl, hl⟩ := f.new
      exact q ρ H' C f.cut (Rel.back R' R.len hc) hC
    · exact q.elim
  | ok d S' =>
    rw [hg] at q
    dsimp only at q
    split at q
    · rename_i hc
      split at q
      · rename_i d' hd
        intro ρ' H' f R' v r
        have r' := fz_rep R f R' hd r
        obtain ⟨l, rfl, hl⟩ := f.new
        exact q ρ H' f.cut (Rel.back R' R.len hc) v r'
      · exact q.elim
    · exact q.elim
theorem PostE.retK {g : List D → Store → Res D} {ds : List D} (R : Rel K ρ H S) (q : PostE K mg W ρ H σ Q (retK g ds S)) : PostE K mg W ρ H σ Q (g ds S) := by
  unfold M.retK at q
  cases hg : g ds S with
  | bad => rw [hg] at q; exact q
  | ex c S' =>
    rw [hg] at q
    dsimp only at q
    split at q
    · rename_i hc
      intro ρ' H' C f R' hC
      obtain ⟨l, rfl, hl⟩ := f.new
      exact q ρ H' C f.cut (Rel.back R' R.len hc) hC
    · exact q.elim
  | ok d S' =>
    rw [hg] at q
    cases d with
    | loc m =>
      dsimp only at q
      split at q
      · rename_i hc
        split at q
        · rename_i xs hs
          split at q
          · rename_i c
            intro ρ' H' f R' v r
            obtain ⟨a, vs, rfl, ha, hH, rx⟩ := loc_at R' r hs
            obtain ⟨l, rfl, hl⟩ := f.new
            have ha : (ρ.l ++ l)[m]? = some a := ha
            have hlen := R.len
            rw [List.getElem?_append_right (by omega)] at ha
            have ma : a ∈ l := List.mem_of_getElem? ha
            exact q ⟨ρ.l ++ [a], ρ.h⟩ H' (f.cut.shown (hl a ma)) (Rel.backK R' R.len hc.1 ma hH c rx) _ (.loc (by
              show (ρ.l ++ [a])[S.length]? = some a
              rw [List.getElem?_append_right (by omega), hlen]; simp))
          · exact q.elim
        · exact q.elim
      · exact q.elim
    | _ => exact q.elim
theorem spM_retV {n : Nat} {g : List D → Store → Res D} {vs : List V} {E : XK} (h : spM K mg n (M.retV g) vs H Q E) : spM K mg n g vs H Q E := by
  obtain ⟨ρ, ds, S, hl, r, R, q⟩ := h
  exact ⟨ρ, ds, S, hl, r, R, PostE.retV R q⟩
theorem spM_retK {n : Nat} {g : List D → Store → Res D} {vs : List V} {E : XK} (h : spM K mg n (M.retK g) vs H Q E) : spM K mg n g vs H Q E := by
  obtain ⟨ρ, ds, S, hl, r, R, q⟩ := h
  exact ⟨ρ, ds, S, hl, r, R, PostE.retK R q⟩
end
section
variable {P : Program} {w : World} {K : PySem.W.Frag} {mg : Str → Option Value} {base : Heap} {k : Nat} {f : Addr} {fd : FuncData} {ps : List Str} {g : List D → Store → Res D}
theorem fn_retV (F : FnM P w K mg base k f fd ps g) : FnM P w K mg base k f fd ps (retV g) := FnOk.imp F fun _ _ _ _ h => spM_retV h
theorem fn_retK (F : FnM P w K mg base k f fd ps g) : FnM P w K mg base k f fd ps (retK g) := FnOk.imp F fun _ _ _ _ h => spM_retK h
end
end M


set_option Elab.async false
set_option linter.all false
set_option maxRecDepth 100000
set_option maxHeartbeats 4000000
namespace M
open PySem PySem.Spec PyProof.Rows L2
variable [Tabs]

/-! ### later, with other hidden lists -/
structure FrH (ρ : Rh) (H : Hp) (ρ' : Rh) (H' : Hp) : Prop where
  fr : Fr ⟨ρ.l, ρ'.h⟩ H ρ' H'
  hid : ∀ a ∈ ρ'.h, a ∈ ρ.h ∨ H a = none
section
variable {K : PySem.W.Frag} {ρ ρ' ρ2 : Rh} {H H' H2 : Hp} {S : Store}
theorem FrH.of (f : Fr ρ H ρ' H') : FrH ρ H ρ' H' := ⟨by
  have e : (⟨ρ.l, ρ'.h⟩ : Rh) = ρ := by rw [f.hid]
  rw [e]; exact f, fun a m => .inl (by rw [← f.hid]; exact m)⟩
theorem FrH.refl : FrH ρ H ρ H := .of (Fr.refl ρ H)
theorem FrH.trans (f : FrH ρ H ρ' H') (g : FrH ρ' H' ρ2 H2) : FrH ρ H ρ2 H2 := by
  obtain ⟨l, e, hl⟩ := f.fr.new
  obtain ⟨k, e2, hk⟩ := g.fr.new
  have e' : ρ'.l = ρ.l ++ l := by rw [e]
  have e2' : ρ2.l = ρ'.l ++ k := by rw [e2]
  refine ⟨⟨⟨l ++ k, ?_, fun a m => ?_⟩, fun a o h n nt => g.fr.keep a o (f.fr.keep a o h n nt) (fun m => ?_) nt, fun a o h => ?_⟩, fun a m => ?_⟩
  · show ρ2 = ⟨ρ.l ++ (l ++ k), ρ2.h⟩
    rw [← List.append_assoc, ← e', ← e2']
  · rcases List.mem_append.mp m with m | m
    · exact hl a m
    · cases q : H a with
      | none => rfl
      | some o =>
        obtain ⟨o', z⟩ := f.fr.live a o q
        rw [hk a m] at z; cases z
  · have m : a ∈ ρ'.l := m
    rw [e'] at m
    rcases List.mem_append.mp m with m | m
    · exact n m
    · rw [hl a m] at h; cases h
  · obtain ⟨o', z⟩ := f.fr.live a o h
    exact g.fr.live a o' z
  · rcases g.hid a m with q | q
    · exact f.hid a q
    · refine .inr ?_
      cases z : H a with
      | none => rfl
      | some o =>
        obtain ⟨o', z'⟩ := f.fr.live a o z
        rw [q] at z'; cases z'
theorem Sees.frh (f : FrH ρ H ρ' H') : Sees H ρ ⟨ρ.l, ρ'.h⟩ := ⟨fun _ _ e => e, fun a vs r n m => ⟨n, fun z => by
  rcases f.hid a z with q | q
  · exact m q
  · exact rd_some r q⟩⟩
theorem RepD.frh (F : Free ρ H) (f : FrH ρ H ρ' H') (d : D) (v : V) (h : RepD K ρ H d v) : RepD K ρ' H' d v := RepD.fr (ρ := ⟨ρ.l, ρ'.h⟩) F f.fr _ _ (RepD.sees (Sees.frh f) _ _ h)
theorem RepDs.frh (F : Free ρ H) (f : FrH ρ H ρ' H') (d : List D) (v : List V) (h : RepDs K ρ H d v) : RepDs K ρ' H' d v := RepDs.fr (ρ := ⟨ρ.l, ρ'.h⟩) F f.fr _ _ (RepDs.sees (Sees.frh f) _ _ h)
theorem EnvRel.frh {σ : L2.St} {e : Env} (F : Free ρ H) (f : FrH ρ H ρ' H') (h : EnvRel K ρ H σ e) : EnvRel K ρ' H' σ e := ⟨h.1, fun i d q => let ⟨v, a, b⟩ := h.2 i d q; ⟨v, a, RepD.frh F f d v b⟩⟩
theorem FrH.hide (f : Fr ρ H ρ' H') {p : Addr} (h : H p = none) : FrH ρ H (ρ'.hide p) H' := by
  obtain ⟨l, rfl, hl⟩ := f.new
  refine ⟨⟨⟨l, rfl, hl⟩, f.keep, f.live⟩, fun a m => ?_⟩
  rcases List.mem_cons.mp m with m | m
  · exact .inr (by rw [m]; exact h)
  · exact .inl m
end

/-! ### targets -/
abbrev MG := D → Env → Store → Option Env
def tG (K : PySem.W.Frag) (g : MG) (sl : List Nat) : TG := fun v σ H Q => ∃ ρ e S d e', EnvRel K ρ H σ e ∧ Rel K ρ H S ∧ RepD K ρ H d v ∧ g d e S = some e' ∧ ∀ σ', EnvRel K ρ H σ' e' → (∀ vs, (∀ i ∈ sl, i ∈ vs) → wipe σ' vs = wipe σ vs) → Q σ' H
abbrev GM (X : Cx) (tg : Expr) (g : MG) (sl : List Nat) : Prop := PG X tg (tG X.K g sl)
def tGs (K : PySem.W.Frag) (g : List D → Env → Store → Option Env) (sl : List Nat) : TGs := fun vs σ H Q => ∃ ρ e S ds e', EnvRel K ρ H σ e ∧ Rel K ρ H S ∧ RepDs K ρ H ds vs ∧ g ds e S = some e' ∧ ∀ σ', EnvRel K ρ H σ' e' → (∀ vs, (∀ i ∈ sl, i ∈ vs) → wipe σ' vs = wipe σ vs) → Q σ' H
abbrev GsM (X : Cx) (ts : List Expr) (g : List D → Env → Store → Option Env) (sl : List Nat) : Prop := PGs X ts (tGs X.K g sl)
theorem pg_imp {X : Cx} {tg : Expr} {t t' : TG} (h : PG X tg t) (i : ∀ v σ H Q, t' v σ H Q → t v σ H Q) : PG X tg t' := ⟨fun pins s σ H v u Q I r q => h.run pins s σ H v u Q I r (i _ _ _ _ q)⟩
theorem pgs_imp {X : Cx} {ts : List Expr} {t t' : TGs} (h : PGs X ts t) (i : ∀ v σ H Q, t' v σ H Q → t v σ H Q) : PGs X ts t' := ⟨fun pins s σ H v u Q I r q => h.run pins s σ H v u Q I r (i _ _ _ _ q)⟩
theorem EnvRel.set {K : PySem.W.Frag} {ρ : Rh} {H : Hp} {σ : L2.St} {e : Env} (h : EnvRel K ρ H σ e) (i : Nat) {d : D} {v : V} (r : RepD K ρ H d v) : EnvRel K ρ H (σ.set i (some v)) (e.set i (some d)) := by
  refine ⟨by simp [h.1], fun j d' q => ?_⟩
  by_cases hj : i = j
  · subst hj
    have hi : i < e.length := by
      have := (List.getElem?_eq_some_iff.mp q).1
      simpa using this
    rw [List.getElem?_set_self hi] at q
    cases q
    exact ⟨v, by rw [List.getElem?_set_self (by rw [h.1]; exact hi)], r⟩
  · rw [List.getElem?_set_ne hj] at q
    rw [List.getElem?_set_ne hj]
    exact h.2 j d' q
theorem wipe_set {σ : L2.St} {i : Nat} {x : Option V} : ∀ {vs : List Nat}, i ∈ vs → wipe (σ.set i x) vs = wipe σ vs
  | [], h => by simp at h
  | v :: vs, h => by
    unfold wipe
    by_cases hv : v = i
    · subst hv
      have : ∀ (ws : List Nat), (wipe (σ.set v x) ws).set v none = (wipe σ ws).set v none := by
        intro ws
        induction ws with
        | nil => unfold wipe; rw [List.set_set]
        | cons w ws ih =>
          unfold wipe
          by_cases hw : w = v
          · subst hw; rw [List.set_set, List.set_set]; exact ih
          · rw [List.set_comm _ _ hw, ih, List.set_comm _ _ (Ne.symm hw)]
      exact this vs
    · rw [wipe_set (by rcases List.mem_cons.mp h with e | m; exact absurd e.symm hv; exact m)]
/-! the mirrors of targets -/
def gN (i : Nat) : MG := fun d e _ => some (e.set i (some d))
def gNil : List D → Env → Store → Option Env := fun ds e _ => match ds with
  | [] => some e
  | _ => none
def gCons (g : MG) (r : List D → Env → Store → Option Env) : List D → Env → Store → Option Env := fun ds e S => match ds with
  | d :: ds => (g d e S).bind fun e1 => r ds e1 S
  | [] => none
def gTup (n : Nat) (r : List D → Env → Store → Option Env) : MG := fun d e S => match d with
  | .tup ds => if ds.length = n then r ds e S else none
  | _ => none
def gLst (n : Nat) (r : List D → Env → Store → Option Env) : MG := fun d e S => match lstOf S d with
  | some ds => if ds.length = n then r ds e S else none
  | none => none
section
variable {X : Cx} {W : WX} {tg e a b c : Expr} {es : List Expr} {g : MG} {gs : List D → Env → Store → Option Env} {sl sl2 : List Nat} {x : Str} {pos pos' : Pos} {m ma mb : ME} {i : Nat}
theorem gm_name (hN : X.N.Nodup) (hi : X.N[i]? = some x) (hx : Loc X.env.scope x) (hf : X.fn x = true ∨ X.env.scope.names.lookup x = some .local := by first | exact .inl rfl | exact .inr rfl | assumption) : GM X (.Name x pos) (gN i) [i] :=
  pg_imp (pg_name hN hi hx hf) fun v σ H Q ⟨ρ, e, S, d, e', he, R, r, hg, q⟩ => by
    cases hg
    exact q _ (he.set i r) fun vs h => wipe_set (h i (by simp))
theorem gms_nil : GsM X [] gNil [] := pgs_imp pgs_nil fun v σ H Q ⟨ρ, e, S, ds, e', he, R, r, hg, q⟩ => by
  cases r with
  | nil => cases hg; exact ⟨rfl, q σ he fun _ _ => rfl⟩
  | cons _ _ => cases hg
theorem gms_cons (h1 : GM X e g sl) (h2 : GsM X es gs sl2) (hs : (assignEach (e :: es) X.env).map (·.2) = assign e X.env :: (assignEach es X.env).map (·.2) := by rfl) : GsM X (e :: es) (gCons g gs) (sl ++ sl2) :=
  pgs_imp (pgs_cons h1 h2 hs) fun vs σ H Q ⟨ρ, e, S, ds, e', he, R, r, hg, q⟩ => by
    cases r with
    | nil => cases hg
    | @cons d ds v vs r1 r2 =>
      unfold gCons at hg
      simp only at hg
      cases h : g d e S with
      | none => rw [h] at hg; cases hg
      | some e1 =>
        rw [h] at hg
        exact ⟨v, vs, rfl, ρ, e, S, d, e1, he, R, r1, h, fun σ1 he1 w1 => ⟨ρ, e1, S, ds, e', he1, R, r2, hg, fun σ2 he2 w2 => q σ2 he2 fun us hu =>
          (w2 us fun i hi => hu i (List.mem_append_right _ hi)).trans (w1 us fun i hi => hu i (List.mem_append_left _ hi))⟩⟩
theorem gm_tup {k n : Nat} (hc : X.calm = true) (h : GsM X es gs sl) (hn : (assignEach es X.env).length = n := by rfl) (hst : (assignEach es X.env).findIdx? (·.1) = none := by rfl) : GM X (.Tuple es k pos) (gTup n gs) sl :=
  pg_imp (pg_tup hc h hn hst) fun v σ H Q ⟨ρ, e, S, d, e', he, R, r, hg, q⟩ => by
    unfold gTup at hg
    split at hg
    · rename_i ds
      split at hg
      · rename_i hl
        cases r with
        | tup hs rd => exact ⟨_, _, rfl, hs, by rw [← rd.length]; exact hl, ρ, e, S, ds, e', he, R, rd, hg, q⟩
      · cases hg
    · cases hg
theorem gm_lst {k n : Nat} (hc : X.calm = true) (h : GsM X es gs sl) (hn : (assignEach es X.env).length = n := by rfl) (hst : (assignEach es X.env).findIdx? (·.1) = none := by rfl) : GM X (.Tuple es k pos) (gLst n gs) sl :=
  pg_imp (pg_lst hc h hn hst) fun v σ H Q ⟨ρ, e, S, d, e', he, R, r, hg, q⟩ => by
    unfold gLst at hg
    cases hd : lstOf S d with
    | none => rw [hd] at hg; cases hg
    | some ds =>
      rw [hd] at hg
      simp only at hg
      split at hg
      · rename_i hl
        obtain ⟨a, vs, rfl, hr, rd⟩ := lstOf_rep R r hd
        exact ⟨a, vs, rfl, hr, by rw [← rd.length]; exact hl, ρ, e, S, ds, e', he, R, rd, hg, q⟩
      · cases hg
end

/-! ### statements -/
def Res.st {α : Type} (r : Res α) (e : Env) (k : α → Store → Option (Fl × Env × Store)) : Option (Fl × Env × Store) := match r with
  | .ok a S => k a S
  | .ex c S => some (.ex c, e, S)
  | .bad => none
@[simp] theorem Res.st_ok {α : Type} (a : α) (S : Store) (e : Env) (k : α → Store → Option (Fl × Env × Store)) : (Res.ok a S).st e k = k a S := rfl
@[simp] theorem Res.st_ex {α : Type} (c : Str) (S : Store) (e : Env) (k : α → Store → Option (Fl × Env × Store)) : (Res.ex c S).st e k = some (.ex c, e, S) := rfl
@[simp] theorem Res.st_bad {α : Type} (e : Env) (k : α → Store → Option (Fl × Env × Store)) : (Res.bad : Res α).st e k = none := rfl
theorem PostS.st {K : PySem.W.Frag} {mg : Str → Option Value} {W : WX} {ρ : Rh} {H : Hp} {σ : L2.St} {S : Store} {Dn : Ends} {e : Env} {α : Type} {k : α → Store → Option (Fl × Env × Store)} (R : Rel K ρ H S) (he : EnvRel K ρ H σ e) :
    ∀ {r : Res α}, PostS K mg W ρ H Dn (r.st e k) → Post K mg W (fun a S1 ρ1 H1 => PostS K mg W ρ1 H1 Dn (k a S1)) ρ H σ r
  | .ok _ _, q => fun ρ' H' f R' => PostS.fr f q
  | .ex _ _, q => fun ρ' H' C f R' hC => q ρ' H' σ C f R' (he.fr R.free f) hC
  | .bad, q => q
def sSkip : MS := fun e S => some (.nx, e, S)
def sBreak : MS := fun e S => some (.bk, e, S)
def sCont : MS := fun e S => some (.ct, e, S)
def sNever : MS := fun _ _ => none
def sSeq (a b : MS) : MS := fun e S => match a e S with
  | some (.nx, e1, S1) => b e1 S1
  | r => r
def sSet (g : MG) (m : ME) : MS := fun e S => (m e S).st e fun d S1 => (g d e S1).bind fun e1 => some (.nx, e1, S1)
def sRet (m : ME) : MS := fun e S => (m e S).st e fun d S1 => some (.rt d, e, S1)
def sExpr (m : ME) : MS := fun e S => (m e S).st e fun _ S1 => some (.nx, e, S1)
def sIf (t : MT) (a b : MS) : MS := fun e S => (t e S).st e fun c S1 => if c = true then a e S1 else b e S1
section
variable {X : Cx} {W : WX} {tg e a b c : Expr} {es : List Expr} {g : MG} {sl : List Nat} {x : Str} {pos pos' : Pos} {m ma mb : ME} {t : MT} {sa sb : MS} {st : Stmt} {p q rest : List Stmt} {i : Nat}
theorem bm_nil : BM X W [] sSkip := pss_imp pss_nil fun Dn σ H ⟨ρ, e, S, he, R, q⟩ => q ρ H σ (Fr.refl _ _) R he
theorem bm_one (h : SM X W st sa) : BM X W [st] sa := pss_one h
theorem bm_cons (h1 : SM X W st sa) (h2 : BM X W rest sb) : BM X W (st :: rest) (sSeq sa sb) :=
  pss_imp (pss_cons h1 h2) fun Dn σ H ⟨ρ, e, S, he, R, q⟩ => ⟨ρ, e, S, he, R, by
    unfold sSeq at q
    cases hk : sa e S with
    | none => rw [hk] at q; exact q
    | some r =>
      obtain ⟨fl, e1, S1⟩ := r
      rw [hk] at q
      cases fl with
      | nx => exact fun ρ' H' σ' f R' he' => ⟨ρ', e1, S1, he', R', PostS.fr f q⟩
      | rt d => exact q
      | bk => exact q
      | ct => exact q
      | ex c => exact q⟩
theorem bm_never : BM X W p sNever := pss_imp pss_never fun _ _ _ ⟨ρ, e, S, he, R, q⟩ => q
theorem sm_never : SM X W st sNever := ps_imp ps_never fun _ _ _ ⟨ρ, e, S, he, R, q⟩ => q
theorem sm_pass : SM X W (.Pass pos) sSkip := ps_imp ps_pass fun Dn σ H ⟨ρ, e, S, he, R, q⟩ => q ρ H σ (Fr.refl _ _) R he
theorem sm_break : SM X W (.Break pos) sBreak := ps_imp ps_break fun Dn σ H ⟨ρ, e, S, he, R, q⟩ => q ρ H σ (Fr.refl _ _) R he
theorem sm_cont : SM X W (.Continue pos) sCont := ps_imp ps_continue fun Dn σ H ⟨ρ, e, S, he, R, q⟩ => q ρ H σ (Fr.refl _ _) R he
theorem tE_st {Dn : Ends} {σ : L2.St} {H : Hp} {k : D → Env → Store → Option (Fl × Env × Store)} {u : VK} (hu : ∀ ρ H d v e S, EnvRel X.K ρ H σ e → Rel X.K ρ H S → RepD X.K ρ H d v → PostS X.K X.mg W ρ H Dn (k d e S) → u v H)
    (h : tS X.K X.mg W (fun e S => (m e S).st e fun d S1 => k d e S1) Dn σ H) : tE X.K X.mg W m σ H u := by
  obtain ⟨ρ, e, S, he, R, q⟩ := h
  exact ⟨ρ, e, S, he, R, (PostS.st R he q).mono fun d S1 ρ1 H1 f1 R1 q v r => hu ρ1 H1 d v e S1 (he.fr R.free f1) R1 r q⟩
theorem sm_ret (h : EM X W e m) : SM X W (.Return (some e) pos) (sRet m) :=
  ps_imp (ps_ret h) fun Dn σ H h => tE_st (k := fun d e S1 => some (.rt d, e, S1)) (fun ρ H d v e S he R r q => q ρ H v (Fr.refl _ _) R r) h
def sRetN : MS := fun e S => some (.rt .non, e, S)
theorem sm_retN : SM X W (.Return none pos) sRetN := ps_imp ps_retN fun Dn σ H ⟨ρ, e, S, he, R, q⟩ => q ρ H .non (Fr.refl _ _) R .non
theorem sm_expr (h : EM X W e m) (hs : swapsWith e none pos.line X.env = pure false := by rfl) : SM X W (.Expr e pos) (sExpr m) :=
  ps_imp (ps_expr h hs) fun Dn σ H h => tE_st (k := fun d e S1 => some (.nx, e, S1)) (fun ρ H d v e S he R r q => q ρ H σ (Fr.refl _ _) R he) h
theorem sm_if (hc : TM X W c t) (ha : BM X W p sa) (hb : BM X W q sb) : SM X W (.If c p q pos) (sIf t sa sb) :=
  ps_imp (ps_if hc ha hb) fun Dn σ H ⟨ρ, e, S, he, R, q⟩ => ⟨ρ, e, S, he, R, (PostS.st R he q).mono fun c S1 ρ1 H1 f1 R1 q => by
    cases c with
    | true => exact ⟨ρ1, e, S1, he.fr R.free f1, R1, q⟩
    | false => exact ⟨ρ1, e, S1, he.fr R.free f1, R1, q⟩⟩
theorem set_of {te : TE} {Dn : Ends} {σ : L2.St} {H : Hp} (hte : te = tE X.K X.mg W m) (h : tS X.K X.mg W (sSet (gN i) m) Dn σ H) : tAsg te (gName i) Dn σ H := by
  subst hte
  exact tE_st (k := fun d e S1 => (gN i d e S1).bind fun e1 => some (.nx, e1, S1)) (fun ρ H d v e S he R r q => q ρ H _ (Fr.refl _ _) R (he.set i r)) h
/-- name = e -/
theorem sm_set (hN : X.N.Nodup) (hi : X.N[i]? = some x) (hx : Loc X.env.scope x) (h : EM X W e m) (hs : swapsWith e (some (.Name x pos')) pos.line X.env = pure false := by rfl) (hf : X.fn x = true ∨ X.env.scope.names.lookup x = some .local := by first | exact .inl rfl | exact .inr rfl | assumption) :
    SM X W (.Assign [.Name x pos'] e pos) (sSet (gN i) m) :=
  ps_imp (ps_set hN hi hx h hs hf) fun Dn σ H h => set_of rfl h
/-- a, b = e (e no display with plain names) -/
theorem sm_asg (h : EM X W e m) (hg : GM X tg g sl) (hs : swapsWithSole [tg] e pos.line X.env = pure false := by rfl) (hw : swappedStores [tg] e X.env = pure none := by rfl)
    (h1 : (assignEach [tg] X.env).map (·.2) = [assign tg X.env] := by rfl) : SM X W (.Assign [tg] e pos) (sSet g m) :=
  ps_imp (ps_asg h hg hs hw h1) fun Dn σ H h => tE_st (k := fun d e S1 => (g d e S1).bind fun e1 => some (.nx, e1, S1)) (fun ρ H d v e S he R r q => by
    cases hk : g d e S with
    | none => rw [hk] at q; exact q.elim
    | some e1 =>
      rw [hk] at q
      exact ⟨ρ, e, S, d, e1, he, R, r, hk, fun σ' he' _ => q ρ H σ' (Fr.refl _ _) R he'⟩) h
/-- a, b = x, y -/
def sPar (i j : Nat) (m : MA) : MS := fun e S => (m e S).st e fun ds S1 => match ds with
  | [d1, d2] => some (.nx, (e.set i (some d1)).set j (some d2), S1)
  | _ => none
theorem sm_par {i j : Nat} {x y : Str} {a b : Expr} {m : MA} {px py pt : Pos} {kt k2 pt2} (hc : X.calm = true) (hN : X.N.Nodup) (hi : X.N[i]? = some x) (hj : X.N[j]? = some y) (hij : i ≠ j)
    (hx : X.env.scope.names.lookup x = some .local) (hy : X.env.scope.names.lookup y = some .local) (ha : AM X W [a, b] m)
    (hw : swappedStores [.Tuple [.Name x px, .Name y py] kt pt] (.Tuple [a, b] k2 pt2) X.env = pure (some [x, y]))
    (hs : swapsWithSole [.Tuple [.Name x px, .Name y py] kt pt] (.Tuple [a, b] k2 pt2) pos.line X.env = pure false := by rfl) :
    SM X W (.Assign [.Tuple [.Name x px, .Name y py] kt pt] (.Tuple [a, b] k2 pt2) pos) (sPar i j m) :=
  ps_imp (ps_par hc hN hi hj hij hx hy ha hw hs) fun Dn σ H ⟨ρ, e, S, he, R, q⟩ => ⟨ρ, e, S, he, R, (PostS.st R he q).mono fun ds S1 ρ1 H1 f1 R1 q vs r => by
    match ds, r, q with
    | [], _, q => exact q.elim
    | [_], _, q => exact q.elim
    | _ :: _ :: _ :: _, _, q => exact q.elim
    | [d1, d2], r, q =>
      obtain ⟨v, w, rfl, r1, r2⟩ := reps2 r
      exact ⟨v, w, rfl, q ρ1 H1 _ (Fr.refl _ _) R1 (((he.fr R.free f1).set i r1).set j r2)⟩⟩
/-- name op= e on ints -/
def sAug (i : Nat) (f : Int → Int → Int) (m : ME) : MS := fun e S => match e[i]? with
  | some (some (.int a)) => (m e S).st e fun d S1 => match d with
    | .int b => some (.nx, e.set i (some (.int (f a b))), S1)
    | _ => none
  | _ => none
theorem sm_aug {op : Operator} {f : Int → Int → Int} (ho : PIp X op (ipI f)) (hN : X.N.Nodup) (hi : X.N[i]? = some x) (hx : Loc X.env.scope x) (h : EM X W e m) (hf : X.fn x = true ∨ X.env.scope.names.lookup x = some .local := by first | exact .inl rfl | exact .inr rfl | assumption) :
    SM X W (.AugAssign (.Name x pos') op e pos) (sAug i f m) :=
  ps_imp (ps_aug hN hi hx h ho hf) fun Dn σ H ⟨ρ, e, S, he, R, q⟩ => by
    unfold sAug at q
    split at q
    · rename_i a hk
      obtain ⟨v, h1, r1⟩ := he.2 i _ hk
      cases r1
      refine ⟨.int a, h1, ρ, e, S, he, R, (PostS.st R he q).mono fun d S1 ρ1 H1 f1 R1 q v r => ?_⟩
      cases d with
      | int b => cases r; exact ⟨a, b, rfl, rfl, q ρ1 H1 _ (Fr.refl _ _) R1 ((he.fr R.free f1).set i (.int _))⟩
      | _ => exact q.elim
    · exact q.elim
/-- o[i] = e on a list of the store -/
def sPut (mo mi me : ME) : MS := fun e S => (me e S).st e fun d S1 => (mo e S1).st e fun o S2 => (mi e S2).st e fun i S3 => match o, i with
  | .loc n, .int k => match S3[n]? with
    | some (.lst xs) => match ixN xs.length k with
      | some j => some (.nx, e, S3.set n (.lst (xs.set j d)))
      | none => none
    | none => none
  | _, _ => none
end
end M


set_option Elab.async false
set_option linter.all false
set_option maxRecDepth 100000
set_option maxHeartbeats 4000000
namespace M
open PySem PySem.Spec PyProof.Rows L2 RZ
variable [Tabs]

section
variable {X : Cx} {W : WX} {tg e a b c : Expr} {es : List Expr} {g : MG} {sl : List Nat} {x : Str} {pos pos' : Pos} {m ma mb mo mi me : ME} {t : MT} {sa sb : MS} {st : Stmt} {p q rest : List Stmt} {i : Nat}
theorem sm_put {o i : Expr} (ho : EM X W o mo) (hi : EM X W i mi) (he : EM X W e me) (hs : swapsWithSole [.Subscript o i pos'] e pos.line X.env = pure false := by rfl) (hw : swappedStores [.Subscript o i pos'] e X.env = pure none := by rfl)
    (h1 : (assignEach [.Subscript o i pos'] X.env).map (·.2) = [assign (.Subscript o i pos') X.env] := by rfl)
    (ha : ∀ v, assign (.Subscript o i pos') X.env v = (do
      let ov ← holding [v] (eval o X.env)
      let iv ← holding [v, ov] (eval i X.env)
      standAt pos'
      holding [v, ov, iv] (setItem ov iv v)
      release [v, ov, iv] []) := by intro _; rfl) : SM X W (.Assign [.Subscript o i pos'] e pos) (sPut mo mi me) :=
  ps_imp (ps_asg he (pg_sub ho hi set_list ha) hs hw h1) fun Dn σ H ⟨ρ, e, S, he, R, q⟩ => ⟨ρ, e, S, he, R, (PostS.st R he q).mono fun d S1 ρ1 H1 f1 R1 q v r =>
    ⟨ρ1, e, S1, he.fr R.free f1, R1, (PostS.st R1 (he.fr R.free f1) q).mono fun o S2 ρ2 H2 f2 R2 q vo ro =>
      ⟨ρ2, e, S2, (he.fr R.free f1).fr R1.free f2, R2, (PostS.st R2 ((he.fr R.free f1).fr R1.free f2) q).mono fun i S3 ρ3 H3 f3 R3 q vi ri => by
        have r3 := RepD.fr R2.free f3 _ _ (RepD.fr R1.free f2 _ _ r)
        have ro3 := RepD.fr R2.free f3 _ _ ro
        cases o with
        | loc n =>
          cases i with
          | int k =>
            dsimp only at q
            cases hn : S3[n]? with
            | none => rw [hn] at q; exact q.elim
            | some ob =>
              cases ob with
              | lst xs =>
                rw [hn] at q
                cases hk : ixN xs.length k with
                | none => simp only [hk] at q; exact q.elim
                | some j =>
                  simp only [hk] at q
                  cases ri
                  obtain ⟨p, ws, rfl, ha, hH, rx⟩ := loc_at R3 ro3 hn
                  have mp : p ∈ ρ3.l := List.mem_of_getElem? ha
                  have f4 : Fr ρ3 H3 ρ3 (upd H3 p (.lst (ws.set j v))) := Fr.put mp
                  exact ⟨p, ws, k, j, rfl, rfl, hH, by rw [← rx.length]; exact hk, q ρ3 _ σ f4 (R3.put ha (RepDs.set r3 j rx)) ((((he.fr R.free f1).fr R1.free f2).fr R2.free f3).fr R3.free f4)⟩
          | _ => exact q.elim
        | _ => exact q.elim⟩⟩⟩
end

/-! ### sources -/
structure Src where
  xs : List D
  w : List (Nat × List D)
def Src.ok (s : Src) (S : Store) : Prop := ∀ p ∈ s.w, S[p.1]? = some (.lst p.2)
@[simp] theorem Src.ok_nil (xs : List D) (S : Store) : (Src.mk xs []).ok S := fun p h => by simp at h
structure JOk (K : PySem.W.Frag) (src : Src) (J : It) (ρ : Rh) (H : Hp) : Prop where
  go : ∀ ρ' H' S' i d, FrH ρ H ρ' H' → Rel K ρ' H' S' → src.ok S' → src.xs[i]? = some d → J.go i H' ∧ ∀ x H'', J.yld i H' x H'' → Fr ρ' H' ρ' H'' ∧ Rel K ρ' H'' S' ∧ RepD K ρ' H'' d x
  stop : ∀ ρ' H' S', FrH ρ H ρ' H' → Rel K ρ' H' S' → src.ok S' → J.stop src.xs.length H'
abbrev MI := Env → Store → Res Src
def tI (K : PySem.W.Frag) (mg : Str → Option Value) (W : WX) (m : MI) : TI := fun σ H R => ∃ ρ e S, EnvRel K ρ H σ e ∧ Rel K ρ H S ∧ Post K mg W (fun src S' ρ' H' => ∀ J, JOk K src J ρ' H' → R J H') ρ H σ (m e S)
abbrev IM (X : Cx) (W : WX) (tg e : Expr) (m : MI) : Prop := PI X tg e (tI X.K X.mg W m)
theorem pi_imp {X : Cx} {tg e : Expr} {t t' : TI} (h : PI X tg e t) (i : ∀ σ H Q, t' σ H Q → t σ H Q) : PI X tg e t' := ⟨fun pins s σ H Q I q => h.run pins s σ H Q I (i _ _ _ q)⟩
/-- from a Walk whose items are there, the heap as it was -/
theorem jok_at {K : PySem.W.Frag} {src : Src} {J : It} {ρ : Rh} {H : Hp} {n : Nat} (G : Hp → Prop) {Y : Nat → Hp → V → Hp → Prop} (w : Walk J n G Y) (hn : src.xs.length = n)
    (hG : ∀ ρ' H' S', FrH ρ H ρ' H' → Rel K ρ' H' S' → src.ok S' → G H')
    (hy : ∀ ρ' H' S' i d x H'', FrH ρ H ρ' H' → Rel K ρ' H' S' → src.ok S' → src.xs[i]? = some d → Y i H' x H'' → H'' = H' ∧ RepD K ρ' H' d x) : JOk K src J ρ H where
  go := fun ρ' H' S' i d f R ok hd => by
    have hi : i < n := by rw [← hn]; exact (List.getElem?_eq_some_iff.mp hd).1
    refine ⟨w.goes i H' hi (hG ρ' H' S' f R ok), fun x H'' y => ?_⟩
    obtain ⟨rfl, r⟩ := hy ρ' H' S' i d x H'' f R ok hd (w.yields i H' x H'' hi (hG ρ' H' S' f R ok) y)
    exact ⟨Fr.refl _ _, R, r⟩
  stop := fun ρ' H' S' f R ok => by rw [hn]; exact w.stops H' (hG ρ' H' S' f R ok)
/-- .. items in new pairs -/
theorem jok_pair {K : PySem.W.Frag} {src : Src} {J : It} {ρ : Rh} {H : Hp} {n : Nat} (G : Hp → Prop) {f1 f2 : Nat → Option V} (w : Walk J n G (YPair f1 f2)) (hn : src.xs.length = n)
    (hG : ∀ ρ' H' S', FrH ρ H ρ' H' → Rel K ρ' H' S' → src.ok S' → G H')
    (hy : ∀ ρ' H' S' i d x y, FrH ρ H ρ' H' → Rel K ρ' H' S' → src.ok S' → src.xs[i]? = some d → f1 i = some x → f2 i = some y → ∃ d1 d2, d = .tup [d1, d2] ∧ RepD K ρ' H' d1 x ∧ RepD K ρ' H' d2 y) : JOk K src J ρ H where
  go := fun ρ' H' S' i d f R ok hd => by
    have hi : i < n := by rw [← hn]; exact (List.getElem?_eq_some_iff.mp hd).1
    refine ⟨w.goes i H' hi (hG ρ' H' S' f R ok), fun v H'' yy => ?_⟩
    obtain ⟨T, x, y, rfl, hT, rfl, e1, e2⟩ := w.yields i H' v H'' hi (hG ρ' H' S' f R ok) yy
    obtain ⟨d1, d2, rfl, r1, r2⟩ := hy ρ' H' S' i d x y f R ok hd e1 e2
    exact ⟨Fr.laid hT, R.laid hT, .tup (SqT.of upd_same) (RepDs.fr R.free (Fr.laid hT) _ _ (.cons r1 (.cons r2 .nil)))⟩
  stop := fun ρ' H' S' f R ok => by rw [hn]; exact w.stops H' (hG ρ' H' S' f R ok)

/-- the items of a list, a tuple, a text -/
def strItems (s : Str) : List D := s.cps.toList.map fun c => .str ⟨#[c]⟩
def srcOf (S : Store) : D → Option Src
  | .tup xs => some ⟨xs, []⟩
  | .lst xs => some ⟨xs, []⟩
  | .fro xs => some ⟨xs, []⟩
  | .loc n => match S[n]? with
    | some (.lst xs) => some ⟨xs, [(n, xs)]⟩
    | _ => none
  | .str s => some ⟨strItems s, []⟩
  | _ => none
/-- a list that d is stands as it did -/
structure Stands (K : PySem.W.Frag) (xs : List D) (w : List (Nat × List D)) (a : Addr) (ρ : Rh) (H : Hp) : Prop where
  at_ : ∀ ρ' H' S', FrH ρ H ρ' H' → Rel K ρ' H' S' → (∀ p ∈ w, S'[p.1]? = some (.lst p.2)) → ∃ vs, SqL K H' a vs ∧ RepDs K ρ' H' xs vs
theorem frh_rd {ρ ρ' : Rh} {H H' : Hp} (f : FrH ρ H ρ' H') {a : Addr} {ws : List V} (h : Rd H a (.lst ws)) (n : a ∉ ρ.l) : Rd H' a (.lst ws) := (rd_fr (ρ := ⟨ρ.l, ρ'.h⟩) f.fr h n).1
theorem FrH.at_ {ρ ρ' : Rh} {H H' : Hp} (f : FrH ρ H ρ' H') {n : Nat} {a : Addr} (h : ρ.l[n]? = some a) : ρ'.l[n]? = some a := Fr.at_ (ρ := ⟨ρ.l, ρ'.h⟩) f.fr h
def watch : D → List D → List (Nat × List D)
  | .loc n, xs => [(n, xs)]
  | _, _ => []
theorem stands_of {K : PySem.W.Frag} {ρ : Rh} {H : Hp} {S : Store} {d : D} {v : V} {xs : List D} (R : Rel K ρ H S) (r : RepD K ρ H d v) (e : lstOf S d = some xs) : ∃ a, v = .ref a ∧ Stands K xs (watch d xs) a ρ H := by
  cases d <;> simp only [lstOf] at e <;> try cases e
  case lst =>
    cases r with
    | lst a b b' c => exact ⟨_, rfl, ⟨fun ρ' H' S' f R' _ => ⟨_, .inl (frh_rd f (Rd.of a) b), RepDs.frh R.free f _ _ c⟩⟩⟩
  case fro =>
    cases r with
    | fro a b b' c => exact ⟨_, rfl, ⟨fun ρ' H' S' f R' _ => ⟨_, .inl (frh_rd f a b), RepDs.frh R.free f _ _ c⟩⟩⟩
    | frk a c => exact ⟨_, rfl, ⟨fun ρ' H' S' f R' _ => ⟨_, .inr a, RepDs.frh R.free f _ _ c⟩⟩⟩
  case loc n =>
    cases r with
    | loc ha =>
      split at e
      · rename_i ys hs
        cases e
        refine ⟨_, rfl, ⟨fun ρ' H' S' f R' hw => ?_⟩⟩
        obtain ⟨vs, q, rr⟩ := R'.at_ n _ _ (hw (n, xs) (by simp [watch])) (f.at_ ha)
        exact ⟨vs, .inl (.inl q), rr⟩
      · cases e
theorem jok_list {K : PySem.W.Frag} {ρ : Rh} {H : Hp} {S : Store} {a : Addr} {xs : List D} {w : List (Nat × List D)} (R : Rel K ρ H S) (hw : ∀ p ∈ w, S[p.1]? = some (.lst p.2)) (st : Stands K xs w a ρ H) : JOk K ⟨xs, w⟩ (Itl K a) ρ H where
  go := fun ρ' H' S' i d f R' ok hd => by
    obtain ⟨vs, q, r⟩ := st.at_ ρ' H' S' f R' ok
    obtain ⟨v, hv, rv⟩ := r.get hd
    refine ⟨⟨vs, v, q, hv⟩, fun x H'' y => ?_⟩
    obtain ⟨rfl, y⟩ := y
    have := y vs q
    rw [hv] at this; cases this
    exact ⟨Fr.refl _ _, R', rv⟩
  stop := fun ρ' H' S' f R' ok => by
    obtain ⟨vs, q, r⟩ := st.at_ ρ' H' S' f R' ok
    exact ⟨vs, q, by rw [← r.length]; exact Nat.le_refl _⟩
theorem sqt_frh {K : PySem.W.Frag} {ρ ρ' : Rh} {H H' : Hp} (F : Free ρ H) (f : FrH ρ H ρ' H') {a : Addr} {vs : List V} (h : SqT K H a vs) : SqT K H' a vs := sqt_fr (ρ := ⟨ρ.l, ρ'.h⟩) F f.fr h
theorem jok_tup {K : PySem.W.Frag} {ρ : Rh} {H : Hp} {S : Store} {a : Addr} {vs : List V} {xs : List D} (R : Rel K ρ H S) (q : SqT K H a vs) (r : RepDs K ρ H xs vs) : JOk K ⟨xs, []⟩ (Itt K a) ρ H :=
  jok_at (fun H' => SqT K H' a vs) walk_tup r.length (fun ρ' H' S' f R' ok => sqt_frh R.free f q) fun ρ' H' S' i d x H'' f R' ok hd y => by
    obtain ⟨rfl, y⟩ := y
    obtain ⟨v, hv, rv⟩ := (RepDs.frh R.free f _ _ r).get hd
    rw [hv] at y; cases y
    exact ⟨rfl, rv⟩
theorem jok_str {K : PySem.W.Frag} {ρ : Rh} {H : Hp} (s : Str) : JOk K ⟨strItems s, []⟩ (Its s) ρ H :=
  jok_at (fun _ => True) walk_str (by simp [strItems]) (fun _ _ _ _ _ _ => trivial) fun ρ' H' S' i d x H'' f R' ok hd y => by
    obtain ⟨rfl, c, hc, rfl⟩ := y
    have : d = .str ⟨#[c]⟩ := by
      simp only [strItems, List.getElem?_map, Array.getElem?_toList, hc, Option.map_some, Option.some.injEq] at hd
      exact hd.symm
    subst this
    exact ⟨rfl, .str _⟩
/-- whatever of the three it is -/
def iAny (K : PySem.W.Frag) (tl : TE) : TI := fun σ H R => tl σ H fun x H1 => (∃ a xs, x = .ref a ∧ SqL K H1 a xs ∧ R (Itl K a) H1) ∨ (∃ a xs, x = .ref a ∧ SqT K H1 a xs ∧ R (Itt K a) H1) ∨ ∃ s, x = .str s ∧ R (Its s) H1
theorem pi_any {X : Cx} {tg l : Expr} {tl : TE} (hl : PE X l tl) : PI X tg l (iAny X.K tl) := by
  refine ⟨fun pins s σ H R I h => ?_⟩
  refine thn (hl.run pins s σ H _ I h) fun v s1 ⟨x, H1, I1, r1, q1⟩ => ?_
  rcases q1 with ⟨a, xs, e, hq, q⟩ | ⟨a, xs, e, hq, q⟩ | ⟨z, e, q⟩
  · subst e
    cases r1
    obtain ⟨its, rv, p, hz⟩ := I1.list hq
    exact wpAny_pyIter_list p.isList (pi_one (tk := s1.toks) I1 _ (turn_list a _) ⟨_, Heap.get?_push_size _ rfl, rfl, rfl⟩ q)
  · subst e
    cases r1
    obtain ⟨its, rv, p, hz⟩ := I1.tuple hq
    exact wpAny_pyIter_tuple (show s1.heap.IsTuple a its.toArray from p) (pi_one (tk := s1.toks) I1 _ (turn_tuple a _) ⟨_, Heap.get?_push_size _ rfl, rfl, rfl⟩ q)
  · subst e
    obtain ⟨t, rfl⟩ := r1
    cases ha : z.cps.all (· < 128)
    · exact wpAny_pyIter_wide ha (pi_one (tk := s1.toks) I1 _ (turn_str _ z t "str_iterator" (.inr rfl)) ⟨_, Heap.get?_push_size _ rfl, rfl, rfl⟩ q)
    · exact wpAny_pyIter_ascii ha (pi_one (tk := s1.toks) I1 _ (turn_str _ z t "str_ascii_iterator" (.inl rfl)) ⟨_, Heap.get?_push_size _ rfl, rfl, rfl⟩ q)
def mSrc (m : ME) : MI := fun e S => (m e S).bind fun d S1 => .of (srcOf S1 d) S1
theorem srcOf_list {S : Store} {d : D} {src : Src} (h : srcOf S d = some src) (nt : ∀ ys, d ≠ .tup ys) (ns : ∀ s, d ≠ .str s) : lstOf S d = some src.xs ∧ src.w = watch d src.xs ∧ src.ok S := by
  cases d <;> simp only [srcOf] at h <;> try cases h
  case tup => exact absurd rfl (nt _)
  case lst => exact ⟨rfl, rfl, Src.ok_nil _ _⟩
  case fro => exact ⟨rfl, rfl, Src.ok_nil _ _⟩
  case str => exact absurd rfl (ns _)
  case loc n =>
    split at h
    · rename_i xs hs
      cases h
      refine ⟨by simp only [lstOf, hs], rfl, fun p hp => ?_⟩
      simp at hp; subst hp; exact hs
    · cases h
theorem im_any {X : Cx} {W : WX} {tg e : Expr} {m : ME} (he : EM X W e m) : IM X W tg e (mSrc m) :=
  pi_imp (pi_any he) fun σ H R' ⟨ρ, e, S, he, R, q⟩ => ⟨ρ, e, S, he, R, (Post.bind q).mono fun d S1 ρ1 H1 f1 R1 q v r => by
    cases hk : srcOf S1 d with
    | none => rw [hk] at q; exact q.elim
    | some src =>
      rw [hk] at q
      have q := q ρ1 H1 (Fr.refl _ _) R1
      by_cases ht : ∃ ys, d = .tup ys
      · obtain ⟨ys, rfl⟩ := ht
        cases hk
        cases r with
        | tup hs rd => exact .inr (.inl ⟨_, _, rfl, hs, q _ (jok_tup R1 hs rd)⟩)
      · by_cases hs : ∃ s, d = .str s
        · obtain ⟨s, rfl⟩ := hs
          cases hk
          cases r
          exact .inr (.inr ⟨s, rfl, q _ (jok_str s)⟩)
        · obtain ⟨h1, h2, h3⟩ := srcOf_list hk (fun ys z => ht ⟨ys, z⟩) fun s z => hs ⟨s, z⟩
          obtain ⟨a, rfl, st⟩ := stands_of R1 r h1
          obtain ⟨vs, hq, _⟩ := st.at_ ρ1 H1 S1 .refl R1 (by rw [← h2]; exact h3)
          refine .inl ⟨a, vs, rfl, hq, q _ ?_⟩
          have := jok_list R1 (by rw [← h2]; exact h3) st
          have es : (⟨src.xs, watch d src.xs⟩ : Src) = src := by rw [← h2]
          rw [es] at this
          exact this⟩
/-! ranges -/
def rng (lo : Int) (n : Nat) : List D := (List.range n).map fun (i : Nat) => .int (lo + (i : Int))
def rngC (lo c : Int) (n : Nat) : List D := (List.range n).map fun (i : Nat) => .int (lo + (i : Int) * c)
def inR (i : Int) : Bool := decide (-(2 ^ 62) ≤ i ∧ i < 2 ^ 62)
def srcR1 : List D → Store → Option Src
  | [.int j], _ => if inR j then some ⟨rng 0 j.toNat, []⟩ else none
  | _, _ => none
def srcR2 : List D → Store → Option Src
  | [.int i, .int j], _ => if inR i && inR j then some ⟨rng i (j - i).toNat, []⟩ else none
  | _, _ => none
def mSrcA (f : List D → Store → Option Src) (m : MA) : MI := fun e S => (m e S).bind fun ds S1 => .of (f ds S1) S1
theorem jok_rng {K : PySem.W.Frag} {ρ : Rh} {H : Hp} (lo : Int) (n : Nat) : JOk K ⟨rng lo n, []⟩ (Itr lo n) ρ H :=
  jok_at (fun _ => True) walk_range (by simp [rng]) (fun _ _ _ _ _ _ => trivial) fun ρ' H' S' i d x H'' f R' ok hd y => by
    obtain ⟨rfl, rfl⟩ := y
    have hi : i < n := by have := (List.getElem?_eq_some_iff.mp hd).1; simpa [rng] using this
    simp only [rng, List.getElem?_map, List.getElem?_range hi, Option.map_some, Option.some.injEq] at hd
    subst hd
    exact ⟨rfl, .int _⟩
section
variable {X : Cx} {W : WX} {tg a b c e : Expr} {m : MA} {p pos : Pos}
theorem tA_src {f : List D → Store → Option Src} {σ : L2.St} {H : Hp} {R' : It → Hp → Prop} {u : List V → Hp → Prop}
    (hu : ∀ ρ H ds vs S src, Rel X.K ρ H S → RepDs X.K ρ H ds vs → f ds S = some src → (∀ J, JOk X.K src J ρ H → R' J H) → u vs H)
    (h : tI X.K X.mg W (mSrcA f m) σ H R') : tA X.K X.mg W m σ H u := by
  obtain ⟨ρ, e, S, he, R, q⟩ := h
  exact ⟨ρ, e, S, he, R, (Post.bind q).mono fun ds S1 ρ1 H1 f1 R1 q vs r => by
    cases hk : f ds S1 with
    | none => rw [hk] at q; exact q.elim
    | some src => rw [hk] at q; exact hu ρ1 H1 ds vs S1 src R1 r hk (q ρ1 H1 (Fr.refl _ _) R1)⟩
theorem im_range1 (hg : Gl X "range") (hm : X.mg "range" = none) (ha : AM X W [a] m) (hs : starEach [a] X.env = [(false, eval a X.env)] := by rfl) : IM X W tg (.Call (.Name "range" p) [a] [] pos) (mSrcA srcR1 m) :=
  pi_imp (pi_range1 hg hm ha hs) fun σ H R' h => tA_src (fun ρ H ds vs S src R r hk q => by
    unfold srcR1 at hk
    split at hk
    · rename_i j
      split at hk
      · rename_i hj
        cases hk
        obtain ⟨v, rfl, r1⟩ := reps1 r
        cases r1
        simp only [inR, decide_eq_true_eq] at hj
        exact ⟨j, rfl, hj.1, hj.2, q _ (jok_rng 0 _)⟩
      · cases hk
    · cases hk) h
theorem im_range2 (hg : Gl X "range") (hm : X.mg "range" = none) (ha : AM X W [a, b] m) (hs : starEach [a, b] X.env = [(false, eval a X.env), (false, eval b X.env)] := by rfl) (hs2 : starEach [b] X.env = [(false, eval b X.env)] := by rfl) : IM X W tg (.Call (.Name "range" p) [a, b] [] pos) (mSrcA srcR2 m) :=
  pi_imp (pi_range2 hg hm ha hs hs2) fun σ H R' h => tA_src (fun ρ H ds vs S src R r hk q => by
    unfold srcR2 at hk
    split at hk
    · rename_i i j
      split at hk
      · rename_i hj
        cases hk
        obtain ⟨v, w, rfl, r1, r2⟩ := reps2 r
        cases r1
        cases r2
        simp only [inR, Bool.and_eq_true, decide_eq_true_eq] at hj
        exact ⟨i, j, rfl, ⟨hj.1.1, hj.1.2, hj.2.1, hj.2.2⟩, q _ (jok_rng i _)⟩
      · cases hk
    · cases hk) h
/-! zip, enumerate, reversed -/
def zipD : List D → List D → List D
  | x :: xs, y :: ys => .tup [x, y] :: zipD xs ys
  | _, _ => []
theorem zipD_length : ∀ (xs ys : List D), (zipD xs ys).length = min xs.length ys.length
  | [], _ => by simp [zipD]
  | _ :: _, [] => by simp [zipD]
  | _ :: xs, _ :: ys => by simp only [zipD, List.length_cons, zipD_length xs ys]; omega
theorem zipD_get : ∀ {xs ys : List D} {i : Nat} {d : D}, (zipD xs ys)[i]? = some d → ∃ x y, xs[i]? = some x ∧ ys[i]? = some y ∧ d = .tup [x, y]
  | [], _, _, _, h => by simp [zipD] at h
  | _ :: _, [], _, _, h => by simp [zipD] at h
  | x :: xs, y :: ys, 0, d, h => by simp [zipD] at h; exact ⟨x, y, rfl, rfl, h.symm⟩
  | x :: xs, y :: ys, i + 1, d, h => by
    simp only [zipD, List.getElem?_cons_succ] at h
    obtain ⟨a, b, h1, h2, h3⟩ := zipD_get h
    exact ⟨a, b, by simpa using h1, by simpa using h2, h3⟩
def srcZip : List D → Store → Option Src
  | [d1, d2], S => match d1, d2 with
    | .tup xs, .tup ys => some ⟨zipD xs ys, []⟩
    | d1, d2 => match lstOf S d1, lstOf S d2 with
      | some xs, some ys => some ⟨zipD xs ys, watch d1 xs ++ watch d2 ys⟩
      | _, _ => none
  | _, _ => none
theorem watch_ok {S : Store} {d : D} {xs : List D} (h : lstOf S d = some xs) : ∀ p ∈ watch d xs, S[p.1]? = some (.lst p.2) := by
  cases d <;> simp only [lstOf] at h <;> try cases h
  case lst => simp [watch]
  case fro => simp [watch]
  case loc n =>
    split at h
    · rename_i ys hs
      cases h
      intro p hp; simp [watch] at hp; subst hp; exact hs
    · cases h
theorem jok_zipL {K : PySem.W.Frag} {ρ : Rh} {H : Hp} {S : Store} {a b : Addr} {xs ys : List D} {w1 w2 : List (Nat × List D)} (s1 : Stands K xs w1 a ρ H) (s2 : Stands K ys w2 b ρ H) : JOk K ⟨zipD xs ys, w1 ++ w2⟩ (Itz K a b) ρ H where
  go := fun ρ' H' S' i d f R' ok hd => by
    obtain ⟨vs, q1, r1⟩ := s1.at_ ρ' H' S' f R' fun p hp => ok p (List.mem_append_left _ hp)
    obtain ⟨ws, q2, r2⟩ := s2.at_ ρ' H' S' f R' fun p hp => ok p (List.mem_append_right _ hp)
    obtain ⟨x, y, e1, e2, rfl⟩ := zipD_get hd
    obtain ⟨v, hv, rv⟩ := r1.get e1
    obtain ⟨w, hw, rw'⟩ := r2.get e2
    refine ⟨⟨vs, ws, v, w, q1, q2, hv, hw⟩, fun u H'' yy => ?_⟩
    obtain ⟨T, v', w', rfl, hT, rfl, y1, y2⟩ := yy
    have e3 := y1 vs q1
    have e4 := y2 ws q2
    rw [hv] at e3; cases e3
    rw [hw] at e4; cases e4
    exact ⟨Fr.laid hT, R'.laid hT, .tup (SqT.of upd_same) (RepDs.fr R'.free (Fr.laid hT) _ _ (.cons rv (.cons rw' .nil)))⟩
  stop := fun ρ' H' S' f R' ok => by
    obtain ⟨vs, q1, r1⟩ := s1.at_ ρ' H' S' f R' fun p hp => ok p (List.mem_append_left _ hp)
    obtain ⟨ws, q2, r2⟩ := s2.at_ ρ' H' S' f R' fun p hp => ok p (List.mem_append_right _ hp)
    refine ⟨vs, ws, q1, q2, ?_⟩
    have h1 := r1.length
    have h2 := r2.length
    show vs.length ≤ (zipD xs ys).length ∨ ws.length ≤ (zipD xs ys).length
    rw [zipD_length]; omega
theorem jok_zipT {K : PySem.W.Frag} {ρ : Rh} {H : Hp} {S : Store} {a b : Addr} {xs ys : List D} {vs ws : List V} (R : Rel K ρ H S) (q1 : SqT K H a vs) (r1 : RepDs K ρ H xs vs) (q2 : SqT K H b ws) (r2 : RepDs K ρ H ys ws) : JOk K ⟨zipD xs ys, []⟩ (ItzT K a b) ρ H where
  go := fun ρ' H' S' i d f R' ok hd => by
    obtain ⟨x, y, e1, e2, rfl⟩ := zipD_get hd
    obtain ⟨v, hv, rv⟩ := (RepDs.frh R.free f _ _ r1).get e1
    obtain ⟨w, hw, rw'⟩ := (RepDs.frh R.free f _ _ r2).get e2
    refine ⟨⟨vs, ws, v, w, sqt_frh R.free f q1, sqt_frh R.free f q2, hv, hw⟩, fun u H'' yy => ?_⟩
    obtain ⟨T, v', w', rfl, hT, rfl, y1, y2⟩ := yy
    have e3 := y1 vs (sqt_frh R.free f q1)
    have e4 := y2 ws (sqt_frh R.free f q2)
    rw [hv] at e3; cases e3
    rw [hw] at e4; cases e4
    exact ⟨Fr.laid hT, R'.laid hT, .tup (SqT.of upd_same) (RepDs.fr R'.free (Fr.laid hT) _ _ (.cons rv (.cons rw' .nil)))⟩
  stop := fun ρ' H' S' f R' ok => by
    refine ⟨vs, ws, sqt_frh R.free f q1, sqt_frh R.free f q2, ?_⟩
    have h1 := r1.length
    have h2 := r2.length
    show vs.length ≤ (zipD xs ys).length ∨ ws.length ≤ (zipD xs ys).length
    rw [zipD_length]; omega
theorem im_zip {elts : List Expr} {kk : Nat} {tpos : Pos} {e2 : Expr} (hg : Gl X "zip") (hm : X.mg "zip" = none) (ha : AM X W [e, e2] m)
    (hs : starEach [e, e2] X.env = (false, eval e X.env) :: starEach [e2] X.env := by rfl) (hpl : (backTo pos (starEach [e2] X.env)).any (·.1) = false := by rfl) : IM X W (.Tuple elts kk tpos) (.Call (.Name "zip" p) [e, e2] [] pos) (mSrcA srcZip m) :=
  pi_imp (pi_zipA hg hm ha hs hpl) fun σ H R' h => tA_src (fun ρ H ds vs S src R r hk q => by
    match ds, r, hk with
    | [], _, hk => cases hk
    | [_], _, hk => cases hk
    | _ :: _ :: _ :: _, _, hk => cases hk
    | [d1, d2], r, hk =>
      obtain ⟨v, w, rfl, r1, r2⟩ := reps2 r
      by_cases ht : ∃ xs ys, d1 = .tup xs ∧ d2 = .tup ys
      · obtain ⟨xs, ys, rfl, rfl⟩ := ht
        cases hk
        cases r1 with
        | tup h1 x1 =>
          cases r2 with
          | tup h2 x2 => exact ⟨_, _, _, _, rfl, .inr ⟨h1, h2, q _ (jok_zipT R h1 x1 h2 x2)⟩⟩
      · have hk : (match lstOf S d1, lstOf S d2 with
          | some xs, some ys => some (Src.mk (zipD xs ys) (watch d1 xs ++ watch d2 ys))
          | _, _ => none) = some src := by
          rw [← hk]
          cases d1 <;> cases d2 <;> first | rfl | exact absurd ⟨_, _, rfl, rfl⟩ ht
        cases h1 : lstOf S d1 with
        | none => rw [h1] at hk; cases hk
        | some xs =>
          cases h2 : lstOf S d2 with
          | none => rw [h1, h2] at hk; cases hk
          | some ys =>
            rw [h1, h2] at hk
            cases hk
            obtain ⟨a, rfl, st1⟩ := stands_of R r1 h1
            obtain ⟨b, rfl, st2⟩ := stands_of R r2 h2
            obtain ⟨vs1, q1, _⟩ := st1.at_ ρ H S .refl R (watch_ok h1)
            obtain ⟨vs2, q2, _⟩ := st2.at_ ρ H S .refl R (watch_ok h2)
            exact ⟨a, b, _, _, rfl, .inl ⟨q1, q2, q _ (jok_zipL (S := S) st1 st2)⟩⟩) h
end

/-! ### for -/
def stepF (r : Option (Fl × Env × Store)) (k : Env → Store → Option (Fl × Env × Store)) : Option (Fl × Env × Store) := match r with
  | some (.nx, e, S) => k e S
  | some (.ct, e, S) => k e S
  | some (.bk, e, S) => some (.nx, e, S)
  | r => r
open Classical in
noncomputable def forM (src : Src) (g : MG) (b : MS) : List D → MS
  | [], e, S => if src.ok S then some (.nx, e, S) else none
  | d :: ds, e, S => if src.ok S then (g d e S).bind fun e1 => stepF (b e1 S) (forM src g b ds) else none
noncomputable def sFor (mi : MI) (g : MG) (b : MS) : MS := fun e S => (mi e S).st e fun src S1 => forM src g b src.xs e S1
theorem PostS.step {K : PySem.W.Frag} {mg : Str → Option Value} {W : WX} {ρ : Rh} {H : Hp} {Dn : Ends} {k : Env → Store → Option (Fl × Env × Store)} {N : L2.St → Hp → Prop} {r : Option (Fl × Env × Store)} (q : PostS K mg W ρ H Dn (stepF r k))
    (hk : ∀ ρ' H' e S σ', Fr ρ H ρ' H' → Rel K ρ' H' S → EnvRel K ρ' H' σ' e → PostS K mg W ρ' H' Dn (k e S) → N σ' H') : PostS K mg W ρ H { Dn with nx := N, ct := N, bk := Dn.nx } r := by
  cases r with
  | none => exact q
  | some x =>
    obtain ⟨fl, e, S⟩ := x
    cases fl with
    | nx => exact fun ρ' H' σ' f R' he' => hk ρ' H' e S σ' f R' he' (PostS.fr f q)
    | ct => exact fun ρ' H' σ' f R' he' => hk ρ' H' e S σ' f R' he' (PostS.fr f q)
    | bk => exact q
    | rt d => exact q
    | ex c => exact q
section
variable {X : Cx} {W : WX} {tg iter c : Expr} {body : List Stmt} {mi : MI} {g : MG} {sl : List Nat} {sb : MS} {mt : MT} {pos : Pos}
theorem sm_for (hp : PassesOwn (model X.prog X.w) X.A X.env X.xe) (hc : X.calm = true) (hi : IM X W tg iter mi) (hg : GM X tg g sl) (hb : BM X W body sb) (hs : ∀ x, foldedSetIterable iter X.env x = pure x := by intro _; rfl) :
    SM X W (.For tg iter body [] pos) (sFor mi g sb) :=
  ps_imp (ps_for hp hc hi hg hb hs) fun Dn σ H ⟨ρ, e, S, he, R, q⟩ => ⟨ρ, e, S, he, R, (PostS.st R he q).mono fun src S1 ρ1 H1 f1 R1 q J hJ => by
    refine ⟨fun i m σ' H' => m = src.xs.length - i ∧ i ≤ src.xs.length ∧ ∃ ρ' e' S', Fr ρ1 H1 ρ' H' ∧ Rel X.K ρ' H' S' ∧ EnvRel X.K ρ' H' σ' e' ∧ PostS X.K X.mg W ρ' H' Dn (forM src g sb (src.xs.drop i) e' S'),
      ⟨_, rfl, Nat.zero_le _, ρ1, e, S1, Fr.refl _ _, R1, he.fr R.free f1, q⟩, ?_⟩
    rintro i m σ' H' ⟨rfl, hi, ρ', e', S', f, R', he', q⟩
    rcases Nat.lt_or_ge i src.xs.length with hlt | hge
    · rw [List.drop_eq_getElem_cons hlt] at q
      unfold forM at q
      by_cases hok : src.ok S'
      · rw [if_pos hok] at q
        obtain ⟨hgo, hy⟩ := hJ.go ρ' H' S' i _ (.of f) R' hok (List.getElem?_eq_getElem hlt)
        cases hgd : g src.xs[i] e' S' with
        | none => rw [hgd] at q; exact q.elim
        | some e1 =>
          rw [hgd] at q
          have q : PostS X.K X.mg W ρ' H' Dn (stepF (sb e1 S') (forM src g sb (src.xs.drop (i + 1)))) := q
          refine .inr ⟨hgo, fun σ2 H2 => i + 1 ≤ src.xs.length ∧ ∃ ρ' e' S', Fr ρ1 H1 ρ' H2 ∧ Rel X.K ρ' H2 S' ∧ EnvRel X.K ρ' H2 σ2 e' ∧ PostS X.K X.mg W ρ' H2 Dn (forM src g sb (src.xs.drop (i + 1)) e' S'),
            fun σ2 H2 n => ⟨src.xs.length - (i + 1), by omega, rfl, n⟩, fun x H'' yy => ?_⟩
          obtain ⟨f2, R2, r2⟩ := hy x H'' yy
          exact ⟨ρ', e', S', _, e1, he'.fr R'.free f2, R2, r2, hgd, fun σ2 he2 _ => ⟨ρ', e1, S', he2, R2, PostS.step (PostS.fr f2 q) fun ρ3 H3 e3 S3 σ3 f3 R3 he3 q3 =>
            ⟨hlt, ρ3, e3, S3, (f.trans f2).trans f3, R3, he3, q3⟩⟩⟩
      · rw [if_neg hok] at q; exact q.elim
    · have e0 : i = src.xs.length := by omega
      subst e0
      rw [List.drop_length] at q
      unfold forM at q
      by_cases hok : src.ok S'
      · rw [if_pos hok] at q
        exact .inl ⟨hJ.stop ρ' H' S' (.of f) R' hok, q ρ' H' σ' (Fr.refl _ _) R' he'⟩
      · rw [if_neg hok] at q; exact q.elim⟩
/-! ### while -/
def whileM (c : MT) (b : MS) : Nat → MS
  | 0, _, _ => none
  | n + 1, e, S => (c e S).st e fun t S1 => if t = true then stepF (b e S1) (whileM c b n) else some (.nx, e, S1)
def sWhile (n : Nat) (c : MT) (b : MS) : MS := whileM c b n
theorem sm_while (n : Nat) (hp : PassesOwn (model X.prog X.w) X.A X.env X.xe) (hc : TM X W c mt) (hb : BM X W body sb) : SM X W (.While c body [] pos) (sWhile n mt sb) :=
  ps_imp (ps_while hp hc hb) fun Dn σ H ⟨ρ, e, S, he, R, q⟩ => by
    refine ⟨fun m σ' H' => ∃ ρ' e' S', Rel X.K ρ' H' S' ∧ EnvRel X.K ρ' H' σ' e' ∧ PostS X.K X.mg W ρ' H' Dn (whileM mt sb m e' S'), ⟨n, ρ, e, S, R, he, q⟩, ?_⟩
    rintro m σ' H' ⟨ρ', e', S', R', he', q⟩
    cases m with
    | zero => exact q.elim
    | succ m =>
      unfold whileM at q
      refine ⟨ρ', e', S', he', R', (PostS.st R' he' q).mono fun t S1 ρ1 H1 f1 R1 q => ?_⟩
      cases t with
      | true =>
        rw [if_pos rfl] at q ⊢
        refine ⟨fun σ2 H2 => ∃ ρ' e' S', Rel X.K ρ' H2 S' ∧ EnvRel X.K ρ' H2 σ2 e' ∧ PostS X.K X.mg W ρ' H2 Dn (whileM mt sb m e' S'), fun σ2 H2 h => ⟨m, Nat.lt_succ_self _, h⟩, ρ1, e', S1, he'.fr R'.free f1, R1, PostS.step q fun ρ3 H3 e3 S3 σ3 f3 R3 he3 q3 => ⟨ρ3, e3, S3, R3, he3, q3⟩⟩
      | false =>
        rw [if_neg (by decide)] at q ⊢
        exact q ρ1 H1 σ' (Fr.refl _ _) R1 (he'.fr R'.free f1)
end
end M


set_option Elab.async false
set_option linter.all false
set_option maxRecDepth 100000
set_option maxHeartbeats 4000000
namespace M
open PySem PySem.Spec PyProof.Rows L2 RZ
variable [Tabs]

theorem Res.bind_assoc {α β γ : Type} (r : Res α) (f : α → Store → Res β) (g : β → Store → Res γ) : (r.bind f).bind g = r.bind fun a S => (f a S).bind g := by cases r <;> rfl
def noEx {α : Type} : Res α → Res α
  | .ok a S => .ok a S
  | _ => .bad
@[simp] theorem noEx_ok {α : Type} (a : α) (S : Store) : noEx (.ok a S) = .ok a S := rfl
@[simp] theorem noEx_ex {α : Type} (c : Str) (S : Store) : noEx (.ex c S : Res α) = .bad := rfl
@[simp] theorem noEx_bad {α : Type} : noEx (.bad : Res α) = .bad := rfl
/-- no exception -/
abbrev W0 : WX := fun _ _ _ _ => False
def wipeE (e : Env) : List Nat → Env
  | [] => e
  | v :: vs => (wipeE e vs).set v none
theorem wipeE_length (e : Env) : ∀ vs : List Nat, (wipeE e vs).length = e.length
  | [] => rfl
  | v :: vs => by unfold wipeE; rw [List.length_set, wipeE_length e vs]
theorem EnvRel.unset {K : PySem.W.Frag} {ρ : Rh} {H : Hp} {σ : L2.St} {e : Env} (h : EnvRel K ρ H σ e) (i : Nat) : EnvRel K ρ H (σ.set i none) (e.set i none) := by
  refine ⟨by simp [h.1], fun j d q => ?_⟩
  by_cases hj : i = j
  · subst hj
    have hi : i < e.length := by have := (List.getElem?_eq_some_iff.mp q).1; simpa using this
    rw [List.getElem?_set_self hi] at q; cases q
  · rw [List.getElem?_set_ne hj] at q
    rw [List.getElem?_set_ne hj]
    exact h.2 j d q
theorem EnvRel.wipe {K : PySem.W.Frag} {ρ : Rh} {H : Hp} {σ : L2.St} {e : Env} (h : EnvRel K ρ H σ e) : ∀ vs, EnvRel K ρ H (wipe σ vs) (wipeE e vs)
  | [] => h
  | v :: vs => (EnvRel.wipe h vs).unset v

theorem wipe_wipe {σ : L2.St} {vs : List Nat} : ∀ {us : List Nat}, (∀ i ∈ us, i ∈ vs) → wipe (wipe σ us) vs = wipe σ vs
  | [], _ => rfl
  | u :: us, h => by
    have e : wipe σ (u :: us) = (wipe σ us).set u none := rfl
    rw [e, wipe_set (h u (by simp)), wipe_wipe fun i hi => h i (List.mem_cons_of_mem _ hi)]
/-! ### what stands in a hidden list does not matter -/
section
variable {K : PySem.W.Frag} {ρ : Rh} {H : Hp} {p : Addr} {us ws : List V}
theorem sqt_ne {a : Addr} {vs : List V} {o : HO} (hp : H p = some (.lst us)) (h : SqT K H a vs) : SqT K (upd H p o) a vs := by
  rcases h with (h | ⟨q, h⟩) | h
  · exact .inl (.inl (by rw [upd_ne (fun z => by rw [z, hp] at h; cases h)]; exact h))
  · exact .inl (.inr ⟨q, by rw [upd_ne (fun z => by rw [z, hp] at h; cases h)]; exact h⟩)
  · exact .inr h
mutual
theorem RepD.putH (hp : H p = some (.lst us)) (mh : p ∈ ρ.h) : ∀ (d : D) (v : V), RepD K ρ H d v → RepD K ρ (upd H p (.lst ws)) d v
  | .non, _, h => by cases h; exact .non
  | .bl b, _, h => by cases h; exact .bl b
  | .int i, _, h => by cases h; exact .int i
  | .str x, _, h => by cases h; exact .str x
  | .tup ds, _, h => by
    cases h with
    | tup hs hd => exact .tup (sqt_ne hp hs) (RepDs.putH hp mh ds _ hd)
  | .lst ds, _, h => by
    cases h with
    | @lst a vs _ hs hn hh hd =>
      have ne : a ≠ p := fun z => hh (by rw [z]; exact mh)
      exact .lst (by rw [upd_ne ne]; exact hs) hn hh (RepDs.putH hp mh ds _ hd)
  | .fro ds, _, h => by
    cases h with
    | @fro a vs _ hs hn hh hd =>
      have ne : a ≠ p := fun z => hh (by rw [z]; exact mh)
      exact .fro (by
        rcases hs with hs | ⟨o, hs⟩
        · exact .inl (by rw [upd_ne ne]; exact hs)
        · exact .inr ⟨o, by rw [upd_ne ne]; exact hs⟩) hn hh (RepDs.putH hp mh ds _ hd)
    | frk hk hd => exact .frk hk (RepDs.putH hp mh ds _ hd)
  | .loc n, _, h => by
    cases h with
    | loc e => exact .loc e
  | .ref a, _, h => by cases h; exact .ref a
  | .ty n, _, h => by cases h; exact .ty n
theorem RepDs.putH (hp : H p = some (.lst us)) (mh : p ∈ ρ.h) : ∀ (ds : List D) (vs : List V), RepDs K ρ H ds vs → RepDs K ρ (upd H p (.lst ws)) ds vs
  | [], _, h => by cases h; exact .nil
  | d :: ds, _, h => by
    cases h with
    | cons h1 h2 => exact .cons (RepD.putH hp mh d _ h1) (RepDs.putH hp mh ds _ h2)
end
theorem Rel.putH {S : Store} (r : Rel K ρ H S) (hp : H p = some (.lst us)) (mh : p ∈ ρ.h) (hn : p ∉ ρ.l) : Rel K ρ (upd H p (.lst ws)) S :=
  ⟨r.len, r.nd, fun n o a e1 e2 => by
    have q := r.at_ n o a e1 e2
    have ne : a ≠ p := fun z => hn (z ▸ List.mem_of_getElem? e2)
    cases o with
    | lst ds => obtain ⟨vs, h1, h2⟩ := q; exact ⟨vs, by rw [upd_ne ne]; exact h1, RepDs.putH hp mh _ _ h2⟩,
   fun a m => by
    by_cases e : a = p
    · exact ⟨ws, by rw [e, upd_same]⟩
    · obtain ⟨vs, h1⟩ := r.hid a m
      exact ⟨vs, by rw [upd_ne e]; exact h1⟩,
   fun a m => by
    exact tabN_upd (r.tab a m) fun o' e => by rw [hp] at e; exact ⟨us, (Option.some.inj e).symm⟩⟩
theorem EnvRel.putH {σ : L2.St} {e : Env} (r : EnvRel K ρ H σ e) (hp : H p = some (.lst us)) (mh : p ∈ ρ.h) : EnvRel K ρ (upd H p (.lst ws)) σ e := ⟨r.1, fun i d q => let ⟨v, a, b⟩ := r.2 i d q; ⟨v, a, RepD.putH hp mh d v b⟩⟩
end

/-! ### the mirror -/
open Classical in
noncomputable def lcM (src : Src) (g : MG) (mt : MT) (me : ME) (e : Env) : List D → Store → Res (List D)
  | [], S => if src.ok S then .ok [] S else .bad
  | d :: ds, S => if src.ok S then match g d e S with
    | some e1 => (noEx (mt e1 S)).bind fun b S2 => if b = true then (noEx (me e1 S2)).bind fun y S3 => (lcM src g mt me e ds S3).bind fun ys S4 => .ok (y :: ys) S4 else lcM src g mt me e ds S2
    | none => .bad else .bad
noncomputable def mLc (mi : MI) (g : MG) (mt : MT) (me : ME) (vs : List Nat) : MA := fun e S => (mi e S).bind fun src S1 => if src.xs.length ≤ sizeLine then lcM src g mt me (wipeE e vs) src.xs S1 else .bad
def mYes : MT := fun _ S => .ok true S
abbrev TsM (X : Cx) (ifs : List Expr) (mt : MT) : Prop := PTs X ifs (tT X.K X.mg W0 mt)
theorem ptsm_nil {X : Cx} : TsM X [] mYes := ⟨fun pins s σ H Q I ⟨ρ, e, S, he, R, q⟩ => pts_nil.run pins s σ H Q I (q ρ H (Fr.refl _ _) R)⟩
theorem ptsm_one {X : Cx} {c : Expr} {mt : MT} (h : TM X W0 c mt) : TsM X [c] mt := pts_one h
section
variable {X : Cx} {W : WX} {mi : MI} {g : MG} {sl : List Nat} {mt : MT} {me : ME} {wi : TI}
theorem noEx_post {α : Type} {K : PySem.W.Frag} {mg : Str → Option Value} {P : α → Store → Rh → Hp → Prop} {ρ : Rh} {H : Hp} {σ : L2.St} {r : Res α} (h : ∀ a S, r = .ok a S → ∀ ρ' H', Fr ρ H ρ' H' → Rel K ρ' H' S → P a S ρ' H') (nb : ∃ a S, r = .ok a S) : Post K mg W0 P ρ H σ r := by
  obtain ⟨a, S, rfl⟩ := nb
  exact h a S rfl
theorem lc_imp {vs : List Nat} (hsl : ∀ i ∈ sl, i ∈ vs) {σ : L2.St} {H : Hp} {Q : VK} (h : tN X.K X.mg W (mLc mi g mt me vs) σ H Q) :
    tLc (tI X.K X.mg W mi) (tG X.K g sl) (tT X.K X.mg W0 mt) (tE X.K X.mg W0 me) vs σ H Q := by
  obtain ⟨ρ, e, S, he, R, q⟩ := h
  refine ⟨ρ, e, S, he, R, (PostN.bind q).mono fun src S1 ρ1 H1 f1 R1 q J hJ Dl hD => ?_⟩
  by_cases hz : src.xs.length ≤ sizeLine
  case neg => rw [if_neg hz] at q; exact q.elim
  rw [if_pos hz] at q
  have he1 := he.fr R.free f1
  have hDl := R1.newh hD
  -- the invariant
  let Iv : Nat → Hp → Prop := fun i H' => i ≤ src.xs.length ∧ ∃ ρ' S' accD accV, Fr ρ1 H1 ρ' H' ∧ Rel X.K (ρ'.hide Dl) H' S' ∧ Dl ∉ ρ'.l ∧ H' Dl = some (.lst accV) ∧ RepDs X.K (ρ'.hide Dl) H' accD accV ∧ accD.length ≤ i ∧
    PostN X.K X.mg W ρ1 H1 σ Q ((lcM src g mt me (wipeE e vs) (src.xs.drop i) S').bind fun ys S3 => .ok (accD ++ ys) S3)
  refine ⟨fun i m H' => m = src.xs.length - i ∧ Iv i H', ⟨_, rfl, Nat.zero_le _, ρ1, S1, [], [], Fr.laid hD, R1.laidH hD, hDl.1, upd_same, .nil, Nat.le_refl _, ?_⟩, ?_⟩
  · have e0 : (lcM src g mt me (wipeE e vs) (src.xs.drop 0) S1).bind (fun ys S3 => .ok ([] ++ ys) S3) = lcM src g mt me (wipeE e vs) src.xs S1 := by
      rw [List.drop_zero]
      cases lcM src g mt me (wipeE e vs) src.xs S1 <;> rfl
    rw [e0]; exact q
  rintro i m H' ⟨rfl, hi, ρ', S', accD, accV, f, R', hn, hH, rx, hl, q⟩
  have fh : FrH ρ1 H1 (ρ'.hide Dl) H' := .hide f hD
  rcases Nat.lt_or_ge i src.xs.length with hlt | hge
  · rw [List.drop_eq_getElem_cons hlt] at q
    unfold lcM at q
    by_cases hok : src.ok S'
    case neg => rw [if_neg hok] at q; exact q.elim
    rw [if_pos hok] at q
    obtain ⟨hgo, hy⟩ := hJ.go _ H' S' i _ fh R' hok (List.getElem?_eq_getElem hlt)
    refine .inr ⟨hgo, Iv (i + 1), fun H2 n => ⟨src.xs.length - (i + 1), by omega, rfl, n⟩, fun x H'' yy => ?_⟩
    obtain ⟨f2, R2, r2⟩ := hy x H'' yy
    cases hgd : g src.xs[i] (wipeE e vs) S' with
    | none => rw [hgd] at q; exact q.elim
    | some e1 =>
      rw [hgd] at q
      dsimp only at q
      have he2 : EnvRel X.K (ρ'.hide Dl) H'' (wipe σ vs) (wipeE e vs) := ((he1.frh R1.free fh).fr R'.free f2).wipe vs
      refine ⟨_, _, S', _, e1, he2, R2, r2, hgd, fun σ2 hσ2 hw => ⟨(hw vs hsl).trans (wipe_wipe fun _ h => h), ?_⟩⟩
      have hH2 : H'' Dl = some (.lst accV) := f2.keep _ _ hH hn fun _ z => by cases z
      have rx2 := RepDs.fr R'.free f2 _ _ rx
      -- a frame from ρ'.hide to one more
      have fr_of : ∀ {ρ3 H3}, Fr (ρ'.hide Dl) H'' ρ3 H3 → ∃ ρ4, ρ3 = ρ4.hide Dl ∧ Fr ρ1 H1 ρ4 H3 ∧ Dl ∉ ρ4.l ∧ H3 Dl = some (.lst accV) := fun {ρ3 H3} f3 => by
        obtain ⟨l, e3, hl3⟩ := f3.new
        refine ⟨⟨ρ'.l ++ l, ρ'.h⟩, e3, ?_, ?_, f3.keep _ _ hH2 hn fun _ z => by cases z⟩
        · refine f.trans ⟨⟨l, rfl, fun a m => ?_⟩, fun a o h n nt => f3.keep a o (f2.keep a o h n nt) n nt, fun a o h => let ⟨o', z⟩ := f2.live a o h; f3.live a o' z⟩
          cases z : H' a with
          | none => rfl
          | some o => obtain ⟨o', z'⟩ := f2.live a o z; rw [hl3 a m] at z'; cases z'
        · intro m
          rcases List.mem_append.mp m with m | m
          · exact hn m
          · rw [hl3 _ m] at hH2; cases hH2
      cases hm : mt e1 S' with
      | bad => rw [hm] at q; exact q.elim
      | ex c S2 => rw [hm] at q; exact q.elim
      | ok b S2 =>
        rw [hm] at q
        simp only [noEx_ok, Res.bind_ok] at q
        refine ⟨_, e1, S', hσ2, R2, ?_⟩
        rw [hm]
        intro ρ3 H3 f3 R3
        obtain ⟨ρ4, rfl, f4, hn4, hH4⟩ := fr_of f3
        have rx3 := RepDs.fr R2.free f3 _ _ rx2
        cases b with
        | false =>
          rw [if_neg (by decide)] at q ⊢
          exact ⟨hlt, ρ4, S2, accD, accV, f4, R3, hn4, hH4, rx3, Nat.le_succ_of_le hl, q⟩
        | true =>
          rw [if_pos rfl] at q ⊢
          cases hm2 : me e1 S2 with
          | bad => rw [hm2] at q; exact q.elim
          | ex c S3 => rw [hm2] at q; exact q.elim
          | ok y S3 =>
            rw [hm2] at q
            simp only [noEx_ok, Res.bind_ok] at q
            refine ⟨_, e1, S2, hσ2.fr R2.free f3, R3, ?_⟩
            rw [hm2]
            intro ρ5 H5 f5 R5 v r5
            obtain ⟨ρ6, rfl, f6, hn6, hH6⟩ := fr_of (f3.trans f5)
            have rx5 := RepDs.fr R3.free f5 _ _ rx3
            have hzV : accV.length < sizeLine := by rw [← rx5.length]; omega
            refine ⟨accV, hH6, hzV, hlt, ρ6, S3, accD ++ [y], accV ++ [v], ?_, R5.putH hH6 List.mem_cons_self hn6, hn6, upd_same, RepDs.putH hH6 List.mem_cons_self _ _ (rx5.append (.cons r5 .nil)), by simp; omega, ?_⟩
            · obtain ⟨l, e6, hl6⟩ := f6.new
              refine ⟨⟨l, e6, hl6⟩, fun a o h n nt => ?_, fun a o h => ?_⟩
              · have ne : a ≠ Dl := fun z => by rw [z, hD] at h; cases h
                rw [upd_ne ne]; exact f6.keep a o h n nt
              · have ne : a ≠ Dl := fun z => by rw [z, hD] at h; cases h
                rw [upd_ne ne]; exact f6.live a o h
            · rw [Res.bind_assoc] at q
              simp only [Res.bind_ok] at q
              have e7 : (fun (ys : List D) (S3 : Store) => (Res.ok (accD ++ [y] ++ ys) S3 : Res (List D))) = fun ys S3 => .ok (accD ++ y :: ys) S3 := by
                funext ys S3; simp
              rw [e7]; exact q
  · have e0 : i = src.xs.length := by omega
    subst e0
    rw [List.drop_length] at q
    unfold lcM at q
    by_cases hok : src.ok S'
    case neg => rw [if_neg hok] at q; exact q.elim
    rw [if_pos hok] at q
    simp only [Res.bind_ok, List.append_nil] at q
    exact .inl ⟨hJ.stop _ H' S' fh R' hok, q ρ' H' Dl accV f R' hD hn hH rx⟩
variable {elt tg iter : Expr} {ifs : List Expr} {scope : Scope} {own : List (Str × Nat)} {pos spos py : Pos} {i : Nat} {y : Str}
theorem nm_lc (own : List (Str × Nat)) (hc : X.calm = true) (hN : X.N.Nodup) (hi : IM X W tg iter mi) (ok : BlkOk X.N X.env.scope scope own) (hsl : ∀ i ∈ sl, i ∈ own.map (·.2))
    (hg : ∀ (s : Shared) (H : Hp) (C : Addr) (cl : List (Str × Addr)) (fp : List Addr), GM (X.blk s H scope (compEnvC scope cl C X.env) fp) tg g sl) (ht : ∀ (s : Shared) (H : Hp) (C : Addr) (cl : List (Str × Addr)) (fp : List Addr), TsM (X.blk s H scope (compEnvC scope cl C X.env) fp) ifs mt)
    (he : ∀ (s : Shared) (H : Hp) (C : Addr) (cl : List (Str × Addr)) (fp : List Addr), EM (X.blk s H scope (compEnvC scope cl C X.env) fp) W0 elt me) (hs : ∀ x, foldedSetIterable iter X.env x = pure x := by intro _; rfl) :
    NM X W (.ListComp elt [⟨tg, iter, ifs, 0⟩] scope pos) (mLc mi g mt me (own.map (·.2))) :=
  pe_imp (pe_lc hc hN hi ok hg ht he hs) fun σ H Q h => lc_imp hsl h
theorem tN_set {ma : MA} {Dn : Ends} {σ : L2.St} {H : Hp} (f : MA → ME) (hf : f = asV ∨ f = asL)
    (h : tS X.K X.mg W (sSet (gN i) (f ma)) Dn σ H) : tN X.K X.mg W ma σ H fun v H1 => gName i v σ H1 Dn.nx := by
  have key : tE X.K X.mg W (f ma) σ H fun v H1 => gName i v σ H1 Dn.nx :=
    tE_st (k := fun d e S1 => (gN i d e S1).bind fun e1 => some (.nx, e1, S1)) (fun ρ H d v e S he R r q => q ρ H _ (Fr.refl _ _) R (he.set i r)) h
  obtain ⟨ρ, e, S, he, R, q⟩ := key
  refine ⟨ρ, e, S, he, R, ?_⟩
  rcases hf with rfl | rfl
  · unfold asV at q
    cases hk : ma e S with
    | bad => rw [hk] at q; exact q
    | ex c S1 => rw [hk] at q; exact q
    | ok ds S1 =>
      rw [hk] at q
      exact fun ρ' H' p vs f R' hp hn e1 r => q ρ' H' f R'.unhide _ (.lst e1 hn (fun m => by
        obtain ⟨ws, z⟩ := R.hid p (by rw [← f.hid]; exact m)
        rw [hp] at z; cases z) (RepDs.sees Sees.unhide _ _ r))
  · unfold asL at q
    cases hk : ma e S with
    | bad => rw [hk] at q; exact q
    | ex c S1 => rw [hk] at q; exact q
    | ok ds S1 =>
      rw [hk] at q
      exact fun ρ' H' p vs f R' hp hn e1 r => q _ H' (f.shown hp) (R'.shown hn e1 r) _ (.loc (by
        show (ρ'.l ++ [p])[S1.length]? = some p
        have : ρ'.l.length = S1.length := R'.len
        rw [List.getElem?_append_right (by omega), this]; simp))
/-- y = [..] -/
theorem sm_setLc (f : MA → ME) (hf : f = asV ∨ f = asL) (own : List (Str × Nat)) (hc : X.calm = true) (hN : X.N.Nodup) (hy : X.N[i]? = some y) (hyl : X.env.scope.names.lookup y = some .local)
    (hsw : swapsWith (.ListComp elt [⟨tg, iter, ifs, 0⟩] scope pos) (some (.Name y py)) spos.line X.env = pure true) (hi : IM X W tg iter mi) (ok : BlkOk X.N X.env.scope scope own) (hsl : ∀ i ∈ sl, i ∈ own.map (·.2))
    (hg : ∀ (s : Shared) (H : Hp) (C : Addr) (cl : List (Str × Addr)) (fp : List Addr), GM (X.blk s H scope (compEnvC scope cl C X.env) fp) tg g sl) (ht : ∀ (s : Shared) (H : Hp) (C : Addr) (cl : List (Str × Addr)) (fp : List Addr), TsM (X.blk s H scope (compEnvC scope cl C X.env) fp) ifs mt)
    (he : ∀ (s : Shared) (H : Hp) (C : Addr) (cl : List (Str × Addr)) (fp : List Addr), EM (X.blk s H scope (compEnvC scope cl C X.env) fp) W0 elt me) (hs : ∀ x, foldedSetIterable iter X.env x = pure x := by intro _; rfl) :
    SM X W (.Assign [.Name y py] (.ListComp elt [⟨tg, iter, ifs, 0⟩] scope pos) spos) (sSet (gN i) (f (mLc mi g mt me (own.map (·.2))))) :=
  ps_imp (ps_setLc hc hN hy hyl hsw hi ok hg ht he hs) fun Dn σ H h => lc_imp hsl (tN_set f hf h)
end
end M


set_option Elab.async false
set_option linter.all false
set_option maxRecDepth 100000
set_option maxHeartbeats 4000000
namespace M
open PySem PySem.Spec PyProof.Rows L2 GenW
variable [Tabs]

/-- the context of a generator expression's frame -/
abbrev genCx (X : Cx) (s : Shared) (H : Hp) (cenv : PySem.Env) (fp : List Addr) (p : Addr × Obj) : Cx :=
  { X with A := X.A.in1.in1.deeper cenv, s_0 := s, H_0 := H, env := cenv, outer := X.stack, stack := cenv :: X.stack, ex := fp, fn := fun _ => false, pn := [p], xe := fun _ _ => False }
theorem over_gen {A : Around} {elt : Expr} {gs : List Comprehension} {scope : Scope} {pos : Pos} {it acc : Value} {env : PySem.Env} : A.over (.compLoop (.GeneratorExp elt gs scope pos) 0 it acc env) [] = A.deeper env := by
  first
    | rfl
    | (obtain ⟨hd, d, fr, gs, u⟩ := A; simp [Around.over, Around.deeper, marksOver, frameCount, unitsOf, envsOf, guardsOf, pushEnvs, pushGuards, Code.envs, Code.env?, Code.isFrame, Code.guards, Code.isGuard, Code.weight, Code.frames, Code.isCreation, Code.isCaller, Code.cUnits])
section
variable {X : Cx} {pins : List (Addr × Obj)} {σ : L2.St} {H : Hp} {s : Shared}
theorem gen_start {scope : Scope} {own : List (Str × Nat)} {fp : List Addr} (I : Inv X pins σ H s) (ok : BlkOk X.N X.env.scope scope own) (hN : X.N.Nodup) (hfp : ∀ b ∈ fp, FpOk X pins H b ∧ b < s.heap.objs.size)
    (hcell : ∀ y ∈ scope.names, y.2 ≠ .cell) (hh : X.A.handled = none) {h' : Heap} {it code : Value}
    (hn' : h'.Ns s.heap.objs.size (fun y => if y = ".0" then some it else none)) (hs' : Heap.SameBut s.heap.objs.size (s.heap.push { cls := .type "frame", data := .dict #[] }) h')
    (go : Obj) (hgd : ∀ v, go.data ≠ .cell v) (hgf : (h'.push go).get? h'.objs.size = some go) (gs : GenState) (hgb : gs.bare = true) (tk : Nat) :
    Inv (genCx X s H (genEnv scope (cloFrom X.env.cells scope.names []) s.heap.objs.size code builtinsNs X.env) fp (h'.objs.size, go)) [] (wipe σ (own.map (·.2))) H { s with gens := s.gens.push gs, toks := tk, heap := h'.push go } := by
  have hsz : h'.objs.size = s.heap.objs.size + 1 := by rw [hs'.1, Heap.size_push]
  have kp : ∀ b o, s.heap.get? b = some o → (h'.push go).get? b = some o := fun b o e => Heap.get?_push_of_some _ (hs'.extBut b o (Nat.ne_of_lt (Heap.lt_size e)) (Heap.get?_push_of_some _ e))
  have hfree : ∀ y ∈ scope.names, y.2 = .free → ∃ c, X.env.cells.lookup y.1 = some c := fun y hy e => by
    rcases ok.free y hy e with k | k
    · exact I.ok.has _ (.inl k)
    · exact I.ok.has _ (.inr k)
  generalize hcenv : genEnv scope (cloFrom X.env.cells scope.names []) s.heap.objs.size code builtinsNs X.env = cenv
  have hL : cenv.locals = s.heap.objs.size := by rw [← hcenv]; rfl
  have hfr : cenv.frame = some s.heap.objs.size := by rw [← hcenv]; rfl
  have hcl : cenv.cells = cloFrom X.env.cells scope.names [] := by rw [← hcenv]; rfl
  have hsc : cenv.scope = scope := by rw [← hcenv]; rfl
  have cm : ∀ {y c}, (y, c) ∈ cloFrom X.env.cells scope.names [] → X.env.cells.lookup y = some c ∧ c < s.heap.objs.size := fun {y c} hm => by
    rcases cloFrom_mem hm with hm | ⟨h1, rfl⟩
    · cases hm
    · obtain ⟨c, hc⟩ := hfree _ h1 rfl
      rw [hc]
      obtain ⟨w, z⟩ := I.cell _ _ hc
      exact ⟨rfl, z.lt⟩
  have mem : ∀ {y c}, cenv.cells.lookup y = some c → X.env.cells.lookup y = some c ∧ c < s.heap.objs.size := fun {y c} e => by
    rw [hcl] at e
    exact cm (PySem.mem_of_lookup e)
  have look : ∀ {y}, scope.names.lookup y = some .free → ∃ c, cenv.cells.lookup y = some c ∧ X.env.cells.lookup y = some c := fun {y} hl => by
    have hy : (y, NameKind.free) ∈ scope.names := PySem.mem_of_lookup hl
    obtain ⟨c', e'⟩ := mem_lookup (cloFrom_has (cells := X.env.cells) (acc := []) hy)
    rw [← hcl] at e'
    exact ⟨c', e', (mem e').1⟩
  have young : ∀ b, s.heap.objs.size ≤ b → H b = none ∧ b ∉ frs X.stack := fun b hb => ⟨I.hok.fresh hb, fun m => by
    rcases List.mem_cons.mp (I.stkSub b m) with z | z
    · have := I.lt; rw [z] at hb; exact absurd (Nat.lt_of_lt_of_le this hb) (Nat.lt_irrefl _)
    · exact I.nofs hb z⟩
  have hlt : s.heap.objs.size < h'.objs.size := by rw [hsz]; exact Nat.lt_succ_self _
  have okG : (genCx X s H cenv fp (h'.objs.size, go)).Ok := by
    refine ⟨I.ok.mod, by show cenv.scope.kind = _; rw [hsc]; exact ok.kind, by show cenv.globals = _; rw [← hcenv]; exact I.ok.glob, by show cenv.builtins = _; rw [← hcenv]; rfl, by show s.heap.objs.size ≤ cenv.locals; rw [hL]; exact Nat.le_refl _,
      fun y z c e1 e2 => I.ok.inj y z c (mem e1).1 (mem e2).1, fun y hy => ?_, fun y c z e => ?_, fun _ => hh, ?_, .inr ⟨rfl, by show cenv.frame = some cenv.locals; rw [hfr, hL]⟩,
      fun b hb => ⟨by show b ≠ cenv.locals; rw [hL]; exact Nat.ne_of_lt (hfp b hb).2, fun y c e => (hfp b hb).1.2.2.2.2.1 y c (mem e).1⟩, I.bs, Nat.le_trans I.ok.bsz I.sz, fun b o e hb => ?_, fun b hb z => ?_, I.stack, I.stkFree⟩
    · show ∃ c, cenv.cells.lookup y = some c
      have hk : scope.names.lookup y = some .cell ∨ scope.names.lookup y = some .free := by rw [← hsc]; exact hy
      rcases hk with k | k
      · exact absurd rfl (hcell _ (PySem.mem_of_lookup k))
      · obtain ⟨c, h1, _⟩ := look k; exact ⟨c, h1⟩
    · cases z
    · show (X.A.in1.in1.deeper cenv).frames = some (cenv :: X.stack)
      exact Around.frames_deeper I.ok.frames
    · rcases (hfp b hb).1.2.2.2.1 with z | z
      · exact I.ok.noex b o e z
      · exact absurd (Nat.lt_of_lt_of_le (Heap.lt_size e) (Nat.le_trans I.ok.bsz z)) (Nat.lt_irrefl _)
    · rcases List.mem_cons.mp (I.stkSub b z) with z | z
      · exact (hfp b hb).1.2.1 z
      · exact (hfp b hb).1.2.2.1 z
  refine ⟨okG, rfl, AllBare.push I.bare hgb, Un.kept kp, ⟨fun y => if y = ".0" then some it else none, ?_, fun i y av e1 e2 e3 => ?_⟩, fun y c e => ?_, ?_, fun y c e => ?_, fun p hp => ?_, I.hok.kept kp, by rw [wipe_length]; exact I.len⟩
  · show Heap.Ns _ cenv.locals _
    rw [hL]; exact hn'.push _
  · obtain ⟨e2, hne⟩ := wipe_some e2
    have e3 : scope.names.lookup y = some .local ∨ scope.names.lookup y = some .cell ∨ scope.names.lookup y = some .free := by rw [← hsc]; exact e3
    have no : ∀ k, scope.names.lookup y = some k → ¬ (k = .local ∨ k = .cell) := fun k e hh => by
      rcases ok.own _ (PySem.mem_of_lookup e) hh with e' | e'
      · obtain ⟨p, hp, hpy⟩ := List.mem_map.mp e'
        have e3 := ok.ix p hp
        have : p.1 = y := hpy
        rw [this] at e3
        exact hne (List.mem_map.mpr ⟨p, hp, nodup_ix hN e3 e1⟩)
      · exact e' (List.mem_of_getElem? e1)
    have hf : scope.names.lookup y = some .free := by
      rcases e3 with k | k | k
      · exact absurd (.inl rfl) (no _ k)
      · exact absurd (.inr rfl) (no _ k)
      · exact k
    obtain ⟨m, hn, hl⟩ := I.loc
    have hvis : Vis X.env.scope y := (ok.free _ (PySem.mem_of_lookup hf) rfl).elim (fun k => .inr (.inl k)) (fun k => .inr (.inr k))
    obtain ⟨w, r, q⟩ := hl i y av e1 e2 hvis
    refine ⟨w, r, .inr ⟨.inr (by show cenv.scope.names.lookup y = _; rw [hsc]; exact hf), ?_⟩⟩
    obtain ⟨c, h1, h2⟩ := look hf
    rcases q with ⟨k, _⟩ | ⟨_, c', e', z⟩
    · have k : X.env.scope.names.lookup y = some .local := k
      rcases ok.free _ (PySem.mem_of_lookup hf) rfl with k' | k' <;> rw [show X.env.scope.names.lookup y = _ from k'] at k <;> cases k
    · rw [h2] at e'; cases e'
      exact ⟨c, h1, z.keeps kp⟩
  · obtain ⟨w, z⟩ := I.cell y c (mem e).1
    exact ⟨w, z.keeps kp⟩
  · show H cenv.locals = none
    rw [hL]; exact (young _ (Nat.le_refl _)).1
  · exact I.freeC y c (mem e).1
  · have hp : p = (h'.objs.size, go) := by simpa using hp
    subst hp
    exact ⟨hgf, (young _ (Nat.le_of_lt hlt)).1, by show h'.objs.size ≠ cenv.locals; rw [hL]; exact Nat.ne_of_gt hlt, (young _ (Nat.le_of_lt hlt)).2, hgd⟩
end

/-! ### the generator's turns -/
section
variable {X : Cx}
/-- what stays true between the turns -/
def genW (J : It) (g : TG) (te : TE) (stp : Bool) (Q : VK) (σw : L2.St) (vs : List Nat) (W : Nat → Nat → Hp → Prop) : Prop := ∀ i m H, W i m H → (J.stop i H ∧ Q (.bl (!stp)) H) ∨
  (J.go i H ∧ ∀ x H', J.yld i H x H' → g x σw H' fun σ2 H2 => wipe σ2 vs = σw ∧ te σ2 H2 fun y H4 => ∃ b, y = .bl b ∧ if b = stp then Q (.bl stp) H4 else ∃ m', m' < m ∧ W (i + 1) m' H4)
def genR (Xg : Cx) (σw : L2.St) (stp : Bool) (Q : VK) : GenEnd := fun n s₀ r s => r = .ok .next ∧ ∃ H, Inv Xg [] σw H s ∧ Q (.bl (!stp)) H
def genY (Xg : Cx) (σw : L2.St) (stp : Bool) (Q : VK) : Protocol := fun n s₀ v s kap => ∃ b H, v = .bool b ∧ Inv Xg [] σw H s ∧ if b = stp then Q (.bl stp) H else ∀ s', s'.heap = s.heap → s'.os = s.os → AllBare s'.gens → kap (.send .none) s'
theorem inv_same {pins : List (Addr × Obj)} {σ : L2.St} {H : Hp} {s s' : Shared} (I : Inv X pins σ H s) (e : s'.heap = s.heap) (o : s'.os = s.os) (b : AllBare s'.gens) : Inv X pins σ H s' :=
  I.call' (ch := []) o (Un.kept fun c ob q => by rw [e]; exact q) (I.hok.kept fun c ob q => by rw [e]; exact q) b fun b hb => by simp at hb
theorem seg_gen {s0 : Shared} {H0 : Hp} {cenv : PySem.Env} {fp : List Addr} {p : Addr × Obj} {elt tg iter : Expr} {scope : Scope} {pos : Pos} {it : Addr} {J : It} {tn : Nat → Heap → Prop} {g : TG} {te : TE} {stp : Bool} {Q : VK} {σ : L2.St} {vs : List Nat} {W : Nat → Nat → Hp → Prop}
    (hc : X.calm = true) (T : Turn X.prog X.w X.K tg J fp it tn) (hg : PG (genCx X s0 H0 cenv fp p) tg g) (he : PE (genCx X s0 H0 cenv fp p) elt te) (hco : cenv.scope.isCoroutine = false) (hfp : ∀ b ∈ fp, b ≠ p.1) (hW : genW J g te stp Q (wipe σ vs) vs W) :
    ∀ (m n i : Nat) (s₀ s : Shared) (H : Hp), m < n → W i m H → Inv (genCx X s0 H0 cenv fp p) [] (wipe σ vs) H s → tn i s.heap → (∀ b ∈ fp, H b = none) →
      Seg (model X.prog X.w) X.A.in1.in1 (genR (genCx X s0 H0 cenv fp p) (wipe σ vs) stp Q) (genY (genCx X s0 H0 cenv fp p) (wipe σ vs) stp Q) n s₀
        (.compLoop (.GeneratorExp elt [⟨tg, iter, [], 0⟩] scope pos) 0 (.ref it) .none cenv) ((model X.prog X.w).den (.compLoop (.GeneratorExp elt [⟨tg, iter, [], 0⟩] scope pos) 0 (.ref it) .none cenv)) [] s := by
  have stat : ∀ {σ' : L2.St} {H' : Hp} {s' : Shared}, Inv (genCx X s0 H0 cenv fp p) [] σ' H' s' → (∀ b ∈ fp, H' b = none) → (∀ b ∈ fp, b ≠ p.1) → ∀ b ∈ fp, FpOk (genCx X s0 H0 cenv fp p) [] H' b := fun {σ' H' s'} I' hn hp b hb =>
    ⟨hn b hb, (I'.ok.exf b hb).1, I'.ok.exfs b hb, .inl hb, fun x c e => (I'.ok.exf b hb).2 x c e, fun q hq => by
      have : q = p := by simpa using hq
      rw [this]; exact (hp b hb).symm⟩
  intro m
  induction m using Nat.strongRecOn with
  | ind m ih =>
  intro n i s₀ s H hmn w I st fr
  show Seg _ X.A.in1.in1 _ _ _ s₀ _ ((compTurn (.GeneratorExp elt [⟨tg, iter, [], 0⟩] scope pos) 0 (.ref it) .none cenv).onRaise (leaving cenv)) [] s
  rw [compTurn_gen, Sem.onRaise_eq_wrap]
  refine seg_bind_wrap (wpAny_standAt ?_)
  rcases hW i m H w with ⟨stop, q⟩ | ⟨go, step⟩
  · refine seg_bind_wrap ?_
    rw [over_gen]
    refine thnF (T.done (genCx X s0 H0 cenv fp p) rfl rfl rfl hc i [] s _ H (fun _ _ => False) I (stat I fr hfp) st stop) fun r s1 ⟨hr, I1⟩ => ?_
    subst hr
    exact seg_end (.ok .next) ⟨rfl, H, I1, q⟩
  · obtain ⟨n, rfl⟩ : ∃ n', n = n' + 1 := ⟨n - 1, by omega⟩
    refine seg_bind_wrap ?_
    rw [over_gen]
    refine thnF (T.item (genCx X s0 H0 cenv fp p) rfl rfl rfl hc i [] s _ H (fun _ _ => False) I (stat I fr hfp) st go) fun r s1 ⟨u, hr, h1⟩ => ?_
    subst hr
    refine seg_bind_wrap ?_
    rw [over_gen]
    refine thnF h1 fun _ s2 ⟨x, H2, I2, r2, y2, st2, fr2⟩ => ?_
    have I2' := I2.pinned (stat I2 fr2 hfp) (T.obj _ _ st2)
    refine seg_bind_wrap ?_
    rw [over_gen]
    refine thnF (hg.run _ s2 _ H2 x u _ I2' r2 (step x H2 y2)) fun _ s3 ⟨σ3, H3, I3, hw3, q3⟩ => ?_
    refine seg_bind_wrap (wpAny_tests_nil ?_)
    simp only [if_true]
    have hy : ∀ v, yieldOut cenv v = yieldValue v := fun v => by simp only [yieldOut, hco, Bool.false_eq_true, if_false]
    simp only [hy]
    rw [Sem.bind_eq_wrap', Sem.bind_eq_wrap', Sem.wrap_wrap, Sem.wrap_wrap]
    refine seg_wrap ?_
    rw [over_gen]
    refine thnF (he.run _ s3 σ3 H3 _ I3 q3) fun v s4 ⟨yv, H4, I4, r4, b, hb, q4⟩ => ?_
    subst hb
    obtain rfl : v = .bool b := r4
    have pin' : ∀ a ∈ fp, ∀ o, s2.heap.get? a = some o → s4.heap.get? a = some o ∧ H4 a = none := fun a ha o e =>
      let z := I4.pin (a, o) (List.mem_append_right _ (List.mem_append_right _ (mem_pinsAt ha e)))
      ⟨z.1, z.2.1⟩
    have hl : (wipe σ vs).length = σ3.length := by rw [← hw3, wipe_length]
    have I5 : Inv (genCx X s0 H0 cenv fp p) [] (wipe σ vs) H4 s4 := (I4.unpinned (pins := [])).weak hl fun j v e => by
      rw [← hw3] at e
      exact (wipe_some e).1
    refine seg_at (seg_yield rfl rfl rfl ⟨b, H4, rfl, I5, ?_⟩)
    by_cases hbs : b = stp
    · rw [if_pos hbs] at q4 ⊢
      exact q4
    · rw [if_neg hbs] at q4 ⊢
      obtain ⟨m', hm, w'⟩ := q4
      intro s' e1 e2 e3
      refine seg_again rfl (ih m' hm n (i + 1) s' s' H4 (by omega) w' (inv_same I5 e1 e2 e3) ?_ fun a ha => ?_)
      · rw [e1]; exact T.keep _ _ _ st2 fun a ha o e => (pin' a ha o e).1
      · obtain ⟨o, e, _⟩ := T.obj _ _ st2 a ha
        exact (pin' a ha o e).2
/-! ### all, any: who asks -/
def GSt (Xg : Cx) (A : Around) (σw : L2.St) (stp : Bool) (Q : VK) (g : Nat) (n : Nat) (s : Shared) : Prop :=
  (∃ H, Inv Xg [] σw H s) ∧ ∃ gs, s.gens[g]? = some gs ∧ gs.Goes (model Xg.prog Xg.w) A (genR Xg σw stp Q) (genY Xg σw stp Q) n (.send .none) (s.setGen g .running)
theorem all_go {Xg : Cx} {A : Around} {σw : L2.St} {Q : VK} {a : Addr} {g : Nat} {R' : Result → Shared → Prop} (hh : A.handled = none) (hd : A.depth < recursionLimit) (hga : ∀ s H, Inv Xg [] σw H s → s.heap.IsGen a g)
    (fin : ∀ b s' H, Inv Xg [] σw H s' → Q (.bl b) H → R' (.ok (.ret (.bool b))) s') : ∀ (n : Nat) (s : Shared), GSt Xg A.in1.in1 σw false Q g n s → codeAny (model Xg.prog Xg.w) A (.builtin "all.loop" ⟨[.ref a], []⟩) R' s := by
  intro n
  induction n with
  | zero =>
    intro s ⟨⟨H, I⟩, gs, hgs, hgo⟩
    refine codeAny_builtin F.entry_all_loop ?_
    rw [Around.under_plainId F.plain_all_loop _]
    show wpAny _ A.in1 (pyNext (.ref a) >>= _) _ _ s
    refine wpAny_bind (wpAny_pyNext_genexpQ (A := A.in1) hh I.nolimit hd (hga s H I) hgs hgo (fun v s₁ gs' hb hv => ?_) fun s₁ hp h' hk => ?_)
    · obtain ⟨b, H1, rfl, I1, q⟩ := hv
      refine wpAny_bind (wpAny_holding (wpAny_truthy_bool ?_))
      refine wpAny_bind (wpAny_letGo ?_)
      cases b with
      | true =>
        rw [if_neg (by decide)] at q
        exact (q s₁ rfl rfl I1.bare).elim
      | false =>
        simp only [Bool.false_eq_true, if_false]
        refine wpAny_bind (wpAny_rule (wpAny_pure ?_))
        rw [if_pos rfl] at q
        exact fin false _ H1 (inv_same I1 rfl rfl (allBare_setGen I1.bare hb)) q
    · obtain ⟨H1, I1, q⟩ := hp
      refine wpAny_bind (wpAny_rule (wpAny_pure ?_))
      exact fin true _ H1 (I1.call' (ch := []) rfl (Un.kept hk) (I1.hok.kept hk) (allBare_setGen I1.bare rfl) fun b hb => by simp at hb) q
  | succ n ih =>
    intro s ⟨⟨H, I⟩, gs, hgs, hgo⟩
    have hgl : g < s.gens.size := (Array.getElem?_eq_some_iff.mp hgs).1
    refine codeAny_builtin F.entry_all_loop ?_
    rw [Around.under_plainId F.plain_all_loop _]
    show wpAny _ A.in1 (pyNext (.ref a) >>= _) _ _ s
    refine wpAny_bind (wpAny_gsz (n := g + 1) hgl (wpAny_pyNext_genexpQ (A := A.in1) hh I.nolimit hd (hga s H I) hgs hgo (fun v s₁ gs' hb hv => ?_) fun s₁ hp h' hk => ?_))
    · intro hsz
      obtain ⟨b, H1, rfl, I1, q⟩ := hv
      refine wpAny_bind (wpAny_holding (wpAny_truthy_bool ?_))
      refine wpAny_bind (wpAny_letGo ?_)
      have hgl : g < s₁.gens.size := by
        have q : (s₁.setGen g gs').gens.size = s₁.gens.size := setGen_size _ _ _
        have hsz' : g + 1 ≤ (s₁.setGen g gs').gens.size := hsz
        omega
      cases b with
      | true =>
        rw [if_neg (by decide)] at q
        simp only [if_true]
        refine wpAny_pure ⟨plainId_quiet F.plain_all_loop _, ih _ ⟨⟨H1, inv_same I1 rfl rfl (allBare_setGen I1.bare hb)⟩, gs', setGen_at hgl, ?_⟩⟩
        exact q _ rfl rfl (allBare_setGen (allBare_setGen I1.bare hb) rfl)
      | false =>
        simp only [Bool.false_eq_true, if_false]
        refine wpAny_bind (wpAny_rule (wpAny_pure ?_))
        rw [if_pos rfl] at q
        exact fin false _ H1 (inv_same I1 rfl rfl (allBare_setGen I1.bare hb)) q
    · intro hsz
      obtain ⟨H1, I1, q⟩ := hp
      refine wpAny_bind (wpAny_rule (wpAny_pure ?_))
      exact fin true _ H1 (I1.call' (ch := []) rfl (Un.kept hk) (I1.hok.kept hk) (allBare_setGen I1.bare rfl) fun b hb => by simp at hb) q
theorem any_go {Xg : Cx} {A : Around} {σw : L2.St} {Q : VK} {a : Addr} {g : Nat} {R' : Result → Shared → Prop} (hh : A.handled = none) (hd : A.depth < recursionLimit) (hga : ∀ s H, Inv Xg [] σw H s → s.heap.IsGen a g)
    (fin : ∀ b s' H, Inv Xg [] σw H s' → Q (.bl b) H → R' (.ok (.ret (.bool b))) s') : ∀ (n : Nat) (s : Shared), GSt Xg A.in1.in1 σw true Q g n s → codeAny (model Xg.prog Xg.w) A (.builtin "any.loop" ⟨[.ref a], []⟩) R' s := by
  intro n
  induction n with
  | zero =>
    intro s ⟨⟨H, I⟩, gs, hgs, hgo⟩
    refine codeAny_builtin F.entry_any_loop ?_
    rw [Around.under_plainId F.plain_any_loop _]
    show wpAny _ A.in1 (pyNext (.ref a) >>= _) _ _ s
    refine wpAny_bind (wpAny_pyNext_genexpQ (A := A.in1) hh I.nolimit hd (hga s H I) hgs hgo (fun v s₁ gs' hb hv => ?_) fun s₁ hp h' hk => ?_)
    · obtain ⟨b, H1, rfl, I1, q⟩ := hv
      refine wpAny_bind (wpAny_holding (wpAny_truthy_bool ?_))
      refine wpAny_bind (wpAny_letGo ?_)
      cases b with
      | false =>
        rw [if_neg (by decide)] at q
        exact (q s₁ rfl rfl I1.bare).elim
      | true =>
        simp only [if_true]
        refine wpAny_bind (wpAny_rule (wpAny_pure ?_))
        rw [if_pos rfl] at q
        exact fin true _ H1 (inv_same I1 rfl rfl (allBare_setGen I1.bare hb)) q
    · obtain ⟨H1, I1, q⟩ := hp
      refine wpAny_bind (wpAny_rule (wpAny_pure ?_))
      exact fin false _ H1 (I1.call' (ch := []) rfl (Un.kept hk) (I1.hok.kept hk) (allBare_setGen I1.bare rfl) fun b hb => by simp at hb) q
  | succ n ih =>
    intro s ⟨⟨H, I⟩, gs, hgs, hgo⟩
    have hgl : g < s.gens.size := (Array.getElem?_eq_some_iff.mp hgs).1
    refine codeAny_builtin F.entry_any_loop ?_
    rw [Around.under_plainId F.plain_any_loop _]
    show wpAny _ A.in1 (pyNext (.ref a) >>= _) _ _ s
    refine wpAny_bind (wpAny_gsz (n := g + 1) hgl (wpAny_pyNext_genexpQ (A := A.in1) hh I.nolimit hd (hga s H I) hgs hgo (fun v s₁ gs' hb hv => ?_) fun s₁ hp h' hk => ?_))
    · intro hsz
      obtain ⟨b, H1, rfl, I1, q⟩ := hv
      refine wpAny_bind (wpAny_holding (wpAny_truthy_bool ?_))
      refine wpAny_bind (wpAny_letGo ?_)
      have hgl : g < s₁.gens.size := by
        have q : (s₁.setGen g gs').gens.size = s₁.gens.size := setGen_size _ _ _
        have hsz' : g + 1 ≤ (s₁.setGen g gs').gens.size := hsz
        omega
      cases b with
      | false =>
        rw [if_neg (by decide)] at q
        simp only [Bool.false_eq_true, if_false]
        refine wpAny_pure ⟨plainId_quiet F.plain_any_loop _, ih _ ⟨⟨H1, inv_same I1 rfl rfl (allBare_setGen I1.bare hb)⟩, gs', setGen_at hgl, ?_⟩⟩
        exact q _ rfl rfl (allBare_setGen (allBare_setGen I1.bare hb) rfl)
      | true =>
        simp only [if_true]
        refine wpAny_bind (wpAny_rule (wpAny_pure ?_))
        rw [if_pos rfl] at q
        exact fin true _ H1 (inv_same I1 rfl rfl (allBare_setGen I1.bare hb)) q
    · intro hsz
      obtain ⟨H1, I1, q⟩ := hp
      refine wpAny_bind (wpAny_rule (wpAny_pure ?_))
      exact fin false _ H1 (I1.call' (ch := []) rfl (Un.kept hk) (I1.hok.kept hk) (allBare_setGen I1.bare rfl) fun b hb => by simp at hb) q
end
end M


set_option Elab.async false
set_option linter.all false
set_option maxRecDepth 100000
set_option maxHeartbeats 4000000
namespace M
open PySem PySem.Spec PyProof.Rows L2 GenW
variable [Tabs]
section
variable {X : Cx} {pins : List (Addr × Obj)} {σ : L2.St} {H : Hp} {s : Shared}
/-- nothing, or one more code object in a table, with an empty table of its own -/
def Grown (H H' : Hp) : Prop := H' = H ∨ ∃ (P : Addr) (ps : Array Value) (pos : Pos) (c P' : Addr), H P = some (.tbl ps) ∧ TriplesOk ps.toList ∧ TriplesOk (ps ++ #[rawInt pos.line, rawInt pos.col, .ref c]).toList ∧ H c = none ∧ H P' = none ∧ c ≠ P' ∧
  H' = upd (upd (upd H P (.tbl (ps ++ #[rawInt pos.line, rawInt pos.col, .ref c]))) c (CodeX c P')) P' (.tbl #[])
theorem codeHd_stay {h1 h2 : Heap} {c P : Addr} (x : PySem.W.CodeHd h1 c P) (k : ∀ o, h1.get? c = some o → h2.get? c = some o) : PySem.W.CodeHd h2 c P := by
  obtain ⟨o, vs, file, tf, flags, tg, inF, text, tt, e, r⟩ := x
  exact ⟨o, vs, file, tf, flags, tg, inF, text, tt, k o e, r⟩
theorem inv_grow {P c P' : Addr} {ps : Array Value} {pos : Pos} {h' : Heap} {t' : Nat} (I : Inv X pins σ H s) (hP : H P = some (.tbl ps)) (k : ∀ b o, b ≠ P → s.heap.get? b = some o → h'.get? b = some o)
    (hm : h'.get? P = some { cls := .none, data := .fields (ps ++ #[rawInt pos.line, rawInt pos.col, .ref c]) }) (hc : s.heap.objs.size ≤ c) (hP' : s.heap.objs.size ≤ P') (hcd : PySem.W.CodeHd h' c P') (hm' : h'.get? P' = some { cls := .none, data := .fields #[] }) :
    Inv X pins σ (upd (upd (upd H P (.tbl (ps ++ #[rawInt pos.line, rawInt pos.col, .ref c]))) c (CodeX c P')) P' (.tbl #[])) { s with heap := h', toks := t' } ∧ c ≠ P' := by
  have hcn : H c = none := I.hok.fresh hc
  have hPn : H P' = none := I.hok.fresh hP'
  have ne : c ≠ P' := by
    obtain ⟨o, vs, file, tf, flags, tg, inF, text, tt, e, r1, r2, r3, r4, r5, r6, r7, r8, r9⟩ := hcd
    exact r9
  have nPc : P ≠ c := fun z => by rw [z, hcn] at hP; cases hP
  have nPP : P ≠ P' := fun z => by rw [z, hPn] at hP; cases hP
  have at_ : ∀ b, b ≠ P → b ≠ c → b ≠ P' → (upd (upd (upd H P (.tbl (ps ++ #[rawInt pos.line, rawInt pos.col, .ref c]))) c (CodeX c P')) P' (.tbl #[])) b = H b := fun b h1 h2 h3 => by rw [upd_ne h3, upd_ne h2, upd_ne h1]
  have atP : (upd (upd (upd H P (.tbl (ps ++ #[rawInt pos.line, rawInt pos.col, .ref c]))) c (CodeX c P')) P' (.tbl #[])) P = some (.tbl (ps ++ #[rawInt pos.line, rawInt pos.col, .ref c])) := by rw [upd_ne nPP, upd_ne nPc, upd_same]
  have atc : (upd (upd (upd H P (.tbl (ps ++ #[rawInt pos.line, rawInt pos.col, .ref c]))) c (CodeX c P')) P' (.tbl #[])) c = some (CodeX c P') := by rw [upd_ne ne, upd_same]
  have sm : ∀ b u, H b = some u → (∀ q, u ≠ .tbl q) → (upd (upd (upd H P (.tbl (ps ++ #[rawInt pos.line, rawInt pos.col, .ref c]))) c (CodeX c P')) P' (.tbl #[])) b = some u := fun b u e q => by
    rw [at_ b (fun z => by rw [z, hP] at e; exact q ps (Option.some.inj e).symm) (fun z => by rw [z, hcn] at e; cases e) (fun z => by rw [z, hPn] at e; cases e)]; exact e
  have nP : ∀ b u, H b = some u → (∀ q, u ≠ .tbl q) → b ≠ P := fun b u e q z => by
    rw [z, hP] at e
    exact q ps (Option.some.inj e).symm
  have nN : ∀ b, H b = none → b ≠ P := fun b e z => by
    rw [z, hP] at e
    cases e
  have old : ∀ b o, s.heap.get? b = some o → b ≠ c ∧ b ≠ P' := fun b o e => ⟨fun z => by
    have := Heap.lt_size e; rw [z] at this; exact absurd (Nat.lt_of_lt_of_le this hc) (Nat.lt_irrefl _), fun z => by
    have := Heap.lt_size e; rw [z] at this; exact absurd (Nat.lt_of_lt_of_le this hP') (Nat.lt_irrefl _)⟩
  have J : Inv X pins σ (upd (upd (upd H P (.tbl (ps ++ #[rawInt pos.line, rawInt pos.col, .ref c]))) c (CodeX c P')) P' (.tbl #[])) { s with heap := h', gens := s.gens, drawn := s.drawn, toks := t' } := by
    refine I.step (ch := []) (fun b hb => absurd hb (by simp)) (fun b o _ _ _ e n => k b o (nN b n) e) (fun b o _ _ _ e n => ⟨o.slots, k b o (nN b n) e⟩)
      (fun b o _ e n => by rw [at_ b (nN b n) (old b o e).1 (old b o e).2]; exact n) (fun b o _ e => ?_) (fun b xs e => sm b _ e fun q z => by cases z) (fun b o u e => sm b _ e fun q z => by cases z) (fun b qs e => ?_) (fun m hn => ?_) (fun b u e => ?_) I.bare
    · by_cases hb : b = P
      · rw [hb]
        exact ⟨_, hm⟩
      · exact ⟨o, k b o hb e⟩
    · by_cases hb : b = P
      · rw [hb, hP] at e
        cases e
        rw [hb, atP]
        exact ⟨_, rfl⟩
      · rw [at_ b hb (fun z => by rw [z, hcn] at e; cases e) (fun z => by rw [z, hPn] at e; cases e), e]
        exact ⟨#[], by simp⟩
    · obtain ⟨ob, es, ep, ho, r⟩ := hn
      exact ⟨ob, es, ep, k _ ob (nN _ I.free) ho, r⟩
    · by_cases h1 : b = P'
      · rw [h1, upd_same] at e
        cases e
        rw [h1]
        exact hm'
      · by_cases h2 : b = c
        · rw [h2, atc] at e
          cases e
          rw [h2]
          obtain ⟨o, vs, file, tf, flags, tg, inF, text, tt, e, r⟩ := id hcd
          exact ⟨hcd, ⟨o, e⟩, fun _ _ x k => codeHd_stay x k⟩
        · by_cases hb2 : b = P
          · rw [hb2, atP] at e
            cases e
            rw [hb2]
            exact hm
          · rw [at_ b hb2 h2 h1] at e
            refine (I.hok b u e).stay (fun d v hd q => k d v ?_ q) (fun d q => sm d _ q fun _ z => by cases z) fun d xs q => sm d _ q fun _ z => by cases z
            rcases hd with z | z
            · rw [z]
              exact hb2
            · exact nP d _ z (fun q z => by cases z)
  exact ⟨J, ne⟩
/-- the frame's own code stands in a table of D's -/
def InTab (D : Addr → Prop) (gpos : Pos) (H : Hp) (code : Value) : Prop := ∃ P, D P ∧ ∃ ps : Array Value, H P = some (.tbl ps) ∧ TriplesOk ps.toList ∧ codeAmong gpos ps.toList = some code
theorem among_snoc {pos : Pos} {c : Value} : ∀ (l : List Value), TriplesOk l → codeAmong pos l = none → codeAmong pos (l ++ [rawInt pos.line, rawInt pos.col, c]) = some c := fun l h hn => codeAmong_snoc _ h hn
theorem mk_gen {k : Nat} {D : Addr → Prop} {elt tg iter : Expr} {scope : Scope} {own : List (Str × Nat)} {gpos : Pos} {wi : TI} {g : TG} {te : TE} {stp : Bool} {Q : VK} {Q' : Value → Shared → Prop}
    (hr : Room k X.A) (bb : ∃ P, X.base.BuiltinsAt X.mg P) (hT : ∀ (pins : List (Addr × Obj)) (σ : L2.St) (H : Hp) (s : Shared), Inv X pins σ H s → (∀ a ∈ Tabs.t, TabN H a) → ∃ c P qs, X.env.code = .ref c ∧ D P ∧ PySem.W.CodeHd s.heap c P ∧ H P = some (.tbl qs) ∧ TriplesOk qs.toList) (hi : PI X tg iter wi) (ok : BlkOk X.N X.env.scope scope own) (hN : X.N.Nodup) (hc : X.calm = true) (hco : scope.isCoroutine = false) (hcell : ∀ y ∈ scope.names, y.2 ≠ .cell)
    (h0 : scope.names.lookup (".0" : Str) = some NameKind.local)
    (hg : ∀ (s : Shared) (H : Hp) (C : Addr) (code : Value) (cl : List (Str × Addr)) (fp : List Addr) (p : Addr × Obj), PG (genCx X s H (genEnv scope cl C code builtinsNs X.env) fp p) tg g)
    (he : ∀ (s : Shared) (H : Hp) (C : Addr) (code : Value) (cl : List (Str × Addr)) (fp : List Addr) (p : Addr × Obj), InTab D gpos H code → PE (genCx X s H (genEnv scope cl C code builtinsNs X.env) fp p) elt te)
    (hs : ∀ v, genFold iter X.env v = pure v) (I : Inv X pins σ H s)
    (h : wi σ H fun J H1 => (∀ a ∈ Tabs.t, TabN H1 a) ∧ ∀ H2, Grown H1 H2 → ∃ (W : Nat → Nat → Hp → Prop) (m0 : Nat), W 0 m0 H2 ∧ genW J g te stp Q (wipe σ (own.map (·.2))) (own.map (·.2)) W)
    (hQ : ∀ (Xg : Cx) (a : Addr) (gi n : Nat) (s5 : Shared), Xg.prog = X.prog → Xg.w = X.w → GSt Xg X.A.in1.in1 (wipe σ (own.map (·.2))) stp Q gi n s5 → s5.heap.IsGen a gi → (∀ s H, Inv Xg [] (wipe σ (own.map (·.2))) H s → s.heap.IsGen a gi) → (∀ s' H, Inv Xg [] (wipe σ (own.map (·.2))) H s' → Inv X pins σ H s') → Q' (.ref a) s5) :
    wpAny (model X.prog X.w) X.A (eval (.GeneratorExp elt [⟨tg, iter, [], 0⟩] scope gpos) X.env) Q' X.xe s := by
  have hfree : ∀ y ∈ scope.names, y.2 = .free → ∃ c, X.env.cells.lookup y.1 = some c := fun y hy e => by
    rcases ok.free y hy e with k | k
    · exact I.ok.has _ (.inl k)
    · exact I.ok.has _ (.inr k)
  refine wpAny_GeneratorExp_make hco (closure_ok hfree) hcell h0 ok.kind (by have := hr.dp; omega) ?_ hs
  refine thn (hi.run pins s σ H _ I h) fun xv s1 hx => thn hx fun itv s2 h2 => ?_
  obtain ⟨it, fp, tn, J, H2, e, I2, T, st2, f2, tN, q⟩ := h2
  subst e
  refine ⟨I2.nolimit, ?_⟩
  obtain ⟨c, P, ps, hcode, hD, cd, hP, htr⟩ := hT pins σ H2 s2 I2 tN
  have hPs : s2.heap.get? P = some { cls := .none, data := .fields ps } := I2.hok P _ hP
  have cont : ∀ (code : Value) (h3 : Heap) (tk : Nat) (H4 : Hp), Inv X pins σ H4 { s2 with heap := h3, toks := tk } → Heap.ExtBut P s2.heap h3 → s2.heap.objs.size ≤ h3.objs.size → Grown H2 H4 → (∀ b, b < s2.heap.objs.size → H2 b = none → H4 b = none) → InTab D gpos H4 code →
      wpAny (model X.prog X.w) X.A (builtinsFor X.env.globals X.env.builtins) (fun bi s₄ =>
        ∀ h', h'.Ns s₄.heap.objs.size (fun y => if y = ".0" then some (.ref it) else none) → Heap.SameBut s₄.heap.objs.size (s₄.heap.push { cls := .type "frame", data := .dict #[] }) h' →
          Q' (.ref h'.objs.size) { s₄ with
            gens := s₄.gens.push (.fresh (.compStart (.GeneratorExp elt [⟨tg, iter, [], 0⟩] scope gpos) 0 (.ref it) .none (genEnv scope (cloFrom X.env.cells scope.names []) s₄.heap.objs.size code bi X.env))),
            toks := s₄.toks + 1 + 1 + 1,
            heap := h'.push { cls := .type "generator", data := .fields #[.int s₄.gens.size 0, .str "<genexpr>" (s₄.toks + 1), .str (X.env.qual ++ "<genexpr>") (s₄.toks + 1 + 1)] } }) X.xe { s2 with heap := h3, toks := tk } := by
    intro code h3 tk H4 I4 hx3 hsz hgr hlow hin
    obtain ⟨P0, bm, ob, e1, e2, e3, e4, e5, e6, e7, e8⟩ := bb
    refine wpAny_builtinsFor (m := X.mg) (by rw [I4.ok.glob]; exact I4.mod.glob.keeps I4.bk) e1 e2 (I4.bk _ _ e5) e6 e7 e8 ?_
    intro h' hn' hs'
    obtain ⟨W, m0, w0, hW⟩ := q H4 hgr
    have keep3 : ∀ b u, b ≠ P → s2.heap.get? b = some u → h3.get? b = some u := fun b u hb e => hx3 b u hb e
    have nP : ∀ b ∈ fp, b ≠ P := fun b hb z => by
      have := (f2 b hb).1
      rw [z, hP] at this; cases this
    have f4 : ∀ b ∈ fp, FpOk X pins H4 b ∧ b < h3.objs.size := fun b hb => by
      obtain ⟨o, e, _⟩ := T.obj _ _ st2 b hb
      exact ⟨⟨hlow b (Heap.lt_size e) (f2 b hb).1, (f2 b hb).2⟩, Nat.lt_of_lt_of_le (Heap.lt_size e) hsz⟩
    have st3 : tn 0 h3 := T.keep _ _ _ st2 fun b hb o e => keep3 b o (nP b hb) e
    have hsz' : h'.objs.size = h3.objs.size + 1 := by rw [hs'.1, Heap.size_push]
    have Ig := gen_start (code := code) (tk := tk + 1 + 1 + 1) I4 ok hN f4 hcell hr.hd hn' hs' { cls := .type "generator", data := .fields #[.int s2.gens.size 0, .str "<genexpr>" (tk + 1), .str (X.env.qual ++ "<genexpr>") (tk + 1 + 1)] } (fun v z => by cases z) (Heap.get?_push_size _ rfl)
      (.fresh (.compStart (.GeneratorExp elt [⟨tg, iter, [], 0⟩] scope gpos) 0 (.ref it) .none (genEnv scope (cloFrom X.env.cells scope.names []) h3.objs.size code builtinsNs X.env))) rfl
    have st5 : tn 0 (h'.push { cls := .type "generator", data := .fields #[.int s2.gens.size 0, .str "<genexpr>" (tk + 1), .str (X.env.qual ++ "<genexpr>") (tk + 1 + 1)] }) := T.keep _ _ _ st3 fun b hb o e =>
      Heap.get?_push_of_some _ (hs'.extBut b o (Nat.ne_of_lt (Heap.lt_size e)) (Heap.get?_push_of_some _ e))
    have hfpn : ∀ b ∈ fp, H4 b = none := fun b hb => (f4 b hb).1.1
    have hfpa : ∀ b ∈ fp, b ≠ h'.objs.size := fun b hb z => by
      have h1 : h'.objs.size < h3.objs.size := by rw [← z]; exact (f4 b hb).2
      exact absurd h1 (by omega)
    refine hQ (genCx X { s2 with heap := h3, toks := tk } H4 (genEnv scope (cloFrom X.env.cells scope.names []) h3.objs.size code builtinsNs X.env) fp (h'.objs.size, { cls := .type "generator", data := .fields #[.int s2.gens.size 0, .str "<genexpr>" (tk + 1), .str (X.env.qual ++ "<genexpr>") (tk + 1 + 1)] })) h'.objs.size s2.gens.size (m0 + 1) _ rfl rfl ⟨⟨_, Ig⟩, _, Array.getElem?_push_size .., ⟨rfl, ?_⟩⟩ ⟨_, _, _, Heap.get?_push_size _ rfl, rfl, rfl, rfl⟩ (fun s H J => ?_) fun s' H J => ?_
    · have loop := fun (s₀ s' : Shared) (e1 : s'.heap = h'.push { cls := .type "generator", data := .fields #[.int s2.gens.size 0, .str "<genexpr>" (tk + 1), .str (X.env.qual ++ "<genexpr>") (tk + 1 + 1)] }) (e2 : s'.os = s2.os) (e3 : AllBare s'.gens) => seg_gen (iter := iter) (scope := scope) (pos := gpos) (stp := stp) (Q := Q) hc T (hg _ _ _ code _ fp _) (he _ _ _ code _ fp _ hin) hco hfpa hW m0 (m0 + 1) 0 s₀ s' _ (Nat.lt_succ_self _) w0 (inv_same Ig e1 e2 e3) (by rw [e1]; exact st5) hfpn
      show Seg _ X.A.in1.in1 _ _ _ _ _ ((compStart (.GeneratorExp elt [⟨tg, iter, [], 0⟩] scope gpos) 0 (.ref it) .none (genEnv scope (cloFrom X.env.cells scope.names []) h3.objs.size code builtinsNs X.env)).onRaise (leaving (genEnv scope (cloFrom X.env.cells scope.names []) h3.objs.size code builtinsNs X.env))) [] _
      unfold compStart
      rw [Sem.onRaise_eq_wrap]
      show Seg _ X.A.in1.in1 _ _ _ _ _ ((ask >>= _).wrap _ _ _ _) [] _
      refine seg_bind_wrap (wpAny_askSetting ?_)
      split
      · exact seg_again rfl (loop _ _ rfl rfl (allBare_setGen Ig.bare rfl))
      · first
          | exact seg_bind_wrap (wpAny_rule (seg_bind_wrap (wpAny_standAt (seg_bind_wrap (T.self _ 0 _ _ _ st5 (seg_again rfl (loop _ _ rfl rfl (allBare_setGen Ig.bare rfl))))))))
          | (refine seg_bind_wrap (wpAny_rule ?_); show Seg _ X.A.in1.in1 _ _ _ _ _ ((standAt iter.pos >>= _).wrap _ _ _ _) [] _; exact seg_bind_wrap (wpAny_standAt (seg_bind_wrap (T.self _ 0 _ _ _ st5 (seg_again rfl (loop _ _ rfl rfl (allBare_setGen Ig.bare rfl)))))))
    · obtain ⟨z, _⟩ := J.pin (h'.objs.size, _) (List.mem_append_left _ (List.mem_singleton.mpr rfl))
      exact ⟨_, _, _, z, rfl, rfl, rfl⟩
    · exact I4.call' (ch := fp) J.os J.base J.hok J.bare fun b hb => ⟨(f4 b hb).1.2.2.2.1, (f4 b hb).1.2.1, (f4 b hb).1.2.2.2.2.1, (f4 b hb).1.2.2.2.2.2⟩
  cases hf : codeAmong gpos ps.toList with
  | none =>
    refine wpAny_genexprCodeX hcode (cd.code hPs htr) (cd.tab hPs) hf fun c' h' tk hx hge hlt hco' _ htab' hnew => ?_
    obtain ⟨o1, vs, f1, tf, fl, tg', inF, tx, tt, op, _, _, _, _, _, _, _, _, _, htr', _⟩ := hco'
    obtain ⟨P', hP', hc1, ht1⟩ := hnew
    obtain ⟨I4, ne⟩ := inv_grow (t' := tk) (pos := gpos) I2 hP (fun b u hb e => hx b u hb e) htab'.2 hge hP' (PySem.W.CodeHd.of hc1 ht1) ht1.2
    have hcn : H2 c' = none := I2.hok.fresh hge
    have hPn : H2 P' = none := I2.hok.fresh hP'
    have nPc : P ≠ c' := fun z => by rw [z, hcn] at hP; cases hP
    have nPP : P ≠ P' := fun z => by rw [z, hPn] at hP; cases hP
    refine cont _ h' tk _ I4 hx (Nat.le_trans hge (Nat.le_of_lt hlt)) (.inr ⟨P, ps, gpos, c', P', hP, htr, htr', hcn, hPn, ne, rfl⟩) (fun b hb e => ?_) ⟨P, hD, _, by rw [upd_ne nPP, upd_ne nPc, upd_same], htr', ?_⟩
    · have n1 : b ≠ P := fun z => by rw [z, hP] at e; cases e
      have n2 : b ≠ c' := fun z => by rw [z] at hb; exact absurd (Nat.lt_of_lt_of_le hb hge) (Nat.lt_irrefl _)
      have n3 : b ≠ P' := fun z => by rw [z] at hb; exact absurd (Nat.lt_of_lt_of_le hb hP') (Nat.lt_irrefl _)
      rw [upd_ne n3, upd_ne n2, upd_ne n1]; exact e
    · have : (ps ++ #[rawInt gpos.line, rawInt gpos.col, Value.ref c']).toList = ps.toList ++ [rawInt gpos.line, rawInt gpos.col, .ref c'] := by simp
      rw [this]
      exact among_snoc _ htr hf
  | some cv =>
    refine wpAny_genexprCode_hit hcode (cd.code hPs htr) hf ?_
    exact cont cv s2.heap s2.toks H2 I2 (Heap.ExtBut.refl _ _) (Nat.le_refl _) (.inl rfl) (fun _ _ e => e) ⟨P, hD, ps, hP, htr, hf⟩
end
/-! ### the rule -/
open Classical in
noncomputable def allM (src : Src) (g : MG) (me : ME) (e : Env) (stp : Bool) : List D → Store → Res D
  | [], S => if src.ok S then .ok (.bl (!stp)) S else .bad
  | d :: ds, S => if src.ok S then match g d e S with
    | some e1 => (noEx (me e1 S)).bind fun y S2 => match y with
      | .bl b => if b = stp then .ok (.bl stp) S2 else allM src g me e stp ds S2
      | _ => .bad
    | none => .bad else .bad
noncomputable def mAll (stp : Bool) (mi : MI) (g : MG) (me : ME) (vs : List Nat) : ME := fun e S => (mi e S).bind fun src S1 => allM src g me (wipeE e vs) stp src.xs S1
theorem rel_grown {K : PySem.W.Frag} {ρ : Rh} {H H' : Hp} {S : Store} (R : Rel K ρ H S) (g : Grown H H') : Fr ρ H ρ H' ∧ Rel K ρ H' S := by
  rcases g with rfl | ⟨P, ps, pos, c, P', hP, ht, ht', hcn, hPn, ne, rfl⟩
  · exact ⟨Fr.refl _ _, R⟩
  have nPc : P ≠ c := fun z => by rw [z, hcn] at hP; cases hP
  have nPP : P ≠ P' := fun z => by rw [z, hPn] at hP; cases hP
  generalize hH' : upd (upd (upd H P (.tbl (ps ++ #[rawInt pos.line, rawInt pos.col, .ref c]))) c (CodeX c P')) P' (.tbl #[]) = H'
  have sm : ∀ b u, H b = some u → b ≠ P → H' b = some u := fun b u e q => by
    rw [← hH', upd_ne (fun z => by rw [z, hPn] at e; cases e), upd_ne (fun z => by rw [z, hcn] at e; cases e), upd_ne q]; exact e
  have atP : H' P = some (.tbl (ps ++ #[rawInt pos.line, rawInt pos.col, .ref c])) := by rw [← hH', upd_ne nPP, upd_ne nPc, upd_same]
  have atc : H' c = some (CodeX c P') := by rw [← hH', upd_ne ne, upd_same]
  have atP' : H' P' = some (.tbl #[]) := by rw [← hH', upd_same]
  have nP : ∀ b u, H b = some u → NT u → b ≠ P := fun b u e nt z => by rw [z, hP] at e; cases e; exact nt ps rfl
  have f : Fr ρ H ρ H' := ⟨⟨[], by simp, by simp⟩, fun a o h _ nt => sm a o h (nP a o h nt), fun a o h => by
    by_cases z : a = P
    · exact ⟨_, by rw [z]; exact atP⟩
    · exact ⟨o, sm a o h z⟩⟩
  have kid : ∀ (c0 P0 : Addr) (qs : Array Value), H c0 = some (CodeX c0 P0) → H P0 = some (.tbl qs) → TriplesOk qs.toList → H' c0 = some (CodeX c0 P0) ∧ ∃ qs', H' P0 = some (.tbl qs') ∧ TriplesOk qs'.toList := fun c0 P0 qs h1 h2 h3 => by
    refine ⟨sm c0 _ h1 (nP c0 _ h1 fun _ z => by cases z), ?_⟩
    by_cases z : P0 = P
    · exact ⟨_, by rw [z]; exact atP, ht'⟩
    · exact ⟨qs, sm P0 _ h2 z, h3⟩
  refine ⟨f, R.len, R.nd, fun n o a e1 e2 => ?_, fun a m => ?_, fun a m => ?_⟩
  · have q := R.at_ n o a e1 e2
    cases o with
    | lst ds => obtain ⟨vs, h1, h2⟩ := q; exact ⟨vs, sm a _ h1 (nP a _ h1 fun _ z => by cases z), RepDs.fr R.free f _ _ h2⟩
  · obtain ⟨vs, h1⟩ := R.hid a m
    exact ⟨vs, sm a _ h1 (nP a _ h1 fun _ z => by cases z)⟩
  · obtain ⟨qs, h1, h2, h3⟩ := R.tab a m
    by_cases z : a = P
    · subst z
      rw [hP] at h1; cases h1
      refine ⟨_, atP, ht', fun p0 cv hc => ?_⟩
      have e9 : (ps ++ #[rawInt pos.line, rawInt pos.col, Value.ref c]).toList = ps.toList ++ [rawInt pos.line, rawInt pos.col, .ref c] := by simp
      rw [e9] at hc
      rcases LamX.among_app _ ht hc with hc | rfl
      · obtain ⟨c0, P0, qs, g1, g2, g3, g4⟩ := h3 p0 cv hc
        obtain ⟨k1, qs', k2, k3⟩ := kid c0 P0 qs g2 g3 g4
        exact ⟨c0, P0, qs', g1, k1, k2, k3⟩
      · exact ⟨c, P', #[], rfl, atc, atP', trivial⟩
    · refine ⟨qs, sm a _ h1 z, h2, fun p0 cv hc => ?_⟩
      obtain ⟨c0, P0, qs, g1, g2, g3, g4⟩ := h3 p0 cv hc
      obtain ⟨k1, qs', k2, k3⟩ := kid c0 P0 qs g2 g3 g4
      exact ⟨c0, P0, qs', g1, k1, k2, k3⟩
section
variable {X : Cx} {W : WX} {mi : MI} {g : MG} {sl vs : List Nat} {me : ME} {stp : Bool}
theorem all_imp (hsl : ∀ i ∈ sl, i ∈ vs) {σ : L2.St} {H : Hp} {Q : VK} (h : tE X.K X.mg W (mAll stp mi g me vs) σ H Q) :
    tI X.K X.mg W mi σ H fun J H1 => (∀ a ∈ Tabs.t, TabN H1 a) ∧ ∀ H2, Grown H1 H2 → ∃ (W : Nat → Nat → Hp → Prop) (m0 : Nat), W 0 m0 H2 ∧ genW J (tG X.K g sl) (tE X.K X.mg W0 me) stp Q (wipe σ vs) vs W := by
  obtain ⟨ρ, e, S, he, R, q⟩ := h
  refine ⟨ρ, e, S, he, R, (Post.bind q).mono fun src S1 ρ1 H1 f1 R1 q J hJ => ?_⟩
  refine ⟨R1.tab, fun H2 hgr => ?_⟩
  obtain ⟨ft, Rt⟩ := rel_grown R1 hgr
  have het := (he.fr R.free f1).fr R1.free ft
  refine ⟨fun i m H' => m = src.xs.length - i ∧ i ≤ src.xs.length ∧ ∃ ρ' S', Fr ρ1 H1 ρ' H' ∧ Rel X.K ρ' H' S' ∧ PostE X.K X.mg W ρ' H' σ Q (allM src g me (wipeE e vs) stp (src.xs.drop i) S'), src.xs.length, ⟨rfl, Nat.zero_le _, ρ1, S1, ft, Rt, Post.fr ft q⟩, ?_⟩
  rintro i m H' ⟨rfl, hi, ρ', S', f, R', q⟩
  rcases Nat.lt_or_ge i src.xs.length with hlt | hge
  · rw [List.drop_eq_getElem_cons hlt] at q
    unfold allM at q
    by_cases hok : src.ok S'
    case neg => rw [if_neg hok] at q; exact q.elim
    rw [if_pos hok] at q
    obtain ⟨hgo, hy⟩ := hJ.go ρ' H' S' i _ (.of f) R' hok (List.getElem?_eq_getElem hlt)
    refine .inr ⟨hgo, fun x H'' yy => ?_⟩
    obtain ⟨f2, R2, r2⟩ := hy x H'' yy
    cases hgd : g src.xs[i] (wipeE e vs) S' with
    | none => rw [hgd] at q; exact q.elim
    | some e1 =>
      rw [hgd] at q
      dsimp only at q
      have he2 : EnvRel X.K ρ' H'' (wipe σ vs) (wipeE e vs) := ((((he.fr R.free f1).fr R1.free f)).fr R'.free f2).wipe vs
      refine ⟨ρ', _, S', _, e1, he2, R2, r2, hgd, fun σ2 hσ2 hw => ⟨(hw vs hsl).trans (wipe_wipe fun _ h => h), ρ', e1, S', hσ2, R2, ?_⟩⟩
      cases hm : me e1 S' with
      | bad => rw [hm] at q; exact q.elim
      | ex c S2 => rw [hm] at q; exact q.elim
      | ok y S2 =>
        rw [hm] at q
        simp only [noEx_ok, Res.bind_ok] at q
        intro ρ3 H3 f3 R3 v r3
        cases y with
        | bl b =>
          cases r3
          refine ⟨b, rfl, ?_⟩
          by_cases hb : b = stp
          · rw [if_pos hb]
            dsimp only at q
            rw [if_pos hb] at q
            exact q ρ3 H3 (f2.trans f3) R3 _ (.bl stp)
          · rw [if_neg hb]
            dsimp only at q
            rw [if_neg hb] at q
            exact ⟨src.xs.length - (i + 1), by omega, rfl, hlt, ρ3, S2, (f.trans f2).trans f3, R3, Post.fr (f2.trans f3) q⟩
        | _ => exact q.elim
  · have e0 : i = src.xs.length := by omega
    subst e0
    rw [List.drop_length] at q
    unfold allM at q
    by_cases hok : src.ok S'
    case neg => rw [if_neg hok] at q; exact q.elim
    rw [if_pos hok] at q
    exact .inl ⟨hJ.stop ρ' H' S' (.of f) R' hok, q ρ' H' (Fr.refl _ _) R' _ (.bl _)⟩
variable {k : Nat} {c : Addr} {elt tg iter : Expr} {scope : Scope} {own : List (Str × Nat)} {p gpos pos : Pos}
/-- where a frame's generator expressions have their code -/
structure GenIn (X : Cx) (D : Addr → Prop) : Prop where
  bb : ∃ P, X.base.BuiltinsAt X.mg P
  hT : ∀ (pins : List (Addr × Obj)) (σ : L2.St) (H : Hp) (s : Shared), Inv X pins σ H s → (∀ a ∈ Tabs.t, TabN H a) → ∃ c P qs, X.env.code = .ref c ∧ D P ∧ PySem.W.CodeHd s.heap c P ∧ H P = some (.tbl qs) ∧ TriplesOk qs.toList
theorem genIn_def {P : Addr} (TB : GxR.TabB X.base X.mg c P) (hP : P ∈ Tabs.t) (hcode : X.env.code = .ref c) : GenIn X (fun P => P ∈ Tabs.t) :=
  ⟨⟨P, TB.bm⟩, fun pins σ H s I tN => by
    obtain ⟨ps, h1, h2, _⟩ := tN P hP
    exact ⟨c, P, ps, hcode, hP, TB.code.keeps fun b u e => I.bk b u e, h1, h2⟩⟩
theorem among_more {pos : Pos} {cv : Value} (l r : List Value) (h : TriplesOk l) (hc : codeAmong pos l = some cv) : codeAmong pos (l ++ r) = some cv := by
  fun_induction TriplesOk l with
  | case1 => simp [codeAmong] at hc
  | case2 a t b u x rest ih =>
    simp only [List.cons_append, codeAmong] at hc ⊢
    split at hc
    · rename_i q
      rw [if_pos q]; exact hc
    · rename_i q
      rw [if_neg q]; exact ih h hc
  | case3 l h1 h2 => exact h.elim
theorem genIn_in {s : Shared} {H : Hp} {C : Addr} {code : Value} {cl : List (Str × Addr)} {fp : List Addr} {p : Addr × Obj} (bb : ∃ P, X.base.BuiltinsAt X.mg P) (hin : InTab (fun P => P ∈ Tabs.t) gpos H code) :
    GenIn (genCx X s H (genEnv scope cl C code builtinsNs X.env) fp p) (fun _ => True) :=
  ⟨bb, fun pins σ H' s' I tN => by
    obtain ⟨P, hP, ps, h1, h2, h3⟩ := hin
    obtain ⟨more, h4⟩ := I.base.tbls P ps h1
    obtain ⟨qs, e1, e2, e3⟩ := tN P hP
    rw [h4] at e1; cases e1
    obtain ⟨c, P', rs, g1, g2, g3, g4⟩ := e3 gpos code (by rw [Array.toList_append]; exact among_more _ _ h2 h3)
    have q : PySem.W.CodeHd s'.heap c P' := (I.hok c _ g2).1
    exact ⟨c, P', rs, g1, trivial, q, g3, g4⟩⟩
theorem em_all (own : List (Str × Nat)) (hr : Room k X.A) (hgl : Gl X "all") (hm : X.mg "all" = none) {D : Addr → Prop} (gin : GenIn X D) (hi : IM X W tg iter mi) (ok : BlkOk X.N X.env.scope scope own) (hsl : ∀ i ∈ sl, i ∈ own.map (·.2)) (hN : X.N.Nodup) (hc : X.calm = true) (hco : scope.isCoroutine = false) (hcell : ∀ y ∈ scope.names, y.2 ≠ .cell)
    (h0 : scope.names.lookup (".0" : Str) = some NameKind.local)
    (hg : ∀ (s : Shared) (H : Hp) (C : Addr) (code : Value) (cl : List (Str × Addr)) (fp : List Addr) (p : Addr × Obj), GM (genCx X s H (genEnv scope cl C code builtinsNs X.env) fp p) tg g sl)
    (he : ∀ (s : Shared) (H : Hp) (C : Addr) (code : Value) (cl : List (Str × Addr)) (fp : List Addr) (p : Addr × Obj), InTab D gpos H code → EM (genCx X s H (genEnv scope cl C code builtinsNs X.env) fp p) W0 elt me)
    (hs : ∀ v, genFold iter X.env v = pure v := by intro _; rfl) (hb : bootBuiltins "all" = some (.builtin "all") := by rfl)
    (hse : starEach [.GeneratorExp elt [⟨tg, iter, [], 0⟩] scope gpos] X.env = (false, eval (.GeneratorExp elt [⟨tg, iter, [], 0⟩] scope gpos) X.env) :: starEach [] X.env := by rfl) :
    EM X W (.Call (.Name "all" p) [.GeneratorExp elt [⟨tg, iter, [], 0⟩] scope gpos] [] pos) (mAll false mi g me (own.map (·.2))) := by
  refine ⟨fun pins s σ H Q I h => ?_⟩
  refine wpAny_Call_Name_kw (ld_blt I hgl hm hb ?_)
  refine PyProof.Rows.callWith_builtin1 ?_ hse (by rfl)
  rw [hse]
  show wpAny _ _ (spliced ((false, eval (.GeneratorExp elt [⟨tg, iter, [], 0⟩] scope gpos) X.env) :: backTo pos (starEach [] X.env))) _ _ s
  refine Calls.spliced_cons (mk_gen (stp := false) (Q := Q) hr gin.bb gin.hT hi ok hN hc hco hcell h0 hg he hs I (all_imp hsl h) fun Xg a gi n s5 e1 e2 hG hga hgal back => ?_)
  refine Calls.spliced_nil ?_
  refine call_function_tree F.kind_all F.plain_all F.entry_all (F.args_all1 _) ?_
  unfold Builtin.«all»
  refine wpAny_bind (m := oneArg "all" _) (wpAny_pure ?_)
  refine wpAny_bind (wpAny_pyIter_gen hga ?_)
  refine wpAny_pure ⟨plainId_quiet F.plain_all_loop _, ?_⟩
  rw [← e1, ← e2]
  refine all_go (A := X.A) hr.hd (by have := hr.dp; omega) hgal (fun b s' H' J q => ?_) n s5 hG
  exact ⟨.bl b, H', back s' H' J, rfl, q⟩
theorem em_any (own : List (Str × Nat)) (hr : Room k X.A) (hgl : Gl X "any") (hm : X.mg "any" = none) {D : Addr → Prop} (gin : GenIn X D) (hi : IM X W tg iter mi) (ok : BlkOk X.N X.env.scope scope own) (hsl : ∀ i ∈ sl, i ∈ own.map (·.2)) (hN : X.N.Nodup) (hc : X.calm = true) (hco : scope.isCoroutine = false) (hcell : ∀ y ∈ scope.names, y.2 ≠ .cell)
    (h0 : scope.names.lookup (".0" : Str) = some NameKind.local)
    (hg : ∀ (s : Shared) (H : Hp) (C : Addr) (code : Value) (cl : List (Str × Addr)) (fp : List Addr) (p : Addr × Obj), GM (genCx X s H (genEnv scope cl C code builtinsNs X.env) fp p) tg g sl)
    (he : ∀ (s : Shared) (H : Hp) (C : Addr) (code : Value) (cl : List (Str × Addr)) (fp : List Addr) (p : Addr × Obj), InTab D gpos H code → EM (genCx X s H (genEnv scope cl C code builtinsNs X.env) fp p) W0 elt me)
    (hs : ∀ v, genFold iter X.env v = pure v := by intro _; rfl) (hb : bootBuiltins "any" = some (.builtin "any") := by rfl)
    (hse : starEach [.GeneratorExp elt [⟨tg, iter, [], 0⟩] scope gpos] X.env = (false, eval (.GeneratorExp elt [⟨tg, iter, [], 0⟩] scope gpos) X.env) :: starEach [] X.env := by rfl) :
    EM X W (.Call (.Name "any" p) [.GeneratorExp elt [⟨tg, iter, [], 0⟩] scope gpos] [] pos) (mAll true mi g me (own.map (·.2))) := by
  refine ⟨fun pins s σ H Q I h => ?_⟩
  refine wpAny_Call_Name_kw (ld_blt I hgl hm hb ?_)
  refine PyProof.Rows.callWith_builtin1 ?_ hse (by rfl)
  rw [hse]
  show wpAny _ _ (spliced ((false, eval (.GeneratorExp elt [⟨tg, iter, [], 0⟩] scope gpos) X.env) :: backTo pos (starEach [] X.env))) _ _ s
  refine Calls.spliced_cons (mk_gen (stp := true) (Q := Q) hr gin.bb gin.hT hi ok hN hc hco hcell h0 hg he hs I (all_imp hsl h) fun Xg a gi n s5 e1 e2 hG hga hgal back => ?_)
  refine Calls.spliced_nil ?_
  refine call_function_tree F.kind_any F.plain_any F.entry_any (F.args_any1 _) ?_
  unfold Builtin.«any»
  refine wpAny_bind (m := oneArg "any" _) (wpAny_pure ?_)
  refine wpAny_bind (wpAny_pyIter_gen hga ?_)
  refine wpAny_pure ⟨plainId_quiet F.plain_any_loop _, ?_⟩
  rw [← e1, ← e2]
  refine any_go (A := X.A) hr.hd (by have := hr.dp; omega) hgal (fun b s' H' J q => ?_) n s5 hG
  exact ⟨.bl b, H', back s' H' J, rfl, q⟩
end
end M


set_option Elab.async false
set_option linter.all false
set_option maxRecDepth 100000
set_option maxHeartbeats 4000000
namespace M
open PySem PySem.Spec PyProof.Rows L2 RT
variable [Tabs]
section
variable {prog : Program} {w : World} {A : Around} {E : Value → Shared → Prop} {s : Shared}
theorem call_list_rev {it l : Addr} {items : Array Value} {Q : Value → Shared → Prop} (hh : A.handled = none) (hit : s.heap.IsRevIter it l ((items.size : Int) - 1)) (hl : s.heap.IsList l items) (hne : l ≠ it) (hn : items.size ≤ sizeLine)
    (hQ : ∀ (h' : Heap) (tk : Nat) (acc : Array Value) (c : Nat), (∀ b o, b ≠ it → s.heap.get? b = some o → h'.get? b = some o) → h'.get? s.heap.objs.size = some { cls := .type "list", dict := none, data := .seq acc c, slots := #[] } → ItemsOf (fun i v => items[items.size - 1 - i]? = some v) acc items.size → Q (.ref s.heap.objs.size) { s with heap := h', toks := tk }) :
    wpAny (model prog w) A (call (.type "list") [.ref it]) Q E s := by
  have W := (Walks.listRev (prog := prog) (w := w) (A := A.in1.in1) hh it l hne items).toS
  obtain ⟨oi, hoi, _⟩ := id hit
  obtain ⟨ol, hol, _⟩ := id hl
  have hSi : s.heap.objs.size ≠ it := Nat.ne_of_gt (Heap.lt_size hoi)
  have hSl : s.heap.objs.size ≠ l := Nat.ne_of_gt (Heap.lt_size hol)
  have hSf : s.heap.objs.size ∉ [it, l] := by simp only [List.mem_cons, List.not_mem_nil, or_false, not_or]; exact ⟨hSi, hSl⟩
  refine callType_codes (Q₁ := fun obj s₁ => obj = .ref s.heap.objs.size ∧ s₁ = { s with heap := s.heap.push { cls := .type "list", data := .seq #[] } }) F.called_list (F.typeCall_list_1 _) F.entry_list_init
    (code_list_new _ ⟨rfl, rfl⟩) fun obj s₁ h₁ => ?_
  obtain ⟨rfl, rfl⟩ := h₁
  have hS : (s.heap.push { cls := .type "list", data := .seq #[] }).get? s.heap.objs.size = some { cls := .type "list", data := .seq #[] } := Heap.get?_push_size _ rfl
  refine ⟨⟨_, hS, rfl⟩, F.args_list_init_2 _ _, ?_⟩
  show wpAny _ A.in1.in1 (do let old ← Builtin.List.listItems (.ref s.heap.objs.size); Builtin.List.listUpdate (.ref s.heap.objs.size) (fun _ => #[]); letGo old.toList.reverse; Builtin.List.listExtendWith (.ref s.heap.objs.size) (.ref it) .none) _ _ _
  refine wpAny_bind ?_
  unfold Builtin.List.listItems
  refine wpAny_bind (wpAny_seqItems hS rfl (wpAny_pure ?_))
  show wpAny _ A.in1.in1 (updateSeq s.heap.objs.size (fun _ => #[]) >>= fun _ => letGo (#[] : Array Value).toList.reverse >>= fun _ => Builtin.List.listExtendWith (.ref s.heap.objs.size) (.ref it) .none) _ _ _
  refine wpAny_bind (wpAny_updateSeq hS rfl ?_)
  have hS2 := Heap.get?_update_self (Obj.mapSeq (fun _ => (#[] : Array Value))) hS rfl
  have k2 : ∀ b o, s.heap.get? b = some o → ((s.heap.push { cls := .type "list", data := .seq #[] }).update s.heap.objs.size (Obj.mapSeq (fun _ => (#[] : Array Value)))).get? b = some o := fun b o e =>
    (Heap.get?_update_other _ _ (Ne.symm (Nat.ne_of_lt (Heap.lt_size e)))).trans (Heap.get?_push_of_some _ e)
  refine wpAny_bind (wpAny_letGo ?_)
  unfold Builtin.List.listExtendWith
  generalize hh2 : ((s.heap.push { cls := .type "list", data := .seq #[] }).update s.heap.objs.size (Obj.mapSeq (fun _ => (#[] : Array Value)))) = h2 at hS2 k2 ⊢
  have hit1 : h2.IsRevIter it l ((items.size : Int) - 1) := hit.at fun o e => k2 _ _ e
  have hl1 : h2.IsList l items := by
    obtain ⟨ol, hol, r⟩ := id hl
    exact ⟨ol, k2 _ _ hol, r⟩
  have hT : ({ s with heap := h2 } : Shared).TypeIs (.ref it) "list_reverseiterator" := Heap.IsRevIter.typeIs (s := { s with heap := h2 }) hit1
  have h1 : Builtin.List.listSameRef (.ref s.heap.objs.size) (.ref it) = false := by simp [Builtin.List.listSameRef, hSi]
  refine wpAny_bind (wpAny_typeOf hT ?_)
  rw [if_neg (by rw [h1]; decide)]
  refine wpAny_bind (wpAny_pyIter_revIter (s := { s with heap := h2 }) hit1 ?_)
  refine wpAny_bind (wpAny_holding ?_)
  unfold Builtin.List.listLengthHint
  refine wpAny_bind (wpAny_specialOf hT nolen_lri ?_)
  show wpAny _ A.in1.in1 (specialOf (Value.ref it) (Str.ofString "__length_hint__") >>= _) _ _ _
  refine wpAny_bind (wpAny_specialOf hT hint_lri ?_)
  generalize hid : ("list_reverseiterator.__length_hint__" : String) = id0
  wp_delta
  rw [show splitId id0 = some ("list_reverseiterator", "__length_hint__") from by subst hid; decide +kernel]
  subst hid
  refine wpAny_bind (wpAny_isInstance (b := true) hT (by rw [isSubtype_type]; kernel_rfl) ?_)
  refine wpAny_pure ?_
  rw [if_neg (by decide)]
  have e0 : ((items.size : Nat) : Int) - 1 - ((0 : Nat) : Int) = (items.size : Int) - 1 := by omega
  refine wpAny_pure ⟨plainId_quiet F.plain_extend_loop _, codeAny_extend_loopS W hn _ hSf _ items.size 0 _ _ _ rfl (Nat.zero_le _) ⟨Nat.zero_le _, by rw [e0]; exact hit1, hl1⟩ hS2 (ItemsOf.nil _) fun s' acc' c' hm hS' hacc => ?_⟩
  refine ⟨rfl, ?_⟩
  rw [Moved.eq_with hm]
  refine hQ s'.heap s'.toks acc' c' (fun b o hb e => hm.heap b o (fun hmem => ?_) (k2 b o e)) hS' hacc
  rcases List.mem_cons.mp hmem with e' | hmem
  · exact absurd (Heap.lt_size e) (by rw [e']; exact Nat.lt_irrefl _)
  · exact hb (List.mem_singleton.mp hmem)
end
def tListRev (K : PySem.W.Frag) (te : TE) : TE := fun σ H Q => te σ H fun v H1 => ∃ (a : Addr) (xs : List V), v = .ref a ∧ SqL K H1 a xs ∧ ∀ p, H1 p = none → Q (.ref p) (upd H1 p (.lst xs.reverse))
section
variable {X : Cx} {W : WX} {e : Expr} {m : ME}
theorem pe_listRev {te : TE} {p p2 pos pos2 : Pos} (hg : Gl X "list") (hm : X.mg "list" = none) (hg2 : Gl X "reversed") (hm2 : X.mg "reversed" = none) (hc : X.calm = true) (he : PE X e te)
    (hs : starEach [e] X.env = (false, eval e X.env) :: starEach [] X.env := by rfl)
    (hs2 : starEach [.Call (.Name "reversed" p2) [e] [] pos2] X.env = (false, eval (.Call (.Name "reversed" p2) [e] [] pos2) X.env) :: starEach [] X.env := by rfl) :
    PE X (.Call (.Name "list" p) [.Call (.Name "reversed" p2) [e] [] pos2] [] pos) (tListRev X.K te) := by
  refine ⟨fun pins s σ H Q I h => ?_⟩
  refine Call_ (ld_blt I hg hm (by rfl) (PyProof.Rows.callWith_type1 (args_cons (Call_ (ld_blt I hg2 hm2 PyProof.Rows.boot_reversed (PyProof.Rows.callWith_type1 (args_cons (thn (he.run pins s σ H _ I h) fun u s1 ⟨v, H1, I1, r1, q1⟩ => args_nil ?_) hs) hs rfl))) hs2) hs2 rfl))
  obtain ⟨a, xs, ev, hq, q⟩ := q1
  subst ev
  obtain rfl : u = Value.ref a := r1
  obtain ⟨its, rv, p', hz⟩ := I1.list hq
  refine call_reversed_list p'.isList (args_nil ?_)
  have k0 : ∀ b o, s1.heap.get? b = some o → (s1.heap.push (revObj a ((its.toArray.size : Int) - 1))).get? b = some o := fun b o e => Heap.get?_push_of_some _ e
  have I2 : Inv X pins σ H1 { s1 with heap := s1.heap.push (revObj a ((its.toArray.size : Int) - 1)) } := I1.kept (t' := s1.toks) k0
  obtain ⟨f0, f1, f2, f3, f4, f5⟩ := I1.fpOk (H' := H1) (b := s1.heap.objs.size) (Nat.le_refl _) (I1.hok.fresh (Nat.le_refl _))
  have hl := p'.isList
  obtain ⟨ol, hol, _⟩ := id hl
  have hne : a ≠ s1.heap.objs.size := Nat.ne_of_lt (Heap.lt_size hol)
  have hn : its.toArray.size ≤ sizeLine := by rw [List.size_toArray, ← rv.length]; exact hz
  refine call_list_rev (s := { s1 with heap := s1.heap.push (revObj a ((its.toArray.size : Int) - 1)) }) (I1.ok.hd hc) ⟨_, Heap.get?_push_size _ rfl, rfl, rfl⟩ (hl.push _) hne hn fun h' tk acc c hk hS hi => ?_
  have hsz2 : (s1.heap.push (revObj a ((its.toArray.size : Int) - 1))).objs.size = s1.heap.objs.size + 1 := Heap.size_push ..
  have I3 := I2.turnedNew (h' := h') (t' := tk) (ch := [s1.heap.objs.size]) (T := (s1.heap.push (revObj a ((its.toArray.size : Int) - 1))).objs.size) (ob := .lst xs.reverse) (fun b o hb e => hk b o (fun z => hb (by simp [z])) e)
    (fun b hb => by rw [List.mem_singleton.mp hb]; exact ⟨f0, f1, f2, f3, f4, f5⟩) (Nat.le_refl _) ⟨by rw [List.length_reverse]; exact hz, acc.toList, c, vals_rev rv hi, hS⟩
  exact ⟨.ref _, _, I3, rfl, q _ (I2.hok.fresh (Nat.le_refl _))⟩
end
section
variable {X : Cx} {W : WX} {e : Expr} {m : ME}
def mListRev (m : ME) : MA := fun e S => (m e S).bind fun d S1 => .of ((lstOf S1 d).map List.reverse) S1
theorem nm_listRev {p p2 pos pos2 : Pos} (hg : Gl X "list") (hm : X.mg "list" = none) (hg2 : Gl X "reversed") (hm2 : X.mg "reversed" = none) (hc : X.calm = true) (he : EM X W e m)
    (hs : starEach [e] X.env = (false, eval e X.env) :: starEach [] X.env := by rfl)
    (hs2 : starEach [.Call (.Name "reversed" p2) [e] [] pos2] X.env = (false, eval (.Call (.Name "reversed" p2) [e] [] pos2) X.env) :: starEach [] X.env := by rfl) :
    NM X W (.Call (.Name "list" p) [.Call (.Name "reversed" p2) [e] [] pos2] [] pos) (mListRev m) :=
  pe_imp (pe_listRev hg hm hg2 hm2 hc he hs hs2) fun σ H Q ⟨ρ, e, S, he, R, q⟩ => ⟨ρ, e, S, he, R, (PostN.bind q).mono fun d S1 ρ1 H1 f1 R1 q v r => by
    cases hd : lstOf S1 d with
    | none => rw [hd] at q; exact q.elim
    | some xs =>
      rw [hd] at q
      obtain ⟨a, vs, rfl, hr, rd⟩ := lstOf_rep R1 r hd
      exact ⟨a, vs, rfl, hr, PostN.of_new R1 rd.reverse q⟩⟩
/-- a global that the top has written -/
theorem em_glob {x : Str} {d : D} {v : V} {u : Value} {pos : Pos} (hg : Gl X x) (hm : X.mg x = some u) (r : RelV v u) (rd : ∀ ρ H, RepD X.K ρ H d v) (hd : (x == ("__debug__" : Str)) = false := by decide) : EM X W (.Name x pos) (mC d) := em_c (pe_glob hg hm r hd) rd
end
/-! ### a def of the hook -/
section
variable {P : Program} {w : World} {K : PySem.W.Frag} {mg : Str → Option Value} {base : Heap}
theorem fn_mD {x qual : Str} {params : Arguments} {body : List Stmt} {scope : Scope} {f : Addr} {fd : FuncData} {N ps : List Str} {k : Nat} {b : MS} (F : FunD K x qual params body scope [] [] f fd) (S : FnScope N ps scope)
    (hbody : ∀ (A : Around) (outer : List PySem.Env) (s : Shared) (H : Hp) (E : XK), Room k (A.deeper (envOfC qual scope s.heap.objs.size f fd.code)) →
      BM (cxOf (L2.CX P w) P w K mg base N qual scope f fd.code A outer s H E) (fun c d _ H => E c d H) body b) : FnM P w K mg base (k + 1) f fd ps (runF N.length b) := by
  obtain ⟨oc, od, dV, kV, doc, pm, an, cdv, ct, osl, rfl, lk, hcd, _, _⟩ := F.ex
  refine fn_of lk hcd S (fun vs H Q E h => spM_len h) (fun A outer s H vs Q E hr h => ⟨_, hbody A outer s H E hr, ?_⟩)
  obtain ⟨ρ, ds, S, hl, r, R, q⟩ := h
  refine ⟨ρ, _, S, env_start r, R, ?_⟩
  show PostS K mg _ ρ H _ _
  unfold runF at q
  split at q
  · rename_i d e' S' hb
    rw [hb]
    exact fun ρ' H' v f R' r => q ρ' H' f R' v r
  · rename_i e' S' hb
    rw [hb]
    exact fun ρ' H' σ' f R' _ => q ρ' H' f R' _ .non
  · rename_i c e' S' hb
    rw [hb]
    exact fun ρ' H' σ' C f R' _ => q ρ' H' C f R'
  · exact q.elim
variable {N : List Str} {qual : Str} {scope : Scope} {f : Addr} {cd : Value} {A : Around} {outer : List PySem.Env} {s : Shared} {H : Hp} {E : XK}
theorem tk0 {X : Cx} : Takes X W0 := fun _ _ ⟨_, _, _, _, _, _, _, _, _, _, _, _, _, _, _, _, w⟩ => w.elim
theorem takes_cx : Takes (cxOf (L2.CX P w) P w K mg base N qual scope f cd A outer s H E) (fun cls d _ H' => E cls d H') := takes_of rfl rfl rfl (E₁ := fun e' s'' => L2.CX P w outer H s E e' s'') rfl
theorem owns_cx : PassesOwn (model P w) (cxOf (L2.CX P w) P w K mg base N qual scope f cd A outer s H E).A (cxOf (L2.CX P w) P w K mg base N qual scope f cd A outer s H E).env (cxOf (L2.CX P w) P w K mg base N qual scope f cd A outer s H E).xe :=
  passes_of (X := cxOf (L2.CX P w) P w K mg base N qual scope f cd A outer s H E) (K := fun e s'' => L2.CX P w outer H s E e s'') (E₁ := fun e' s'' => L2.CX P w outer H s E e' s'') rfl
theorem fn_bad {n : Nat} {ps : List Str} {fd : FuncData} (k : Nat) : FnM P w K mg base k f fd ps (fun _ _ => .bad) :=
  ⟨fun _ _ _ _ h => spM_len h, fun _ _ _ _ _ _ _ _ _ _ _ _ _ ⟨_, _, _, _, _, _, q⟩ => q.elim⟩
end
end M


set_option Elab.async false
set_option linter.all false
set_option maxRecDepth 100000
set_option maxHeartbeats 4000000
namespace M
open PySem PySem.Spec PyProof.Rows L2
theorem tabB_of {base : Heap} {mg : Str → Option Value} {c P : Addr} (t : LamX.TabB base mg c P) : GxR.TabB base mg c P := ⟨t.code, t.bm, t.gP⟩
theorem cx_false {P : Program} {w : World} {H : Hp} {s s' : Shared} {e : Value} (h : L2.CX P w [] H s (fun _ _ _ => False) e s') : False := by
  obtain ⟨a, B, H', cls, d, rfl, fl, h1, h2, h3, h4, h5, z⟩ := h
  exact z
theorem code_ref {K : PySem.W.Frag} {x : Str} {params : Arguments} {body : List Stmt} {scope : Scope} {fd : FuncData} (F : FunD K x x params body scope [] [] (He.fAd K (x, none)) fd) : fd.code = .ref (He.codeOf K (x, none)) := by
  obtain ⟨oc, od, dV, kV, doc, pm, an, cdv, ct, osl, rfl, lk, hcd, _, _⟩ := F.ex
  obtain ⟨c, rfl⟩ := He.codeIn_ref hcd
  show Value.ref c = _
  rw [He.codeOf_eq lk rfl]
theorem spM_start {K : PySem.W.Frag} {mg : Str → Option Value} {H : Hp} {a : Addr} {ns : List Int} {m : List D → Store → Res D} {S' : Store} (e : m [.fro (ns.map D.int)] [] = .ok (.bl true) S') {cs : List (Addr × Addr)}
    (hT : ∀ p ∈ cs, H p.2 = some (.tbl #[])) (hS : SqL K H a (ns.map V.int)) : @spM ⟨cs.map (·.2)⟩ K mg 1 m [.ref a] H (fun v _ => v = .bl true) fun _ _ _ => False := by
  letI : Tabs := ⟨cs.map (·.2)⟩
  refine ⟨⟨[], []⟩, [.fro (ns.map D.int)], [], rfl, .cons ?_ .nil, ⟨rfl, List.nodup_nil, fun n o a e => by simp at e, fun a h => by simp at h, fun b hb => ?_⟩, ?_⟩
  · rcases hS with h | h
    · exact .fro h (by simp) (by simp) (RepDs.of_ints ns)
    · exact .frk h (RepDs.of_ints ns)
  · obtain ⟨p, hp, rfl⟩ := List.mem_map.mp hb
    exact ⟨#[], hT p hp, trivial, fun pos cv hc => by simp [codeAmong] at hc⟩
  · rw [e]
    exact fun ρ' H' f R' v r => r.inj_bl
end M


set_option Elab.async false
set_option linter.all false
set_option maxRecDepth 100000
set_option maxHeartbeats 4000000
/-! Plain lemmas: what the mirrors come to. -/
namespace M
open PySem PySem.Spec PyProof.Rows L2
section
variable [Tabs]
abbrev I (l : List Int) : List D := l.map D.int
/-- a picture -/
abbrev pic (a : List (List Int)) : D := .tup (a.map fun r => .tup (I r))
/-! ### the combinators -/
variable {e : Env} {S : Store} {d : D} {a b c : ME} {g : DOp} {i j : Nat}
@[simp] theorem x_mC : mC d e S = .ok d S := rfl
@[simp] theorem x_mVar : mVar i e S = (match e[i]? with | some (some d) => .ok d S | _ => .bad) := rfl
@[simp] theorem x_mBin : mBin g a b e S = (a e S).bind fun x S1 => (b e S1).bind fun y S2 => .of (g x y S2) S2 := rfl
@[simp] theorem x_mNil : mNil e S = .ok [] S := rfl
@[simp] theorem x_mCons {r : MA} : mCons a r e S = (a e S).bind fun d S1 => (r e S1).bind fun ds S2 => .ok (d :: ds) S2 := rfl
@[simp] theorem x_mCall {h : List D → Store → Option D} {m : MA} : mCall h m e S = (m e S).bind fun ds S1 => .of (h ds S1) S1 := rfl
@[simp] theorem x_mCallN {h : List D → Store → Option (List D)} {m : MA} : mCallN h m e S = (m e S).bind fun ds S1 => .of (h ds S1) S1 := rfl
@[simp] theorem x_mCallF {n : Nat} {h : List D → Store → Res D} {m : MA} : mCallF n h m e S = (m e S).bind fun ds S1 => if ds.length = n then h ds S1 else .bad := rfl
@[simp] theorem x_asV {m : MA} : asV m e S = (m e S).bind fun ds S1 => .ok (.lst ds) S1 := rfl
@[simp] theorem x_asL {m : MA} : asL m e S = (m e S).bind fun ds S1 => .ok (.loc S1.length) (S1 ++ [.lst ds]) := rfl
@[simp] theorem x_mLst {m : MA} : mLst m e S = (m e S).bind fun ds S1 => .of (if ds.length ≤ sizeLine then some ds else none) S1 := rfl
@[simp] theorem x_mTup {m : MA} : mTup m e S = (m e S).bind fun ds S1 => .of (if ds.length ≤ sizeLine then some (.tup ds) else none) S1 := rfl
@[simp] theorem x_mB {m : ME} : mB m e S = (m e S).bind fun d S1 => .of (bOf d) S1 := rfl
@[simp] theorem x_bOf {k : Bool} : bOf (.bl k) = some k := rfl
@[simp] theorem x_mTru {m : ME} : mTru m e S = (m e S).bind fun d S1 => .of (truOf S1 d) S1 := rfl
@[simp] theorem x_truB {k : Bool} : truOf S (.bl k) = some k := rfl
@[simp] theorem x_mAnd {s t : MT} : mAnd s t e S = (s e S).bind fun c S1 => if c = true then t e S1 else .ok false S1 := rfl
@[simp] theorem x_mOr {s t : MT} : mOr s t e S = (s e S).bind fun c S1 => if c = true then .ok true S1 else t e S1 := rfl
@[simp] theorem x_mNot {s : MT} : mNot s e S = (s e S).bind fun c S1 => .ok (!c) S1 := rfl
@[simp] theorem x_mIte {t : MT} : mIte t a b e S = (t e S).bind fun c S1 => if c = true then a e S1 else b e S1 := rfl
@[simp] theorem x_mAndV : mAndV a b e S = (a e S).bind fun d S1 => match d with | .bl c => if c = true then b e S1 else .ok (.bl false) S1 | _ => .bad := rfl
@[simp] theorem x_mOrV : mOrV a b e S = (a e S).bind fun d S1 => match d with | .bl c => if c = true then .ok (.bl true) S1 else b e S1 | _ => .bad := rfl
@[simp] theorem x_mNotV : mNotV a e S = (a e S).bind fun d S1 => match d with | .bl c => .ok (.bl (!c)) S1 | _ => .bad := rfl
@[simp] theorem x_mUn {h : D → Store → Option D} : mUn h a e S = (a e S).bind fun x S1 => .of (h x S1) S1 := rfl
@[simp] theorem x_mChain {g' : DOp} : mChain g g' a b c e S = (a e S).bind fun x S1 => (b e S1).bind fun y S2 => (Res.of (g x y S2) S2).bind fun k S3 => match k with
  | .bl t => if t = true then (c e S3).bind fun z S4 => .of (g' y z S4) S4 else .ok (.bl false) S3
  | _ => .bad := by
  unfold mChain
  rfl
@[simp] theorem x_sSeq {p q : MS} : sSeq p q e S = (match p e S with | some (.nx, e1, S1) => q e1 S1 | r => r) := rfl
@[simp] theorem x_sRet : sRet a e S = (a e S).st e fun d S1 => some (.rt d, e, S1) := rfl
@[simp] theorem x_sSet {h : MG} : sSet h a e S = (a e S).st e fun d S1 => (h d e S1).bind fun e1 => some (.nx, e1, S1) := rfl
@[simp] theorem x_sExpr : sExpr a e S = (a e S).st e fun _ S1 => some (.nx, e, S1) := rfl
@[simp] theorem x_sIf {t : MT} {p q : MS} : sIf t p q e S = (t e S).st e fun c S1 => if c = true then p e S1 else q e S1 := rfl
@[simp] theorem x_sSkip : sSkip e S = some (.nx, e, S) := rfl
@[simp] theorem x_gN : gN i d e S = some (e.set i (some d)) := rfl
@[simp] theorem x_gTup {n : Nat} {r : List D → Env → Store → Option Env} {ds : List D} : gTup n r (.tup ds) e S = if ds.length = n then r ds e S else none := rfl
@[simp] theorem x_gLst {n : Nat} {r : List D → Env → Store → Option Env} {ds : List D} : gLst n r (.lst ds) e S = if ds.length = n then r ds e S else none := rfl
@[simp] theorem x_gCons {h : MG} {r : List D → Env → Store → Option Env} {ds : List D} : gCons h r (d :: ds) e S = (h d e S).bind fun e1 => r ds e1 S := rfl
@[simp] theorem x_gNil : gNil [] e S = some e := rfl
@[simp] theorem x_mMeth {T : String} {h : MtF} {m : MA} : mMeth T h a m e S = (a e S).bind fun d S1 => if rcv T S1 d = true then (m e S1).bind fun ds S2 => .ofS (h d ds S2) else .bad := rfl
@[simp] theorem x_mSrc : mSrc a e S = (a e S).bind fun d S1 => .of (srcOf S1 d) S1 := rfl
@[simp] theorem x_mSrcA {f : List D → Store → Option Src} {m : MA} : mSrcA f m e S = (m e S).bind fun ds S1 => .of (f ds S1) S1 := rfl
@[simp] theorem x_mSlice {lo hi : MO} : mSlice a lo hi e S = (a e S).bind fun d S1 => (lo e S1).bind fun l S2 => (hi e S2).bind fun h S3 => .of (dSlice d l h S3) S3 := rfl
@[simp] theorem x_mNo : mNo e S = .ok none S := rfl
@[simp] theorem x_mPart : mPart a e S = (a e S).bind fun d S1 => .of ((iOf d).map some) S1 := rfl
@[simp] theorem x_iOf {k : Int} : iOf (.int k) = some k := rfl
/-! ### operations on ints -/
variable {x y : Int}
@[simp] theorem x_add : dAdd (.int x) (.int y) S = some (.int (x + y)) := rfl
@[simp] theorem x_sub : dSub (.int x) (.int y) S = some (.int (x - y)) := rfl
theorem x_mul (h : x.natAbs < 2 ^ 64 ∨ y.natAbs < 2 ^ 64) : dMul (.int x) (.int y) S = some (.int (x * y)) := if_pos h
theorem x_mod (h : 0 < y) : dMod (.int x) (.int y) S = some (.int (x % y)) := if_pos h
theorem x_fdiv (h : 0 < y ∧ y < 1073741824) : dFdiv (.int x) (.int y) S = some (.int (x / y)) := if_pos h
@[simp] theorem x_neg : dNeg (.int x) S = some (.int (-x)) := rfl
@[simp] theorem x_lt : dLt (.int x) (.int y) S = some (.bl (decide (x < y))) := rfl
@[simp] theorem x_le : dLe (.int x) (.int y) S = some (.bl (decide (x ≤ y))) := rfl
@[simp] theorem x_gt : dGt (.int x) (.int y) S = some (.bl (decide (y < x))) := rfl
@[simp] theorem x_ge : dGe (.int x) (.int y) S = some (.bl (decide (y ≤ x))) := rfl
@[simp] theorem x_int : dInt [.int x] S = some (.int x) := rfl
@[simp] theorem x_abs : dAbs [.int x] S = some (.int (if x < 0 then -x else x)) := rfl
theorem eqvAll_I : ∀ (l m : List Int), PyData.eqvAll (l.map PyData.int) (m.map PyData.int) = decide (l = m)
  | [], [] => rfl
  | [], _ :: _ => rfl
  | _ :: _, [] => rfl
  | x :: l, y :: m => by
    simp only [List.map_cons, PyData.eqvAll, PyData.eqv, eqvAll_I l m, List.cons.injEq, Bool.decide_and]
    by_cases h : x = y <;> simp [h]
theorem eqvAll_P : ∀ (l m : List (List Int)), PyData.eqvAll (l.map fun r => .tuple (r.map PyData.int)) (m.map fun r => .tuple (r.map PyData.int)) = decide (l = m)
  | [], [] => rfl
  | [], _ :: _ => rfl
  | _ :: _, [] => rfl
  | x :: l, y :: m => by
    simp only [List.map_cons, PyData.eqvAll, PyData.eqv, eqvAll_I, eqvAll_P l m, List.cons.injEq, Bool.decide_and]
theorem toPys_I : ∀ l : List Int, toPys0 (I l) = some (l.map PyData.int)
  | [] => by simp [toPys0]
  | x :: l => by
    have := toPys_I l
    simp only [I] at this
    simp [toPys0, toPy0, this]
theorem toPys_P : ∀ a : List (List Int), toPys0 (a.map fun r => .tup (I r)) = some (a.map fun r => .tuple (r.map PyData.int))
  | [] => by simp [toPys0]
  | x :: l => by
    have := toPys_P l
    have h2 := toPys_I x
    simp only [I] at this h2
    simp [toPys0, toPy0, this, h2]
theorem can_I : ∀ l : List Int, PyData.canLayAll0 (l.map PyData.int) = true
  | [] => by simp [PyData.canLayAll0]
  | x :: l => by simp [PyData.canLayAll0, PyData.canLay0, can_I l]
theorem dep_I : ∀ l : List Int, PyData.depthAll (l.map PyData.int) = 0
  | [] => by simp [PyData.depthAll]
  | x :: l => by simp [PyData.depthAll, PyData.depth, dep_I l]
theorem can_P : ∀ l : List (List Int), PyData.canLayAll0 (l.map fun r => .tuple (r.map PyData.int)) = true
  | [] => by simp [PyData.canLayAll0]
  | x :: l => by simp [PyData.canLayAll0, PyData.canLay0, can_P l, can_I]
theorem dep_P : ∀ l : List (List Int), PyData.depthAll (l.map fun r => .tuple (r.map PyData.int)) ≤ 1
  | [] => by simp [PyData.depthAll]
  | x :: l => by
    have := dep_P l
    simp [PyData.depthAll, PyData.depth, dep_I]; omega
theorem shp_P (l : List (List Int)) : SeqAt.shaped (.tuple (l.map fun r => .tuple (r.map PyData.int))) = true := by
  have := dep_P l
  unfold SeqAt.shaped
  rw [Bool.and_eq_true]
  exact ⟨by simp [PyData.canLay0, can_P], decide_eq_true (by simp [PyData.depth]; omega)⟩
theorem shp_L (l : List Int) : SeqAt.shaped (.list (l.map PyData.int)) = true := by
  unfold SeqAt.shaped
  rw [Bool.and_eq_true]
  exact ⟨by simp [PyData.canLay0, can_I], decide_eq_true (by simp [PyData.depth, dep_I])⟩
theorem shp_T (l : List Int) : SeqAt.shaped (.tuple (l.map PyData.int)) = true := by
  unfold SeqAt.shaped
  rw [Bool.and_eq_true]
  exact ⟨by simp [PyData.canLay0, can_I], decide_eq_true (by simp [PyData.depth, dep_I])⟩
@[simp] theorem x_eqI : dEq (.int x) (.int y) S = some (.bl (decide (x = y))) := by
  have h1 : ∀ z : Int, SeqAt.shaped (.int z) = true := fun z => rfl
  unfold dEq
  simp only [toPy, toPy0, h1, PyData.eqv]
  by_cases h : x = y <;> simp [h]
@[simp] theorem x_neI : dNe (.int x) (.int y) S = some (.bl (!decide (x = y))) := by simp [dNe, dNot]
@[simp] theorem x_eqP (p q : List (List Int)) : dEq (.tup (p.map fun r => .tup (I r))) (.tup (q.map fun r => .tup (I r))) S = some (.bl (decide (p = q))) := by
  unfold dEq
  simp only [toPy, toPy0, toPys_P, Option.map_some, shp_P, PyData.eqv, eqvAll_P]
  simp
@[simp] theorem x_neP (p q : List (List Int)) : dNe (.tup (p.map fun r => .tup (I r))) (.tup (q.map fun r => .tup (I r))) S = some (.bl (!decide (p = q))) := by simp only [dNe, x_eqP]; rfl
@[simp] theorem x_eqL (p q : List Int) : dEq (.lst (I p)) (.lst (I q)) S = some (.bl (decide (p = q))) := by
  unfold dEq
  simp only [toPy, toPy0, toPys_I, Option.map_some, shp_L, PyData.eqv, eqvAll_I]
  simp
@[simp] theorem x_neL (p q : List Int) : dNe (.lst (I p)) (.lst (I q)) S = some (.bl (!decide (p = q))) := by simp only [dNe, x_eqL]; rfl
@[simp] theorem x_eqStr (p q : Str) : dEq (.str p) (.str q) S = some (.bl (decide (p = q))) := rfl
@[simp] theorem x_neStr (p q : Str) : dNe (.str p) (.str q) S = some (.bl (!decide (p = q))) := rfl
@[simp] theorem x_eqB (p q : Bool) : dEq (.bl p) (.bl q) S = some (.bl (decide (p = q))) := by cases p <;> cases q <;> rfl
@[simp] theorem x_neB (p q : Bool) : dNe (.bl p) (.bl q) S = some (.bl (!decide (p = q))) := by cases p <;> cases q <;> rfl
/-! ### comprehensions, all -/
variable {t : MG} {me : ME} {xs : List D}
theorem lc_pure (f : D → D) : ∀ (ds : List D), (∀ d ∈ ds, ∃ e1, t d e S = some e1 ∧ me e1 S = .ok (f d) S) → lcM ⟨xs, []⟩ t mYes me e ds S = .ok (ds.map f) S
  | [], _ => by simp [lcM]
  | d :: ds, h => by
    obtain ⟨e1, h1, h2⟩ := h d (by simp)
    have ih := lc_pure f ds fun d hd => h d (List.mem_cons_of_mem _ hd)
    simp [lcM, h1, h2, mYes, ih]
/-- a comprehension whose elements change the store: St l goes to St l' -/
theorem lc_run {α : Type} {P : D → Prop} (St : α → Store) : ∀ (ds : List D) (l : α), (∀ d ∈ ds, ∀ l, ∃ e1 y l', t d e (St l) = some e1 ∧ P y ∧ me e1 (St l) = .ok y (St l')) → ∃ ys l', ys.length = ds.length ∧ (∀ y ∈ ys, P y) ∧ lcM ⟨xs, []⟩ t mYes me e ds (St l) = .ok ys (St l')
  | [], l, _ => ⟨[], l, rfl, by simp, by simp [lcM]⟩
  | d :: ds, l, h => by
    obtain ⟨e1, y, l1, h1, hp, h2⟩ := h d (by simp) l
    obtain ⟨ys, l2, hl, hP, ih⟩ := lc_run St ds l1 fun d hd => h d (List.mem_cons_of_mem _ hd)
    refine ⟨y :: ys, l2, by simp [hl], fun z hz => ?_, by simp [lcM, h1, h2, mYes, ih]⟩
    rcases List.mem_cons.mp hz with rfl | hz
    · exact hp
    · exact hP z hz
theorem all_pure : ∀ (ds : List D), (∀ d ∈ ds, ∃ e1, t d e S = some e1 ∧ me e1 S = .ok (.bl true) S) → allM ⟨xs, []⟩ t me e false ds S = .ok (.bl true) S
  | [], _ => by simp [allM]
  | d :: ds, h => by
    obtain ⟨e1, h1, h2⟩ := h d (by simp)
    have ih := all_pure ds fun d hd => h d (List.mem_cons_of_mem _ hd)
    simp [allM, h1, h2, ih]
@[simp] theorem x_mLc {mi : MI} {mt : MT} {vs : List Nat} : mLc mi t mt me vs e S = (mi e S).bind fun src S1 => if src.xs.length ≤ sizeLine then lcM src t mt me (wipeE e vs) src.xs S1 else .bad := rfl
@[simp] theorem x_mAll {mi : MI} {k : Bool} {vs : List Nat} : mAll k mi t me vs e S = (mi e S).bind fun src S1 => allM src t me (wipeE e vs) k src.xs S1 := rfl
theorem cls_I (n : Nat) : ∀ l : List Int, cls n (I l) = true
  | [] => rfl
  | _ :: l => by simp only [I, List.map_cons, cls, cl, Bool.true_and]; exact cls_I n l
theorem cls_P (n : Nat) : ∀ l : List (List Int), cls n (l.map fun r => .tup (I r)) = true
  | [] => rfl
  | r :: l => by simp only [List.map_cons, cls, cl, cls_I, Bool.true_and]; exact cls_P n l
/-- a call that leaves the store as it was -/
theorem retV_id {h : List D → Store → Res D} {ds : List D} {d : D} (hh : h ds S = .ok d S) (hc : clS S.length S = true) (hd : cl S.length d = true) : retV h ds S = .ok d S := by
  unfold retV
  rw [hh]
  simp only [List.take_length, hc, if_true]
  have : fz S.length S d = some d := by
    cases d <;> simp only [fz, hd, if_true]
    case loc n => simp [cl] at hd; simp [hd]
  rw [this]
theorem retV_ok {h : List D → Store → Res D} {ds : List D} {S' : Store} {d d' : D} (hh : h ds S = .ok d S') (hc : clS S.length (S'.take S.length) = true) (hf : fz S.length S' d = some d') : retV h ds S = .ok d' (S'.take S.length) := by
  unfold retV
  rw [hh]
  simp only [hc, if_true, hf]
section
variable {t : MG} {me : ME} {xs : List D}
theorem lc_map {α : Type} (ι f : α → D) : ∀ (as : List α), (∀ x ∈ as, ∃ e1, t (ι x) e S = some e1 ∧ me e1 S = .ok (f x) S) → lcM ⟨xs, []⟩ t mYes me e (as.map ι) S = .ok (as.map f) S
  | [], _ => by simp [lcM]
  | d :: ds, h => by
    obtain ⟨e1, h1, h2⟩ := h d (by simp)
    have ih := lc_map ι f ds fun d hd => h d (List.mem_cons_of_mem _ hd)
    simp [lcM, h1, h2, mYes, ih]
theorem all_map {α : Type} (ι : α → D) : ∀ (as : List α), (∀ x ∈ as, ∃ e1, t (ι x) e S = some e1 ∧ me e1 S = .ok (.bl true) S) → allM ⟨xs, []⟩ t me e false (as.map ι) S = .ok (.bl true) S
  | [], _ => by simp [allM]
  | d :: ds, h => by
    obtain ⟨e1, h1, h2⟩ := h d (by simp)
    have ih := all_map ι ds fun d hd => h d (List.mem_cons_of_mem _ hd)
    simp [allM, h1, h2, ih]
theorem zip_map {α β : Type} (ι : α → D) (κ : β → D) : ∀ (as : List α) (bs : List β), zipD (as.map ι) (bs.map κ) = (as.zip bs).map fun p => .tup [ι p.1, κ p.2]
  | [], _ => by simp [zipD]
  | _ :: _, [] => by simp [zipD]
  | a :: as, b :: bs => by simp [zipD, zip_map ι κ as bs]
variable {mi : MI} {vs : List Nat} {ys : List D} {S' : Store} {a : ME} {n : Nat}
theorem sz (h : n ≤ 100000) : n ≤ sizeLine := Nat.le_trans h (by decide)
theorem lc_ok (hi : mi e S = .ok ⟨xs, []⟩ S) (hz : xs.length ≤ 100000) (h : lcM ⟨xs, []⟩ t mYes me (wipeE e vs) xs S = .ok ys S') : mLc mi t mYes me vs e S = .ok ys S' := by
  rw [x_mLc, hi, Res.bind_ok]
  have : (Src.mk xs []).xs.length ≤ sizeLine := sz hz
  rw [if_pos this]
  exact h
theorem all_ok {k : Bool} {r : D} (hi : mi e S = .ok ⟨xs, []⟩ S) (h : allM ⟨xs, []⟩ t me (wipeE e vs) k xs S = .ok r S') : mAll k mi t me vs e S = .ok r S' := by
  rw [x_mAll, hi, Res.bind_ok]
  exact h
theorem src_tup (h : a e S = .ok (.tup xs) S') : mSrc a e S = .ok ⟨xs, []⟩ S' := by rw [x_mSrc, h]; rfl
theorem src_lst (h : a e S = .ok (.lst xs) S') : mSrc a e S = .ok ⟨xs, []⟩ S' := by rw [x_mSrc, h]; rfl
theorem src_str {x : Str} (h : a e S = .ok (.str x) S') : mSrc a e S = .ok ⟨strItems x, []⟩ S' := by rw [x_mSrc, h]; rfl
theorem src_zipT {m : MA} {ys : List D} (h : m e S = .ok [.tup xs, .tup ys] S') : mSrcA srcZip m e S = .ok ⟨zipD xs ys, []⟩ S' := by rw [x_mSrcA, h]; rfl
theorem tuple_ok {m : MA} (h : m e S = .ok ys S') : mCall dTuple (mCons (asV m) mNil) e S = .ok (.tup ys) S' := by
  rw [x_mCall, x_mCons, x_asV, h]; rfl
theorem slice_ok {lo hi : MO} {d r : D} {l h : Option Int} (ha : a e S = .ok d S) (hl : lo e S = .ok l S) (hh : hi e S = .ok h S) (hs : dSlice d l h S = some r) : mSlice a lo hi e S = .ok r S := by
  rw [x_mSlice, ha, Res.bind_ok, hl, Res.bind_ok, hh, Res.bind_ok, hs]; rfl
theorem part_ok {k : Int} (ha : a e S = .ok (.int k) S) : mPart a e S = .ok (some k) S := by rw [x_mPart, ha]; rfl
def cutG {α : Type} (xs : List α) (lo hi : Option Int) : List α := (xs.drop (HT.sIx xs.length 0 lo)).take (HT.sIx xs.length xs.length hi - HT.sIx xs.length 0 lo)
theorem cutD_map {α : Type} (ι : α → D) (as : List α) (lo hi : Option Int) : cutD (as.map ι) lo hi = (cutG as lo hi).map ι := by
  unfold cutD cutG
  rw [List.length_map, List.map_take, List.map_drop]
theorem cut_nat {α : Type} (as : List α) (a k : Nat) : cutG as (some (a : Int)) (some ((a : Int) + (k : Int))) = (as.drop a).take k := by
  have h2 : ((a : Int) + (k : Int)) = ((a + k : Nat) : Int) := by omega
  unfold cutG
  rw [h2, HT.sIx_nat, HT.sIx_nat]
  rcases Nat.le_total a as.length with h | h
  · rw [Nat.min_eq_left h]
    rcases Nat.le_total (a + k) as.length with g | g
    · rw [Nat.min_eq_left g]; congr 1; omega
    · rw [Nat.min_eq_right g, List.take_of_length_le (by simp), List.take_of_length_le (by simp; omega)]
  · rw [Nat.min_eq_right h, List.drop_of_length_le (Nat.le_refl _), List.drop_of_length_le h]; simp
theorem len_tup : dLen [.tup xs] S = some (.int xs.length) := rfl
theorem len_lst : dLen [.lst xs] S = some (.int xs.length) := rfl
theorem cat_tup {ys : List D} (h : xs.length + ys.length ≤ 100000) : dAdd (.tup xs) (.tup ys) S = some (.tup (xs ++ ys)) := if_pos (sz h)
end
/-! ### steps -/
section
variable {p q : MS} {e1 : Env} {S1 S' : Store} {n : Nat} {ds : List D} {m : ME} {t : MT} {k : Int}
theorem seq_nx (h : p e S = some (.nx, e1, S1)) : sSeq p q e S = q e1 S1 := by rw [x_sSeq, h]
theorem seq_rt {r : D} (h : p e S = some (.rt r, e1, S1)) : sSeq p q e S = some (.rt r, e1, S1) := by rw [x_sSeq, h]
theorem run_rt {b : MS} {e' : Env} (h : b (ds.map some ++ List.replicate (n - ds.length) none) S = some (.rt d, e', S')) : runF n b ds S = .ok d S' := by
  unfold runF
  rw [h]
theorem set_ok {i : Nat} (h : m e S = .ok d S1) : sSet (gN i) m e S = some (.nx, e.set i (some d), S1) := by rw [x_sSet, h]; rfl
theorem setg_ok {g : MG} (h : m e S = .ok d S1) (hg : g d e S1 = some e1) : sSet g m e S = some (.nx, e1, S1) := by rw [x_sSet, h, Res.st_ok, hg]; rfl
theorem ret_ok (h : m e S = .ok d S1) : sRet m e S = some (.rt d, e, S1) := by rw [x_sRet, h]; rfl
theorem expr_ok (h : m e S = .ok d S1) : sExpr m e S = some (.nx, e, S1) := by rw [x_sExpr, h]; rfl
theorem if_t (h : t e S = .ok true S1) : sIf t p q e S = p e S1 := by rw [x_sIf, h]; rfl
theorem if_f (h : t e S = .ok false S1) : sIf t p q e S = q e S1 := by rw [x_sIf, h]; rfl
theorem if_b {c : Bool} (h : t e S = .ok c S1) : sIf t p q e S = if c = true then p e S1 else q e S1 := by rw [x_sIf, h]; rfl
theorem var_ok {i : Nat} (h : e[i]? = some (some d)) : mVar i e S = .ok d S := by rw [x_mVar, h]
theorem cons_ok {ma : ME} {mr : MA} {S2 : Store} {ds : List D} (h : ma e S = .ok d S1) (hr : mr e S1 = .ok ds S2) : mCons ma mr e S = .ok (d :: ds) S2 := by rw [x_mCons, h, Res.bind_ok, hr]; rfl
theorem one_ok {ma : ME} (h : ma e S = .ok d S1) : mCons ma mNil e S = .ok [d] S1 := by rw [x_mCons, h]; rfl
theorem callF_ok {mr : MA} {h : List D → Store → Res D} {S2 : Store} {ds : List D} {r : D} (ha : mr e S = .ok ds S1) (hh : h ds S1 = .ok r S2) (hl : ds.length = n := by rfl) : mCallF n h mr e S = .ok r S2 := by rw [x_mCallF, ha, Res.bind_ok, if_pos hl, hh]
theorem call_ok {mr : MA} {h : List D → Store → Option D} {ds : List D} {r : D} (ha : mr e S = .ok ds S1) (hh : h ds S1 = some r) : mCall h mr e S = .ok r S1 := by rw [x_mCall, ha, Res.bind_ok, hh]; rfl
theorem bin_ok {ma mb : ME} {g : DOp} {S2 : Store} {u v r : D} (ha : ma e S = .ok u S1) (hb : mb e S1 = .ok v S2) (hg : g u v S2 = some r) : mBin g ma mb e S = .ok r S2 := by rw [x_mBin, ha, Res.bind_ok, hb, Res.bind_ok, hg]; rfl
theorem b_ok {ma : ME} {c : Bool} (ha : ma e S = .ok (.bl c) S1) : mB ma e S = .ok c S1 := by rw [x_mB, ha]; rfl
theorem tup_ok {mr : MA} {ds : List D} (ha : mr e S = .ok ds S1) (hl : ds.length ≤ sizeLine) : mTup mr e S = .ok (.tup ds) S1 := by rw [x_mTup, ha, Res.bind_ok, if_pos hl]; rfl
theorem lst_ok {mr : MA} {ds : List D} (ha : mr e S = .ok ds S1) (hl : ds.length ≤ sizeLine) : mLst mr e S = .ok ds S1 := by rw [x_mLst, ha, Res.bind_ok, if_pos hl]; rfl
theorem asV_ok {mr : MA} {ds : List D} (ha : mr e S = .ok ds S1) : asV mr e S = .ok (.lst ds) S1 := by rw [x_asV, ha]; rfl
theorem eqc_t {i : Nat} {c : Int} (h : e[i]? = some (some (.int k))) (hk : k = c) : mB (mBin dEq (mVar i) (mC (.int c))) e S = .ok true S := by rw [b_ok (bin_ok (var_ok h) rfl x_eqI), decide_eq_true hk]
theorem eqc_f {i : Nat} {c : Int} (h : e[i]? = some (some (.int k))) (hk : ¬ k = c) : mB (mBin dEq (mVar i) (mC (.int c))) e S = .ok false S := by rw [b_ok (bin_ok (var_ok h) rfl x_eqI), decide_eq_false hk]
theorem if_skip {b : MS} (h : t e S = .ok false S1) : sIf t b sSkip e S = some (.nx, e, S1) := by rw [x_sIf, h]; rfl
theorem eqc {i : Nat} {c : Int} (h : e[i]? = some (some (.int k))) : mB (mBin dEq (mVar i) (mC (.int c))) e S = .ok (decide (k = c)) S := b_ok (bin_ok (var_ok h) rfl (x_eqI))
end
end
end M


set_option Elab.async false
set_option linter.all false
set_option maxRecDepth 100000
set_option maxHeartbeats 4000000
/-! Plain lemmas, second part. -/
namespace M
open PySem PySem.Spec PyProof.Rows L2
section
variable [Tabs]
theorem at_nat (xs : List D) (i : Nat) (d : D) (h : xs[i]? = some d) : atI xs (i : Int) = some d := by
  obtain ⟨hi, _⟩ := List.getElem?_eq_some_iff.mp h
  unfold atI ixN
  rw [if_pos (show (0 : Int) ≤ (i : Int) by omega), if_pos (show (i : Int) < (xs.length : Int) by omega)]
  show xs[(i : Int).toNat]? = some d
  rw [Int.toNat_natCast]
  exact h
theorem ix_tup (xs : List D) (i : Nat) (d : D) (S : Store) (h : xs[i]? = some d) : dIx (.tup xs) (.int i) S = some d := at_nat xs i d h
theorem ix_lst (xs : List D) (i : Nat) (d : D) (S : Store) (h : xs[i]? = some d) : dIx (.lst xs) (.int i) S = some d := at_nat xs i d h
theorem ix0 (x : D) (xs : List D) (S : Store) : dIx (.tup (x :: xs)) (.int 0) S = some x := ix_tup (x :: xs) 0 x S rfl
theorem ix0l (x : D) (xs : List D) (S : Store) : dIx (.lst (x :: xs)) (.int 0) S = some x := ix_lst (x :: xs) 0 x S rfl
variable {xs ds : List D} {g : MG} {b : MS} {d : D} {e e1 e2 : Env} {S S1 S2 : Store}
theorem for_nil : M.forM ⟨xs, []⟩ g b [] e S = some (.nx, e, S) := by
  unfold M.forM
  rw [if_pos (Src.ok_nil _ _)]
theorem for_cons (hg : g d e S = some e1) (hb : b e1 S = some (.nx, e2, S2)) : M.forM ⟨xs, []⟩ g b (d :: ds) e S = M.forM ⟨xs, []⟩ g b ds e2 S2 := by
  conv => lhs; unfold M.forM
  rw [if_pos (Src.ok_nil _ _), hg, Option.bind_some, hb]
  rfl
theorem for_ok {mi : MI} {r : Option (Fl × Env × Store)} (hi : mi e S = .ok ⟨xs, []⟩ S1) (h : M.forM ⟨xs, []⟩ g b xs e S1 = r) : sFor mi g b e S = r := by
  unfold sFor
  rw [hi]
  exact h
theorem set_last {α : Type} (xs : List α) (x y : α) : (xs ++ [x]).set xs.length y = xs ++ [y] := by
  rw [List.set_append_right _ _ (Nat.le_refl _)]; simp
theorem get_last {α : Type} (xs : List α) (x : α) : (xs ++ [x])[xs.length]? = some x := by simp
theorem ext_last {xs ys : List D} (h : xs.length + ys.length ≤ 100000) : gExtend (.loc S.length) [.lst ys] (S ++ [.lst xs]) = some (.non, S ++ [.lst (xs ++ ys)]) := by
  unfold gExtend
  simp only [get_last, seqOf', lstOf']
  rw [if_pos (sz h), set_last]
theorem app_last {xs : List D} {y : D} (h : xs.length < 100000) : gAppend (.loc S.length) [y] (S ++ [.lst xs]) = some (.non, S ++ [.lst (xs ++ [y])]) := by
  unfold gAppend
  simp only [get_last]
  rw [if_pos (Nat.lt_of_lt_of_le h (by decide)), set_last]
theorem rcv_last {xs : List D} : rcv "list" (S ++ [.lst xs]) (.loc S.length) = true := by
  simp [rcv, lstOf]
theorem meth_ok {T : String} {a : ME} {m : MA} {h : MtF} {ds : List D} {r : D} (ha : a e S = .ok d S) (hr : rcv T S d = true) (hm : m e S = .ok ds S) (hh : h d ds S = some (r, S1)) : mMeth T h a m e S = .ok r S1 := by
  rw [x_mMeth, ha, Res.bind_ok, if_pos hr, hm, Res.bind_ok, hh]
  rfl
theorem asL_ok {m : MA} {ds : List D} (ha : m e S = .ok ds S1) : asL m e S = .ok (.loc S1.length) (S1 ++ [.lst ds]) := by rw [x_asL, ha]; rfl
theorem ints_I : ∀ l : List Int, intsOf (I l) = some l
  | [] => rfl
  | x :: l => by
    show (intsOf (I l)).map (x :: ·) = _
    rw [ints_I l]
    rfl
theorem strs_S : ∀ l : List Str, strsOf (l.map D.str) = some l
  | [] => rfl
  | x :: l => by
    show (strsOf (l.map D.str)).map (x :: ·) = _
    rw [strs_S l]
    rfl
theorem sum_I (l : List Int) : dSum [.lst (I l)] S = some (.int l.sum) := by
  show ((intsOf (I l))).map _ = _
  rw [ints_I]
  rfl
/-- the greatest, of one at least -/
def mx : List Int → Int
  | [] => 0
  | x :: xs => xs.foldl max x
theorem mx_le : ∀ (l : List Int), ∀ y ∈ l, y ≤ mx l
  | [], _, h => by simp at h
  | x :: xs, y, h => by
    rcases List.mem_cons.mp h with rfl | h
    · exact (foldl_max xs _).1
    · exact (foldl_max xs x).2.1 y h
theorem mx_mem : ∀ (l : List Int), l ≠ [] → mx l ∈ l
  | [], h => absurd rfl h
  | x :: xs, _ => by
    rcases (foldl_max xs x).2.2 with h | h
    · simp [mx, h]
    · exact List.mem_cons_of_mem _ h
theorem mx_iff {l : List Int} (h : l ≠ []) (m : Int) : mx l = m ↔ m ∈ l ∧ ∀ y ∈ l, y ≤ m :=
  ⟨fun e => e ▸ ⟨mx_mem l h, mx_le l⟩, fun ⟨a, b⟩ => Int.le_antisymm (b _ (mx_mem l h)) (mx_le l _ a)⟩
theorem max_I (l : List Int) (h : l ≠ []) : dMax [.lst (I l)] S = some (.int (mx l)) := by
  show ((intsOf (I l)).bind maxI).map _ = _
  rw [ints_I]
  cases l with
  | nil => exact absurd rfl h
  | cons x xs => rfl
end
end M


set_option Elab.async false
set_option linter.all false
set_option maxRecDepth 100000
set_option maxHeartbeats 4000000
/-! Texts: lines put together and cut. -/
namespace M
open PySem PySem.Spec PyProof.Rows L2
open Builtin Builtin.Str StrLaws
abbrev tl (s : PySem.Str) : List Nat := s.cps.toList
def mk (l : List Nat) : PySem.Str := ⟨l.toArray⟩
@[simp] theorem tl_mk (l : List Nat) : tl (mk l) = l := rfl
theorem mk_tl (s : PySem.Str) : mk (tl s) = s := by cases s; simp [mk, tl]
theorem mk_len (l : List Nat) : (mk l).length = l.length := by simp [mk, PySem.Str.length]
theorem mk_app (l m : List Nat) : mk l ++ mk m = mk (l ++ m) := Str.ext' (by simp [mk, Str.cps_append])
theorem tl_inj {s t : PySem.Str} (h : tl s = tl t) : s = t := by rw [← mk_tl s, ← mk_tl t, h]
theorem join_nil : ∀ ys : List PySem.Str, Txt.join (mk []) ys = mk (ys.map tl).flatten := by
  intro ys
  have h : ∀ ys : List PySem.Str, PySem.Str.join (mk []) ys = mk (ys.map tl).flatten := by
    intro ys
    induction ys with
    | nil => rfl
    | cons x ys ih =>
      cases ys with
      | nil => simp [PySem.Str.join, mk_tl]
      | cons y ys =>
        show x ++ mk [] ++ PySem.Str.join (mk []) (y :: ys) = _
        rw [ih]
        apply tl_inj
        simp [tl, mk, Str.cps_append]
  show glued _ _ = _
  rw [glued_eq_join, h]
theorem occ_all (s sub : PySem.Str) (hi limit : Nat) (hs : 1 ≤ sub.length) (h1 : sub.length ≤ 1) : ∀ (k lo : Nat) (st : Array Nat × Nat), st.snd ≤ lo → st.fst.size + k ≤ limit →
    (forIn (List.range' lo k) st (occBody s sub hi limit)).run.fst.toList = st.fst.toList ++ (List.range' lo k).filter (fun i => decide (i + sub.length ≤ hi) && subAt s sub i)
  | 0, lo, st, _, _ => by simp
  | k + 1, lo, st, h2, h3 => by
    rw [List.range'_succ, List.forIn_cons]
    unfold occBody
    by_cases hc : lo + sub.length ≤ hi ∧ subAt s sub lo = true
    · have c1 : (((st.fst.size < limit ∧ st.snd ≤ lo) ∧ lo + sub.length ≤ hi) ∧ subAt s sub lo = true) := ⟨⟨⟨by omega, h2⟩, hc.1⟩, hc.2⟩
      rw [if_pos c1]
      have ih := occ_all s sub hi limit hs h1 k (lo + 1) (st.fst.push lo, lo + sub.length) (by simp; omega) (by simp; omega)
      refine Eq.trans ih ?_
      have : (decide (lo + sub.length ≤ hi) && subAt s sub lo) = true := by simp [hc.1, hc.2]
      simp only [List.filter_cons, this, if_true, Array.toList_push, List.append_assoc, List.singleton_append]
    · have c2 : ¬ (((st.fst.size < limit ∧ st.snd ≤ lo) ∧ lo + sub.length ≤ hi) ∧ subAt s sub lo = true) := fun h => hc ⟨h.1.2, h.2⟩
      rw [if_neg c2]
      have ih := occ_all s sub hi limit hs h1 k (lo + 1) (st.fst, st.snd) (by simp; omega) (by simp; omega)
      refine Eq.trans ih ?_
      have : (decide (lo + sub.length ≤ hi) && subAt s sub lo) = false := by
        rw [Bool.and_eq_false_iff]
        by_cases h : lo + sub.length ≤ hi
        · exact .inr (by simpa [h] using hc)
        · exact .inl (by simp [h])
      simp only [List.filter_cons, this]
      rfl
/-- cut at each c -/
def splitL (c : Nat) : List Nat → List Nat → List (List Nat)
  | acc, [] => [acc]
  | acc, x :: xs => if x = c then acc :: splitL c [] xs else splitL c (acc ++ [x]) xs
theorem parts_L (c : Nat) (L : List Nat) : ∀ (xs : List Nat) (a p : Nat) (acc : List Nat), a ≤ p → L.drop p = xs → acc = (L.drop a).take (p - a) →
    partsFrom (mk L) 1 a ((List.range' p xs.length).filter (fun i => L[i]? == some c)) = (splitL c acc xs).map mk
  | [], a, p, acc, h1, h2, h3 => by
    have hp : L.length ≤ p := by simpa using h2
    simp only [List.length_nil, List.range'_zero, List.filter_nil, partsFrom, splitL, List.map_cons, List.map_nil]
    congr 1
    apply tl_inj
    show (strSub (mk L) a (mk L).length).cps.toList = acc
    rw [strSub_toList, h3, mk_len]
    show ((tl (mk L)).drop a).take _ = _
    rw [tl_mk, List.take_of_length_le (by simp), List.take_of_length_le (by simp; omega)]
  | x :: xs, a, p, acc, h1, h2, h3 => by
    have hp : L[p]? = some x := by
      have := congrArg (fun l => l[0]?) h2
      simpa using this
    have hd : L.drop (p + 1) = xs := by
      have := congrArg List.tail h2
      simpa using this
    rw [List.length_cons, List.range'_succ, List.filter_cons, hp]
    by_cases hx : x = c
    · subst hx
      rw [if_pos (by simp), splitL, if_pos rfl, List.map_cons]
      show strSub (mk L) a p :: partsFrom (mk L) 1 (p + 1) _ = _
      rw [parts_L x L xs (p + 1) (p + 1) [] (Nat.le_refl _) hd (by simp)]
      congr 1
      apply tl_inj
      show (strSub (mk L) a p).cps.toList = acc
      rw [strSub_toList, h3]
      rfl
    · rw [if_neg (by simpa using hx), splitL, if_neg hx]
      refine parts_L c L xs a (p + 1) _ (by omega) hd ?_
      rw [h3]
      have h5 : p - a < (L.drop a).length := by
        have := (List.getElem?_eq_some_iff.mp hp).1
        simp; omega
      have e : p + 1 - a = p - a + 1 := by omega
      rw [e, List.take_succ]
      congr 1
      have : (L.drop a)[p - a]? = some x := by rw [List.getElem?_drop]; rw [← hp]; congr 1; omega
      rw [this]
      rfl
theorem split_L (c : Nat) (hc : c < 256) (L : List Nat) (h0 : L ≠ []) : Txt.split (mk L) (mk [c]) = (splitL c [] L).map mk := by
  have hl : (mk L).length = L.length := mk_len L
  have hk : Builtin.Str.strKind (mk [c]) = 1 := by simp [Builtin.Str.strKind, mk, hc]
  have hk2 : 1 ≤ Builtin.Str.strKind (mk L) := by unfold Builtin.Str.strKind; split <;> (try split) <;> omega
  have hn : 1 ≤ L.length := by cases L with
    | nil => exact absurd rfl h0
    | cons => simp
  have e1 : (decide ((mk L).length < (mk [c]).length) || decide (Builtin.Str.strKind (mk L) < Builtin.Str.strKind (mk [c]))) = false := by
    rw [hl, mk_len, hk, Bool.or_eq_false_iff]
    exact ⟨decide_eq_false (by simp; omega), decide_eq_false (by omega)⟩
  have occ : occurrences (mk L) (mk [c]) 0 (mk L).length ((mk L).length + 1) = (List.range' 0 L.length).filter (fun i => L[i]? == some c) := by
    rw [occ_eq, occ_all (mk L) (mk [c]) (mk L).length ((mk L).length + 1) (by rw [mk_len]; simp) (by rw [mk_len]; simp) ((mk L).length + 1 - 0) 0 (#[], 0) (Nat.le_refl _) (by simp), hl]
    have e2 : L.length + 1 - 0 = L.length + 1 := by omega
    rw [e2, List.range'_concat, List.filter_append]
    have e3 : (List.filter (fun i => decide (i + (mk [c]).length ≤ L.length) && subAt (mk L) (mk [c]) i) [0 + 1 * L.length]) = [] := by
      simp [mk_len]
      intro h
      omega
    rw [e3, List.append_nil]
    simp only [List.nil_append]
    apply List.filter_congr
    intro i hi
    have hi' : i < L.length := by simpa using hi
    rw [subAt_eq, mk_len]
    show (_ && (List.take _ (List.drop i (tl (mk L))) == tl (mk [c]))) = _
    rw [tl_mk, tl_mk]
    have : List.take 1 (List.drop i L) = [L[i]] := by
      rw [List.drop_eq_getElem_cons hi']
      rfl
    have e4 : decide (i + [c].length ≤ L.length) = true := by simp; omega
    rw [e4, Bool.true_and]
    show (List.take 1 (List.drop i L) == [c]) = _
    rw [this, List.getElem?_eq_getElem hi']
    simp
  have key : partsFrom (mk L) 1 0 (occurrences (mk L) (mk [c]) 0 (mk L).length ((mk L).length + 1)) = (splitL c [] L).map mk := by
    rw [occ]
    exact parts_L c L L 0 0 [] (Nat.le_refl _) rfl (by simp)
  unfold Txt.split
  rw [if_neg (by rw [e1]; simp)]
  split
  · rename_i h
    have h' : occurrences (mk L) (mk [c]) 0 (mk L).length ((mk L).length + 1) = [] := by simpa using h
    rw [h'] at key
    rw [← key]
    show [mk L] = [strSub (mk L) 0 (mk L).length]
    rw [sub_whole]
  · rw [partsBetween_eq]
    exact key
theorem splitL_line (c : Nat) : ∀ (l rest acc : List Nat), c ∉ l → splitL c acc (l ++ c :: rest) = (acc ++ l) :: splitL c [] rest
  | [], rest, acc, _ => by simp [splitL]
  | x :: l, rest, acc, h => by
    have hx : ¬ x = c := fun e => h (by simp [e])
    rw [List.cons_append, splitL, if_neg hx, splitL_line c l rest _ (fun hm => h (List.mem_cons_of_mem _ hm))]
    simp
theorem splitL_end (c : Nat) : ∀ (l acc : List Nat), c ∉ l → splitL c acc l = [acc ++ l]
  | [], acc, _ => by simp [splitL]
  | x :: l, acc, h => by
    have hx : ¬ x = c := fun e => h (by simp [e])
    rw [splitL, if_neg hx, splitL_end c l _ (fun hm => h (List.mem_cons_of_mem _ hm))]
    simp
/-- the lines, each with its end, but for the last end -/
theorem splitL_lines (c : Nat) : ∀ (ls : List (List Nat)), ls ≠ [] → (∀ l ∈ ls, c ∉ l) → splitL c [] ((ls.map (· ++ [c])).flatten.dropLast) = ls
  | [], h, _ => absurd rfl h
  | [l], _, h => by
    simp only [List.map_cons, List.map_nil, List.flatten_cons, List.flatten_nil, List.append_nil, List.dropLast_concat]
    rw [splitL_end c l [] (h l (by simp))]
    rfl
  | l :: m :: ls, _, h => by
    have hne : ((m :: ls).map (· ++ [c])).flatten ≠ [] := by simp
    rw [List.map_cons, List.flatten_cons, List.append_assoc, List.singleton_append, List.dropLast_append_of_ne_nil (by simp), List.dropLast_cons_of_ne_nil hne, splitL_line c l _ _ (h l (by simp)),
      splitL_lines c (m :: ls) (by simp) (fun x hx => h x (List.mem_cons_of_mem _ hx))]
    rfl
end M


set_option Elab.async false
set_option linter.all false
set_option maxRecDepth 100000
set_option maxHeartbeats 4000000
namespace K08
open PySem PySem.Spec PyProof.Rows L2 M
variable [Tabs]
def top (i : Nat) : Stmt := PySem.Challenge.pw_lostastold_k08_whole_pictures_in_parts.main.body.getD i (.Pass ⟨0, 0, 0, 0⟩)
abbrev s__law_draws : Stmt := top 25
abbrev s__law_take : Stmt := top 26
abbrev s__law_grey : Stmt := top 28
abbrev s__law_picture : Stmt := top 29
abbrev s_part_of : Stmt := top 16
abbrev s_above : Stmt := top 19
abbrev s_beside : Stmt := top 18
abbrev s_alike_in_sides : Stmt := top 5
abbrev s_differences : Stmt := top 6
abbrev s_loss : Stmt := top 7
abbrev s_gap : Stmt := top 8
abbrev s_write : Stmt := top 22
abbrev s_is_number : Stmt := top 10
abbrev s_is_grey : Stmt := top 14
abbrev s_is_picture : Stmt := top 15
abbrev s_read : Stmt := top 23
abbrev s_flat_picture : Stmt := top 17
abbrev s_law : Stmt := top 30
theorem sc__law_draws : FnScope ["script", "draws", "cell", "number", "first", "k", "seed"] ["script"] (defScope s__law_draws) := ⟨rfl, rfl, rfl, by decide +kernel, rfl, by decide +kernel, by decide +kernel⟩
theorem sc__law_take : FnScope ["draws", "bound"] ["draws", "bound"] (defScope s__law_take) := ⟨rfl, rfl, rfl, by decide +kernel, rfl, by decide +kernel, by decide +kernel⟩
theorem sc__law_grey : FnScope ["draws"] ["draws"] (defScope s__law_grey) := ⟨rfl, rfl, rfl, by decide +kernel, rfl, by decide +kernel, by decide +kernel⟩
theorem sc__law_picture : FnScope ["draws", "high", "wide", "kind", "first", "column", "row", "across", "down", "other"] ["draws", "high", "wide"] (defScope s__law_picture) := ⟨rfl, rfl, rfl, by decide +kernel, rfl, by decide +kernel, by decide +kernel⟩
theorem sc_part_of : FnScope ["picture", "top", "left", "many", "long", "row"] ["picture", "top", "left", "many", "long"] (defScope s_part_of) := ⟨rfl, rfl, rfl, by decide +kernel, rfl, by decide +kernel, by decide +kernel⟩
theorem sc_above : FnScope ["one", "other"] ["one", "other"] (defScope s_above) := ⟨rfl, rfl, rfl, by decide +kernel, rfl, by decide +kernel, by decide +kernel⟩
theorem sc_beside : FnScope ["one", "other", "first", "second"] ["one", "other"] (defScope s_beside) := ⟨rfl, rfl, rfl, by decide +kernel, rfl, by decide +kernel, by decide +kernel⟩
theorem sc_alike_in_sides : FnScope ["one", "other"] ["one", "other"] (defScope s_alike_in_sides) := ⟨rfl, rfl, rfl, by decide +kernel, rfl, by decide +kernel, by decide +kernel⟩
theorem sc_differences : FnScope ["one", "other", "found", "first", "second", "a", "b"] ["one", "other"] (defScope s_differences) := ⟨rfl, rfl, rfl, by decide +kernel, rfl, by decide +kernel, by decide +kernel⟩
theorem sc_loss : FnScope ["one", "other", "step"] ["one", "other"] (defScope s_loss) := ⟨rfl, rfl, rfl, by decide +kernel, rfl, by decide +kernel, by decide +kernel⟩
theorem sc_gap : FnScope ["one", "other", "step"] ["one", "other"] (defScope s_gap) := ⟨rfl, rfl, rfl, by decide +kernel, rfl, by decide +kernel, by decide +kernel⟩
theorem sc_write : FnScope ["picture", "one", "row"] ["picture"] (defScope s_write) := ⟨rfl, rfl, rfl, by decide +kernel, rfl, by decide +kernel, by decide +kernel⟩
theorem sc_is_number : FnScope ["value", "least", "most"] ["value", "least", "most"] (defScope s_is_number) := ⟨rfl, rfl, rfl, by decide +kernel, rfl, by decide +kernel, by decide +kernel⟩
theorem sc_is_grey : FnScope ["value"] ["value"] (defScope s_is_grey) := ⟨rfl, rfl, rfl, by decide +kernel, rfl, by decide +kernel, by decide +kernel⟩
theorem sc_is_picture : FnScope ["value", "row", "one"] ["value"] (defScope s_is_picture) := ⟨rfl, rfl, rfl, by decide +kernel, rfl, by decide +kernel, by decide +kernel⟩
theorem sc_read : FnScope ["value", "rows", "line", "sign", "found"] ["value"] (defScope s_read) := ⟨rfl, rfl, rfl, by decide +kernel, rfl, by decide +kernel, by decide +kernel⟩
theorem sc_flat_picture : FnScope ["many", "long", "grey"] ["many", "long", "grey"] (defScope s_flat_picture) := ⟨rfl, rfl, rfl, by decide +kernel, rfl, by decide +kernel, by decide +kernel⟩
theorem sc_law : FnScope ["script", "draws", "turn", "many", "long", "one", "other", "third", "k", "row", "column", "parts", "left", "away", "top", "far", "whole", "others", "j", "steps", "step", "grey", "flat", "each", "line"] ["script"] (defScope s_law) := ⟨rfl, rfl, rfl, by decide +kernel, rfl, by decide +kernel, by decide +kernel⟩
theorem room65 {k : Nat} {A : Around} (r : Room k A) : A.units + 65 < cLine := by have := r.un; omega
/-- what the head tells -/
structure Facts (K : PySem.W.Frag) (mg : Str → Option Value) (base : Heap) where
  fd__law_draws : FuncData
  F__law_draws : FunD K "_law_draws" "_law_draws" (defArgs s__law_draws) (defBody s__law_draws) (defScope s__law_draws) [] [] (He.ga K "_law_draws") fd__law_draws
  g__law_draws : mg "_law_draws" = some (.ref (He.ga K "_law_draws"))
  b__law_draws : Binds K fd__law_draws ["script"] []
  fd__law_take : FuncData
  F__law_take : FunD K "_law_take" "_law_take" (defArgs s__law_take) (defBody s__law_take) (defScope s__law_take) [] [] (He.ga K "_law_take") fd__law_take
  g__law_take : mg "_law_take" = some (.ref (He.ga K "_law_take"))
  b__law_take : Binds K fd__law_take ["draws", "bound"] []
  fd__law_grey : FuncData
  F__law_grey : FunD K "_law_grey" "_law_grey" (defArgs s__law_grey) (defBody s__law_grey) (defScope s__law_grey) [] [] (He.ga K "_law_grey") fd__law_grey
  g__law_grey : mg "_law_grey" = some (.ref (He.ga K "_law_grey"))
  b__law_grey : Binds K fd__law_grey ["draws"] []
  fd__law_picture : FuncData
  F__law_picture : FunD K "_law_picture" "_law_picture" (defArgs s__law_picture) (defBody s__law_picture) (defScope s__law_picture) [] [] (He.ga K "_law_picture") fd__law_picture
  g__law_picture : mg "_law_picture" = some (.ref (He.ga K "_law_picture"))
  b__law_picture : Binds K fd__law_picture ["draws", "high", "wide"] []
  fd_part_of : FuncData
  F_part_of : FunD K "part_of" "part_of" (defArgs s_part_of) (defBody s_part_of) (defScope s_part_of) [] [] (He.ga K "part_of") fd_part_of
  g_part_of : mg "part_of" = some (.ref (He.ga K "part_of"))
  b_part_of : Binds K fd_part_of ["picture", "top", "left", "many", "long"] []
  fd_above : FuncData
  F_above : FunD K "above" "above" (defArgs s_above) (defBody s_above) (defScope s_above) [] [] (He.ga K "above") fd_above
  g_above : mg "above" = some (.ref (He.ga K "above"))
  b_above : Binds K fd_above ["one", "other"] []
  fd_beside : FuncData
  F_beside : FunD K "beside" "beside" (defArgs s_beside) (defBody s_beside) (defScope s_beside) [] [] (He.ga K "beside") fd_beside
  g_beside : mg "beside" = some (.ref (He.ga K "beside"))
  b_beside : Binds K fd_beside ["one", "other"] []
  fd_alike_in_sides : FuncData
  F_alike_in_sides : FunD K "alike_in_sides" "alike_in_sides" (defArgs s_alike_in_sides) (defBody s_alike_in_sides) (defScope s_alike_in_sides) [] [] (He.ga K "alike_in_sides") fd_alike_in_sides
  g_alike_in_sides : mg "alike_in_sides" = some (.ref (He.ga K "alike_in_sides"))
  b_alike_in_sides : Binds K fd_alike_in_sides ["one", "other"] []
  fd_differences : FuncData
  F_differences : FunD K "differences" "differences" (defArgs s_differences) (defBody s_differences) (defScope s_differences) [] [] (He.ga K "differences") fd_differences
  g_differences : mg "differences" = some (.ref (He.ga K "differences"))
  b_differences : Binds K fd_differences ["one", "other"] []
  fd_loss : FuncData
  F_loss : FunD K "loss" "loss" (defArgs s_loss) (defBody s_loss) (defScope s_loss) [] [] (He.ga K "loss") fd_loss
  g_loss : mg "loss" = some (.ref (He.ga K "loss"))
  b_loss : Binds K fd_loss ["one", "other"] []
  fd_gap : FuncData
  F_gap : FunD K "gap" "gap" (defArgs s_gap) (defBody s_gap) (defScope s_gap) [] [] (He.ga K "gap") fd_gap
  g_gap : mg "gap" = some (.ref (He.ga K "gap"))
  b_gap : Binds K fd_gap ["one", "other"] []
  fd_write : FuncData
  F_write : FunD K "write" "write" (defArgs s_write) (defBody s_write) (defScope s_write) [] [] (He.ga K "write") fd_write
  g_write : mg "write" = some (.ref (He.ga K "write"))
  b_write : Binds K fd_write ["picture"] []
  fd_is_number : FuncData
  F_is_number : FunD K "is_number" "is_number" (defArgs s_is_number) (defBody s_is_number) (defScope s_is_number) [] [] (He.ga K "is_number") fd_is_number
  g_is_number : mg "is_number" = some (.ref (He.ga K "is_number"))
  b_is_number : Binds K fd_is_number ["value", "least", "most"] []
  fd_is_grey : FuncData
  F_is_grey : FunD K "is_grey" "is_grey" (defArgs s_is_grey) (defBody s_is_grey) (defScope s_is_grey) [] [] (He.ga K "is_grey") fd_is_grey
  g_is_grey : mg "is_grey" = some (.ref (He.ga K "is_grey"))
  b_is_grey : Binds K fd_is_grey ["value"] []
  fd_is_picture : FuncData
  F_is_picture : FunD K "is_picture" "is_picture" (defArgs s_is_picture) (defBody s_is_picture) (defScope s_is_picture) [] [] (He.ga K "is_picture") fd_is_picture
  g_is_picture : mg "is_picture" = some (.ref (He.ga K "is_picture"))
  b_is_picture : Binds K fd_is_picture ["value"] []
  c_is_picture : Addr
  P_is_picture : Addr
  hc_is_picture : fd_is_picture.code = .ref c_is_picture
  TB_is_picture : GxR.TabB base mg c_is_picture P_is_picture
  T_is_picture : P_is_picture ∈ Tabs.t
  fd_read : FuncData
  F_read : FunD K "read" "read" (defArgs s_read) (defBody s_read) (defScope s_read) [] [] (He.ga K "read") fd_read
  g_read : mg "read" = some (.ref (He.ga K "read"))
  b_read : Binds K fd_read ["value"] []
  c_read : Addr
  P_read : Addr
  hc_read : fd_read.code = .ref c_read
  TB_read : GxR.TabB base mg c_read P_read
  T_read : P_read ∈ Tabs.t
  fd_flat_picture : FuncData
  F_flat_picture : FunD K "flat_picture" "flat_picture" (defArgs s_flat_picture) (defBody s_flat_picture) (defScope s_flat_picture) [] [] (He.ga K "flat_picture") fd_flat_picture
  g_flat_picture : mg "flat_picture" = some (.ref (He.ga K "flat_picture"))
  b_flat_picture : Binds K fd_flat_picture ["many", "long", "grey"] []
  fd_law : FuncData
  F_law : FunD K "law" "law" (defArgs s_law) (defBody s_law) (defScope s_law) [] [] (He.ga K "law") fd_law
  g_law : mg "law" = some (.ref (He.ga K "law"))
  b_law : Binds K fd_law ["script"] []
  u_MOST_GREY : Value
  g_MOST_GREY : mg "MOST_GREY" = some u_MOST_GREY
  r_MOST_GREY : RelV (.int 15) u_MOST_GREY
  u_MOST_SIDE : Value
  g_MOST_SIDE : mg "MOST_SIDE" = some u_MOST_SIDE
  r_MOST_SIDE : RelV (.int 32) u_MOST_SIDE
  u_SIGNS : Value
  g_SIGNS : mg "SIGNS" = some u_SIGNS
  r_SIGNS : RelV (.str "0123456789abcdef") u_SIGNS
  n_abs : mg "abs" = none
  n_all : mg "all" = none
  n_bool : mg "bool" = none
  n_int : mg "int" = none
  n_isinstance : mg "isinstance" = none
  n_len : mg "len" = none
  n_list : mg "list" = none
  n_max : mg "max" = none
  n_min : mg "min" = none
  n_range : mg "range" = none
  n_reversed : mg "reversed" = none
  n_str : mg "str" = none
  n_sum : mg "sum" = none
  n_tuple : mg "tuple" = none
  n_zip : mg "zip" = none
section
variable {P : Program} {w : World} {K : PySem.W.Frag} {mg : Str → Option Value} {base : Heap}
/-! _law_draws -/
noncomputable def b__law_draws_1 : MS := (sSeq (sSet (gN 4) (mBin dMod (mCall dInt (mCons (mBin dAdd (mBin dMul (mVar 3) (mC (.int 48271))) (mC (.int 11))) mNil)) (mC (.int 2147483647)))) (sSeq (sExpr (mMeth "list" gAppend (mVar 1) (mCons (mBin dMod (mCall dInt (mCons (mBin dAdd (mBin dMul (mVar 4) (mC (.int 69621))) (mVar 3)) mNil)) (mC (.int 2147483629))) mNil))) (sSeq (sExpr (mMeth "list" gAppend (mVar 1) (mCons (mBin dMod (mCall dInt (mCons (mBin dAdd (mVar 4) (mBin dFdiv (mVar 3) (mC (.int 7)))) mNil)) (mC (.int 1000003))) mNil))) (sSet (gN 3) (mC (.int 0))))))
noncomputable def b__law_draws_2 : MS := (sSeq (sExpr (mMeth "list" gAppend (mVar 1) (mCons (mBin dMod (mCall dInt (mCons (mVar 3) mNil)) (mC (.int 997))) mNil))) (sSet (gN 3) (mBin dFdiv (mVar 3) (mC (.int 997)))))
noncomputable def l__law_draws_3 : MS := (sIf (mB (mBin dGt (mVar 3) (mC (.int 0)))) b__law_draws_2 sSkip)
noncomputable def l__law_draws_4 : MS := (sSeq (sSet (gN 3) (mCall dAbs (mCons (mVar 2) mNil))) (sSeq (sIf (mB (mBin dLt (mVar 3) (mBin dPow (mC (.int 10)) (mC (.int 18))))) b__law_draws_1 sSkip) (sFor (mSrcA srcR1 (mCons (mC (.int 60)) mNil)) (gN 5) l__law_draws_3)))
noncomputable def b__law_draws_5 : MS := (sSet (gN 6) (mBin dAdd (mC (.int 1)) (mCall dAbs (mCons (mBin dIx (mVar 0) (mC (.int 0))) mNil))))
noncomputable def l__law_draws_6 : MS := (sSeq (sSet (gN 6) (mBin dMod (mCall dInt (mCons (mBin dAdd (mBin dMul (mVar 6) (mC (.int 48271))) (mC (.int 69621))) mNil)) (mC (.int 2147483647)))) (sExpr (mMeth "list" gAppend (mVar 1) (mCons (mBin dFdiv (mVar 6) (mC (.int 5))) mNil))))
noncomputable def b__law_draws : MS := (sSeq (sSet (gN 1) (asL (mLst mNil))) (sSeq (sFor (mSrc (mVar 0)) (gN 2) l__law_draws_4) (sSeq (sSet (gN 6) (mC (.int 1))) (sSeq (sIf (mB (mBin dGt (mCall dLen (mCons (mVar 0) mNil)) (mC (.int 0)))) b__law_draws_5 sSkip) (sSeq (sFor (mSrcA srcR1 (mCons (mC (.int 900)) mNil)) (gN 5) l__law_draws_6) (sRet (asL (mListRev (mVar 1)))))))))
noncomputable def m__law_draws : List D → Store → Res D := retK (runF 7 b__law_draws)
set_option maxHeartbeats 0 in
theorem bm__law_draws (T : Facts K mg base) {A : Around} {outer : List PySem.Env} {s : Shared} {H : Hp} {E : XK} (hr : Room 1 (A.deeper (envOfC "_law_draws" (defScope s__law_draws) s.heap.objs.size (He.ga K "_law_draws") T.fd__law_draws.code))) :
  BM (cxOf (L2.CX P w) P w K mg base ["script", "draws", "cell", "number", "first", "k", "seed"] "_law_draws" (defScope s__law_draws) (He.ga K "_law_draws") T.fd__law_draws.code A outer s H E) (fun c d _ H => E c d H) (defBody s__law_draws) b__law_draws :=
  (bm_cons (sm_set sc__law_draws.nd rfl (by first | exact .inl rfl | exact .inr rfl) (em_loc (nm_lst am_nil)))
  (bm_cons (sm_for owns_cx rfl (im_any (em_var (pv 0))) (gm_name sc__law_draws.nd rfl (by first | exact .inl rfl | exact .inr rfl))
 (bm_cons (sm_set sc__law_draws.nd rfl (by first | exact .inl rfl | exact .inr rfl) (em_callB cd_abs (by rfl) T.n_abs (by rfl) (am_cons (em_var (pv 2)) am_nil)))
  (bm_cons (sm_if (tm_cmp opd_lt (em_var (pv 3)) (em_bin opd_pow em_int em_int) (nomark _)) (bm_cons (sm_set sc__law_draws.nd rfl (by first | exact .inl rfl | exact .inr rfl) (em_bin opd_mod (em_callTy cd_int (by rfl) T.n_int (by rfl) (am_cons (em_bin opd_add (em_bin opd_mul (em_var (pv 3)) em_int) em_int) am_nil)) em_int))
  (bm_cons (sm_expr (em_bm PySem.F.plainAttrs_list PySem.F.slot_list_append PySem.F.type_list_append md_append (em_var (pv 1)) (am_cons (em_bin opd_mod (em_callTy cd_int (by rfl) T.n_int (by rfl) (am_cons (em_bin opd_add (em_bin opd_mul (em_var (pv 4)) em_int) (em_var (pv 3))) am_nil)) em_int) am_nil)))
  (bm_cons (sm_expr (em_bm PySem.F.plainAttrs_list PySem.F.slot_list_append PySem.F.type_list_append md_append (em_var (pv 1)) (am_cons (em_bin opd_mod (em_callTy cd_int (by rfl) T.n_int (by rfl) (am_cons (em_bin opd_add (em_var (pv 4)) (em_bin opd_fdiv (em_var (pv 3)) em_int)) am_nil)) em_int) am_nil)))
  (bm_one (sm_set sc__law_draws.nd rfl (by first | exact .inl rfl | exact .inr rfl) em_int))))) bm_nil)
  (bm_one (sm_for owns_cx rfl (im_range1 (by rfl) T.n_range (am_cons em_int am_nil)) (gm_name sc__law_draws.nd rfl (by first | exact .inl rfl | exact .inr rfl))
 (bm_one (sm_if (tm_cmp opd_gt (em_var (pv 3)) em_int (nomark _)) (bm_cons (sm_expr (em_bm PySem.F.plainAttrs_list PySem.F.slot_list_append PySem.F.type_list_append md_append (em_var (pv 1)) (am_cons (em_bin opd_mod (em_callTy cd_int (by rfl) T.n_int (by rfl) (am_cons (em_var (pv 3)) am_nil)) em_int) am_nil)))
  (bm_one (sm_set sc__law_draws.nd rfl (by first | exact .inl rfl | exact .inr rfl) (em_bin opd_fdiv (em_var (pv 3)) em_int)))) bm_nil)))))))
  (bm_cons (sm_set sc__law_draws.nd rfl (by first | exact .inl rfl | exact .inr rfl) em_int)
  (bm_cons (sm_if (tm_cmp opd_gt (em_callB cd_len (by rfl) T.n_len (by rfl) (am_cons (em_var (pv 0)) am_nil)) em_int (nomark _)) (bm_one (sm_set sc__law_draws.nd rfl (by first | exact .inl rfl | exact .inr rfl) (em_bin opd_add em_int (em_callB cd_abs (by rfl) T.n_abs (by rfl) (am_cons (em_ix (em_var (pv 0)) em_int fun _ _ => rfl) am_nil))))) bm_nil)
  (bm_cons (sm_for owns_cx rfl (im_range1 (by rfl) T.n_range (am_cons em_int am_nil)) (gm_name sc__law_draws.nd rfl (by first | exact .inl rfl | exact .inr rfl))
 (bm_cons (sm_set sc__law_draws.nd rfl (by first | exact .inl rfl | exact .inr rfl) (em_bin opd_mod (em_callTy cd_int (by rfl) T.n_int (by rfl) (am_cons (em_bin opd_add (em_bin opd_mul (em_var (pv 6)) em_int) em_int) am_nil)) em_int))
  (bm_one (sm_expr (em_bm PySem.F.plainAttrs_list PySem.F.slot_list_append PySem.F.type_list_append md_append (em_var (pv 1)) (am_cons (em_bin opd_fdiv (em_var (pv 6)) em_int) am_nil))))))
  (bm_one (sm_ret (em_loc (nm_listRev (by rfl) T.n_list (by rfl) T.n_reversed rfl (em_var (pv 1)))))))))))
theorem fn__law_draws (T : Facts K mg base) : FnM P w K mg base 2 (He.ga K "_law_draws") T.fd__law_draws ["script"] m__law_draws := fn_retK (fn_mD T.F__law_draws sc__law_draws fun A outer s H E hr => bm__law_draws T hr)
/-! _law_take -/
noncomputable def b__law_take : MS := (sSeq (sIf (mB (mBin dEq (mCall dLen (mCons (mVar 0) mNil)) (mC (.int 0)))) (sRet (mC (.int 0))) sSkip) (sRet (mBin dMod (mCall dInt (mCons (mMeth "list" gPop (mVar 0) mNil) mNil)) (mVar 1))))
noncomputable def m__law_take : List D → Store → Res D := retV (runF 2 b__law_take)
set_option maxHeartbeats 0 in
theorem bm__law_take (T : Facts K mg base) {A : Around} {outer : List PySem.Env} {s : Shared} {H : Hp} {E : XK} (hr : Room 1 (A.deeper (envOfC "_law_take" (defScope s__law_take) s.heap.objs.size (He.ga K "_law_take") T.fd__law_take.code))) :
  BM (cxOf (L2.CX P w) P w K mg base ["draws", "bound"] "_law_take" (defScope s__law_take) (He.ga K "_law_take") T.fd__law_take.code A outer s H E) (fun c d _ H => E c d H) (defBody s__law_take) b__law_take :=
  (bm_cons (sm_if (tm_cmp (opd_eq (hr).units) (em_callB cd_len (by rfl) T.n_len (by rfl) (am_cons (em_var (pv 0)) am_nil)) em_int (nomark _)) (bm_one (sm_ret em_int)) bm_nil)
  (bm_one (sm_ret (em_bin opd_mod (em_callTy cd_int (by rfl) T.n_int (by rfl) (am_cons (em_bm0 PySem.F.plainAttrs_list PySem.F.slot_list_pop PySem.F.type_list_pop md_pop (em_var (pv 0))) am_nil)) (em_var (pv 1))))))
theorem fn__law_take (T : Facts K mg base) : FnM P w K mg base 2 (He.ga K "_law_take") T.fd__law_take ["draws", "bound"] m__law_take := fn_retV (fn_mD T.F__law_take sc__law_take fun A outer s H E hr => bm__law_take T hr)
/-! _law_grey -/
noncomputable def b__law_grey : MS := (sRet (mBin dIx (asV (mLst (mCons (mC (.int 0)) (mCons (mC (.int 15)) (mCons (mC (.int 8)) (mCons (mCallF 2 m__law_take (mCons (mVar 0) (mCons (mC (.int 16)) mNil))) (mCons (mCallF 2 m__law_take (mCons (mVar 0) (mCons (mC (.int 16)) mNil))) (mCons (mCallF 2 m__law_take (mCons (mVar 0) (mCons (mC (.int 16)) mNil))) mNil)))))))) (mCallF 2 m__law_take (mCons (mVar 0) (mCons (mC (.int 6)) mNil)))))
noncomputable def m__law_grey : List D → Store → Res D := retV (runF 1 b__law_grey)
set_option maxHeartbeats 0 in
theorem bm__law_grey (T : Facts K mg base) {A : Around} {outer : List PySem.Env} {s : Shared} {H : Hp} {E : XK} (hr : Room 2 (A.deeper (envOfC "_law_grey" (defScope s__law_grey) s.heap.objs.size (He.ga K "_law_grey") T.fd__law_grey.code))) :
  BM (cxOf (L2.CX P w) P w K mg base ["draws"] "_law_grey" (defScope s__law_grey) (He.ga K "_law_grey") T.fd__law_grey.code A outer s H E) (fun c d _ H => E c d H) (defBody s__law_grey) b__law_grey :=
  (bm_one (sm_ret (em_ix (em_val (nm_lst (am_cons em_int (am_cons em_int (am_cons em_int (am_cons (em_call (fn__law_take T) ((hr).mono (by decide)) (by rfl) T.g__law_take T.F__law_take.kp T.b__law_take takes_cx (am_cons (em_var (pv 0)) (am_cons em_int am_nil))) (am_cons (em_call (fn__law_take T) ((hr).mono (by decide)) (by rfl) T.g__law_take T.F__law_take.kp T.b__law_take takes_cx (am_cons (em_var (pv 0)) (am_cons em_int am_nil))) (am_cons (em_call (fn__law_take T) ((hr).mono (by decide)) (by rfl) T.g__law_take T.F__law_take.kp T.b__law_take takes_cx (am_cons (em_var (pv 0)) (am_cons em_int am_nil))) am_nil)))))))) (em_call (fn__law_take T) ((hr).mono (by decide)) (by rfl) T.g__law_take T.F__law_take.kp T.b__law_take takes_cx (am_cons (em_var (pv 0)) (am_cons em_int am_nil))) fun _ _ => rfl)))
theorem fn__law_grey (T : Facts K mg base) : FnM P w K mg base 3 (He.ga K "_law_grey") T.fd__law_grey ["draws"] m__law_grey := fn_retV (fn_mD T.F__law_grey sc__law_grey fun A outer s H E hr => bm__law_grey T hr)
/-! _law_picture -/
noncomputable def e__law_picture_1 : ME := (mCallF 1 m__law_grey (mCons (mVar 0) mNil))
noncomputable def e__law_picture_2 : ME := (mCall dTuple (mCons (asV (mLc (mSrcA srcR1 (mCons (mVar 2) mNil)) (gN 5) mYes e__law_picture_1 [5])) mNil))
noncomputable def b__law_picture_3 : MS := (sRet (mCall dTuple (mCons (asV (mLc (mSrcA srcR1 (mCons (mVar 1) mNil)) (gN 6) mYes e__law_picture_2 [6])) mNil)))
noncomputable def e__law_picture_4 : ME := (mCall dMax (mCons (mC (.int 0)) (mCons (mCall dMin (mCons (mC (.int 15)) (mCons (mBin dAdd (mBin dAdd (mBin dAdd (mVar 4) (mBin dMul (mVar 7) (mVar 5))) (mBin dMul (mVar 8) (mVar 6))) (mCallF 2 m__law_take (mCons (mVar 0) (mCons (mC (.int 2)) mNil)))) mNil))) mNil)))
noncomputable def e__law_picture_5 : ME := (mCall dTuple (mCons (asV (mLc (mSrcA srcR1 (mCons (mVar 2) mNil)) (gN 5) mYes e__law_picture_4 [5])) mNil))
noncomputable def b__law_picture_6 : MS := (sSeq (sSet (gTup 2 (gCons (gN 7) (gCons (gN 8) gNil))) (mTup (mCons (mBin dSub (mCallF 2 m__law_take (mCons (mVar 0) (mCons (mC (.int 5)) mNil))) (mC (.int 2))) (mCons (mBin dSub (mCallF 2 m__law_take (mCons (mVar 0) (mCons (mC (.int 5)) mNil))) (mC (.int 2))) mNil)))) (sRet (mCall dTuple (mCons (asV (mLc (mSrcA srcR1 (mCons (mVar 1) mNil)) (gN 6) mYes e__law_picture_5 [6])) mNil))))
noncomputable def e__law_picture_7 : ME := (mBin dIx (asV (mLst (mCons (mVar 4) (mCons (mVar 9) mNil)))) (mCallF 2 m__law_take (mCons (mVar 0) (mCons (mC (.int 2)) mNil))))
noncomputable def e__law_picture_8 : ME := (mCall dTuple (mCons (asV (mLc (mSrcA srcR1 (mCons (mVar 2) mNil)) (gN 5) mYes e__law_picture_7 [5])) mNil))
noncomputable def b__law_picture_9 : MS := (sSeq (sSet (gN 9) (mCallF 1 m__law_grey (mCons (mVar 0) mNil))) (sRet (mCall dTuple (mCons (asV (mLc (mSrcA srcR1 (mCons (mVar 1) mNil)) (gN 6) mYes e__law_picture_8 [6])) mNil))))
noncomputable def e__law_picture_10 : ME := (mCall dMax (mCons (mC (.int 0)) (mCons (mCall dMin (mCons (mC (.int 15)) (mCons (mBin dSub (mBin dAdd (mVar 4) (mCallF 2 m__law_take (mCons (mVar 0) (mCons (mVar 3) mNil)))) (mC (.int 1))) mNil))) mNil)))
noncomputable def e__law_picture_11 : ME := (mCall dTuple (mCons (asV (mLc (mSrcA srcR1 (mCons (mVar 2) mNil)) (gN 5) mYes e__law_picture_10 [5])) mNil))
noncomputable def b__law_picture : MS := (sSeq (sSet (gTup 2 (gCons (gN 3) (gCons (gN 4) gNil))) (mTup (mCons (mCallF 2 m__law_take (mCons (mVar 0) (mCons (mC (.int 5)) mNil))) (mCons (mCallF 1 m__law_grey (mCons (mVar 0) mNil)) mNil)))) (sSeq (sIf (mB (mBin dEq (mVar 3) (mC (.int 0)))) b__law_picture_3 sSkip) (sSeq (sIf (mB (mBin dEq (mVar 3) (mC (.int 1)))) b__law_picture_6 sSkip) (sSeq (sIf (mB (mBin dEq (mVar 3) (mC (.int 2)))) b__law_picture_9 sSkip) (sRet (mCall dTuple (mCons (asV (mLc (mSrcA srcR1 (mCons (mVar 1) mNil)) (gN 6) mYes e__law_picture_11 [6])) mNil)))))))
noncomputable def m__law_picture : List D → Store → Res D := retV (runF 10 b__law_picture)
set_option maxHeartbeats 0 in
theorem bm__law_picture (T : Facts K mg base) {A : Around} {outer : List PySem.Env} {s : Shared} {H : Hp} {E : XK} (hr : Room 3 (A.deeper (envOfC "_law_picture" (defScope s__law_picture) s.heap.objs.size (He.ga K "_law_picture") T.fd__law_picture.code))) :
  BM (cxOf (L2.CX P w) P w K mg base ["draws", "high", "wide", "kind", "first", "column", "row", "across", "down", "other"] "_law_picture" (defScope s__law_picture) (He.ga K "_law_picture") T.fd__law_picture.code A outer s H E) (fun c d _ H => E c d H) (defBody s__law_picture) b__law_picture :=
  (bm_cons (sm_asg (em_tup (am_cons (em_call (fn__law_take T) ((hr).mono (by decide)) (by rfl) T.g__law_take T.F__law_take.kp T.b__law_take takes_cx (am_cons (em_var (pv 0)) (am_cons em_int am_nil))) (am_cons (em_call (fn__law_grey T) ((hr).mono (by decide)) (by rfl) T.g__law_grey T.F__law_grey.kp T.b__law_grey takes_cx (am_cons (em_var (pv 0)) am_nil)) am_nil))) (gm_tup rfl (gms_cons (gm_name sc__law_picture.nd rfl (by first | exact .inl rfl | exact .inr rfl)) (gms_cons (gm_name sc__law_picture.nd rfl (by first | exact .inl rfl | exact .inr rfl)) gms_nil))))
  (bm_cons (sm_if (tm_cmp (opd_eq (hr).units) (em_var (pv 3)) em_int (nomark _)) (bm_one (sm_ret (em_callTy cd_tuple (by rfl) T.n_tuple (by rfl) (am_cons (em_val (nm_lc [("row", 6)] rfl sc__law_picture.nd (im_range1 (by rfl) T.n_range (am_cons (em_var (pv 1)) am_nil)) (blkOk_by (by kernel_rfl)) (by decide) (fun _ _ _ _ _ => (gm_name sc__law_picture.nd rfl (by first | exact .inl rfl | exact .inr rfl))) (fun _ _ _ _ _ => ptsm_nil) (fun _ _ _ _ _ => (em_callTy cd_tuple (by rfl) T.n_tuple (by rfl) (am_cons (em_val (nm_lc [("column", 5)] rfl sc__law_picture.nd (im_range1 (by rfl) T.n_range (am_cons (em_var (pv 2)) am_nil)) (blkOk_by (by kernel_rfl)) (by decide) (fun _ _ _ _ _ => (gm_name sc__law_picture.nd rfl (by first | exact .inl rfl | exact .inr rfl))) (fun _ _ _ _ _ => ptsm_nil) (fun _ _ _ _ _ => (em_call (fn__law_grey T) ((hr).mono (by decide)) (by rfl) T.g__law_grey T.F__law_grey.kp T.b__law_grey tk0 (am_cons (em_var (pv 0)) am_nil))))) am_nil))))) am_nil)))) bm_nil)
  (bm_cons (sm_if (tm_cmp (opd_eq (hr).units) (em_var (pv 3)) em_int (nomark _)) (bm_cons (sm_asg (em_tup (am_cons (em_bin opd_sub (em_call (fn__law_take T) ((hr).mono (by decide)) (by rfl) T.g__law_take T.F__law_take.kp T.b__law_take takes_cx (am_cons (em_var (pv 0)) (am_cons em_int am_nil))) em_int) (am_cons (em_bin opd_sub (em_call (fn__law_take T) ((hr).mono (by decide)) (by rfl) T.g__law_take T.F__law_take.kp T.b__law_take takes_cx (am_cons (em_var (pv 0)) (am_cons em_int am_nil))) em_int) am_nil))) (gm_tup rfl (gms_cons (gm_name sc__law_picture.nd rfl (by first | exact .inl rfl | exact .inr rfl)) (gms_cons (gm_name sc__law_picture.nd rfl (by first | exact .inl rfl | exact .inr rfl)) gms_nil))))
  (bm_one (sm_ret (em_callTy cd_tuple (by rfl) T.n_tuple (by rfl) (am_cons (em_val (nm_lc [("row", 6)] rfl sc__law_picture.nd (im_range1 (by rfl) T.n_range (am_cons (em_var (pv 1)) am_nil)) (blkOk_by (by kernel_rfl)) (by decide) (fun _ _ _ _ _ => (gm_name sc__law_picture.nd rfl (by first | exact .inl rfl | exact .inr rfl))) (fun _ _ _ _ _ => ptsm_nil) (fun _ _ _ _ _ => (em_callTy cd_tuple (by rfl) T.n_tuple (by rfl) (am_cons (em_val (nm_lc [("column", 5)] rfl sc__law_picture.nd (im_range1 (by rfl) T.n_range (am_cons (em_var (pv 2)) am_nil)) (blkOk_by (by kernel_rfl)) (by decide) (fun _ _ _ _ _ => (gm_name sc__law_picture.nd rfl (by first | exact .inl rfl | exact .inr rfl))) (fun _ _ _ _ _ => ptsm_nil) (fun _ _ _ _ _ => (em_callB (cd_max rfl) (by rfl) T.n_max (by rfl) (am_cons em_int (am_cons (em_callB (cd_min rfl) (by rfl) T.n_min (by rfl) (am_cons em_int (am_cons (em_bin opd_add (em_bin opd_add (em_bin opd_add (em_var (pv 4)) (em_bin opd_mul (em_var (pv 7)) (em_var (pv 5)))) (em_bin opd_mul (em_var (pv 8)) (em_var (pv 6)))) (em_call (fn__law_take T) ((hr).mono (by decide)) (by rfl) T.g__law_take T.F__law_take.kp T.b__law_take tk0 (am_cons (em_var (pv 0)) (am_cons em_int am_nil)))) am_nil))) am_nil)))))) am_nil))))) am_nil))))) bm_nil)
  (bm_cons (sm_if (tm_cmp (opd_eq (hr).units) (em_var (pv 3)) em_int (nomark _)) (bm_cons (sm_set sc__law_picture.nd rfl (by first | exact .inl rfl | exact .inr rfl) (em_call (fn__law_grey T) ((hr).mono (by decide)) (by rfl) T.g__law_grey T.F__law_grey.kp T.b__law_grey takes_cx (am_cons (em_var (pv 0)) am_nil)))
  (bm_one (sm_ret (em_callTy cd_tuple (by rfl) T.n_tuple (by rfl) (am_cons (em_val (nm_lc [("row", 6)] rfl sc__law_picture.nd (im_range1 (by rfl) T.n_range (am_cons (em_var (pv 1)) am_nil)) (blkOk_by (by kernel_rfl)) (by decide) (fun _ _ _ _ _ => (gm_name sc__law_picture.nd rfl (by first | exact .inl rfl | exact .inr rfl))) (fun _ _ _ _ _ => ptsm_nil) (fun _ _ _ _ _ => (em_callTy cd_tuple (by rfl) T.n_tuple (by rfl) (am_cons (em_val (nm_lc [("column", 5)] rfl sc__law_picture.nd (im_range1 (by rfl) T.n_range (am_cons (em_var (pv 2)) am_nil)) (blkOk_by (by kernel_rfl)) (by decide) (fun _ _ _ _ _ => (gm_name sc__law_picture.nd rfl (by first | exact .inl rfl | exact .inr rfl))) (fun _ _ _ _ _ => ptsm_nil) (fun _ _ _ _ _ => (em_ix (em_val (nm_lst (am_cons (em_var (pv 4)) (am_cons (em_var (pv 9)) am_nil)))) (em_call (fn__law_take T) ((hr).mono (by decide)) (by rfl) T.g__law_take T.F__law_take.kp T.b__law_take tk0 (am_cons (em_var (pv 0)) (am_cons em_int am_nil))) fun _ _ => rfl)))) am_nil))))) am_nil))))) bm_nil)
  (bm_one (sm_ret (em_callTy cd_tuple (by rfl) T.n_tuple (by rfl) (am_cons (em_val (nm_lc [("row", 6)] rfl sc__law_picture.nd (im_range1 (by rfl) T.n_range (am_cons (em_var (pv 1)) am_nil)) (blkOk_by (by kernel_rfl)) (by decide) (fun _ _ _ _ _ => (gm_name sc__law_picture.nd rfl (by first | exact .inl rfl | exact .inr rfl))) (fun _ _ _ _ _ => ptsm_nil) (fun _ _ _ _ _ => (em_callTy cd_tuple (by rfl) T.n_tuple (by rfl) (am_cons (em_val (nm_lc [("column", 5)] rfl sc__law_picture.nd (im_range1 (by rfl) T.n_range (am_cons (em_var (pv 2)) am_nil)) (blkOk_by (by kernel_rfl)) (by decide) (fun _ _ _ _ _ => (gm_name sc__law_picture.nd rfl (by first | exact .inl rfl | exact .inr rfl))) (fun _ _ _ _ _ => ptsm_nil) (fun _ _ _ _ _ => (em_callB (cd_max rfl) (by rfl) T.n_max (by rfl) (am_cons em_int (am_cons (em_callB (cd_min rfl) (by rfl) T.n_min (by rfl) (am_cons em_int (am_cons (em_bin opd_sub (em_bin opd_add (em_var (pv 4)) (em_call (fn__law_take T) ((hr).mono (by decide)) (by rfl) T.g__law_take T.F__law_take.kp T.b__law_take tk0 (am_cons (em_var (pv 0)) (am_cons (em_var (pv 3)) am_nil)))) em_int) am_nil))) am_nil)))))) am_nil))))) am_nil))))))))
theorem fn__law_picture (T : Facts K mg base) : FnM P w K mg base 4 (He.ga K "_law_picture") T.fd__law_picture ["draws", "high", "wide"] m__law_picture := fn_retV (fn_mD T.F__law_picture sc__law_picture fun A outer s H E hr => bm__law_picture T hr)
/-! part_of -/
noncomputable def e_part_of_1 : ME := (mSlice (mVar 5) (mPart (mVar 2)) (mPart (mBin dAdd (mVar 2) (mVar 4))))
noncomputable def b_part_of : MS := (sRet (mCall dTuple (mCons (asV (mLc (mSrc (mSlice (mVar 0) (mPart (mVar 1)) (mPart (mBin dAdd (mVar 1) (mVar 3))))) (gN 5) mYes e_part_of_1 [5])) mNil)))
noncomputable def m_part_of : List D → Store → Res D := retV (runF 6 b_part_of)
set_option maxHeartbeats 0 in
theorem bm_part_of (T : Facts K mg base) {A : Around} {outer : List PySem.Env} {s : Shared} {H : Hp} {E : XK} (hr : Room 1 (A.deeper (envOfC "part_of" (defScope s_part_of) s.heap.objs.size (He.ga K "part_of") T.fd_part_of.code))) :
  BM (cxOf (L2.CX P w) P w K mg base ["picture", "top", "left", "many", "long", "row"] "part_of" (defScope s_part_of) (He.ga K "part_of") T.fd_part_of.code A outer s H E) (fun c d _ H => E c d H) (defBody s_part_of) b_part_of :=
  (bm_one (sm_ret (em_callTy cd_tuple (by rfl) T.n_tuple (by rfl) (am_cons (em_val (nm_lc [("row", 5)] rfl sc_part_of.nd (im_any (em_slice (em_var (pv 0)) (om_some (em_var (pv 1))) (om_some (em_bin opd_add (em_var (pv 1)) (em_var (pv 3)))))) (blkOk_by (by kernel_rfl)) (by decide) (fun _ _ _ _ _ => (gm_name sc_part_of.nd rfl (by first | exact .inl rfl | exact .inr rfl))) (fun _ _ _ _ _ => ptsm_nil) (fun _ _ _ _ _ => (em_slice (em_var (pv 5)) (om_some (em_var (pv 2))) (om_some (em_bin opd_add (em_var (pv 2)) (em_var (pv 4)))))))) am_nil))))
theorem fn_part_of (T : Facts K mg base) : FnM P w K mg base 2 (He.ga K "part_of") T.fd_part_of ["picture", "top", "left", "many", "long"] m_part_of := fn_retV (fn_mD T.F_part_of sc_part_of fun A outer s H E hr => bm_part_of T hr)
/-! above -/
noncomputable def b_above : MS := (sRet (mBin dAdd (mVar 0) (mVar 1)))
noncomputable def m_above : List D → Store → Res D := retV (runF 2 b_above)
set_option maxHeartbeats 0 in
theorem bm_above (T : Facts K mg base) {A : Around} {outer : List PySem.Env} {s : Shared} {H : Hp} {E : XK} (hr : Room 1 (A.deeper (envOfC "above" (defScope s_above) s.heap.objs.size (He.ga K "above") T.fd_above.code))) :
  BM (cxOf (L2.CX P w) P w K mg base ["one", "other"] "above" (defScope s_above) (He.ga K "above") T.fd_above.code A outer s H E) (fun c d _ H => E c d H) (defBody s_above) b_above :=
  (bm_one (sm_ret (em_bin opd_add (em_var (pv 0)) (em_var (pv 1)))))
theorem fn_above (T : Facts K mg base) : FnM P w K mg base 2 (He.ga K "above") T.fd_above ["one", "other"] m_above := fn_retV (fn_mD T.F_above sc_above fun A outer s H E hr => bm_above T hr)
/-! beside -/
noncomputable def e_beside_1 : ME := (mBin dAdd (mVar 2) (mVar 3))
noncomputable def b_beside : MS := (sRet (mCall dTuple (mCons (asV (mLc (mSrcA srcZip (mCons (mVar 0) (mCons (mVar 1) mNil))) (gTup 2 (gCons (gN 2) (gCons (gN 3) gNil))) mYes e_beside_1 [2, 3])) mNil)))
noncomputable def m_beside : List D → Store → Res D := retV (runF 4 b_beside)
set_option maxHeartbeats 0 in
theorem bm_beside (T : Facts K mg base) {A : Around} {outer : List PySem.Env} {s : Shared} {H : Hp} {E : XK} (hr : Room 1 (A.deeper (envOfC "beside" (defScope s_beside) s.heap.objs.size (He.ga K "beside") T.fd_beside.code))) :
  BM (cxOf (L2.CX P w) P w K mg base ["one", "other", "first", "second"] "beside" (defScope s_beside) (He.ga K "beside") T.fd_beside.code A outer s H E) (fun c d _ H => E c d H) (defBody s_beside) b_beside :=
  (bm_one (sm_ret (em_callTy cd_tuple (by rfl) T.n_tuple (by rfl) (am_cons (em_val (nm_lc [("first", 2), ("second", 3)] rfl sc_beside.nd (im_zip (by rfl) T.n_zip (am_cons (em_var (pv 0)) (am_cons (em_var (pv 1)) am_nil))) (blkOk_by (by kernel_rfl)) (by decide) (fun _ _ _ _ _ => (gm_tup rfl (gms_cons (gm_name sc_beside.nd rfl (by first | exact .inl rfl | exact .inr rfl)) (gms_cons (gm_name sc_beside.nd rfl (by first | exact .inl rfl | exact .inr rfl)) gms_nil)))) (fun _ _ _ _ _ => ptsm_nil) (fun _ _ _ _ _ => (em_bin opd_add (em_var (pv 2)) (em_var (pv 3)))))) am_nil))))
theorem fn_beside (T : Facts K mg base) : FnM P w K mg base 2 (He.ga K "beside") T.fd_beside ["one", "other"] m_beside := fn_retV (fn_mD T.F_beside sc_beside fun A outer s H E hr => bm_beside T hr)
/-! alike_in_sides -/
noncomputable def b_alike_in_sides : MS := (sRet (mAndV (mBin dEq (mCall dLen (mCons (mVar 0) mNil)) (mCall dLen (mCons (mVar 1) mNil))) (mBin dEq (mCall dLen (mCons (mBin dIx (mVar 0) (mC (.int 0))) mNil)) (mCall dLen (mCons (mBin dIx (mVar 1) (mC (.int 0))) mNil)))))
noncomputable def m_alike_in_sides : List D → Store → Res D := retV (runF 2 b_alike_in_sides)
set_option maxHeartbeats 0 in
theorem bm_alike_in_sides (T : Facts K mg base) {A : Around} {outer : List PySem.Env} {s : Shared} {H : Hp} {E : XK} (hr : Room 1 (A.deeper (envOfC "alike_in_sides" (defScope s_alike_in_sides) s.heap.objs.size (He.ga K "alike_in_sides") T.fd_alike_in_sides.code))) :
  BM (cxOf (L2.CX P w) P w K mg base ["one", "other"] "alike_in_sides" (defScope s_alike_in_sides) (He.ga K "alike_in_sides") T.fd_alike_in_sides.code A outer s H E) (fun c d _ H => E c d H) (defBody s_alike_in_sides) b_alike_in_sides :=
  (bm_one (sm_ret (em_and (em_cmp (opd_eq (hr).units) (em_callB cd_len (by rfl) T.n_len (by rfl) (am_cons (em_var (pv 0)) am_nil)) (em_callB cd_len (by rfl) T.n_len (by rfl) (am_cons (em_var (pv 1)) am_nil)) (nomark _)) (em_one (em_cmp (opd_eq (hr).units) (em_callB cd_len (by rfl) T.n_len (by rfl) (am_cons (em_ix (em_var (pv 0)) em_int fun _ _ => rfl) am_nil)) (em_callB cd_len (by rfl) T.n_len (by rfl) (am_cons (em_ix (em_var (pv 1)) em_int fun _ _ => rfl) am_nil)) (nomark _))))))
theorem fn_alike_in_sides (T : Facts K mg base) : FnM P w K mg base 2 (He.ga K "alike_in_sides") T.fd_alike_in_sides ["one", "other"] m_alike_in_sides := fn_retV (fn_mD T.F_alike_in_sides sc_alike_in_sides fun A outer s H E hr => bm_alike_in_sides T hr)
/-! differences -/
noncomputable def e_differences_1 : ME := (mBin dSub (mVar 5) (mVar 6))
noncomputable def l_differences_2 : MS := (sExpr (mMeth "list" gExtend (mVar 2) (mCons (asV (mLc (mSrcA srcZip (mCons (mVar 3) (mCons (mVar 4) mNil))) (gTup 2 (gCons (gN 5) (gCons (gN 6) gNil))) mYes e_differences_1 [5, 6])) mNil)))
noncomputable def b_differences : MS := (sSeq (sIf (mNot (mTru (mCallF 2 m_alike_in_sides (mCons (mVar 0) (mCons (mVar 1) mNil))))) sNever sSkip) (sSeq (sSet (gN 2) (asL (mLst mNil))) (sSeq (sFor (mSrcA srcZip (mCons (mVar 0) (mCons (mVar 1) mNil))) (gTup 2 (gCons (gN 3) (gCons (gN 4) gNil))) l_differences_2) (sRet (mVar 2)))))
noncomputable def m_differences : List D → Store → Res D := retV (runF 7 b_differences)
set_option maxHeartbeats 0 in
theorem bm_differences (T : Facts K mg base) {A : Around} {outer : List PySem.Env} {s : Shared} {H : Hp} {E : XK} (hr : Room 2 (A.deeper (envOfC "differences" (defScope s_differences) s.heap.objs.size (He.ga K "differences") T.fd_differences.code))) :
  BM (cxOf (L2.CX P w) P w K mg base ["one", "other", "found", "first", "second", "a", "b"] "differences" (defScope s_differences) (He.ga K "differences") T.fd_differences.code A outer s H E) (fun c d _ H => E c d H) (defBody s_differences) b_differences :=
  (bm_cons (sm_if (tm_not (tm_tru (em_call (fn_alike_in_sides T) ((hr).mono (by decide)) (by rfl) T.g_alike_in_sides T.F_alike_in_sides.kp T.b_alike_in_sides takes_cx (am_cons (em_var (pv 0)) (am_cons (em_var (pv 1)) am_nil))) fun _ => rfl)) (bm_one sm_never) bm_nil)
  (bm_cons (sm_set sc_differences.nd rfl (by first | exact .inl rfl | exact .inr rfl) (em_loc (nm_lst am_nil)))
  (bm_cons (sm_for owns_cx rfl (im_zip (by rfl) T.n_zip (am_cons (em_var (pv 0)) (am_cons (em_var (pv 1)) am_nil))) (gm_tup rfl (gms_cons (gm_name sc_differences.nd rfl (by first | exact .inl rfl | exact .inr rfl)) (gms_cons (gm_name sc_differences.nd rfl (by first | exact .inl rfl | exact .inr rfl)) gms_nil)))
 (bm_one (sm_expr (em_bm PySem.F.plainAttrs_list PySem.F.slot_list_extend PySem.F.type_list_extend md_extend (em_var (pv 2)) (am_cons (em_val (nm_lc [("a", 5), ("b", 6)] rfl sc_differences.nd (im_zip (by rfl) T.n_zip (am_cons (em_var (pv 3)) (am_cons (em_var (pv 4)) am_nil))) (blkOk_by (by kernel_rfl)) (by decide) (fun _ _ _ _ _ => (gm_tup rfl (gms_cons (gm_name sc_differences.nd rfl (by first | exact .inl rfl | exact .inr rfl)) (gms_cons (gm_name sc_differences.nd rfl (by first | exact .inl rfl | exact .inr rfl)) gms_nil)))) (fun _ _ _ _ _ => ptsm_nil) (fun _ _ _ _ _ => (em_bin opd_sub (em_var (pv 5)) (em_var (pv 6)))))) am_nil)))))
  (bm_one (sm_ret (em_var (pv 2)))))))
theorem fn_differences (T : Facts K mg base) : FnM P w K mg base 3 (He.ga K "differences") T.fd_differences ["one", "other"] m_differences := fn_retV (fn_mD T.F_differences sc_differences fun A outer s H E hr => bm_differences T hr)
/-! loss -/
noncomputable def e_loss_1 : ME := (mBin dMul (mVar 2) (mVar 2))
noncomputable def b_loss : MS := (sRet (mCall dSum (mCons (asV (mLc (mSrc (mCallF 2 m_differences (mCons (mVar 0) (mCons (mVar 1) mNil)))) (gN 2) mYes e_loss_1 [2])) mNil)))
noncomputable def m_loss : List D → Store → Res D := retV (runF 3 b_loss)
set_option maxHeartbeats 0 in
theorem bm_loss (T : Facts K mg base) {A : Around} {outer : List PySem.Env} {s : Shared} {H : Hp} {E : XK} (hr : Room 3 (A.deeper (envOfC "loss" (defScope s_loss) s.heap.objs.size (He.ga K "loss") T.fd_loss.code))) :
  BM (cxOf (L2.CX P w) P w K mg base ["one", "other", "step"] "loss" (defScope s_loss) (He.ga K "loss") T.fd_loss.code A outer s H E) (fun c d _ H => E c d H) (defBody s_loss) b_loss :=
  (bm_one (sm_ret (em_callB (cd_sum rfl) (by rfl) T.n_sum (by rfl) (am_cons (em_val (nm_lc [("step", 2)] rfl sc_loss.nd (im_any (em_call (fn_differences T) ((hr).mono (by decide)) (by rfl) T.g_differences T.F_differences.kp T.b_differences takes_cx (am_cons (em_var (pv 0)) (am_cons (em_var (pv 1)) am_nil)))) (blkOk_by (by kernel_rfl)) (by decide) (fun _ _ _ _ _ => (gm_name sc_loss.nd rfl (by first | exact .inl rfl | exact .inr rfl))) (fun _ _ _ _ _ => ptsm_nil) (fun _ _ _ _ _ => (em_bin opd_mul (em_var (pv 2)) (em_var (pv 2)))))) am_nil))))
theorem fn_loss (T : Facts K mg base) : FnM P w K mg base 4 (He.ga K "loss") T.fd_loss ["one", "other"] m_loss := fn_retV (fn_mD T.F_loss sc_loss fun A outer s H E hr => bm_loss T hr)
/-! gap -/
noncomputable def e_gap_1 : ME := (mCall dAbs (mCons (mVar 2) mNil))
noncomputable def b_gap : MS := (sRet (mCall dMax (mCons (asV (mLc (mSrc (mCallF 2 m_differences (mCons (mVar 0) (mCons (mVar 1) mNil)))) (gN 2) mYes e_gap_1 [2])) mNil)))
noncomputable def m_gap : List D → Store → Res D := retV (runF 3 b_gap)
set_option maxHeartbeats 0 in
theorem bm_gap (T : Facts K mg base) {A : Around} {outer : List PySem.Env} {s : Shared} {H : Hp} {E : XK} (hr : Room 3 (A.deeper (envOfC "gap" (defScope s_gap) s.heap.objs.size (He.ga K "gap") T.fd_gap.code))) :
  BM (cxOf (L2.CX P w) P w K mg base ["one", "other", "step"] "gap" (defScope s_gap) (He.ga K "gap") T.fd_gap.code A outer s H E) (fun c d _ H => E c d H) (defBody s_gap) b_gap :=
  (bm_one (sm_ret (em_callB (cd_max rfl) (by rfl) T.n_max (by rfl) (am_cons (em_val (nm_lc [("step", 2)] rfl sc_gap.nd (im_any (em_call (fn_differences T) ((hr).mono (by decide)) (by rfl) T.g_differences T.F_differences.kp T.b_differences takes_cx (am_cons (em_var (pv 0)) (am_cons (em_var (pv 1)) am_nil)))) (blkOk_by (by kernel_rfl)) (by decide) (fun _ _ _ _ _ => (gm_name sc_gap.nd rfl (by first | exact .inl rfl | exact .inr rfl))) (fun _ _ _ _ _ => ptsm_nil) (fun _ _ _ _ _ => (em_callB cd_abs (by rfl) T.n_abs (by rfl) (am_cons (em_var (pv 2)) am_nil))))) am_nil))))
theorem fn_gap (T : Facts K mg base) : FnM P w K mg base 4 (He.ga K "gap") T.fd_gap ["one", "other"] m_gap := fn_retV (fn_mD T.F_gap sc_gap fun A outer s H E hr => bm_gap T hr)
/-! write -/
noncomputable def e_write_1 : ME := (mBin dIx (mC (.str "0123456789abcdef")) (mVar 1))
noncomputable def e_write_2 : ME := (mBin dAdd (mMeth "str" (gStr hJoin) (mC (.str "")) (mCons (asV (mLc (mSrc (mVar 2)) (gN 1) mYes e_write_1 [1])) mNil)) (mC (.str "\n")))
noncomputable def b_write : MS := (sRet (mMeth "str" (gStr hJoin) (mC (.str "")) (mCons (asV (mLc (mSrc (mVar 0)) (gN 2) mYes e_write_2 [2])) mNil)))
noncomputable def m_write : List D → Store → Res D := retV (runF 3 b_write)
set_option maxHeartbeats 0 in
theorem bm_write (T : Facts K mg base) {A : Around} {outer : List PySem.Env} {s : Shared} {H : Hp} {E : XK} (hr : Room 1 (A.deeper (envOfC "write" (defScope s_write) s.heap.objs.size (He.ga K "write") T.fd_write.code))) :
  BM (cxOf (L2.CX P w) P w K mg base ["picture", "one", "row"] "write" (defScope s_write) (He.ga K "write") T.fd_write.code A outer s H E) (fun c d _ H => E c d H) (defBody s_write) b_write :=
  (bm_one (sm_ret (em_bm PySem.F.plainAttrs_str PySem.F.slot_str_join PySem.F.type_str_join md_join em_str (am_cons (em_val (nm_lc [("row", 2)] rfl sc_write.nd (im_any (em_var (pv 0))) (blkOk_by (by kernel_rfl)) (by decide) (fun _ _ _ _ _ => (gm_name sc_write.nd rfl (by first | exact .inl rfl | exact .inr rfl))) (fun _ _ _ _ _ => ptsm_nil) (fun _ _ _ _ _ => (em_bin opd_add (em_bm PySem.F.plainAttrs_str PySem.F.slot_str_join PySem.F.type_str_join md_join em_str (am_cons (em_val (nm_lc [("one", 1)] rfl sc_write.nd (im_any (em_var (pv 2))) (blkOk_by (by kernel_rfl)) (by decide) (fun _ _ _ _ _ => (gm_name sc_write.nd rfl (by first | exact .inl rfl | exact .inr rfl))) (fun _ _ _ _ _ => ptsm_nil) (fun _ _ _ _ _ => (em_ix (em_glob (by rfl) T.g_SIGNS T.r_SIGNS fun _ _ => .str _) (em_var (pv 1)) fun _ _ => rfl)))) am_nil)) em_str)))) am_nil))))
theorem fn_write (T : Facts K mg base) : FnM P w K mg base 2 (He.ga K "write") T.fd_write ["picture"] m_write := fn_retV (fn_mD T.F_write sc_write fun A outer s H E hr => bm_write T hr)
/-! is_number -/
noncomputable def b_is_number : MS := (sRet (mAndV (mCall dIsInst (mCons (mVar 0) (mCons (mC (.ty "int")) mNil))) (mAndV (mNotV (mCall dIsInst (mCons (mVar 0) (mCons (mC (.ty "bool")) mNil)))) (mChain dLe dLe (mVar 1) (mVar 0) (mVar 2)))))
noncomputable def m_is_number : List D → Store → Res D := retV (runF 3 b_is_number)
set_option maxHeartbeats 0 in
theorem bm_is_number (T : Facts K mg base) {A : Around} {outer : List PySem.Env} {s : Shared} {H : Hp} {E : XK} (hr : Room 1 (A.deeper (envOfC "is_number" (defScope s_is_number) s.heap.objs.size (He.ga K "is_number") T.fd_is_number.code))) :
  BM (cxOf (L2.CX P w) P w K mg base ["value", "least", "most"] "is_number" (defScope s_is_number) (He.ga K "is_number") T.fd_is_number.code A outer s H E) (fun c d _ H => E c d H) (defBody s_is_number) b_is_number :=
  (bm_one (sm_ret (em_and (em_callB cd_isinst (by rfl) T.n_isinstance (by rfl) (am_cons (em_var (pv 0)) (am_cons (em_ty (by rfl) T.n_int (by rfl)) am_nil))) (em_and (em_not (em_callB cd_isinst (by rfl) T.n_isinstance (by rfl) (am_cons (em_var (pv 0)) (am_cons (em_ty (by rfl) T.n_bool (by rfl)) am_nil)))) (em_one (em_chain opd_le opd_le (em_var (pv 1)) (em_var (pv 0)) (em_var (pv 2))))))))
theorem fn_is_number (T : Facts K mg base) : FnM P w K mg base 2 (He.ga K "is_number") T.fd_is_number ["value", "least", "most"] m_is_number := fn_retV (fn_mD T.F_is_number sc_is_number fun A outer s H E hr => bm_is_number T hr)
/-! is_grey -/
noncomputable def b_is_grey : MS := (sRet (mCallF 3 m_is_number (mCons (mVar 0) (mCons (mC (.int 0)) (mCons (mC (.int 15)) mNil)))))
noncomputable def m_is_grey : List D → Store → Res D := retV (runF 1 b_is_grey)
set_option maxHeartbeats 0 in
theorem bm_is_grey (T : Facts K mg base) {A : Around} {outer : List PySem.Env} {s : Shared} {H : Hp} {E : XK} (hr : Room 2 (A.deeper (envOfC "is_grey" (defScope s_is_grey) s.heap.objs.size (He.ga K "is_grey") T.fd_is_grey.code))) :
  BM (cxOf (L2.CX P w) P w K mg base ["value"] "is_grey" (defScope s_is_grey) (He.ga K "is_grey") T.fd_is_grey.code A outer s H E) (fun c d _ H => E c d H) (defBody s_is_grey) b_is_grey :=
  (bm_one (sm_ret (em_call (fn_is_number T) ((hr).mono (by decide)) (by rfl) T.g_is_number T.F_is_number.kp T.b_is_number takes_cx (am_cons (em_var (pv 0)) (am_cons em_int (am_cons (em_glob (by rfl) T.g_MOST_GREY T.r_MOST_GREY fun _ _ => .int _) am_nil))))))
theorem fn_is_grey (T : Facts K mg base) : FnM P w K mg base 3 (He.ga K "is_grey") T.fd_is_grey ["value"] m_is_grey := fn_retV (fn_mD T.F_is_grey sc_is_grey fun A outer s H E hr => bm_is_grey T hr)
/-! is_picture -/
noncomputable def e_is_picture_1 : ME := (mAndV (mCall dIsInst (mCons (mVar 1) (mCons (mC (.ty "tuple")) mNil))) (mChain dLe dLe (mC (.int 1)) (mCall dLen (mCons (mVar 1) mNil)) (mC (.int 32))))
noncomputable def e_is_picture_2 : ME := (mCallF 1 m_is_grey (mCons (mVar 2) mNil))
noncomputable def e_is_picture_3 : ME := (mAndV (mBin dEq (mCall dLen (mCons (mVar 1) mNil)) (mCall dLen (mCons (mBin dIx (mVar 0) (mC (.int 0))) mNil))) (mAll false (mSrc (mVar 1)) (gN 2) e_is_picture_2 [2]))
noncomputable def b_is_picture : MS := (sSeq (sIf (mOr (mNot (mTru (mCall dIsInst (mCons (mVar 0) (mCons (mC (.ty "tuple")) mNil))))) (mNot (mB (mChain dLe dLe (mC (.int 1)) (mCall dLen (mCons (mVar 0) mNil)) (mC (.int 32)))))) (sRet (mC (.bl false))) sSkip) (sSeq (sIf (mNot (mTru (mAll false (mSrc (mVar 0)) (gN 1) e_is_picture_1 [1]))) (sRet (mC (.bl false))) sSkip) (sRet (mAll false (mSrc (mVar 0)) (gN 1) e_is_picture_3 [1]))))
noncomputable def m_is_picture : List D → Store → Res D := retV (runF 3 b_is_picture)
set_option maxHeartbeats 0 in
theorem bm_is_picture (T : Facts K mg base) {A : Around} {outer : List PySem.Env} {s : Shared} {H : Hp} {E : XK} (hr : Room 9 (A.deeper (envOfC "is_picture" (defScope s_is_picture) s.heap.objs.size (He.ga K "is_picture") T.fd_is_picture.code))) :
  BM (cxOf (L2.CX P w) P w K mg base ["value", "row", "one"] "is_picture" (defScope s_is_picture) (He.ga K "is_picture") T.fd_is_picture.code A outer s H E) (fun c d _ H => E c d H) (defBody s_is_picture) b_is_picture :=
  (bm_cons (sm_if (tm_w (wm_or (tm_not (tm_tru (em_callB cd_isinst (by rfl) T.n_isinstance (by rfl) (am_cons (em_var (pv 0)) (am_cons (em_ty (by rfl) T.n_tuple (by rfl)) am_nil))) fun _ => rfl)) (wm_or1 (tm_not (tm_chain opd_le opd_le em_int (em_callB cd_len (by rfl) T.n_len (by rfl) (am_cons (em_var (pv 0)) am_nil)) (em_glob (by rfl) T.g_MOST_SIDE T.r_MOST_SIDE fun _ _ => .int _)))))) (bm_one (sm_ret em_bl)) bm_nil)
  (bm_cons (sm_if (tm_not (tm_tru (em_all [("row", 1)] (hr) (by rfl) T.n_all (genIn_def T.TB_is_picture T.T_is_picture T.hc_is_picture) (im_any (em_var (pv 0))) (blkOk_by (by kernel_rfl)) (by decide) sc_is_picture.nd rfl rfl (by decide +kernel) (by rfl) (fun _ _ _ _ _ _ _ => (gm_name sc_is_picture.nd rfl (by first | exact .inl rfl | exact .inr rfl))) (fun _ _ _ _ _ _ _ hin1 => (em_and (em_callB cd_isinst (by rfl) T.n_isinstance (by rfl) (am_cons (em_var (pv 1)) (am_cons (em_ty (by rfl) T.n_tuple (by rfl)) am_nil))) (em_one (em_chain opd_le opd_le em_int (em_callB cd_len (by rfl) T.n_len (by rfl) (am_cons (em_var (pv 1)) am_nil)) (em_glob (by rfl) T.g_MOST_SIDE T.r_MOST_SIDE fun _ _ => .int _)))))) fun _ => rfl)) (bm_one (sm_ret em_bl)) bm_nil)
  (bm_one (sm_ret (em_all [("row", 1)] (hr) (by rfl) T.n_all (genIn_def T.TB_is_picture T.T_is_picture T.hc_is_picture) (im_any (em_var (pv 0))) (blkOk_by (by kernel_rfl)) (by decide) sc_is_picture.nd rfl rfl (by decide +kernel) (by rfl) (fun _ _ _ _ _ _ _ => (gm_name sc_is_picture.nd rfl (by first | exact .inl rfl | exact .inr rfl))) (fun _ _ _ _ _ _ _ hin1 => (em_and (em_cmp (opd_eq ((((hr).in1).in1.deeper _)).units) (em_callB cd_len (by rfl) T.n_len (by rfl) (am_cons (em_var (pv 1)) am_nil)) (em_callB cd_len (by rfl) T.n_len (by rfl) (am_cons (em_ix (em_var (pv 0)) em_int fun _ _ => rfl) am_nil)) (nomark _)) (em_one (em_all [("one", 2)] ((((hr).in1).in1.deeper _)) (by rfl) T.n_all (genIn_in ⟨_, T.TB_is_picture.bm⟩ hin1) (im_any (em_var (pv 1))) (blkOk_by (by kernel_rfl)) (by decide) sc_is_picture.nd rfl rfl (by decide +kernel) (by rfl) (fun _ _ _ _ _ _ _ => (gm_name sc_is_picture.nd rfl (by first | exact .inl rfl | exact .inr rfl))) (fun _ _ _ _ _ _ _ hin2 => (em_call (fn_is_grey T) ((((((((hr).in1).in1.deeper _)).in1).in1.deeper _)).mono (by decide)) (by rfl) T.g_is_grey T.F_is_grey.kp T.b_is_grey tk0 (am_cons (em_var (pv 2)) am_nil))))))))))))
theorem fn_is_picture (T : Facts K mg base) : FnM P w K mg base 10 (He.ga K "is_picture") T.fd_is_picture ["value"] m_is_picture := fn_retV (fn_mD T.F_is_picture sc_is_picture fun A outer s H E hr => bm_is_picture T hr)
/-! read -/
noncomputable def e_read_1 : ME := (mBin dIn (mVar 3) (mC (.str "0123456789abcdef")))
noncomputable def e_read_2 : ME := (mMeth "str" (gStr hIndex) (mC (.str "0123456789abcdef")) (mCons (mVar 3) mNil))
noncomputable def l_read_3 : MS := (sSeq (sIf (mNot (mTru (mAll false (mSrc (mVar 2)) (gN 3) e_read_1 [3]))) sNever sSkip) (sExpr (mMeth "list" gAppend (mVar 1) (mCons (mCall dTuple (mCons (asV (mLc (mSrc (mVar 2)) (gN 3) mYes e_read_2 [3])) mNil)) mNil))))
noncomputable def b_read : MS := (sSeq (sIf (mOr (mNot (mTru (mCall dIsInst (mCons (mVar 0) (mCons (mC (.ty "str")) mNil))))) (mB (mBin dNe (mSlice (mVar 0) (mPart (mUn dNeg (mC (.int 1)))) mNo) (mC (.str "\n"))))) sNever sSkip) (sSeq (sSet (gN 1) (asL (mLst mNil))) (sSeq (sFor (mSrc (mMeth "str" (gStr hSplit) (mSlice (mVar 0) mNo (mPart (mUn dNeg (mC (.int 1))))) (mCons (mC (.str "\n")) mNil))) (gN 2) l_read_3) (sSeq (sSet (gN 4) (mCall dTuple (mCons (mVar 1) mNil))) (sSeq (sIf (mNot (mTru (mCallF 1 m_is_picture (mCons (mVar 4) mNil)))) sNever sSkip) (sRet (mVar 4)))))))
noncomputable def m_read : List D → Store → Res D := retV (runF 5 b_read)
set_option maxHeartbeats 0 in
theorem bm_read (T : Facts K mg base) {A : Around} {outer : List PySem.Env} {s : Shared} {H : Hp} {E : XK} (hr : Room 10 (A.deeper (envOfC "read" (defScope s_read) s.heap.objs.size (He.ga K "read") T.fd_read.code))) :
  BM (cxOf (L2.CX P w) P w K mg base ["value", "rows", "line", "sign", "found"] "read" (defScope s_read) (He.ga K "read") T.fd_read.code A outer s H E) (fun c d _ H => E c d H) (defBody s_read) b_read :=
  (bm_cons (sm_if (tm_w (wm_or (tm_not (tm_tru (em_callB cd_isinst (by rfl) T.n_isinstance (by rfl) (am_cons (em_var (pv 0)) (am_cons (em_ty (by rfl) T.n_str (by rfl)) am_nil))) fun _ => rfl)) (wm_or1 (tm_cmp (opd_ne (hr).units) (em_slice (em_var (pv 0)) (om_some (em_neg em_int)) om_no) em_str (nomark _))))) (bm_one sm_never) bm_nil)
  (bm_cons (sm_set sc_read.nd rfl (by first | exact .inl rfl | exact .inr rfl) (em_loc (nm_lst am_nil)))
  (bm_cons (sm_for owns_cx rfl (im_any (em_bm PySem.F.plainAttrs_str PySem.F.slot_str_split PySem.F.type_str_split md_split (em_slice (em_var (pv 0)) om_no (om_some (em_neg em_int))) (am_cons em_str am_nil))) (gm_name sc_read.nd rfl (by first | exact .inl rfl | exact .inr rfl))
 (bm_cons (sm_if (tm_not (tm_tru (em_all [("sign", 3)] (hr) (by rfl) T.n_all (genIn_def T.TB_read T.T_read T.hc_read) (im_any (em_var (pv 2))) (blkOk_by (by kernel_rfl)) (by decide) sc_read.nd rfl rfl (by decide +kernel) (by rfl) (fun _ _ _ _ _ _ _ => (gm_name sc_read.nd rfl (by first | exact .inl rfl | exact .inr rfl))) (fun _ _ _ _ _ _ _ hin1 => (em_cmp (opd_in (room65 (((hr).in1).in1.deeper _))) (em_var (pv 3)) (em_glob (by rfl) T.g_SIGNS T.r_SIGNS fun _ _ => .str _) (by rfl)))) fun _ => rfl)) (bm_one sm_never) bm_nil)
  (bm_one (sm_expr (em_bm PySem.F.plainAttrs_list PySem.F.slot_list_append PySem.F.type_list_append md_append (em_var (pv 1)) (am_cons (em_callTy cd_tuple (by rfl) T.n_tuple (by rfl) (am_cons (em_val (nm_lc [("sign", 3)] rfl sc_read.nd (im_any (em_var (pv 2))) (blkOk_by (by kernel_rfl)) (by decide) (fun _ _ _ _ _ => (gm_name sc_read.nd rfl (by first | exact .inl rfl | exact .inr rfl))) (fun _ _ _ _ _ => ptsm_nil) (fun _ _ _ _ _ => (em_bm PySem.F.plainAttrs_str PySem.F.slot_str_index PySem.F.type_str_index md_index (em_glob (by rfl) T.g_SIGNS T.r_SIGNS fun _ _ => .str _) (am_cons (em_var (pv 3)) am_nil))))) am_nil)) am_nil))))))
  (bm_cons (sm_set sc_read.nd rfl (by first | exact .inl rfl | exact .inr rfl) (em_callTy cd_tuple (by rfl) T.n_tuple (by rfl) (am_cons (em_var (pv 1)) am_nil)))
  (bm_cons (sm_if (tm_not (tm_tru (em_call (fn_is_picture T) ((hr).mono (by decide)) (by rfl) T.g_is_picture T.F_is_picture.kp T.b_is_picture takes_cx (am_cons (em_var (pv 4)) am_nil)) fun _ => rfl)) (bm_one sm_never) bm_nil)
  (bm_one (sm_ret (em_var (pv 4)))))))))
theorem fn_read (T : Facts K mg base) : FnM P w K mg base 11 (He.ga K "read") T.fd_read ["value"] m_read := fn_retV (fn_mD T.F_read sc_read fun A outer s H E hr => bm_read T hr)
/-! flat_picture -/
noncomputable def b_flat_picture : MS := (sRet (mBin dMul (mTup (mCons (mBin dMul (mTup (mCons (mVar 2) mNil)) (mVar 1)) mNil)) (mVar 0)))
noncomputable def m_flat_picture : List D → Store → Res D := retV (runF 3 b_flat_picture)
set_option maxHeartbeats 0 in
theorem bm_flat_picture (T : Facts K mg base) {A : Around} {outer : List PySem.Env} {s : Shared} {H : Hp} {E : XK} (hr : Room 1 (A.deeper (envOfC "flat_picture" (defScope s_flat_picture) s.heap.objs.size (He.ga K "flat_picture") T.fd_flat_picture.code))) :
  BM (cxOf (L2.CX P w) P w K mg base ["many", "long", "grey"] "flat_picture" (defScope s_flat_picture) (He.ga K "flat_picture") T.fd_flat_picture.code A outer s H E) (fun c d _ H => E c d H) (defBody s_flat_picture) b_flat_picture :=
  (bm_one (sm_ret (em_bin opd_mul (em_tup (am_cons (em_bin opd_mul (em_tup (am_cons (em_var (pv 2)) am_nil)) (em_var (pv 1))) am_nil)) (em_var (pv 0)))))
theorem fn_flat_picture (T : Facts K mg base) : FnM P w K mg base 2 (He.ga K "flat_picture") T.fd_flat_picture ["many", "long", "grey"] m_flat_picture := fn_retV (fn_mD T.F_flat_picture sc_flat_picture fun A outer s H E hr => bm_flat_picture T hr)
/-! law -/
noncomputable def e_law_1 : ME := (mCallF 3 m__law_picture (mCons (mVar 1) (mCons (mVar 3) (mCons (mVar 4) mNil))))
noncomputable def e_law_2 : ME := (mCallF 5 m_part_of (mCons (mVar 5) (mCons (mVar 14) (mCons (mVar 12) (mCons (mVar 15) (mCons (mVar 13) mNil))))))
noncomputable def e_law_3 : ME := (asV (mLc (mSrc (asV (mLst (mCons (mTup (mCons (mC (.int 0)) (mCons (mVar 10) mNil))) (mCons (mTup (mCons (mVar 10) (mCons (mBin dSub (mVar 4) (mVar 10)) mNil))) mNil))))) (gTup 2 (gCons (gN 12) (gCons (gN 13) gNil))) mYes e_law_2 [12, 13]))
noncomputable def e_law_4 : ME := (mCallF 5 m_part_of (mCons (mVar 6) (mCons (mVar 14) (mCons (mVar 12) (mCons (mVar 15) (mCons (mVar 13) mNil))))))
noncomputable def e_law_5 : ME := (asV (mLc (mSrc (asV (mLst (mCons (mTup (mCons (mC (.int 0)) (mCons (mVar 10) mNil))) (mCons (mTup (mCons (mVar 10) (mCons (mBin dSub (mVar 4) (mVar 10)) mNil))) mNil))))) (gTup 2 (gCons (gN 12) (gCons (gN 13) gNil))) mYes e_law_4 [12, 13]))
noncomputable def e_law_6 : ME := (mCallF 2 m_loss (mCons (mBin dIx (mBin dIx (mVar 11) (mVar 8)) (mVar 18)) (mCons (mBin dIx (mBin dIx (mVar 17) (mVar 8)) (mVar 18)) mNil)))
noncomputable def e_law_7 : ME := (mCall dSum (mCons (asV (mLc (mSrcA srcR1 (mCons (mC (.int 2)) mNil)) (gN 18) mYes e_law_6 [18])) mNil))
noncomputable def e_law_8 : ME := (mCallF 2 m_gap (mCons (mBin dIx (mBin dIx (mVar 11) (mVar 8)) (mVar 18)) (mCons (mBin dIx (mBin dIx (mVar 17) (mVar 8)) (mVar 18)) mNil)))
noncomputable def e_law_9 : ME := (mCall dMax (mCons (asV (mLc (mSrcA srcR1 (mCons (mC (.int 2)) mNil)) (gN 18) mYes e_law_8 [18])) mNil))
noncomputable def b_law_10 : MS := (sSeq (sSet (gN 11) (asV (mLc (mSrc (asV (mLst (mCons (mTup (mCons (mC (.int 0)) (mCons (mVar 9) mNil))) (mCons (mTup (mCons (mVar 9) (mCons (mBin dSub (mVar 3) (mVar 9)) mNil))) mNil))))) (gTup 2 (gCons (gN 14) (gCons (gN 15) gNil))) mYes e_law_3 [14, 15]))) (sSeq (sSet (gN 16) (mCallF 2 m_above (mCons (mCallF 2 m_beside (mCons (mBin dIx (mBin dIx (mVar 11) (mC (.int 0))) (mC (.int 0))) (mCons (mBin dIx (mBin dIx (mVar 11) (mC (.int 0))) (mC (.int 1))) mNil))) (mCons (mCallF 2 m_beside (mCons (mBin dIx (mBin dIx (mVar 11) (mC (.int 1))) (mC (.int 0))) (mCons (mBin dIx (mBin dIx (mVar 11) (mC (.int 1))) (mC (.int 1))) mNil))) mNil)))) (sSeq (sIf (mOr (mB (mBin dNe (mVar 16) (mVar 5))) (mB (mBin dNe (mCallF 2 m_beside (mCons (mCallF 2 m_above (mCons (mBin dIx (mBin dIx (mVar 11) (mC (.int 0))) (mC (.int 0))) (mCons (mBin dIx (mBin dIx (mVar 11) (mC (.int 1))) (mC (.int 0))) mNil))) (mCons (mCallF 2 m_above (mCons (mBin dIx (mBin dIx (mVar 11) (mC (.int 0))) (mC (.int 1))) (mCons (mBin dIx (mBin dIx (mVar 11) (mC (.int 1))) (mC (.int 1))) mNil))) mNil))) (mVar 5)))) (sRet (mC (.bl false))) sSkip) (sSeq (sSet (gN 17) (asV (mLc (mSrc (asV (mLst (mCons (mTup (mCons (mC (.int 0)) (mCons (mVar 9) mNil))) (mCons (mTup (mCons (mVar 9) (mCons (mBin dSub (mVar 3) (mVar 9)) mNil))) mNil))))) (gTup 2 (gCons (gN 14) (gCons (gN 15) gNil))) mYes e_law_5 [14, 15]))) (sSeq (sIf (mB (mBin dNe (mCall dSum (mCons (asV (mLc (mSrcA srcR1 (mCons (mC (.int 2)) mNil)) (gN 8) mYes e_law_7 [8])) mNil)) (mCallF 2 m_loss (mCons (mVar 5) (mCons (mVar 6) mNil))))) (sRet (mC (.bl false))) sSkip) (sIf (mB (mBin dNe (mCall dMax (mCons (asV (mLc (mSrcA srcR1 (mCons (mC (.int 2)) mNil)) (gN 8) mYes e_law_9 [8])) mNil)) (mCallF 2 m_gap (mCons (mVar 5) (mCons (mVar 6) mNil))))) (sRet (mC (.bl false))) sSkip))))))
noncomputable def e_law_11 : ME := (mBin dAdd (mBin dIx (mBin dIx (mVar 19) (mC (.int 0))) (mVar 8)) (mBin dIx (mBin dIx (mVar 19) (mC (.int 1))) (mVar 8)))
noncomputable def e_law_12 : ME := (mBin dMul (mVar 20) (mVar 20))
noncomputable def e_law_13 : ME := (mBin dMul (mBin dSub (mVar 23) (mVar 21)) (mBin dSub (mVar 23) (mVar 21)))
noncomputable def e_law_14 : ME := (mCall dSum (mCons (asV (mLc (mSrc (mVar 24)) (gN 23) mYes e_law_13 [23])) mNil))
noncomputable def l_law_15 : MS := (sSeq (sSet (gTup 2 (gCons (gN 3) (gCons (gN 4) gNil))) (mTup (mCons (mBin dAdd (mC (.int 1)) (mCallF 2 m__law_take (mCons (mVar 1) (mCons (mC (.int 9)) mNil)))) (mCons (mBin dAdd (mC (.int 1)) (mCallF 2 m__law_take (mCons (mVar 1) (mCons (mC (.int 9)) mNil)))) mNil)))) (sSeq (sSet (gLst 3 (gCons (gN 5) (gCons (gN 6) (gCons (gN 7) gNil)))) (asV (mLc (mSrcA srcR1 (mCons (mC (.int 3)) mNil)) (gN 8) mYes e_law_1 [8]))) (sSeq (sSet (gTup 2 (gCons (gN 9) (gCons (gN 10) gNil))) (mTup (mCons (mCallF 2 m__law_take (mCons (mVar 1) (mCons (mBin dAdd (mVar 3) (mC (.int 1))) mNil))) (mCons (mCallF 2 m__law_take (mCons (mVar 1) (mCons (mBin dAdd (mVar 4) (mC (.int 1))) mNil))) mNil)))) (sSeq (sIf (mAnd (mB (mChain dLt dLt (mC (.int 0)) (mVar 9) (mVar 3))) (mB (mChain dLt dLt (mC (.int 0)) (mVar 10) (mVar 4)))) b_law_10 sSkip) (sSeq (sIf (mB (mBin dNe (asV (mLst (mCons (mCall dLen (mCons (mCallF 2 m_beside (mCons (mVar 5) (mCons (mVar 6) mNil))) mNil)) (mCons (mCall dLen (mCons (mBin dIx (mCallF 2 m_beside (mCons (mVar 5) (mCons (mVar 6) mNil))) (mC (.int 0))) mNil)) (mCons (mCall dLen (mCons (mCallF 2 m_above (mCons (mVar 5) (mCons (mVar 6) mNil))) mNil)) (mCons (mCall dLen (mCons (mBin dIx (mCallF 2 m_above (mCons (mVar 5) (mCons (mVar 6) mNil))) (mC (.int 0))) mNil)) mNil)))))) (asV (mLst (mCons (mVar 3) (mCons (mBin dMul (mC (.int 2)) (mVar 4)) (mCons (mBin dMul (mC (.int 2)) (mVar 3)) (mCons (mVar 4) mNil)))))))) (sRet (mC (.bl false))) sSkip) (sSeq (sIf (mOr (mB (mBin dNe (mCallF 2 m_loss (mCons (mVar 5) (mCons (mVar 6) mNil))) (mCallF 2 m_loss (mCons (mVar 6) (mCons (mVar 5) mNil))))) (mOr (mB (mBin dNe (mCallF 2 m_gap (mCons (mVar 5) (mCons (mVar 6) mNil))) (mCallF 2 m_gap (mCons (mVar 6) (mCons (mVar 5) mNil))))) (mOr (mB (mBin dNe (mBin dEq (mCallF 2 m_loss (mCons (mVar 5) (mCons (mVar 6) mNil))) (mC (.int 0))) (mBin dEq (mVar 5) (mVar 6)))) (mB (mBin dNe (mCallF 2 m_loss (mCons (mVar 5) (mCons (mVar 5) mNil))) (mC (.int 0))))))) (sRet (mC (.bl false))) sSkip) (sSeq (sIf (mOr (mB (mBin dGt (mCallF 2 m_gap (mCons (mVar 5) (mCons (mVar 7) mNil))) (mBin dAdd (mCallF 2 m_gap (mCons (mVar 5) (mCons (mVar 6) mNil))) (mCallF 2 m_gap (mCons (mVar 6) (mCons (mVar 7) mNil)))))) (mOr (mB (mBin dGt (mCallF 2 m_loss (mCons (mVar 5) (mCons (mVar 6) mNil))) (mBin dMul (mBin dMul (mBin dPow (mCallF 2 m_gap (mCons (mVar 5) (mCons (mVar 6) mNil))) (mC (.int 2))) (mVar 3)) (mVar 4)))) (mB (mBin dGt (mBin dPow (mCallF 2 m_gap (mCons (mVar 5) (mCons (mVar 6) mNil))) (mC (.int 2))) (mCallF 2 m_loss (mCons (mVar 5) (mCons (mVar 6) mNil))))))) (sRet (mC (.bl false))) sSkip) (sSeq (sSet (gN 19) (asV (mLst (mCons (mCallF 2 m_differences (mCons (mVar 5) (mCons (mVar 6) mNil))) (mCons (mCallF 2 m_differences (mCons (mVar 6) (mCons (mVar 7) mNil))) (mCons (mCallF 2 m_differences (mCons (mVar 5) (mCons (mVar 7) mNil))) mNil)))))) (sSeq (sIf (mOr (mB (mBin dNe (asV (mLc (mSrcA srcR1 (mCons (mBin dMul (mVar 3) (mVar 4)) mNil)) (gN 8) mYes e_law_11 [8])) (mBin dIx (mVar 19) (mC (.int 2))))) (mB (mBin dNe (asV (mLc (mSrc (mBin dIx (mVar 19) (mC (.int 0)))) (gN 20) mYes (mUn dNeg (mVar 20)) [20])) (mCallF 2 m_differences (mCons (mVar 6) (mCons (mVar 5) mNil)))))) (sRet (mC (.bl false))) sSkip) (sSeq (sIf (mB (mBin dNe (mCall dSum (mCons (asV (mLc (mSrc (mBin dIx (mVar 19) (mC (.int 2)))) (gN 20) mYes e_law_12 [20])) mNil)) (mCallF 2 m_loss (mCons (mVar 5) (mCons (mVar 7) mNil))))) (sRet (mC (.bl false))) sSkip) (sSeq (sIf (mOr (mB (mBin dNe (mCallF 1 m_write (mCons (mCallF 2 m_above (mCons (mVar 5) (mCons (mVar 6) mNil))) mNil)) (mBin dAdd (mCallF 1 m_write (mCons (mVar 5) mNil)) (mCallF 1 m_write (mCons (mVar 6) mNil))))) (mOr (mB (mBin dNe (mCallF 1 m_read (mCons (mBin dAdd (mCallF 1 m_write (mCons (mVar 5) mNil)) (mCallF 1 m_write (mCons (mVar 6) mNil))) mNil)) (mCallF 2 m_above (mCons (mVar 5) (mCons (mVar 6) mNil))))) (mB (mBin dIsNot (mCallF 1 m_is_picture (mCons (mCallF 2 m_beside (mCons (mVar 5) (mCons (mVar 7) mNil))) mNil)) (mC (.bl true)))))) (sRet (mC (.bl false))) sSkip) (sSeq (sSet (gN 21) (mCallF 2 m__law_take (mCons (mVar 1) (mCons (mC (.int 16)) mNil)))) (sSeq (sSet (gN 22) (mCallF 3 m_flat_picture (mCons (mVar 3) (mCons (mVar 4) (mCons (mVar 21) mNil))))) (sSeq (sIf (mOr (mB (mBin dNe (mCallF 2 m_loss (mCons (mVar 5) (mCons (mVar 22) mNil))) (mCall dSum (mCons (asV (mLc (mSrc (mVar 5)) (gN 24) mYes e_law_14 [24])) mNil)))) (mB (mBin dNe (mCallF 2 m_beside (mCons (mVar 22) (mCons (mVar 22) mNil))) (mCallF 3 m_flat_picture (mCons (mVar 3) (mCons (mBin dMul (mC (.int 2)) (mVar 4)) (mCons (mVar 21) mNil))))))) (sRet (mC (.bl false))) sSkip) (sIf (mOr (mB (mBin dNe (mCallF 2 m_loss (mCons (mCall dTuple (mCons (asV (mLc (mSrc (mVar 5)) (gN 24) mYes (mUn dRev (mVar 24)) [24])) mNil)) (mCons (mCall dTuple (mCons (asV (mLc (mSrc (mVar 6)) (gN 24) mYes (mUn dRev (mVar 24)) [24])) mNil)) mNil))) (mCallF 2 m_loss (mCons (mVar 5) (mCons (mVar 6) mNil))))) (mB (mBin dNe (mCallF 2 m_loss (mCons (mUn dRev (mVar 5)) (mCons (mUn dRev (mVar 6)) mNil))) (mCallF 2 m_loss (mCons (mVar 5) (mCons (mVar 6) mNil)))))) (sRet (mC (.bl false))) sSkip)))))))))))))))
noncomputable def b_law : MS := (sSeq (sSet (gN 1) (mCallF 1 m__law_draws (mCons (mVar 0) mNil))) (sSeq (sFor (mSrcA srcR1 (mCons (mC (.int 6)) mNil)) (gN 2) l_law_15) (sRet (mC (.bl true)))))
noncomputable def m_law : List D → Store → Res D := retV (runF 25 b_law)
set_option maxHeartbeats 0 in
theorem bm_law (T : Facts K mg base) {A : Around} {outer : List PySem.Env} {s : Shared} {H : Hp} {E : XK} (hr : Room 11 (A.deeper (envOfC "law" (defScope s_law) s.heap.objs.size (He.ga K "law") T.fd_law.code))) :
  BM (cxOf (L2.CX P w) P w K mg base ["script", "draws", "turn", "many", "long", "one", "other", "third", "k", "row", "column", "parts", "left", "away", "top", "far", "whole", "others", "j", "steps", "step", "grey", "flat", "each", "line"] "law" (defScope s_law) (He.ga K "law") T.fd_law.code A outer s H E) (fun c d _ H => E c d H) (defBody s_law) b_law :=
  (bm_cons (sm_set sc_law.nd rfl (by first | exact .inl rfl | exact .inr rfl) (em_call (fn__law_draws T) ((hr).mono (by decide)) (by rfl) T.g__law_draws T.F__law_draws.kp T.b__law_draws takes_cx (am_cons (em_var (pv 0)) am_nil)))
  (bm_cons (sm_for owns_cx rfl (im_range1 (by rfl) T.n_range (am_cons em_int am_nil)) (gm_name sc_law.nd rfl (by first | exact .inl rfl | exact .inr rfl))
 (bm_cons (sm_asg (em_tup (am_cons (em_bin opd_add em_int (em_call (fn__law_take T) ((hr).mono (by decide)) (by rfl) T.g__law_take T.F__law_take.kp T.b__law_take takes_cx (am_cons (em_var (pv 1)) (am_cons em_int am_nil)))) (am_cons (em_bin opd_add em_int (em_call (fn__law_take T) ((hr).mono (by decide)) (by rfl) T.g__law_take T.F__law_take.kp T.b__law_take takes_cx (am_cons (em_var (pv 1)) (am_cons em_int am_nil)))) am_nil))) (gm_tup rfl (gms_cons (gm_name sc_law.nd rfl (by first | exact .inl rfl | exact .inr rfl)) (gms_cons (gm_name sc_law.nd rfl (by first | exact .inl rfl | exact .inr rfl)) gms_nil))))
  (bm_cons (sm_asg (em_val (nm_lc [("k", 8)] rfl sc_law.nd (im_range1 (by rfl) T.n_range (am_cons em_int am_nil)) (blkOk_by (by kernel_rfl)) (by decide) (fun _ _ _ _ _ => (gm_name sc_law.nd rfl (by first | exact .inl rfl | exact .inr rfl))) (fun _ _ _ _ _ => ptsm_nil) (fun _ _ _ _ _ => (em_call (fn__law_picture T) ((hr).mono (by decide)) (by rfl) T.g__law_picture T.F__law_picture.kp T.b__law_picture tk0 (am_cons (em_var (pv 1)) (am_cons (em_var (pv 3)) (am_cons (em_var (pv 4)) am_nil))))))) (gm_lst rfl (gms_cons (gm_name sc_law.nd rfl (by first | exact .inl rfl | exact .inr rfl)) (gms_cons (gm_name sc_law.nd rfl (by first | exact .inl rfl | exact .inr rfl)) (gms_cons (gm_name sc_law.nd rfl (by first | exact .inl rfl | exact .inr rfl)) gms_nil)))))
  (bm_cons (sm_asg (em_tup (am_cons (em_call (fn__law_take T) ((hr).mono (by decide)) (by rfl) T.g__law_take T.F__law_take.kp T.b__law_take takes_cx (am_cons (em_var (pv 1)) (am_cons (em_bin opd_add (em_var (pv 3)) em_int) am_nil))) (am_cons (em_call (fn__law_take T) ((hr).mono (by decide)) (by rfl) T.g__law_take T.F__law_take.kp T.b__law_take takes_cx (am_cons (em_var (pv 1)) (am_cons (em_bin opd_add (em_var (pv 4)) em_int) am_nil))) am_nil))) (gm_tup rfl (gms_cons (gm_name sc_law.nd rfl (by first | exact .inl rfl | exact .inr rfl)) (gms_cons (gm_name sc_law.nd rfl (by first | exact .inl rfl | exact .inr rfl)) gms_nil))))
  (bm_cons (sm_if (tm_w (wm_and (tm_chain opd_lt opd_lt em_int (em_var (pv 9)) (em_var (pv 3))) (wm_and1 (tm_chain opd_lt opd_lt em_int (em_var (pv 10)) (em_var (pv 4)))))) (bm_cons (by first | exact sm_set sc_law.nd rfl (by first | exact .inl rfl | exact .inr rfl) (em_val (nm_lc [("top", 14), ("far", 15)] rfl sc_law.nd (im_any (em_val (nm_lst (am_cons (em_tup (am_cons em_int (am_cons (em_var (pv 9)) am_nil))) (am_cons (em_tup (am_cons (em_var (pv 9)) (am_cons (em_bin opd_sub (em_var (pv 3)) (em_var (pv 9))) am_nil))) am_nil))))) (blkOk_by (by kernel_rfl)) (by decide) (fun _ _ _ _ _ => (gm_tup rfl (gms_cons (gm_name sc_law.nd rfl (by first | exact .inl rfl | exact .inr rfl)) (gms_cons (gm_name sc_law.nd rfl (by first | exact .inl rfl | exact .inr rfl)) gms_nil)))) (fun _ _ _ _ _ => ptsm_nil) (fun _ _ _ _ _ => (em_val (nm_lc [("left", 12), ("away", 13)] rfl sc_law.nd (im_any (em_val (nm_lst (am_cons (em_tup (am_cons em_int (am_cons (em_var (pv 10)) am_nil))) (am_cons (em_tup (am_cons (em_var (pv 10)) (am_cons (em_bin opd_sub (em_var (pv 4)) (em_var (pv 10))) am_nil))) am_nil))))) (blkOk_by (by kernel_rfl)) (by decide) (fun _ _ _ _ _ => (gm_tup rfl (gms_cons (gm_name sc_law.nd rfl (by first | exact .inl rfl | exact .inr rfl)) (gms_cons (gm_name sc_law.nd rfl (by first | exact .inl rfl | exact .inr rfl)) gms_nil)))) (fun _ _ _ _ _ => ptsm_nil) (fun _ _ _ _ _ => (em_call (fn_part_of T) ((hr).mono (by decide)) (by rfl) T.g_part_of T.F_part_of.kp T.b_part_of tk0 (am_cons (em_var (pv 5)) (am_cons (em_var (pv 14)) (am_cons (em_var (pv 12)) (am_cons (em_var (pv 15)) (am_cons (em_var (pv 13)) am_nil)))))))))))) | exact sm_setLc asV (.inl rfl) [("top", 14), ("far", 15)] rfl sc_law.nd rfl rfl (sw_true rfl rfl rfl (by decide +kernel)) (im_any (em_val (nm_lst (am_cons (em_tup (am_cons em_int (am_cons (em_var (pv 9)) am_nil))) (am_cons (em_tup (am_cons (em_var (pv 9)) (am_cons (em_bin opd_sub (em_var (pv 3)) (em_var (pv 9))) am_nil))) am_nil))))) (blkOk_by (by kernel_rfl)) (by decide) (fun _ _ _ _ _ => (gm_tup rfl (gms_cons (gm_name sc_law.nd rfl (by first | exact .inl rfl | exact .inr rfl)) (gms_cons (gm_name sc_law.nd rfl (by first | exact .inl rfl | exact .inr rfl)) gms_nil)))) (fun _ _ _ _ _ => ptsm_nil) (fun _ _ _ _ _ => (em_val (nm_lc [("left", 12), ("away", 13)] rfl sc_law.nd (im_any (em_val (nm_lst (am_cons (em_tup (am_cons em_int (am_cons (em_var (pv 10)) am_nil))) (am_cons (em_tup (am_cons (em_var (pv 10)) (am_cons (em_bin opd_sub (em_var (pv 4)) (em_var (pv 10))) am_nil))) am_nil))))) (blkOk_by (by kernel_rfl)) (by decide) (fun _ _ _ _ _ => (gm_tup rfl (gms_cons (gm_name sc_law.nd rfl (by first | exact .inl rfl | exact .inr rfl)) (gms_cons (gm_name sc_law.nd rfl (by first | exact .inl rfl | exact .inr rfl)) gms_nil)))) (fun _ _ _ _ _ => ptsm_nil) (fun _ _ _ _ _ => (em_call (fn_part_of T) ((hr).mono (by decide)) (by rfl) T.g_part_of T.F_part_of.kp T.b_part_of tk0 (am_cons (em_var (pv 5)) (am_cons (em_var (pv 14)) (am_cons (em_var (pv 12)) (am_cons (em_var (pv 15)) (am_cons (em_var (pv 13)) am_nil)))))))))))
  (bm_cons (sm_set sc_law.nd rfl (by first | exact .inl rfl | exact .inr rfl) (em_call (fn_above T) ((hr).mono (by decide)) (by rfl) T.g_above T.F_above.kp T.b_above takes_cx (am_cons (em_call (fn_beside T) ((hr).mono (by decide)) (by rfl) T.g_beside T.F_beside.kp T.b_beside takes_cx (am_cons (em_ix (em_ix (em_var (pv 11)) em_int fun _ _ => rfl) em_int fun _ _ => rfl) (am_cons (em_ix (em_ix (em_var (pv 11)) em_int fun _ _ => rfl) em_int fun _ _ => rfl) am_nil))) (am_cons (em_call (fn_beside T) ((hr).mono (by decide)) (by rfl) T.g_beside T.F_beside.kp T.b_beside takes_cx (am_cons (em_ix (em_ix (em_var (pv 11)) em_int fun _ _ => rfl) em_int fun _ _ => rfl) (am_cons (em_ix (em_ix (em_var (pv 11)) em_int fun _ _ => rfl) em_int fun _ _ => rfl) am_nil))) am_nil))))
  (bm_cons (sm_if (tm_w (wm_or (tm_cmp (opd_ne (hr).units) (em_var (pv 16)) (em_var (pv 5)) (nomark _)) (wm_or1 (tm_cmp (opd_ne (hr).units) (em_call (fn_beside T) ((hr).mono (by decide)) (by rfl) T.g_beside T.F_beside.kp T.b_beside takes_cx (am_cons (em_call (fn_above T) ((hr).mono (by decide)) (by rfl) T.g_above T.F_above.kp T.b_above takes_cx (am_cons (em_ix (em_ix (em_var (pv 11)) em_int fun _ _ => rfl) em_int fun _ _ => rfl) (am_cons (em_ix (em_ix (em_var (pv 11)) em_int fun _ _ => rfl) em_int fun _ _ => rfl) am_nil))) (am_cons (em_call (fn_above T) ((hr).mono (by decide)) (by rfl) T.g_above T.F_above.kp T.b_above takes_cx (am_cons (em_ix (em_ix (em_var (pv 11)) em_int fun _ _ => rfl) em_int fun _ _ => rfl) (am_cons (em_ix (em_ix (em_var (pv 11)) em_int fun _ _ => rfl) em_int fun _ _ => rfl) am_nil))) am_nil))) (em_var (pv 5)) (nomark _))))) (bm_one (sm_ret em_bl)) bm_nil)
  (bm_cons (by first | exact sm_set sc_law.nd rfl (by first | exact .inl rfl | exact .inr rfl) (em_val (nm_lc [("top", 14), ("far", 15)] rfl sc_law.nd (im_any (em_val (nm_lst (am_cons (em_tup (am_cons em_int (am_cons (em_var (pv 9)) am_nil))) (am_cons (em_tup (am_cons (em_var (pv 9)) (am_cons (em_bin opd_sub (em_var (pv 3)) (em_var (pv 9))) am_nil))) am_nil))))) (blkOk_by (by kernel_rfl)) (by decide) (fun _ _ _ _ _ => (gm_tup rfl (gms_cons (gm_name sc_law.nd rfl (by first | exact .inl rfl | exact .inr rfl)) (gms_cons (gm_name sc_law.nd rfl (by first | exact .inl rfl | exact .inr rfl)) gms_nil)))) (fun _ _ _ _ _ => ptsm_nil) (fun _ _ _ _ _ => (em_val (nm_lc [("left", 12), ("away", 13)] rfl sc_law.nd (im_any (em_val (nm_lst (am_cons (em_tup (am_cons em_int (am_cons (em_var (pv 10)) am_nil))) (am_cons (em_tup (am_cons (em_var (pv 10)) (am_cons (em_bin opd_sub (em_var (pv 4)) (em_var (pv 10))) am_nil))) am_nil))))) (blkOk_by (by kernel_rfl)) (by decide) (fun _ _ _ _ _ => (gm_tup rfl (gms_cons (gm_name sc_law.nd rfl (by first | exact .inl rfl | exact .inr rfl)) (gms_cons (gm_name sc_law.nd rfl (by first | exact .inl rfl | exact .inr rfl)) gms_nil)))) (fun _ _ _ _ _ => ptsm_nil) (fun _ _ _ _ _ => (em_call (fn_part_of T) ((hr).mono (by decide)) (by rfl) T.g_part_of T.F_part_of.kp T.b_part_of tk0 (am_cons (em_var (pv 6)) (am_cons (em_var (pv 14)) (am_cons (em_var (pv 12)) (am_cons (em_var (pv 15)) (am_cons (em_var (pv 13)) am_nil)))))))))))) | exact sm_setLc asV (.inl rfl) [("top", 14), ("far", 15)] rfl sc_law.nd rfl rfl (sw_true rfl rfl rfl (by decide +kernel)) (im_any (em_val (nm_lst (am_cons (em_tup (am_cons em_int (am_cons (em_var (pv 9)) am_nil))) (am_cons (em_tup (am_cons (em_var (pv 9)) (am_cons (em_bin opd_sub (em_var (pv 3)) (em_var (pv 9))) am_nil))) am_nil))))) (blkOk_by (by kernel_rfl)) (by decide) (fun _ _ _ _ _ => (gm_tup rfl (gms_cons (gm_name sc_law.nd rfl (by first | exact .inl rfl | exact .inr rfl)) (gms_cons (gm_name sc_law.nd rfl (by first | exact .inl rfl | exact .inr rfl)) gms_nil)))) (fun _ _ _ _ _ => ptsm_nil) (fun _ _ _ _ _ => (em_val (nm_lc [("left", 12), ("away", 13)] rfl sc_law.nd (im_any (em_val (nm_lst (am_cons (em_tup (am_cons em_int (am_cons (em_var (pv 10)) am_nil))) (am_cons (em_tup (am_cons (em_var (pv 10)) (am_cons (em_bin opd_sub (em_var (pv 4)) (em_var (pv 10))) am_nil))) am_nil))))) (blkOk_by (by kernel_rfl)) (by decide) (fun _ _ _ _ _ => (gm_tup rfl (gms_cons (gm_name sc_law.nd rfl (by first | exact .inl rfl | exact .inr rfl)) (gms_cons (gm_name sc_law.nd rfl (by first | exact .inl rfl | exact .inr rfl)) gms_nil)))) (fun _ _ _ _ _ => ptsm_nil) (fun _ _ _ _ _ => (em_call (fn_part_of T) ((hr).mono (by decide)) (by rfl) T.g_part_of T.F_part_of.kp T.b_part_of tk0 (am_cons (em_var (pv 6)) (am_cons (em_var (pv 14)) (am_cons (em_var (pv 12)) (am_cons (em_var (pv 15)) (am_cons (em_var (pv 13)) am_nil)))))))))))
  (bm_cons (sm_if (tm_cmp (opd_ne (hr).units) (em_callB (cd_sum rfl) (by rfl) T.n_sum (by rfl) (am_cons (em_val (nm_lc [("k", 8)] rfl sc_law.nd (im_range1 (by rfl) T.n_range (am_cons em_int am_nil)) (blkOk_by (by kernel_rfl)) (by decide) (fun _ _ _ _ _ => (gm_name sc_law.nd rfl (by first | exact .inl rfl | exact .inr rfl))) (fun _ _ _ _ _ => ptsm_nil) (fun _ _ _ _ _ => (em_callB (cd_sum rfl) (by rfl) T.n_sum (by rfl) (am_cons (em_val (nm_lc [("j", 18)] rfl sc_law.nd (im_range1 (by rfl) T.n_range (am_cons em_int am_nil)) (blkOk_by (by kernel_rfl)) (by decide) (fun _ _ _ _ _ => (gm_name sc_law.nd rfl (by first | exact .inl rfl | exact .inr rfl))) (fun _ _ _ _ _ => ptsm_nil) (fun _ _ _ _ _ => (em_call (fn_loss T) ((hr).mono (by decide)) (by rfl) T.g_loss T.F_loss.kp T.b_loss tk0 (am_cons (em_ix (em_ix (em_var (pv 11)) (em_var (pv 8)) fun _ _ => rfl) (em_var (pv 18)) fun _ _ => rfl) (am_cons (em_ix (em_ix (em_var (pv 17)) (em_var (pv 8)) fun _ _ => rfl) (em_var (pv 18)) fun _ _ => rfl) am_nil)))))) am_nil))))) am_nil)) (em_call (fn_loss T) ((hr).mono (by decide)) (by rfl) T.g_loss T.F_loss.kp T.b_loss takes_cx (am_cons (em_var (pv 5)) (am_cons (em_var (pv 6)) am_nil))) (nomark _)) (bm_one (sm_ret em_bl)) bm_nil)
  (bm_one (sm_if (tm_cmp (opd_ne (hr).units) (em_callB (cd_max rfl) (by rfl) T.n_max (by rfl) (am_cons (em_val (nm_lc [("k", 8)] rfl sc_law.nd (im_range1 (by rfl) T.n_range (am_cons em_int am_nil)) (blkOk_by (by kernel_rfl)) (by decide) (fun _ _ _ _ _ => (gm_name sc_law.nd rfl (by first | exact .inl rfl | exact .inr rfl))) (fun _ _ _ _ _ => ptsm_nil) (fun _ _ _ _ _ => (em_callB (cd_max rfl) (by rfl) T.n_max (by rfl) (am_cons (em_val (nm_lc [("j", 18)] rfl sc_law.nd (im_range1 (by rfl) T.n_range (am_cons em_int am_nil)) (blkOk_by (by kernel_rfl)) (by decide) (fun _ _ _ _ _ => (gm_name sc_law.nd rfl (by first | exact .inl rfl | exact .inr rfl))) (fun _ _ _ _ _ => ptsm_nil) (fun _ _ _ _ _ => (em_call (fn_gap T) ((hr).mono (by decide)) (by rfl) T.g_gap T.F_gap.kp T.b_gap tk0 (am_cons (em_ix (em_ix (em_var (pv 11)) (em_var (pv 8)) fun _ _ => rfl) (em_var (pv 18)) fun _ _ => rfl) (am_cons (em_ix (em_ix (em_var (pv 17)) (em_var (pv 8)) fun _ _ => rfl) (em_var (pv 18)) fun _ _ => rfl) am_nil)))))) am_nil))))) am_nil)) (em_call (fn_gap T) ((hr).mono (by decide)) (by rfl) T.g_gap T.F_gap.kp T.b_gap takes_cx (am_cons (em_var (pv 5)) (am_cons (em_var (pv 6)) am_nil))) (nomark _)) (bm_one (sm_ret em_bl)) bm_nil))))))) bm_nil)
  (bm_cons (sm_if (tm_cmp (opd_ne (hr).units) (em_val (nm_lst (am_cons (em_callB cd_len (by rfl) T.n_len (by rfl) (am_cons (em_call (fn_beside T) ((hr).mono (by decide)) (by rfl) T.g_beside T.F_beside.kp T.b_beside takes_cx (am_cons (em_var (pv 5)) (am_cons (em_var (pv 6)) am_nil))) am_nil)) (am_cons (em_callB cd_len (by rfl) T.n_len (by rfl) (am_cons (em_ix (em_call (fn_beside T) ((hr).mono (by decide)) (by rfl) T.g_beside T.F_beside.kp T.b_beside takes_cx (am_cons (em_var (pv 5)) (am_cons (em_var (pv 6)) am_nil))) em_int fun _ _ => rfl) am_nil)) (am_cons (em_callB cd_len (by rfl) T.n_len (by rfl) (am_cons (em_call (fn_above T) ((hr).mono (by decide)) (by rfl) T.g_above T.F_above.kp T.b_above takes_cx (am_cons (em_var (pv 5)) (am_cons (em_var (pv 6)) am_nil))) am_nil)) (am_cons (em_callB cd_len (by rfl) T.n_len (by rfl) (am_cons (em_ix (em_call (fn_above T) ((hr).mono (by decide)) (by rfl) T.g_above T.F_above.kp T.b_above takes_cx (am_cons (em_var (pv 5)) (am_cons (em_var (pv 6)) am_nil))) em_int fun _ _ => rfl) am_nil)) am_nil)))))) (em_val (nm_lst (am_cons (em_var (pv 3)) (am_cons (em_bin opd_mul em_int (em_var (pv 4))) (am_cons (em_bin opd_mul em_int (em_var (pv 3))) (am_cons (em_var (pv 4)) am_nil)))))) (nomark _)) (bm_one (sm_ret em_bl)) bm_nil)
  (bm_cons (sm_if (tm_w (wm_or (tm_cmp (opd_ne (hr).units) (em_call (fn_loss T) ((hr).mono (by decide)) (by rfl) T.g_loss T.F_loss.kp T.b_loss takes_cx (am_cons (em_var (pv 5)) (am_cons (em_var (pv 6)) am_nil))) (em_call (fn_loss T) ((hr).mono (by decide)) (by rfl) T.g_loss T.F_loss.kp T.b_loss takes_cx (am_cons (em_var (pv 6)) (am_cons (em_var (pv 5)) am_nil))) (nomark _)) (wm_or (tm_cmp (opd_ne (hr).units) (em_call (fn_gap T) ((hr).mono (by decide)) (by rfl) T.g_gap T.F_gap.kp T.b_gap takes_cx (am_cons (em_var (pv 5)) (am_cons (em_var (pv 6)) am_nil))) (em_call (fn_gap T) ((hr).mono (by decide)) (by rfl) T.g_gap T.F_gap.kp T.b_gap takes_cx (am_cons (em_var (pv 6)) (am_cons (em_var (pv 5)) am_nil))) (nomark _)) (wm_or (tm_cmp (opd_ne (hr).units) (em_cmp (opd_eq (hr).units) (em_call (fn_loss T) ((hr).mono (by decide)) (by rfl) T.g_loss T.F_loss.kp T.b_loss takes_cx (am_cons (em_var (pv 5)) (am_cons (em_var (pv 6)) am_nil))) em_int (nomark _)) (em_cmp (opd_eq (hr).units) (em_var (pv 5)) (em_var (pv 6)) (nomark _)) (nomark _)) (wm_or1 (tm_cmp (opd_ne (hr).units) (em_call (fn_loss T) ((hr).mono (by decide)) (by rfl) T.g_loss T.F_loss.kp T.b_loss takes_cx (am_cons (em_var (pv 5)) (am_cons (em_var (pv 5)) am_nil))) em_int (nomark _))))))) (bm_one (sm_ret em_bl)) bm_nil)
  (bm_cons (sm_if (tm_w (wm_or (tm_cmp opd_gt (em_call (fn_gap T) ((hr).mono (by decide)) (by rfl) T.g_gap T.F_gap.kp T.b_gap takes_cx (am_cons (em_var (pv 5)) (am_cons (em_var (pv 7)) am_nil))) (em_bin opd_add (em_call (fn_gap T) ((hr).mono (by decide)) (by rfl) T.g_gap T.F_gap.kp T.b_gap takes_cx (am_cons (em_var (pv 5)) (am_cons (em_var (pv 6)) am_nil))) (em_call (fn_gap T) ((hr).mono (by decide)) (by rfl) T.g_gap T.F_gap.kp T.b_gap takes_cx (am_cons (em_var (pv 6)) (am_cons (em_var (pv 7)) am_nil)))) (nomark _)) (wm_or (tm_cmp opd_gt (em_call (fn_loss T) ((hr).mono (by decide)) (by rfl) T.g_loss T.F_loss.kp T.b_loss takes_cx (am_cons (em_var (pv 5)) (am_cons (em_var (pv 6)) am_nil))) (em_bin opd_mul (em_bin opd_mul (em_bin opd_pow (em_call (fn_gap T) ((hr).mono (by decide)) (by rfl) T.g_gap T.F_gap.kp T.b_gap takes_cx (am_cons (em_var (pv 5)) (am_cons (em_var (pv 6)) am_nil))) em_int) (em_var (pv 3))) (em_var (pv 4))) (nomark _)) (wm_or1 (tm_cmp opd_gt (em_bin opd_pow (em_call (fn_gap T) ((hr).mono (by decide)) (by rfl) T.g_gap T.F_gap.kp T.b_gap takes_cx (am_cons (em_var (pv 5)) (am_cons (em_var (pv 6)) am_nil))) em_int) (em_call (fn_loss T) ((hr).mono (by decide)) (by rfl) T.g_loss T.F_loss.kp T.b_loss takes_cx (am_cons (em_var (pv 5)) (am_cons (em_var (pv 6)) am_nil))) (nomark _)))))) (bm_one (sm_ret em_bl)) bm_nil)
  (bm_cons (sm_set sc_law.nd rfl (by first | exact .inl rfl | exact .inr rfl) (em_val (nm_lst (am_cons (em_call (fn_differences T) ((hr).mono (by decide)) (by rfl) T.g_differences T.F_differences.kp T.b_differences takes_cx (am_cons (em_var (pv 5)) (am_cons (em_var (pv 6)) am_nil))) (am_cons (em_call (fn_differences T) ((hr).mono (by decide)) (by rfl) T.g_differences T.F_differences.kp T.b_differences takes_cx (am_cons (em_var (pv 6)) (am_cons (em_var (pv 7)) am_nil))) (am_cons (em_call (fn_differences T) ((hr).mono (by decide)) (by rfl) T.g_differences T.F_differences.kp T.b_differences takes_cx (am_cons (em_var (pv 5)) (am_cons (em_var (pv 7)) am_nil))) am_nil))))))
  (bm_cons (sm_if (tm_w (wm_or (tm_cmp (opd_ne (hr).units) (em_val (nm_lc [("k", 8)] rfl sc_law.nd (im_range1 (by rfl) T.n_range (am_cons (em_bin opd_mul (em_var (pv 3)) (em_var (pv 4))) am_nil)) (blkOk_by (by kernel_rfl)) (by decide) (fun _ _ _ _ _ => (gm_name sc_law.nd rfl (by first | exact .inl rfl | exact .inr rfl))) (fun _ _ _ _ _ => ptsm_nil) (fun _ _ _ _ _ => (em_bin opd_add (em_ix (em_ix (em_var (pv 19)) em_int fun _ _ => rfl) (em_var (pv 8)) fun _ _ => rfl) (em_ix (em_ix (em_var (pv 19)) em_int fun _ _ => rfl) (em_var (pv 8)) fun _ _ => rfl))))) (em_ix (em_var (pv 19)) em_int fun _ _ => rfl) (nomark _)) (wm_or1 (tm_cmp (opd_ne (hr).units) (em_val (nm_lc [("step", 20)] rfl sc_law.nd (im_any (em_ix (em_var (pv 19)) em_int fun _ _ => rfl)) (blkOk_by (by kernel_rfl)) (by decide) (fun _ _ _ _ _ => (gm_name sc_law.nd rfl (by first | exact .inl rfl | exact .inr rfl))) (fun _ _ _ _ _ => ptsm_nil) (fun _ _ _ _ _ => (em_neg (em_var (pv 20)))))) (em_call (fn_differences T) ((hr).mono (by decide)) (by rfl) T.g_differences T.F_differences.kp T.b_differences takes_cx (am_cons (em_var (pv 6)) (am_cons (em_var (pv 5)) am_nil))) (nomark _))))) (bm_one (sm_ret em_bl)) bm_nil)
  (bm_cons (sm_if (tm_cmp (opd_ne (hr).units) (em_callB (cd_sum rfl) (by rfl) T.n_sum (by rfl) (am_cons (em_val (nm_lc [("step", 20)] rfl sc_law.nd (im_any (em_ix (em_var (pv 19)) em_int fun _ _ => rfl)) (blkOk_by (by kernel_rfl)) (by decide) (fun _ _ _ _ _ => (gm_name sc_law.nd rfl (by first | exact .inl rfl | exact .inr rfl))) (fun _ _ _ _ _ => ptsm_nil) (fun _ _ _ _ _ => (em_bin opd_mul (em_var (pv 20)) (em_var (pv 20)))))) am_nil)) (em_call (fn_loss T) ((hr).mono (by decide)) (by rfl) T.g_loss T.F_loss.kp T.b_loss takes_cx (am_cons (em_var (pv 5)) (am_cons (em_var (pv 7)) am_nil))) (nomark _)) (bm_one (sm_ret em_bl)) bm_nil)
  (bm_cons (sm_if (tm_w (wm_or (tm_cmp (opd_ne (hr).units) (em_call (fn_write T) ((hr).mono (by decide)) (by rfl) T.g_write T.F_write.kp T.b_write takes_cx (am_cons (em_call (fn_above T) ((hr).mono (by decide)) (by rfl) T.g_above T.F_above.kp T.b_above takes_cx (am_cons (em_var (pv 5)) (am_cons (em_var (pv 6)) am_nil))) am_nil)) (em_bin opd_add (em_call (fn_write T) ((hr).mono (by decide)) (by rfl) T.g_write T.F_write.kp T.b_write takes_cx (am_cons (em_var (pv 5)) am_nil)) (em_call (fn_write T) ((hr).mono (by decide)) (by rfl) T.g_write T.F_write.kp T.b_write takes_cx (am_cons (em_var (pv 6)) am_nil))) (nomark _)) (wm_or (tm_cmp (opd_ne (hr).units) (em_call (fn_read T) ((hr).mono (by decide)) (by rfl) T.g_read T.F_read.kp T.b_read takes_cx (am_cons (em_bin opd_add (em_call (fn_write T) ((hr).mono (by decide)) (by rfl) T.g_write T.F_write.kp T.b_write takes_cx (am_cons (em_var (pv 5)) am_nil)) (em_call (fn_write T) ((hr).mono (by decide)) (by rfl) T.g_write T.F_write.kp T.b_write takes_cx (am_cons (em_var (pv 6)) am_nil))) am_nil)) (em_call (fn_above T) ((hr).mono (by decide)) (by rfl) T.g_above T.F_above.kp T.b_above takes_cx (am_cons (em_var (pv 5)) (am_cons (em_var (pv 6)) am_nil))) (nomark _)) (wm_or1 (tm_cmp opd_isNot (em_call (fn_is_picture T) ((hr).mono (by decide)) (by rfl) T.g_is_picture T.F_is_picture.kp T.b_is_picture takes_cx (am_cons (em_call (fn_beside T) ((hr).mono (by decide)) (by rfl) T.g_beside T.F_beside.kp T.b_beside takes_cx (am_cons (em_var (pv 5)) (am_cons (em_var (pv 7)) am_nil))) am_nil)) em_bl (nomark _)))))) (bm_one (sm_ret em_bl)) bm_nil)
  (bm_cons (sm_set sc_law.nd rfl (by first | exact .inl rfl | exact .inr rfl) (em_call (fn__law_take T) ((hr).mono (by decide)) (by rfl) T.g__law_take T.F__law_take.kp T.b__law_take takes_cx (am_cons (em_var (pv 1)) (am_cons em_int am_nil))))
  (bm_cons (sm_set sc_law.nd rfl (by first | exact .inl rfl | exact .inr rfl) (em_call (fn_flat_picture T) ((hr).mono (by decide)) (by rfl) T.g_flat_picture T.F_flat_picture.kp T.b_flat_picture takes_cx (am_cons (em_var (pv 3)) (am_cons (em_var (pv 4)) (am_cons (em_var (pv 21)) am_nil)))))
  (bm_cons (sm_if (tm_w (wm_or (tm_cmp (opd_ne (hr).units) (em_call (fn_loss T) ((hr).mono (by decide)) (by rfl) T.g_loss T.F_loss.kp T.b_loss takes_cx (am_cons (em_var (pv 5)) (am_cons (em_var (pv 22)) am_nil))) (em_callB (cd_sum rfl) (by rfl) T.n_sum (by rfl) (am_cons (em_val (nm_lc [("line", 24)] rfl sc_law.nd (im_any (em_var (pv 5))) (blkOk_by (by kernel_rfl)) (by decide) (fun _ _ _ _ _ => (gm_name sc_law.nd rfl (by first | exact .inl rfl | exact .inr rfl))) (fun _ _ _ _ _ => ptsm_nil) (fun _ _ _ _ _ => (em_callB (cd_sum rfl) (by rfl) T.n_sum (by rfl) (am_cons (em_val (nm_lc [("each", 23)] rfl sc_law.nd (im_any (em_var (pv 24))) (blkOk_by (by kernel_rfl)) (by decide) (fun _ _ _ _ _ => (gm_name sc_law.nd rfl (by first | exact .inl rfl | exact .inr rfl))) (fun _ _ _ _ _ => ptsm_nil) (fun _ _ _ _ _ => (em_bin opd_mul (em_bin opd_sub (em_var (pv 23)) (em_var (pv 21))) (em_bin opd_sub (em_var (pv 23)) (em_var (pv 21))))))) am_nil))))) am_nil)) (nomark _)) (wm_or1 (tm_cmp (opd_ne (hr).units) (em_call (fn_beside T) ((hr).mono (by decide)) (by rfl) T.g_beside T.F_beside.kp T.b_beside takes_cx (am_cons (em_var (pv 22)) (am_cons (em_var (pv 22)) am_nil))) (em_call (fn_flat_picture T) ((hr).mono (by decide)) (by rfl) T.g_flat_picture T.F_flat_picture.kp T.b_flat_picture takes_cx (am_cons (em_var (pv 3)) (am_cons (em_bin opd_mul em_int (em_var (pv 4))) (am_cons (em_var (pv 21)) am_nil)))) (nomark _))))) (bm_one (sm_ret em_bl)) bm_nil)
  (bm_one (sm_if (tm_w (wm_or (tm_cmp (opd_ne (hr).units) (em_call (fn_loss T) ((hr).mono (by decide)) (by rfl) T.g_loss T.F_loss.kp T.b_loss takes_cx (am_cons (em_callTy cd_tuple (by rfl) T.n_tuple (by rfl) (am_cons (em_val (nm_lc [("line", 24)] rfl sc_law.nd (im_any (em_var (pv 5))) (blkOk_by (by kernel_rfl)) (by decide) (fun _ _ _ _ _ => (gm_name sc_law.nd rfl (by first | exact .inl rfl | exact .inr rfl))) (fun _ _ _ _ _ => ptsm_nil) (fun _ _ _ _ _ => (em_rev (em_var (pv 24)))))) am_nil)) (am_cons (em_callTy cd_tuple (by rfl) T.n_tuple (by rfl) (am_cons (em_val (nm_lc [("line", 24)] rfl sc_law.nd (im_any (em_var (pv 6))) (blkOk_by (by kernel_rfl)) (by decide) (fun _ _ _ _ _ => (gm_name sc_law.nd rfl (by first | exact .inl rfl | exact .inr rfl))) (fun _ _ _ _ _ => ptsm_nil) (fun _ _ _ _ _ => (em_rev (em_var (pv 24)))))) am_nil)) am_nil))) (em_call (fn_loss T) ((hr).mono (by decide)) (by rfl) T.g_loss T.F_loss.kp T.b_loss takes_cx (am_cons (em_var (pv 5)) (am_cons (em_var (pv 6)) am_nil))) (nomark _)) (wm_or1 (tm_cmp (opd_ne (hr).units) (em_call (fn_loss T) ((hr).mono (by decide)) (by rfl) T.g_loss T.F_loss.kp T.b_loss takes_cx (am_cons (em_rev (em_var (pv 5))) (am_cons (em_rev (em_var (pv 6))) am_nil))) (em_call (fn_loss T) ((hr).mono (by decide)) (by rfl) T.g_loss T.F_loss.kp T.b_loss takes_cx (am_cons (em_var (pv 5)) (am_cons (em_var (pv 6)) am_nil))) (nomark _))))) (bm_one (sm_ret em_bl)) bm_nil)))))))))))))))))
  (bm_one (sm_ret em_bl))))
theorem fn_law (T : Facts K mg base) : FnM P w K mg base 12 (He.ga K "law") T.fd_law ["script"] m_law := fn_retV (fn_mD T.F_law sc_law fun A outer s H E hr => bm_law T hr)
end
end K08


set_option Elab.async false
set_option linter.all false
set_option maxRecDepth 100000
set_option maxHeartbeats 4000000
namespace K08
open PySem PySem.Spec PyProof.Rows L2 M
section
variable [Tabs]
/-- the store of the law: the draws that are left -/
abbrev St (l : List Int) : Store := [OB.lst (I l)]
theorem clS_St (l : List Int) (n : Nat) : clS n (St l) = true := by simp [clS, clO, cls_I]
theorem take_ex (b : Int) (hb : 0 < b) (l : List Int) : ∃ k l', 0 ≤ k ∧ k < b ∧ m__law_take [.loc 0, .int b] (St l) = .ok (.int k) (St l') := by
  rcases List.eq_nil_or_concat l with rfl | ⟨l', x, rfl⟩
  · refine ⟨0, [], Int.le_refl _, hb, ?_⟩
    refine (retV_ok (d := .int 0) (S' := St []) ?_ (clS_St _ _) rfl).trans rfl
    simp [runF, b__law_take, dLen, seqOf, lstOf]
  · refine ⟨x % b, l', Int.emod_nonneg _ (by omega), Int.emod_lt_of_pos _ hb, ?_⟩
    refine (retV_ok (d := .int (x % b)) (S' := St l') ?_ (clS_St _ _) rfl).trans rfl
    have h0 : ¬ ((l'.length : Int) + 1 = 0) := by omega
    simp [runF, b__law_take, dLen, seqOf, lstOf, rcv, gPop, x_mod hb, h0]
theorem grey_ex (l : List Int) : ∃ k l', 0 ≤ k ∧ k ≤ 15 ∧ m__law_grey [.loc 0] (St l) = .ok (.int k) (St l') := by
  obtain ⟨a, l1, a0, a1, e1⟩ := take_ex 16 (by decide) l
  obtain ⟨b, l2, b0, b1, e2⟩ := take_ex 16 (by decide) l1
  obtain ⟨c, l3, c0, c1, e3⟩ := take_ex 16 (by decide) l2
  obtain ⟨k, l4, k0, k1, e4⟩ := take_ex 6 (by decide) l3
  have key : ∃ r, 0 ≤ r ∧ r ≤ 15 ∧ atI (I [0, 15, 8, a, b, c]) k = some (.int r) := by
    have : k = 0 ∨ k = 1 ∨ k = 2 ∨ k = 3 ∨ k = 4 ∨ k = 5 := by omega
    rcases this with rfl | rfl | rfl | rfl | rfl | rfl
    · exact ⟨0, by omega, by omega, rfl⟩
    · exact ⟨15, by omega, by omega, rfl⟩
    · exact ⟨8, by omega, by omega, rfl⟩
    · exact ⟨a, by omega, by omega, rfl⟩
    · exact ⟨b, by omega, by omega, rfl⟩
    · exact ⟨c, by omega, by omega, rfl⟩
  obtain ⟨r, r0, r1, hr⟩ := key
  refine ⟨r, l4, r0, r1, ?_⟩
  refine (retV_ok (d := .int r) (S' := St l4) ?_ (clS_St _ _) rfl).trans rfl
  have hs : (6 : Nat) ≤ sizeLine := by decide
  simp only [I, List.map_cons, List.map_nil] at hr
  simp [runF, b__law_grey, e1, e2, e3, e4, hs, dIx, seqOf, lstOf, hr]
theorem number_ok {S : Store} {x a b : Int} (h : clS S.length S = true) : m_is_number [.int x, .int a, .int b] S = .ok (.bl (decide (a ≤ x ∧ x ≤ b))) S := by
  refine retV_id ?_ h rfl
  by_cases h1 : a ≤ x
  · simp [runF, b_is_number, dIsInst, tyName, isT, h1]
  · simp [runF, b_is_number, dIsInst, tyName, isT, h1]
theorem grey_ok {S : Store} {x : Int} (h : clS S.length S = true) : m_is_grey [.int x] S = .ok (.bl (decide (0 ≤ x ∧ x ≤ 15))) S := by
  refine retV_id ?_ h rfl
  simp [runF, b_is_grey, number_ok h]
theorem a1 {w : Nat} (h : w ≤ 40) : w ≤ sizeLine := Nat.le_trans h (by decide)
theorem a2 {w : Nat} (h : w ≤ 40) : M.inR (w : Int) = true := by
  unfold M.inR
  rw [decide_eq_true_eq]
  constructor <;> omega
theorem a3 {w : Nat} {S : Store} (hr : M.inR (w : Int) = true) : srcR1 [.int w] S = some ⟨rng 0 w, []⟩ := by
      simp only [srcR1, hr, if_true, Int.toNat_natCast]
theorem a4 {w : Nat} (hw : w ≤ 40) : (rng 0 w).length ≤ sizeLine := by rw [rng, List.length_map, List.length_range]; exact a1 hw
theorem a5 {w : Nat} {ys : List D} (hl : ys.length = (rng 0 w).length) : ys.length = w := by simpa [rng] using hl
theorem a6 {ys : List D} {l' : List Int} : dTuple [.lst ys] (St l') = some (.tup ys) := rfl
theorem t1 (ys xs : List D) (e : M.Env) (me : ME) (s v : Nat) (S S' : Store) (hz : xs.length ≤ sizeLine) (h : lcM ⟨xs, []⟩ (gN s) mYes me (wipeE e [s]) xs S = .ok ys S') (s1 : (mSrcA srcR1 (mCons (mVar v) mNil)) e S = .ok ⟨xs, []⟩ S) :
   (mCall dTuple (mCons (asV (mLc (mSrcA srcR1 (mCons (mVar v) mNil)) (gN s) mYes me [s])) mNil)) e S = .ok (.tup ys) S' := by
  have s2 : (mLc (mSrcA srcR1 (mCons (mVar v) mNil)) (gN s) mYes me [s]) e S = .ok ys S' := by rw [x_mLc, s1, Res.bind_ok, if_pos hz, h]
  have h5 : dTuple [.lst ys] S' = some (.tup ys) := rfl
  simp only [x_mCall, x_mCons, x_asV, s2, Res.bind_ok, x_mNil, h5, Res.of_some]
theorem rng_mem {n : Nat} {d : D} (h : d ∈ rng 0 n) : ∃ j : Int, d = .int j := by
  obtain ⟨i, _, rfl⟩ := List.mem_map.mp h
  exact ⟨_, rfl⟩
theorem t2 {P : D → Prop} (me : ME) (e : M.Env) (v s w : Nat) (hc : ∀ (j : Int) l, ∃ y l', P y ∧ me ((wipeE e [s]).set s (some (.int j))) (St l) = .ok y (St l')) (l : List Int) :
  ∃ ys l', ys.length = (rng 0 w).length ∧ (∀ y ∈ ys, P y) ∧ lcM ⟨rng 0 w, []⟩ (gN s) mYes me (wipeE e [s]) (rng 0 w) (St l) = .ok ys (St l') := by
  apply lc_run (t := gN s) (me := me) (e := wipeE e [s]) (xs := rng 0 w) (P := P) St (rng 0 w) l
  intro d hd l
  obtain ⟨j, hj⟩ := rng_mem hd
  obtain ⟨y, l', hp, hy⟩ := hc j l
  rw [hj]
  exact ⟨_, y, l', rfl, hp, hy⟩
theorem t3a (e : M.Env) (v : Nat) (d : D) (hv : e[v]? = some (some d)) (S : Store) : mVar v e S = .ok d S := by
  simp only [x_mVar, hv]
theorem t3b (e : M.Env) (d : D) (a : ME) (S : Store) (src : Src) (f : List D → Store → Option Src) (h1 : a e S = .ok d S) (h2 : f [d] S = some src) : (mSrcA f (mCons a mNil)) e S = .ok src S := by
  simp only [x_mSrcA, x_mCons, h1, Res.bind_ok, x_mNil, h2, Res.of_some]
theorem t3 (e : M.Env) (v w : Nat) (hv : e[v]? = some (some (.int w))) (hw : w ≤ 40) (S : Store) : (mSrcA srcR1 (mCons (mVar v) mNil)) e S = .ok ⟨rng 0 w, []⟩ S :=
  t3b e (.int w) _ S _ _ (t3a e v _ hv S) (a3 (a2 hw))
theorem grid1 {P : D → Prop} (me : ME) (e : M.Env) (v s w : Nat) (hw : w ≤ 40) (hv : e[v]? = some (some (.int w))) (hc : ∀ (j : Int) l, ∃ y l', P y ∧ me ((wipeE e [s]).set s (some (.int j))) (St l) = .ok y (St l')) (l : List Int) :
    ∃ ys l', ys.length = w ∧ (∀ y ∈ ys, P y) ∧ (mCall dTuple (mCons (asV (mLc (mSrcA srcR1 (mCons (mVar v) mNil)) (gN s) mYes me [s])) mNil)) e (St l) = .ok (.tup ys) (St l') := by
  obtain ⟨ys, l', h1, h2, h3⟩ := t2 me e v s w hc l
  exact ⟨ys, l', a5 h1, h2, t1 ys (rng 0 w) e me s v (St l) (St l') (a4 hw) h3 (t3 e v w hv hw (St l))⟩
theorem ints_of {P : Int → Prop} : ∀ {ys : List D}, (∀ y ∈ ys, ∃ x, y = .int x ∧ P x) → ∃ r, ys = I r ∧ ∀ x ∈ r, P x
  | [], _ => ⟨[], rfl, by simp⟩
  | y :: ys, h => by
    obtain ⟨x, rfl, hx⟩ := h y (by simp)
    obtain ⟨r, rfl, hr⟩ := ints_of fun z hz => h z (List.mem_cons_of_mem _ hz)
    refine ⟨x :: r, rfl, fun z hz => ?_⟩
    rcases List.mem_cons.mp hz with rfl | hz
    · exact hx
    · exact hr z hz
theorem rows_of {P : List Int → Prop} : ∀ {ys : List D}, (∀ y ∈ ys, ∃ r, y = .tup (I r) ∧ P r) → ∃ a : List (List Int), ys = a.map (fun r => .tup (I r)) ∧ ∀ r ∈ a, P r
  | [], _ => ⟨[], rfl, by simp⟩
  | y :: ys, h => by
    obtain ⟨x, rfl, hx⟩ := h y (by simp)
    obtain ⟨r, rfl, hr⟩ := rows_of fun z hz => h z (List.mem_cons_of_mem _ hz)
    refine ⟨x :: r, rfl, fun z hz => ?_⟩
    rcases List.mem_cons.mp hz with rfl | hz
    · exact hx
    · exact hr z hz
/-- so many rows of so many greys -/
structure IsPic (h w : Nat) (a : List (List Int)) : Prop where
  high : a.length = h
  wide : ∀ r ∈ a, r.length = w
  grey : ∀ r ∈ a, ∀ x ∈ r, 0 ≤ x ∧ x ≤ 15
def isG (y : D) : Prop := ∃ x, y = .int x ∧ 0 ≤ x ∧ x ≤ 15
theorem grid2 (me : ME) (e : M.Env) (h w : Nat) (hh : h ≤ 40) (hw : w ≤ 40) (e1 : e[1]? = some (some (.int h))) (e2 : e[2]? = some (some (.int w)))
    (hc : ∀ (i j : Int) l, ∃ y l', isG y ∧ me ((wipeE ((wipeE e [6]).set 6 (some (.int i))) [5]).set 5 (some (.int j))) (St l) = .ok y (St l')) (l : List Int) :
    ∃ a l', IsPic h w a ∧ (mCall dTuple (mCons (asV (mLc (mSrcA srcR1 (mCons (mVar 1) mNil)) (gN 6) mYes (mCall dTuple (mCons (asV (mLc (mSrcA srcR1 (mCons (mVar 2) mNil)) (gN 5) mYes me [5])) mNil)) [6])) mNil)) e (St l) = .ok (pic a) (St l') := by
  obtain ⟨ys, l', hl, hP, he⟩ := grid1 (P := fun y => ∃ r, y = .tup (I r) ∧ (r.length = w ∧ ∀ x ∈ r, 0 ≤ x ∧ x ≤ 15)) _ e 1 6 h hh e1 (fun i l => by
    obtain ⟨ys, l', hl, hP, he⟩ := grid1 (P := isG) me ((wipeE e [6]).set 6 (some (.int i))) 2 5 w hw (by
      simp only [wipeE]
      rw [List.getElem?_set_ne (by decide), List.getElem?_set_ne (by decide)]; exact e2) (fun j l => hc i j l) l
    obtain ⟨r, rfl, hr⟩ := ints_of hP
    exact ⟨_, l', ⟨r, rfl, by simpa using hl, hr⟩, he⟩) l
  obtain ⟨a, rfl, ha⟩ := rows_of hP
  exact ⟨a, l', ⟨by simpa using hl, fun r hr => (ha r hr).1, fun r hr => (ha r hr).2⟩, he⟩
theorem clamp {S : Store} (x : Int) : ∃ y z, dMin [.int 15, .int x] S = some (.int z) ∧ dMax [.int 0, .int z] S = some (.int y) ∧ 0 ≤ y ∧ y ≤ 15 := by
  refine ⟨if (if x < 15 then x else 15) > 0 then (if x < 15 then x else 15) else 0, if x < 15 then x else 15, rfl, rfl, ?_, ?_⟩ <;> split <;> split <;> omega
theorem picture_ex (h w : Nat) (hh : h ≤ 40) (hw : w ≤ 40) (l : List Int) : ∃ a l', IsPic h w a ∧ m__law_picture [.loc 0, .int h, .int w] (St l) = .ok (pic a) (St l') := by
  suffices hs : ∃ a l' e', IsPic h w a ∧ b__law_picture [some (.loc 0), some (.int h), some (.int w), none, none, none, none, none, none, none] (St l) = some (.rt (pic a), e', St l') by
    obtain ⟨a, l', e', ha, e⟩ := hs
    refine ⟨a, l', ha, (retV_ok (d := pic a) (d' := pic a) (S' := St l') (run_rt e) (clS_St _ _) ?_).trans rfl⟩
    simp [fz, cl, cls_P]
  obtain ⟨kind, l1, k0, k1, q1⟩ := take_ex 5 (by decide) l
  obtain ⟨first, l2, f0, f1, q2⟩ := grey_ex l1
  have hs : (2 : Nat) ≤ sizeLine := a1 (by decide)
  have p1 : sSet (gTup 2 (gCons (gN 3) (gCons (gN 4) gNil))) (mTup (mCons (mCallF 2 m__law_take (mCons (mVar 0) (mCons (mC (.int 5)) mNil))) (mCons (mCallF 1 m__law_grey (mCons (mVar 0) mNil)) mNil))) [some (.loc 0), some (.int h), some (.int w), none, none, none, none, none, none, none] (St l) =
      some (.nx, [some (.loc 0), some (.int h), some (.int w), some (.int kind), some (.int first), none, none, none, none, none], St l2) :=
    setg_ok (tup_ok (cons_ok (callF_ok (cons_ok (var_ok rfl) (one_ok rfl)) q1) (one_ok (callF_ok (one_ok (var_ok rfl)) q2))) hs) rfl
  unfold b__law_picture
  rw [seq_nx p1]
  by_cases h0 : kind = 0
  · obtain ⟨a, l', ha, e⟩ := grid2 e__law_picture_1 [some (.loc 0), some (.int h), some (.int w), some (.int kind), some (.int first), none, none, none, none, none] h w hh hw rfl rfl (fun i j l => by
      obtain ⟨g, l', g0, g1, e⟩ := grey_ex l
      exact ⟨.int g, l', ⟨g, rfl, g0, g1⟩, callF_ok (one_ok (var_ok rfl)) e⟩) l2
    exact ⟨a, l', _, ha, seq_rt ((if_t (eqc_t rfl h0)).trans (ret_ok e))⟩
  rw [seq_nx (if_skip (eqc_f rfl h0))]
  by_cases h1 : kind = 1
  · obtain ⟨ac, l3, ac0, ac1, q3⟩ := take_ex 5 (by decide) l2
    obtain ⟨dn, l4, dn0, dn1, q4⟩ := take_ex 5 (by decide) l3
    obtain ⟨a, l', ha, e⟩ := grid2 e__law_picture_4 [some (.loc 0), some (.int h), some (.int w), some (.int kind), some (.int first), none, none, some (.int (ac - 2)), some (.int (dn - 2)), none] h w hh hw rfl rfl (fun i j l => by
      obtain ⟨k, l', u0, u1, e⟩ := take_ex 2 (by decide) l
      obtain ⟨y, z, c1, c2, c3, c4⟩ := clamp (S := St l') (first + (ac - 2) * j + (dn - 2) * i + k)
      have m1 : ∀ S, dMul (.int (ac - 2)) (.int j) S = some (.int ((ac - 2) * j)) := fun S => x_mul (.inl (by omega))
      have m2 : ∀ S, dMul (.int (dn - 2)) (.int i) S = some (.int ((dn - 2) * i)) := fun S => x_mul (.inl (by omega))
      exact ⟨.int y, l', ⟨y, rfl, c3, c4⟩, call_ok (cons_ok rfl (one_ok (call_ok (cons_ok rfl (one_ok (bin_ok (bin_ok (bin_ok (var_ok rfl) (bin_ok (var_ok rfl) (var_ok rfl) (m1 _)) rfl) (bin_ok (var_ok rfl) (var_ok rfl) (m2 _)) rfl) (callF_ok (cons_ok (var_ok rfl) (one_ok rfl)) e) rfl))) c1))) c2⟩) l4
    exact ⟨a, l', _, ha, seq_rt ((if_t (eqc_t rfl h1)).trans <| (seq_nx (setg_ok (tup_ok (cons_ok (bin_ok (callF_ok (cons_ok (var_ok rfl) (one_ok rfl)) q3) rfl rfl) (one_ok (bin_ok (callF_ok (cons_ok (var_ok rfl) (one_ok rfl)) q4) rfl rfl))) hs) rfl)).trans (ret_ok e))⟩
  rw [seq_nx (if_skip (eqc_f rfl h1))]
  by_cases h2 : kind = 2
  · obtain ⟨other, l3, o0, o1, q3⟩ := grey_ex l2
    obtain ⟨a, l', ha, e⟩ := grid2 e__law_picture_7 [some (.loc 0), some (.int h), some (.int w), some (.int kind), some (.int first), none, none, none, none, some (.int other)] h w hh hw rfl rfl (fun i j l => by
      obtain ⟨k, l', u0, u1, e⟩ := take_ex 2 (by decide) l
      have hk : k = 0 ∨ k = 1 := by omega
      rcases hk with rfl | rfl
      · exact ⟨.int first, l', ⟨first, rfl, f0, f1⟩, bin_ok (asV_ok (lst_ok (cons_ok (var_ok rfl) (one_ok (var_ok rfl))) hs)) (callF_ok (cons_ok (var_ok rfl) (one_ok rfl)) e) rfl⟩
      · exact ⟨.int other, l', ⟨other, rfl, o0, o1⟩, bin_ok (asV_ok (lst_ok (cons_ok (var_ok rfl) (one_ok (var_ok rfl))) hs)) (callF_ok (cons_ok (var_ok rfl) (one_ok rfl)) e) rfl⟩) l3
    exact ⟨a, l', _, ha, seq_rt ((if_t (eqc_t rfl h2)).trans <| (seq_nx (set_ok (callF_ok (one_ok (var_ok rfl)) q3))).trans (ret_ok e))⟩
  rw [seq_nx (if_skip (eqc_f rfl h2))]
  obtain ⟨a, l', ha, e⟩ := grid2 e__law_picture_10 [some (.loc 0), some (.int h), some (.int w), some (.int kind), some (.int first), none, none, none, none, none] h w hh hw rfl rfl (fun i j l => by
    obtain ⟨k, l', u0, u1, e⟩ := take_ex kind (by omega) l
    obtain ⟨y, z, c1, c2, c3, c4⟩ := clamp (S := St l') (first + k - 1)
    exact ⟨.int y, l', ⟨y, rfl, c3, c4⟩, call_ok (cons_ok rfl (one_ok (call_ok (cons_ok rfl (one_ok (bin_ok (bin_ok (var_ok rfl) (callF_ok (cons_ok (var_ok rfl) (one_ok (var_ok rfl))) e) rfl) rfl rfl))) c1))) c2⟩) l2
  exact ⟨a, l', _, ha, ret_ok e⟩
end
end K08


set_option Elab.async false
set_option linter.all false
set_option maxRecDepth 100000
set_option maxHeartbeats 4000000
namespace K08
open PySem PySem.Spec PyProof.Rows L2 M
section
variable [Tabs]
variable {S : Store} {a b : List (List Int)}
theorem cl_pic (n : Nat) (a : List (List Int)) : cl n (pic a) = true := by simp only [pic, cl, cls_P]
/-- a function that only returns -/
theorem ret_fn {n : Nat} {m : ME} {ds : List D} {d : D} (hS : clS S.length S = true) (h : m (ds.map some ++ List.replicate (n - ds.length) none) S = .ok d S) (hd : cl S.length d = true) : retV (runF n (sRet m)) ds S = .ok d S :=
  retV_id (run_rt (ret_ok h)) hS hd
theorem part_of_ok (hS : clS S.length S = true) (ha : a.length ≤ 100) (top left many long : Nat) : m_part_of [pic a, .int top, .int left, .int many, .int long] S = .ok (pic (((a.drop top).take many).map fun r => (r.drop left).take long)) S := by
  refine ret_fn hS ?_ (cl_pic _ _)
  refine tuple_ok (lc_ok (src_tup (slice_ok (var_ok rfl) (part_ok (var_ok rfl)) (part_ok (bin_ok (var_ok rfl) (var_ok rfl) rfl)) (r := .tup (((a.drop top).take many).map fun r => .tup (I r))) ?_)) ?_ ?_)
  · show some (D.tup (cutD _ _ _)) = _
    rw [cutD_map, cut_nat]
  · simp; omega
  · rw [List.map_map]
    refine lc_map (f := fun (r : List Int) => .tup (I ((r.drop left).take long))) _ _ fun r hr => ⟨_, rfl, ?_⟩
    refine slice_ok (var_ok rfl) (part_ok (var_ok rfl)) (part_ok (bin_ok (var_ok rfl) (var_ok rfl) rfl)) ?_
    show some (D.tup (cutD _ _ _)) = _
    rw [cutD_map, cut_nat]
theorem above_ok (hS : clS S.length S = true) (ha : a.length ≤ 100) (hb : b.length ≤ 100) : m_above [pic a, pic b] S = .ok (pic (a ++ b)) S := by
  refine ret_fn hS (bin_ok (var_ok rfl) (var_ok rfl) ?_) (cl_pic _ _)
  rw [cat_tup (by simp; omega), ← List.map_append]
theorem beside_ok (hS : clS S.length S = true) (ha : a.length ≤ 100) (hw : ∀ r ∈ a, r.length ≤ 100) (hv : ∀ r ∈ b, r.length ≤ 100) : m_beside [pic a, pic b] S = .ok (pic ((a.zip b).map fun p => p.1 ++ p.2)) S := by
  refine ret_fn hS (tuple_ok (lc_ok (src_zipT (cons_ok (var_ok rfl) (one_ok (var_ok rfl)))) ?_ ?_)) (cl_pic _ _)
  · rw [zipD_length]; simp; omega
  · rw [zip_map, List.map_map]
    refine lc_map (f := fun (p : List Int × List Int) => .tup (I (p.1 ++ p.2))) _ _ fun p hp => ⟨_, rfl, ?_⟩
    have h1 := hw _ (List.of_mem_zip hp).1
    have h2 := hv _ (List.of_mem_zip hp).2
    refine bin_ok (var_ok rfl) (var_ok rfl) ?_
    rw [cat_tup (by simp; omega)]
    simp
theorem flat_ok (hS : clS S.length S = true) (many long : Nat) (g : Int) (h1 : many ≤ 100) (h2 : long ≤ 100) : m_flat_picture [.int many, .int long, .int g] S = .ok (pic (List.replicate many (List.replicate long g))) S := by
  refine ret_fn hS ?_ (cl_pic _ _)
  have m1 : ∀ S, dMul (.tup [.int g]) (.int long) S = some (.tup (I (List.replicate long g))) := fun S => by
    have : (if ((long : Int) ≤ 1000 ∧ -1000 ≤ (long : Int) ∧ ([.int g] : List D).length ≤ 1000) then some (D.tup (List.replicate (long : Int).toNat [.int g]).flatten) else none) = some (.tup (I (List.replicate long g))) := by
      rw [if_pos (by simp; omega), Int.toNat_natCast]
      simp
    exact this
  have m2 : ∀ S, dMul (.tup [.tup (I (List.replicate long g))]) (.int many) S = some (pic (List.replicate many (List.replicate long g))) := fun S => by
    have : (if ((many : Int) ≤ 1000 ∧ -1000 ≤ (many : Int) ∧ ([.tup (I (List.replicate long g))] : List D).length ≤ 1000) then some (D.tup (List.replicate (many : Int).toNat [.tup (I (List.replicate long g))]).flatten) else none) = some (pic (List.replicate many (List.replicate long g))) := by
      rw [if_pos (by simp; omega), Int.toNat_natCast]
      simp
    exact this
  exact bin_ok (tup_ok (one_ok (bin_ok (tup_ok (one_ok (var_ok rfl)) (a1 (Nat.le_trans (Nat.le_refl 1) (by decide)))) (var_ok rfl) (m1 _))) (a1 (Nat.le_trans (Nat.le_refl 1) (by decide)))) (var_ok rfl) (m2 _)
end
end K08


set_option Elab.async false
set_option linter.all false
set_option maxRecDepth 100000
set_option maxHeartbeats 4000000
namespace K08
open PySem PySem.Spec PyProof.Rows L2 M
section
variable [Tabs]
variable {S : Store} {a b : List (List Int)}
/-- pictures of the same sides -/
structure Same2 (h w : Nat) (a b : List (List Int)) : Prop where
  h0 : 0 < h
  hb : h ≤ 40
  wb : w ≤ 40
  ha : a.length = h
  hb2 : b.length = h
  wa : ∀ r ∈ a, r.length = w
  wb2 : ∀ r ∈ b, r.length = w
theorem Same2.of {h w : Nat} (h0 : 0 < h) (hb : h ≤ 40) (wb : w ≤ 40) (pa : IsPic h w a) (pb : IsPic h w b) : Same2 h w a b := ⟨h0, hb, wb, pa.high, pb.high, pa.wide, pb.wide⟩
theorem alike_ok {h w : Nat} (hS : clS S.length S = true) (s : Same2 h w a b) : m_alike_in_sides [pic a, pic b] S = .ok (.bl true) S := by
  obtain ⟨h0, _, _, ha, hb, wa, wb⟩ := s
  cases a with
  | nil => simp at ha; omega
  | cons ra a =>
    cases b with
    | nil => simp at hb; omega
    | cons rb b =>
      refine ret_fn hS ?_ rfl
      have e1 : ra.length = rb.length := (wa ra (by simp)).trans (wb rb (by simp)).symm
      have e2 : (a.length : Int) + 1 = (b.length : Int) + 1 := by simp at ha hb; omega
      rw [x_mAndV, bin_ok (call_ok (one_ok (var_ok rfl)) len_tup) (call_ok (one_ok (var_ok rfl)) len_tup) x_eqI]
      simp only [List.length_map, List.length_cons, Res.bind_ok]
      have e3 : ((a.length + 1 : Nat) : Int) = ((b.length + 1 : Nat) : Int) := by omega
      rw [decide_eq_true e3, if_pos rfl]
      refine bin_ok (call_ok (one_ok (bin_ok (var_ok rfl) rfl (ix0 _ _ _))) len_tup) (call_ok (one_ok (bin_ok (var_ok rfl) rfl (ix0 _ _ _))) len_tup) ?_
      rw [x_eqI]
      simp [e1]
def diffs (a b : List (List Int)) : List Int := ((a.zip b).map fun p => (p.1.zip p.2).map fun q => q.1 - q.2).flatten
theorem diff_loop (xs0 : List D) (o1 o2 : D) : ∀ (ps : List (List Int × List Int)), (∀ p ∈ ps, p.1.length ≤ 40) → ∀ (acc : List Int) (e3 e4 e5 e6 : Option D), acc.length + 40 * ps.length ≤ 100000 →
    ∃ e', e'[2]? = some (some (D.loc S.length)) ∧ M.forM ⟨xs0, []⟩ (gTup 2 (gCons (gN 3) (gCons (gN 4) gNil))) l_differences_2 (ps.map fun p => .tup [.tup (I p.1), .tup (I p.2)]) [some o1, some o2, some (.loc S.length), e3, e4, e5, e6] (S ++ [.lst (I acc)]) =
      some (.nx, e', S ++ [.lst (I (acc ++ (ps.map fun p => (p.1.zip p.2).map fun q => q.1 - q.2).flatten))])
  | [], _, acc, e3, e4, e5, e6, _ => ⟨[some o1, some o2, some (.loc S.length), e3, e4, e5, e6], rfl, by rw [List.map_nil, for_nil]; simp⟩
  | p :: ps, hp, acc, e3, e4, e5, e6, hz => by
    have hl := hp p (by simp)
    simp only [List.length_cons] at hz
    have hd : ((p.1.zip p.2).map fun q => q.1 - q.2).length ≤ 40 := by simp; omega
    obtain ⟨e', h1, h2⟩ := diff_loop xs0 o1 o2 ps (fun q hq => hp q (List.mem_cons_of_mem _ hq)) (acc ++ (p.1.zip p.2).map fun q => q.1 - q.2) (some (.tup (I p.1))) (some (.tup (I p.2))) e5 e6 (by simp only [List.length_append]; omega)
    refine ⟨e', h1, ?_⟩
    have hb : l_differences_2 [some o1, some o2, some (.loc S.length), some (.tup (I p.1)), some (.tup (I p.2)), e5, e6] (S ++ [.lst (I acc)]) =
        some (.nx, [some o1, some o2, some (.loc S.length), some (.tup (I p.1)), some (.tup (I p.2)), e5, e6], S ++ [.lst (I (acc ++ (p.1.zip p.2).map fun q => q.1 - q.2))]) := by
      refine expr_ok (d := .non) (meth_ok (var_ok rfl) rcv_last (one_ok (asV_ok (ds := I ((p.1.zip p.2).map fun q => q.1 - q.2)) (lc_ok (src_zipT (cons_ok (var_ok rfl) (one_ok (var_ok rfl)))) ?_ ?_))) ((ext_last ?_).trans ?_))
      · rw [zipD_length]; simp; omega
      · rw [zip_map D.int D.int]
        show lcM _ _ _ _ _ _ _ = Res.ok (((p.1.zip p.2).map fun q => q.1 - q.2).map D.int) _
        rw [List.map_map]
        exact lc_map (f := fun (q : Int × Int) => .int (q.1 - q.2)) _ _ fun q hq => ⟨_, rfl, bin_ok (var_ok rfl) (var_ok rfl) rfl⟩
      · simp only [I, List.length_map] at hd ⊢; omega
      · rw [I, I, I, List.map_append]
    rw [List.map_cons, for_cons rfl hb, h2]
    simp
theorem diffs_len {h w : Nat} (s : Same2 h w a b) : (diffs a b).length = h * w := by
  obtain ⟨h0, _, _, ha, hb, wa, wb⟩ := s
  clear h0
  induction a generalizing h b with
  | nil => simp at ha; subst ha; simp [diffs]
  | cons ra a ih =>
    cases b with
    | nil => simp at ha hb; omega
    | cons rb b =>
      cases h with
      | zero => simp at ha
      | succ h =>
        have := ih (h := h) (b := b) (by omega) (by simpa using ha) (by simpa using hb) (fun r hr => wa r (by simp [hr])) (fun r hr => wb r (by simp [hr]))
        simp only [diffs, List.zip_cons_cons, List.map_cons, List.flatten_cons, List.length_append, List.length_map, List.length_zip] at this ⊢
        rw [this, wa ra (by simp), wb rb (by simp), Nat.min_self, Nat.succ_mul]; omega
theorem diff_ok {h w : Nat} (hS : clS S.length S = true) (s : Same2 h w a b) : m_differences [pic a, pic b] S = .ok (.lst (I (diffs a b))) S := by
  have hl : ((a.zip b)).length ≤ 40 := by have := s.ha; have := s.hb; simp; omega
  obtain ⟨e', h1, h2⟩ := diff_loop (S := S) (zipD (a.map fun r => .tup (I r)) (b.map fun r => .tup (I r))) (pic a) (pic b) (a.zip b) (fun p hp => by
    have := s.wa _ (List.of_mem_zip hp).1; have := s.wb; omega) [] none none none none (by simp only [List.length_nil]; omega)
  refine (retV_ok (d := .loc S.length) (d' := .lst (I (diffs a b))) (S' := S ++ [.lst (I (diffs a b))]) (run_rt (e' := e') ?_) (by simpa using hS) ?_).trans (by simp)
  · refine (seq_nx (if_skip (S1 := S) ?_)).trans ?_
    · rw [x_mNot, x_mTru, callF_ok (cons_ok (var_ok rfl) (one_ok (var_ok rfl))) (alike_ok hS s)]
      rfl
    · refine (seq_nx (set_ok (asL_ok (lst_ok rfl (a1 (by decide)))))).trans ?_
      refine (seq_nx (for_ok (src_zipT (cons_ok (var_ok rfl) (one_ok (var_ok rfl)))) ?_)).trans (ret_ok (var_ok h1))
      rw [zip_map (fun r => D.tup (I r)) (fun r => D.tup (I r))] at h2 ⊢
      simpa [diffs] using h2
  · simp [fz, cls_I]
end
end K08


set_option Elab.async false
set_option linter.all false
set_option maxRecDepth 100000
set_option maxHeartbeats 4000000
namespace K08
open PySem PySem.Spec PyProof.Rows L2 M
section
variable [Tabs]
variable {S : Store} {a b : List (List Int)}
def Greys (a : List (List Int)) : Prop := ∀ r ∈ a, ∀ x ∈ r, 0 ≤ x ∧ x ≤ 15
def ab (x : Int) : Int := if x < 0 then -x else x
def lossI (l : List Int) : Int := (l.map fun x => x * x).sum
def gapI (l : List Int) : Int := mx (l.map ab)
theorem diffs_in (ga : Greys a) (gb : Greys b) : ∀ x ∈ diffs a b, -15 ≤ x ∧ x ≤ 15 := by
  intro x hx
  obtain ⟨l, hl, hx⟩ := List.mem_flatten.mp hx
  obtain ⟨p, hp, rfl⟩ := List.mem_map.mp hl
  obtain ⟨q, hq, rfl⟩ := List.mem_map.mp hx
  have h1 := ga _ (List.of_mem_zip hp).1 _ (List.of_mem_zip hq).1
  have h2 := gb _ (List.of_mem_zip hp).2 _ (List.of_mem_zip hq).2
  omega
theorem sq_ok {l : List Int} (hl : ∀ x ∈ l, -15 ≤ x ∧ x ≤ 15) (e : M.Env) (i : Nat) (hi : i < e.length) : lcM ⟨I l, []⟩ (gN i) mYes (mBin dMul (mVar i) (mVar i)) e (I l) S = .ok (I (l.map fun x => x * x)) S := by
  rw [I, I, List.map_map]
  refine lc_map (f := fun (x : Int) => .int (x * x)) D.int l fun x hx => ⟨_, rfl, ?_⟩
  have := hl x hx
  have hv : (e.set i (some (.int x)))[i]? = some (some (.int x)) := by simp [hi]
  exact bin_ok (var_ok hv) (var_ok hv) (x_mul (.inl (by omega)))
theorem loss_ok {h w : Nat} (hS : clS S.length S = true) (s : Same2 h w a b) (ga : Greys a) (gb : Greys b) : m_loss [pic a, pic b] S = .ok (.int (lossI (diffs a b))) S := by
  refine ret_fn hS (call_ok (one_ok (asV_ok (ds := I ((diffs a b).map fun x => x * x)) (lc_ok (src_lst (callF_ok (cons_ok (var_ok rfl) (one_ok (var_ok rfl))) (diff_ok hS s))) ?_ (sq_ok (diffs_in ga gb) _ 2 ?_)))) (sum_I _)) rfl
  · rw [I, List.length_map, diffs_len s]
    have := Nat.mul_le_mul s.hb s.wb
    omega
  · exact Nat.lt_of_lt_of_eq (by decide) (by rfl : 3 = _)
theorem gap_ok {h w : Nat} (hS : clS S.length S = true) (s : Same2 h w a b) (hw : 0 < w) : m_gap [pic a, pic b] S = .ok (.int (gapI (diffs a b))) S := by
  have hn : (diffs a b).map ab ≠ [] := by
    intro h0
    have h1 := congrArg List.length h0
    rw [List.length_map, diffs_len s] at h1
    have := Nat.mul_pos s.h0 hw
    simp at h1; omega
  refine ret_fn hS (call_ok (one_ok (asV_ok (ds := I ((diffs a b).map ab)) (lc_ok (src_lst (callF_ok (cons_ok (var_ok rfl) (one_ok (var_ok rfl))) (diff_ok hS s))) ?_ ?_))) (max_I _ hn)) rfl
  · rw [I, List.length_map, diffs_len s]
    have := Nat.mul_le_mul s.hb s.wb
    omega
  · rw [I, I, List.map_map]
    exact lc_map (f := fun (x : Int) => .int (ab x)) D.int _ fun x hx => ⟨_, rfl, call_ok (one_ok (var_ok rfl)) rfl⟩
theorem is_pic_ok {h w : Nat} (hS : clS S.length S = true) (h0 : 0 < h) (h1 : h ≤ 32) (w0 : 0 < w) (w1 : w ≤ 32) (pa : IsPic h w a) : m_is_picture [pic a] S = .ok (.bl true) S := by
  refine retV_id (run_rt (e' := [some (pic a), none, none]) ?_) hS rfl
  have hb : decide ((1 : Int) ≤ (h : Int)) = true := decide_eq_true (by omega)
  have hb2 : decide ((h : Int) ≤ 32) = true := decide_eq_true (by omega)
  have wb : decide ((1 : Int) ≤ (w : Int)) = true := decide_eq_true (by omega)
  have wb2 : decide ((w : Int) ≤ 32) = true := decide_eq_true (by omega)
  have hl : (a.map fun r => D.tup (I r)).length = h := by rw [List.length_map, pa.high]
  have c1 : (mOr (mNot (mTru (mCall dIsInst (mCons (mVar 0) (mCons (mC (.ty "tuple")) mNil))))) (mNot (mB (mChain dLe dLe (mC (.int 1)) (mCall dLen (mCons (mVar 0) mNil)) (mC (.int 32)))))) [some (pic a), none, none] S = .ok false S := by
    simp [dIsInst, tyName, isT, dLen, seqOf, hl, hb, hb2, pa.high, h1]
  have c2 : (mNot (mTru (mAll false (mSrc (mVar 0)) (gN 1) e_is_picture_1 [1]))) [some (pic a), none, none] S = .ok false S := by
    have : mAll false (mSrc (mVar 0)) (gN 1) e_is_picture_1 [1] [some (pic a), none, none] S = .ok (.bl true) S := by
      refine all_ok (src_tup (var_ok rfl)) (all_map (fun r => D.tup (I r)) _ fun r hr => ⟨_, rfl, ?_⟩)
      have := pa.wide r hr
      rw [e_is_picture_1, x_mAndV, call_ok (cons_ok (var_ok (d := .tup (I r)) rfl) (one_ok rfl)) (r := .bl true) rfl, Res.bind_ok]
      show (mChain _ _ _ _ _) _ _ = _
      rw [x_mChain, x_mC, Res.bind_ok, call_ok (one_ok (var_ok (d := .tup (I r)) rfl)) len_tup, Res.bind_ok, x_le]
      have h3 : ((I r).length : Int) = (w : Int) := by simp [this]
      rw [h3, wb, Res.of_some, Res.bind_ok]
      show Res.of (dLe (.int (w : Int)) (.int 32) S) S = _
      rw [x_le, wb2]
      rfl
    rw [x_mNot, x_mTru, this]
    rfl
  refine (seq_nx (if_skip c1)).trans ((seq_nx (if_skip c2)).trans (ret_ok ?_))
  refine all_ok (src_tup (var_ok rfl)) (all_map (fun r => D.tup (I r)) _ fun r hr => ⟨_, rfl, ?_⟩)
  have hr1 := pa.wide r hr
  cases a with
  | nil => simp at hr
  | cons ra a =>
    have hr2 := pa.wide ra (by simp)
    rw [e_is_picture_3, x_mAndV, bin_ok (call_ok (one_ok (var_ok rfl)) len_tup) (call_ok (one_ok (bin_ok (var_ok rfl) rfl (ix0 _ _ _))) len_tup) x_eqI, Res.bind_ok]
    have : decide (((I r).length : Int) = ((I ra).length : Int)) = true := decide_eq_true (by simp [hr1, hr2])
    rw [this]
    refine all_ok (src_tup (var_ok rfl)) (all_map D.int _ fun x hx => ⟨_, rfl, ?_⟩)
    refine callF_ok (one_ok (var_ok rfl)) ((grey_ok hS).trans ?_)
    have := pa.grey r hr x hx
    simp [this]
end
end K08


set_option Elab.async false
set_option linter.all false
set_option maxRecDepth 100000
set_option maxHeartbeats 4000000
namespace K08
open PySem PySem.Spec PyProof.Rows L2 M
section
variable [Tabs]
variable {S : Store} {a b : List (List Int)}
theorem hJoin_nil (ls : List (List Nat)) (h : (ls.map List.length).sum ≤ 16777216) : hJoin (mk []) [.lst (ls.map fun l => .str (mk l))] S = some (.str (mk ls.flatten)) := by
  have h1 : strsOf (ls.map fun l => D.str (mk l)) = some (ls.map mk) := by
    have := strs_S (ls.map mk)
    rwa [List.map_map] at this
  show ((some (ls.map fun l => D.str (mk l))).bind strsOf).bind _ = _
  rw [Option.bind_some, h1, Option.bind_some]
  have h2 : (((ls.map mk).map (·.length)).sum + (ls.map mk).length * (mk []).length) ≤ 16777216 := by
    rw [List.map_map]
    have : (ls.map ((fun x => x.length) ∘ mk)) = ls.map List.length := List.map_congr_left fun l _ => mk_len l
    rw [this]
    simpa [mk_len] using h
  rw [if_pos h2, M.join_nil, List.map_map]
  have : (ls.map (tl ∘ mk)) = ls := by
    conv => rhs; rw [← List.map_id ls]
    exact List.map_congr_left fun l _ => rfl
  rw [this]
def sg : List Nat := [48, 49, 50, 51, 52, 53, 54, 55, 56, 57, 97, 98, 99, 100, 101, 102]
def dg (x : Int) : Nat := sg.getD x.toNat 0
def ln (r : List Int) : List Nat := r.map dg ++ [10]
def txt (a : List (List Int)) : List Nat := (a.map ln).flatten
theorem e_sg : (("0123456789abcdef" : PySem.Str)) = mk sg := by decide +kernel
theorem e_nl : (("\n" : PySem.Str)) = mk [10] := by decide +kernel
theorem e_no : (("" : PySem.Str)) = mk [] := by decide +kernel
theorem sg_at {n : Nat} (h : n < 16) : dIx (.str (mk sg)) (.int n) S = some (.str (mk [sg.getD n 0])) := by
  have : n = 0 ∨ n = 1 ∨ n = 2 ∨ n = 3 ∨ n = 4 ∨ n = 5 ∨ n = 6 ∨ n = 7 ∨ n = 8 ∨ n = 9 ∨ n = 10 ∨ n = 11 ∨ n = 12 ∨ n = 13 ∨ n = 14 ∨ n = 15 := by omega
  have hz : (mk sg).length ≤ sizeLine := by rw [mk_len]; exact sz (by decide)
  show (if (mk sg).length ≤ sizeLine then (atI (tl (mk sg)) (n : Int)).map fun c => D.str ⟨#[c]⟩ else none) = _
  rw [if_pos hz]
  rcases this with rfl | rfl | rfl | rfl | rfl | rfl | rfl | rfl | rfl | rfl | rfl | rfl | rfl | rfl | rfl | rfl <;> rfl
theorem sg_ix {x : Int} (h : 0 ≤ x ∧ x ≤ 15) : dIx (.str (mk sg)) (.int x) S = some (.str (mk [dg x])) := by
  obtain ⟨n, rfl⟩ := Int.eq_ofNat_of_zero_le h.1
  exact sg_at (by omega)
theorem dg_mem {x : Int} (h : 0 ≤ x ∧ x ≤ 15) : dg x ∈ sg ∧ dg x ≠ 10 := by
  obtain ⟨n, rfl⟩ := Int.eq_ofNat_of_zero_le h.1
  have : ∀ n < 16, sg.getD n 0 ∈ sg ∧ sg.getD n 0 ≠ 10 := by decide
  exact this n (by omega)
theorem sg_in {x : Int} (h : 0 ≤ x ∧ x ≤ 15) : dIn (.str (mk [dg x])) (.str (mk sg)) S = some (.bl true) := by
  show some (D.bl (!(Builtin.Str.occurrences (mk sg) (mk [dg x]) 0 (mk sg).length 1).isEmpty)) = _
  have : (!(Builtin.Str.occurrences (mk sg) (mk [dg x]) 0 (mk sg).length 1).isEmpty) = decide (dg x ∈ sg) := SX.in_one sg (dg x)
  rw [this, decide_eq_true (dg_mem h).1]
theorem sg_index {x : Int} (h : 0 ≤ x ∧ x ≤ 15) : hIndex (mk sg) [.str (mk [dg x])] S = some (.int x) := by
  obtain ⟨n, rfl⟩ := Int.eq_ofNat_of_zero_le h.1
  have : ∀ n < 16, Builtin.Str.occurrences (mk sg) (mk [sg.getD n 0]) 0 (mk sg).length 1 = [n] := by decide +kernel
  have := this n (by omega)
  unfold hIndex
  show (match Builtin.Str.occurrences (mk sg) (mk [sg.getD n 0]) 0 (mk sg).length 1 with | i :: _ => some (D.int i) | [] => none) = _
  rw [this]
theorem txt_app : txt (a ++ b) = txt a ++ txt b := by simp [txt]
theorem str_ok {T : String} {e : M.Env} {x : PySem.Str} {m : MA} {ma : ME} {h : PySem.Str → List D → Store → Option D} {ds : List D} {r : D} (hT : (T == "str") = true) (ha : ma e S = .ok (.str x) S) (hm : m e S = .ok ds S) (hh : h x ds S = some r) : mMeth T (gStr h) ma m e S = .ok r S := by
  refine meth_ok ha ?_ hm (r := r) ?_
  · exact hT
  · show (h x ds S).map _ = _
    rw [hh]
    rfl
theorem ln_sum {w : Nat} : ∀ (a : List (List Int)), (∀ r ∈ a, r.length ≤ w) → (txt a).length ≤ a.length * (w + 1)
  | [], _ => by simp [txt]
  | r :: a, h => by
    have ih := ln_sum a fun r hr => h r (List.mem_cons_of_mem _ hr)
    have h1 := h r (by simp)
    simp only [txt, List.map_cons, List.flatten_cons, List.length_append, List.length_cons, ln, List.length_map, List.length_nil, Nat.succ_mul] at ih ⊢
    omega
theorem write_ok (hS : clS S.length S = true) (g : Greys a) (ha : a.length ≤ 40) (hw : ∀ r ∈ a, r.length ≤ 40) : m_write [pic a] S = .ok (.str (mk (txt a))) S := by
  have hrow : ∀ r ∈ a, ∀ (e : M.Env), e.length = 3 → e[2]? = some (some (.tup (I r))) → e_write_2 e S = .ok (.str (mk (ln r))) S := by
    intro r hr e he h2
    have hg := g r hr
    have hl := hw r hr
    have hsum : ((r.map fun x => [dg x]).map List.length).sum ≤ 16777216 := by
      rw [List.map_map]
      have : (r.map (List.length ∘ fun x => [dg x])).sum = r.length := by
        clear hg hl hr h2
        induction r with
        | nil => rfl
        | cons x r ih => simp [ih]; omega
      omega
    have e1 := hJoin_nil (S := S) (r.map fun x => [dg x]) hsum
    have e2 : (r.map fun x => [dg x]).flatten = r.map dg := by
      clear hg hl hr h2 hsum e1
      induction r with
      | nil => rfl
      | cons x r ih => simp [ih]
    rw [e2, List.map_map] at e1
    refine bin_ok (str_ok rfl (e := e) (x := mk []) (by rw [x_mC, e_no]) (one_ok (asV_ok (ds := r.map ((fun l => D.str (mk l)) ∘ fun x => [dg x])) (lc_ok (src_tup (var_ok h2)) ?_ ?_))) e1) (v := .str (mk [10])) (by rw [x_mC, e_nl]) ?_
    · simp; omega
    · refine lc_map (f := fun x => D.str (mk [dg x])) D.int r fun x hx => ⟨_, rfl, ?_⟩
      refine bin_ok (u := .str (mk sg)) (by rw [x_mC, e_sg]) (var_ok (d := .int x) ?_) (sg_ix (hg x hx))
      simp [wipeE, he]
    · show (if (mk (r.map dg)).length + (mk [10]).length ≤ sizeLine then _ else none) = _
      rw [if_pos (by rw [mk_len, mk_len]; exact sz (by simp; omega)), mk_app]
      rfl
  have hsum : ((a.map ln).map List.length).sum ≤ 16777216 := by
    have := ln_sum a hw
    rw [txt, List.length_flatten] at this
    omega
  have e1 := hJoin_nil (S := S) (a.map ln) hsum
  rw [List.map_map] at e1
  refine ret_fn hS (str_ok rfl (x := mk []) (by rw [x_mC, e_no]) (one_ok (asV_ok (ds := a.map ((fun l => D.str (mk l)) ∘ ln)) (lc_ok (src_tup (var_ok rfl)) ?_ ?_))) e1) rfl
  · simp; omega
  · exact lc_map (f := fun r => D.str (mk (ln r))) (fun r => D.tup (I r)) a fun r hr => ⟨_, rfl, hrow r hr _ rfl rfl⟩
end
end K08


set_option Elab.async false
set_option linter.all false
set_option maxRecDepth 100000
set_option maxHeartbeats 4000000
namespace K08
open PySem PySem.Spec PyProof.Rows L2 M
section
variable [Tabs]
variable {S : Store} {a b : List (List Int)}
mutual
theorem cl_mono {n m : Nat} (h : n ≤ m) : ∀ d : D, cl n d = true → cl m d = true
  | .tup xs, e => by simp only [cl] at e ⊢; exact cls_mono h xs e
  | .lst xs, e => by simp only [cl] at e ⊢; exact cls_mono h xs e
  | .fro xs, e => by simp only [cl] at e ⊢; exact cls_mono h xs e
  | .loc k, e => by simp only [cl, decide_eq_true_eq] at e ⊢; omega
  | .non, _ => rfl
  | .bl _, _ => rfl
  | .int _, _ => rfl
  | .str _, _ => rfl
  | .ty _, _ => rfl
  | .ref _, _ => rfl
theorem cls_mono {n m : Nat} (h : n ≤ m) : ∀ ds : List D, cls n ds = true → cls m ds = true
  | [], _ => rfl
  | d :: ds, e => by
    simp only [cls, Bool.and_eq_true] at e ⊢
    exact ⟨cl_mono h d e.1, cls_mono h ds e.2⟩
end
theorem clS_push {ds : List D} (hS : clS S.length S = true) (hd : cls (S.length + 1) ds = true) : clS (S ++ [OB.lst ds]).length (S ++ [OB.lst ds]) = true := by
  rw [List.length_append, List.length_singleton]
  unfold clS at hS ⊢
  rw [List.all_append, Bool.and_eq_true]
  refine ⟨?_, by simpa [clO] using hd⟩
  rw [List.all_eq_true] at hS ⊢
  intro o ho
  have := hS o ho
  cases o with
  | lst xs => exact cls_mono (Nat.le_succ _) xs this
theorem items_mk (r : List Int) : strItems (mk (r.map dg)) = r.map fun x => D.str (mk [dg x]) := by
  show ((r.map dg).map fun c => D.str (mk [c])) = _
  rw [List.map_map]
  rfl
theorem read_loop (xs0 : List D) (o0 : D) : ∀ (ls : List (List Int)), (∀ r ∈ ls, r.length ≤ 40) → Greys ls → ∀ (acc : List (List Int)) (e2 e3 e4 : Option D), acc.length + ls.length ≤ 10000 →
    ∃ e2' e3', M.forM ⟨xs0, []⟩ (gN 2) l_read_3 (ls.map fun r => .str (mk (r.map dg))) [some o0, some (.loc S.length), e2, e3, e4] (S ++ [.lst (acc.map fun r => .tup (I r))]) =
      some (.nx, [some o0, some (.loc S.length), e2', e3', e4], S ++ [.lst ((acc ++ ls).map fun r => .tup (I r))])
  | [], _, _, acc, e2, e3, e4, _ => ⟨e2, e3, by rw [List.map_nil, for_nil]; simp⟩
  | r :: ls, hw, hg, acc, e2, e3, e4, hz => by
    simp only [List.length_cons] at hz
    obtain ⟨e2', e3', h2⟩ := read_loop xs0 o0 ls (fun q hq => hw q (List.mem_cons_of_mem _ hq)) (fun q hq => hg q (List.mem_cons_of_mem _ hq)) (acc ++ [r]) (some (.str (mk (r.map dg)))) e3 e4 (by simp only [List.length_append, List.length_cons, List.length_nil]; omega)
    refine ⟨e2', e3', ?_⟩
    have hr := hg r (by simp)
    have hl := hw r (by simp)
    have hall : mAll false (mSrc (mVar 2)) (gN 3) e_read_1 [3] [some o0, some (.loc S.length), some (.str (mk (r.map dg))), e3, e4] (S ++ [.lst (acc.map fun r => .tup (I r))]) = .ok (.bl true) (S ++ [.lst (acc.map fun r => .tup (I r))]) := by
      refine all_ok (src_str (var_ok rfl)) ?_
      rw [items_mk]
      refine all_map (fun x => D.str (mk [dg x])) _ fun x hx => ⟨_, rfl, ?_⟩
      exact bin_ok (var_ok rfl) (v := .str (mk sg)) (by rw [x_mC, e_sg]) (sg_in (hr x hx))
    have hb : l_read_3 [some o0, some (.loc S.length), some (.str (mk (r.map dg))), e3, e4] (S ++ [.lst (acc.map fun r => .tup (I r))]) =
        some (.nx, [some o0, some (.loc S.length), some (.str (mk (r.map dg))), e3, e4], S ++ [.lst ((acc ++ [r]).map fun r => .tup (I r))]) := by
      refine (seq_nx (if_skip (S1 := S ++ [.lst (acc.map fun r => .tup (I r))]) ?_)).trans ?_
      · rw [x_mNot, x_mTru, hall]
        rfl
      · refine expr_ok (d := .non) (meth_ok (var_ok rfl) rcv_last (one_ok (tuple_ok (ys := I r) (lc_ok (src_str (var_ok rfl)) ?_ ?_))) ((app_last (y := .tup (I r)) ?_).trans ?_))
        · rw [items_mk]; simp; omega
        · rw [items_mk]
          refine lc_map (f := D.int) (fun x => D.str (mk [dg x])) _ fun x hx => ⟨_, rfl, ?_⟩
          exact str_ok rfl (x := mk sg) (by rw [x_mC, e_sg]) (one_ok (var_ok rfl)) (sg_index (hr x hx))
        · simp only [List.length_map]; omega
        · rw [List.map_append]; rfl
    rw [List.map_cons, for_cons rfl hb, h2]
    simp
theorem read_ok {h w : Nat} (hS : clS S.length S = true) (h0 : 0 < h) (h1 : h ≤ 32) (w0 : 0 < w) (w1 : w ≤ 32) (pa : IsPic h w a) : m_read [.str (mk (txt a))] S = .ok (pic a) S := by
  have hlen := ln_sum a fun r hr => Nat.le_of_eq (pa.wide r hr)
  have hb1 : a.length * (w + 1) ≤ 32 * 33 := by rw [pa.high]; exact Nat.mul_le_mul h1 (by omega)
  have hz : (mk (txt a)).length ≤ sizeLine := by rw [mk_len]; exact sz (by omega)
  have hane : a ≠ [] := by intro e; have := pa.high; rw [e] at this; simp at this; omega
  have hne : txt a ≠ [] := by
    cases a with
    | nil => exact absurd rfl hane
    | cons r a => simp [txt, ln]
  have hlast : txt a = (txt a).dropLast ++ [10] := by
    have h2 := List.dropLast_concat_getLast hne
    have : (txt a).getLast hne = 10 := by
      clear h2 hz hlen hb1 pa
      induction a with
      | nil => exact absurd rfl hane
      | cons r a ih =>
        cases a with
        | nil => simp [txt, ln]
        | cons q a =>
          have hq : txt (q :: a) ≠ [] := by simp [txt, ln]
          have e : txt (r :: q :: a) = ln r ++ txt (q :: a) := by simp [txt]
          simp only [e]
          rw [List.getLast_append_of_ne_nil _ hq]
          exact ih (by simp) hq
    rw [this] at h2
    exact h2.symm
  have hdl : (txt a).dropLast ≠ [] := by
    intro e
    cases a with
    | nil => exact absurd rfl hane
    | cons r a =>
      have h3 := pa.wide r (by simp)
      have h4 : (txt (r :: a)).length = r.length + 1 + (txt a).length := by simp [txt, ln]; omega
      have h5 := congrArg List.length e
      rw [List.length_dropLast] at h5
      simp only [List.length_nil] at h5
      omega
  have hlines : a.map ln = (a.map fun r => r.map dg).map (· ++ [10]) := by rw [List.map_map]; rfl
  have hsp : Txt.split (mk (txt a).dropLast) (mk [10]) = (a.map fun r => r.map dg).map mk := by
    rw [split_L 10 (by decide) _ hdl]
    congr 1
    rw [txt, hlines]
    refine splitL_lines 10 _ (by simpa using hane) ?_
    intro l hl
    obtain ⟨r, hr, rfl⟩ := List.mem_map.mp hl
    intro hm
    obtain ⟨x, hx, e⟩ := List.mem_map.mp hm
    exact (dg_mem (pa.grey r hr x hx)).2 e
  have s1 : dSlice (.str (mk (txt a))) (some (-1)) none S = some (.str (mk [10])) := by
    show (if (mk (txt a)).length ≤ sizeLine then some (D.str (Txt.slice (mk (txt a)) (some (-1)) none)) else none) = _
    rw [if_pos hz]
    congr 2
    rw [hlast]
    exact SX.last_snoc _ _
  have s2 : dSlice (.str (mk (txt a))) none (some (-1)) S = some (.str (mk (txt a).dropLast)) := by
    show (if (mk (txt a)).length ≤ sizeLine then some (D.str (Txt.slice (mk (txt a)) none (some (-1)))) else none) = _
    rw [if_pos hz]
    congr 2
    conv => lhs; rw [hlast]
    exact SX.butlast_snoc _ _
  have hneg : ∀ (e : M.Env) (S : Store), mPart (mUn dNeg (mC (.int 1))) e S = .ok (some (-1)) S := fun e S => rfl
  obtain ⟨e2', e3', hloop⟩ := read_loop (S := S) (a.map fun r => .str (mk (r.map dg))) (.str (mk (txt a))) a (fun r hr => by have := pa.wide r hr; omega) pa.grey [] none none none (by have := pa.high; simp only [List.length_nil]; omega)
  rw [List.nil_append] at hloop
  have hS2 : clS (S ++ [OB.lst (a.map fun r => .tup (I r))]).length (S ++ [OB.lst (a.map fun r => .tup (I r))]) = true := clS_push hS (cls_P _ _)
  refine (retV_ok (d := pic a) (d' := pic a) (S' := S ++ [.lst (a.map fun r => .tup (I r))]) (run_rt (e' := [some (.str (mk (txt a))), some (.loc S.length), e2', e3', some (pic a)]) ?_) (by simpa using hS) ?_).trans (by simp)
  · refine (seq_nx (if_skip (S1 := S) ?_)).trans ?_
    · rw [x_mOr, x_mNot, x_mTru, call_ok (cons_ok (var_ok rfl) (one_ok rfl)) (r := .bl true) rfl, Res.bind_ok]
      show ((mB _) _ S) = _
      rw [b_ok (c := false) (bin_ok (slice_ok (var_ok rfl) (hneg _ _) rfl s1) (v := .str (mk [10])) (by rw [x_mC, e_nl]) ?_)]
      rw [x_neStr]
      simp
    refine (seq_nx (set_ok (asL_ok (lst_ok rfl (a1 (by decide)))))).trans ?_
    refine (seq_nx (for_ok (S1 := S ++ [.lst []]) (xs := a.map fun r => .str (mk (r.map dg))) ?_ hloop)).trans ?_
    · refine src_lst (str_ok rfl (x := mk (txt a).dropLast) ?_ (one_ok (d := .str (mk [10])) (by rw [x_mC, e_nl])) ?_)
      · exact slice_ok (var_ok rfl) rfl (hneg _ _) s2
      · show (if _ then some (D.lst ((Txt.split (mk (txt a).dropLast) (mk [10])).map D.str)) else none) = _
        rw [if_pos ?_, hsp]
        · simp only [List.map_map]
          rfl
        · refine ⟨by rw [mk_len]; rfl, ?_⟩
          rw [mk_len, List.length_dropLast]
          exact sz (by omega)
    · refine (seq_nx (set_ok (call_ok (one_ok (var_ok rfl)) (r := pic a) ?_))).trans ?_
      · simp [dTuple, seqOf, lstOf]
      · refine (seq_nx (if_skip (S1 := S ++ [.lst (a.map fun r => .tup (I r))]) ?_)).trans (ret_ok (var_ok rfl))
        rw [x_mNot, x_mTru, callF_ok (one_ok (var_ok rfl)) (is_pic_ok hS2 h0 h1 w0 w1 pa)]
        rfl
  · show (if cl S.length (pic a) then _ else none) = _
    rw [cl_pic]
    rfl
end
end K08


set_option Elab.async false
set_option linter.all false
set_option maxRecDepth 100000
set_option maxHeartbeats 4000000
namespace K08
open PySem PySem.Spec PyProof.Rows L2 M
section
variable [Tabs]
theorem for_ex {xs : List D} {g : MG} {b : MS} (Inv : Nat → M.Env → Store → Prop) : ∀ (ds : List D) (k : Nat) (e : M.Env) (S : Store), Inv k e S →
    (∀ d ∈ ds, ∀ k' e S, k' < k + ds.length → Inv k' e S → ∃ e1 e2 S2, g d e S = some e1 ∧ b e1 S = some (.nx, e2, S2) ∧ Inv (k' + 1) e2 S2) → ∃ e' S', Inv (k + ds.length) e' S' ∧ M.forM ⟨xs, []⟩ g b ds e S = some (.nx, e', S')
  | [], k, e, S, h, _ => ⟨e, S, h, for_nil⟩
  | d :: ds, k, e, S, h, hs => by
    obtain ⟨e1, e2, S2, h1, h2, h3⟩ := hs d (by simp) k e S (by simp) h
    obtain ⟨e', S', h4, h5⟩ := for_ex Inv ds (k + 1) e2 S2 h3 fun d hd k' e S hk => hs d (List.mem_cons_of_mem _ hd) k' e S (by simp only [List.length_cons]; omega)
    refine ⟨e', S', ?_, (for_cons h1 h2).trans h5⟩
    have : k + 1 + ds.length = k + (d :: ds).length := by simp; omega
    rwa [this] at h4
theorem src_rng (n : Nat) (h : n ≤ 100000) {e : M.Env} {S : Store} {m : ME} (hm : m e S = .ok (.int n) S) : mSrcA srcR1 (mCons m mNil) e S = .ok ⟨rng 0 n, []⟩ S := by
  have hr : M.inR (n : Int) = true := by
    unfold M.inR
    rw [decide_eq_true_eq]
    constructor <;> omega
  rw [x_mSrcA, one_ok hm, Res.bind_ok, a3 hr]
  rfl
theorem rng_len (n : Nat) : (rng 0 n).length = n := by rw [rng, List.length_map, List.length_range]
theorem app_st {e : M.Env} {me : ME} {l : List Int} {v : Int} (h1 : e[1]? = some (some (.loc 0))) (h2 : me e (St l) = .ok (.int v) (St l)) (hl : l.length < 100000) :
    sExpr (mMeth "list" gAppend (mVar 1) (mCons me mNil)) e (St l) = some (.nx, e, St (l ++ [v])) := by
  have h3 := app_last (S := []) (xs := I l) (y := .int v) (by rw [I, List.length_map]; exact hl)
  refine expr_ok (d := .non) (meth_ok (var_ok h1) (rcv_last (S := [])) (one_ok h2) (h3.trans ?_))
  rw [St, I, I, List.map_append]
  rfl
theorem mulc (x : Int) (c : Int) (hc : c.natAbs < 2 ^ 64) (S : Store) : dMul (.int x) (.int c) S = some (.int (x * c)) := x_mul (.inr hc)
theorem in_loop (o0 o2 : D) (e4 e6 : Option D) (left : Int) (l : List Int) (e5 : Option D) (hl : l.length ≤ 50000) :
    ∃ e' l', e'[0]? = some (some o0) ∧ e'[1]? = some (some (.loc 0)) ∧ e'.length = 7 ∧ l'.length ≤ l.length + 60 ∧
      sFor (mSrcA srcR1 (mCons (mC (.int 60)) mNil)) (gN 5) l__law_draws_3 [some o0, some (.loc 0), some o2, some (.int left), e4, e5, e6] (St l) = some (.nx, e', St l') := by
  obtain ⟨e', S', ⟨lf, l', e5', h1, rfl, rfl⟩, h2⟩ := for_ex (xs := rng 0 60) (g := gN 5) (b := l__law_draws_3) (fun k e S => ∃ left l' e5, l'.length ≤ l.length + k ∧ e = [some o0, some (.loc 0), some o2, some (.int left), e4, e5, e6] ∧ S = St l') (rng 0 60) 0
    [some o0, some (.loc 0), some o2, some (.int left), e4, e5, e6] (St l) ⟨left, l, e5, Nat.le_refl _, rfl, rfl⟩ (by
      rintro d hd k e S hk ⟨left, l', e5, hl', rfl, rfl⟩
      rw [rng_len] at hk
      by_cases h0 : 0 < left
      · refine ⟨_, [some o0, some (.loc 0), some o2, some (.int (left / 997)), e4, some d, e6], St (l' ++ [left % 997]), rfl, ?_, _, _, _, ?_, rfl, rfl⟩
        · refine (if_t (b_ok (c := true) (bin_ok (var_ok rfl) rfl ?_))).trans ?_
          · rw [x_gt, decide_eq_true h0]
          · refine (seq_nx (app_st rfl (bin_ok (call_ok (one_ok (var_ok rfl)) x_int) rfl (x_mod (by decide))) (by omega))).trans ?_
            exact set_ok (bin_ok (var_ok rfl) rfl (x_fdiv (by decide)))
        · simp only [List.length_append, List.length_singleton]; omega
      · refine ⟨_, [some o0, some (.loc 0), some o2, some (.int left), e4, some d, e6], St l', rfl, if_skip (b_ok (c := false) (bin_ok (var_ok rfl) rfl ?_)), _, _, _, ?_, rfl, rfl⟩
        · rw [x_gt, decide_eq_false h0]
        · omega)
  refine ⟨_, l', rfl, rfl, rfl, ?_, for_ok (src_rng 60 (by decide) rfl) h2⟩
  rw [rng_len] at h1
  omega
theorem x_pow {x y : Int} {S : Store} (h : 0 ≤ y ∧ y ≤ 1000000 ∧ x.natAbs < 2 ^ 64) : dPow (.int x) (.int y) S = some (.int (x ^ y.toNat)) := if_pos h
theorem num_step (o0 : D) (n : Int) (e3 e4 e5 e6 : Option D) (l : List Int) (hl : l.length ≤ 40000) :
    ∃ e' l', e'[0]? = some (some o0) ∧ e'[1]? = some (some (.loc 0)) ∧ e'.length = 7 ∧ l'.length ≤ l.length + 62 ∧
      l__law_draws_4 [some o0, some (.loc 0), some (.int n), e3, e4, e5, e6] (St l) = some (.nx, e', St l') := by
  have s1 : sSet (gN 3) (mCall dAbs (mCons (mVar 2) mNil)) [some o0, some (.loc 0), some (.int n), e3, e4, e5, e6] (St l) = some (.nx, [some o0, some (.loc 0), some (.int n), some (.int (ab n)), e4, e5, e6], St l) :=
    set_ok (call_ok (one_ok (var_ok rfl)) x_abs)
  have hp : ∀ (e : M.Env) (S : Store), mBin dPow (mC (.int 10)) (mC (.int 18)) e S = .ok (.int (10 ^ 18)) S := fun e S => bin_ok rfl rfl (x_pow (by decide))
  by_cases h0 : ab n < 10 ^ 18
  · obtain ⟨e', l', a0, a1, a2, a3, hi⟩ := in_loop o0 (.int n) (some (.int ((ab n * 48271 + 11) % 2147483647))) e6 0 (l ++ [((ab n * 48271 + 11) % 2147483647 * 69621 + ab n) % 2147483629] ++ [((ab n * 48271 + 11) % 2147483647 + ab n / 7) % 1000003]) e5
      (by simp only [List.length_append, List.length_singleton]; omega)
    refine ⟨e', l', a0, a1, a2, ?_, ?_⟩
    · simp only [List.length_append, List.length_singleton] at a3; omega
    refine (seq_nx s1).trans ((seq_nx (e1 := [some o0, some (.loc 0), some (.int n), some (.int 0), some (.int ((ab n * 48271 + 11) % 2147483647)), e5, e6]) (S1 := St (l ++ [((ab n * 48271 + 11) % 2147483647 * 69621 + ab n) % 2147483629] ++ [((ab n * 48271 + 11) % 2147483647 + ab n / 7) % 1000003])) ?_).trans hi)
    refine (if_t (b_ok (c := true) (bin_ok (var_ok rfl) (hp _ _) ?_))).trans ?_
    · rw [x_lt, decide_eq_true h0]
    refine (seq_nx (set_ok (bin_ok (call_ok (one_ok (bin_ok (bin_ok (var_ok rfl) rfl (mulc _ _ (by decide) _)) rfl x_add)) x_int) rfl (x_mod (by decide))))).trans ?_
    refine (seq_nx (app_st rfl (bin_ok (call_ok (one_ok (bin_ok (bin_ok (var_ok rfl) rfl (mulc _ _ (by decide) _)) (var_ok rfl) x_add)) x_int) rfl (x_mod (by decide))) (by omega))).trans ?_
    refine (seq_nx (app_st rfl (bin_ok (call_ok (one_ok (bin_ok (var_ok rfl) (bin_ok (var_ok rfl) rfl (x_fdiv (by decide))) x_add)) x_int) rfl (x_mod (by decide))) (by simp only [List.length_append, List.length_singleton]; omega))).trans ?_
    exact set_ok rfl
  · obtain ⟨e', l', a0, a1, a2, a3, hi⟩ := in_loop o0 (.int n) e4 e6 (ab n) l e5 (by omega)
    refine ⟨e', l', a0, a1, a2, by omega, ?_⟩
    refine (seq_nx s1).trans ((seq_nx (if_skip (b_ok (c := false) (bin_ok (var_ok rfl) (hp _ _) ?_)))).trans hi)
    rw [x_lt, decide_eq_false h0]
theorem env7 {e : M.Env} {o0 o1 : D} (h0 : e[0]? = some (some o0)) (h1 : e[1]? = some (some o1)) (hl : e.length = 7) : ∃ e2 e3 e4 e5 e6, e = [some o0, some o1, e2, e3, e4, e5, e6] := by
  match e, hl with
  | [a, b, c, d, f, g, h], _ =>
    simp at h0 h1
    subst h0 h1
    exact ⟨c, d, f, g, h, rfl⟩
theorem draws_ex (ns : List Int) (hn : ns.length ≤ 63) : ∃ l, m__law_draws [.fro (I ns)] [] = .ok (.loc 0) (St l) := by
  suffices hs : ∃ l l' e', b__law_draws [some (.fro (I ns)), none, none, none, none, none, none] [] = some (.rt (.loc 1), e', [OB.lst (I l), OB.lst (I l')]) by
    obtain ⟨l, l', e', h⟩ := hs
    refine ⟨l', ?_⟩
    show retK (runF 7 b__law_draws) _ _ = _
    unfold retK
    have : runF 7 b__law_draws [.fro (I ns)] [] = .ok (.loc 1) [OB.lst (I l), OB.lst (I l')] := run_rt (e' := e') h
    rw [this]
    simp [clS, cls_I]
  obtain ⟨e1, S1, ⟨l1, hl1, g0, g1, g2, rfl⟩, hf1⟩ := for_ex (xs := I ns) (g := gN 2) (b := l__law_draws_4) (fun k e S => ∃ l, l.length ≤ 62 * k ∧ e[0]? = some (some (.fro (I ns))) ∧ e[1]? = some (some (.loc 0)) ∧ e.length = 7 ∧ S = St l) (I ns) 0
    [some (.fro (I ns)), some (.loc 0), none, none, none, none, none] (St []) ⟨[], Nat.zero_le _, rfl, rfl, rfl, rfl⟩ (by
      rintro d hd k e S hk ⟨l, hl, h0, h1, h2, rfl⟩
      obtain ⟨n, _, rfl⟩ := List.mem_map.mp hd
      simp only [I, List.length_map] at hk
      obtain ⟨e2, e3, e4, e5, e6, rfl⟩ := env7 h0 h1 h2
      obtain ⟨e', l', a0, a1, a2, a3, hi⟩ := num_step (.fro (I ns)) n e3 e4 e5 e6 l (by omega)
      exact ⟨_, e', St l', rfl, hi, l', by omega, a0, a1, a2, rfl⟩)
  obtain ⟨b2, b3, b4, b5, b6, rfl⟩ := env7 g0 g1 g2
  simp only [I, List.length_map, Nat.zero_add] at hl1
  have tail : ∀ (st : Int), ∃ l l' e', sSeq (sFor (mSrcA srcR1 (mCons (mC (.int 900)) mNil)) (gN 5) l__law_draws_6) (sRet (asL (mListRev (mVar 1)))) [some (.fro (I ns)), some (.loc 0), b2, b3, b4, b5, some (.int st)] (St l1) = some (.rt (.loc 1), e', [OB.lst (I l), OB.lst (I l')]) := by
    intro st
    obtain ⟨e', S', ⟨st', l2, b5', hl2, rfl, rfl⟩, hf2⟩ := for_ex (xs := rng 0 900) (g := gN 5) (b := l__law_draws_6) (fun k e S => ∃ st l b5, l.length ≤ l1.length + k ∧ e = [some (.fro (I ns)), some (.loc 0), b2, b3, b4, b5, some (.int st)] ∧ S = St l) (rng 0 900) 0
      [some (.fro (I ns)), some (.loc 0), b2, b3, b4, b5, some (.int st)] (St l1) ⟨st, l1, b5, Nat.le_refl _, rfl, rfl⟩ (by
        rintro d hd k e S hk ⟨st, l, b5, hl, rfl, rfl⟩
        rw [rng_len] at hk
        refine ⟨_, _, St (l ++ [(st * 48271 + 69621) % 2147483647 / 5]), rfl, ?_, (st * 48271 + 69621) % 2147483647, _, some d, ?_, rfl, rfl⟩
        · refine (seq_nx (set_ok (bin_ok (call_ok (one_ok (bin_ok (bin_ok (var_ok rfl) rfl (mulc _ _ (by decide) _)) rfl x_add)) x_int) rfl (x_mod (by decide))))).trans ?_
          exact app_st rfl (bin_ok (var_ok rfl) rfl (x_fdiv (by decide))) (by omega)
        · simp only [List.length_append, List.length_singleton]; omega)
    refine ⟨l2, l2.reverse, _, (seq_nx (for_ok (src_rng 900 (by decide) rfl) hf2)).trans (ret_ok ?_)⟩
    refine (asL_ok (S1 := St l2) (ds := (I l2).reverse) ?_).trans ?_
    · rfl
    · rw [← List.map_reverse]; rfl
  have hlen : dLen [.fro (I ns)] (St l1) = some (.int ns.length) := by
    show some (D.int ((I ns).length : Int)) = _
    rw [I, List.length_map]
  by_cases hp : 0 < (ns.length : Int)
  · cases ns with
    | nil => simp at hp
    | cons n ns =>
      obtain ⟨l, l', e', ht⟩ := tail (1 + ab n)
      refine ⟨l, l', e', (seq_nx (set_ok (asL_ok (lst_ok rfl (a1 (by decide)))))).trans ((seq_nx (for_ok (S1 := St []) (xs := I (n :: ns)) rfl hf1)).trans ((seq_nx (set_ok rfl)).trans ((seq_nx ?_).trans ht)))⟩
      refine (if_t (b_ok (c := true) (bin_ok (call_ok (one_ok (var_ok rfl)) hlen) rfl ?_))).trans ?_
      · rw [x_gt, decide_eq_true hp]
      · exact set_ok (bin_ok rfl (call_ok (one_ok (bin_ok (var_ok rfl) rfl (at_nat (I (n :: ns)) 0 _ rfl))) x_abs) x_add)
  · obtain ⟨l, l', e', ht⟩ := tail 1
    refine ⟨l, l', e', (seq_nx (set_ok (asL_ok (lst_ok rfl (a1 (by decide)))))).trans ((seq_nx (for_ok (S1 := St []) (xs := I ns) rfl hf1)).trans ((seq_nx (set_ok rfl)).trans ((seq_nx (if_skip ?_)).trans ht)))⟩
    refine b_ok (c := false) (bin_ok (call_ok (one_ok (var_ok rfl)) hlen) rfl ?_)
    rw [x_gt, decide_eq_false hp]
end
end K08


set_option Elab.async false
set_option linter.all false
set_option maxRecDepth 100000
set_option maxHeartbeats 4000000
/-! Plain facts about pictures: no program here. -/
namespace K08
open PySem PySem.Spec PyProof.Rows L2 M
section
variable [Tabs]
abbrev Pc := List (List Int)
/-- differences of rows -/
def rd (p : List Int × List Int) : List Int := (p.1.zip p.2).map fun q => q.1 - q.2
theorem diffs_rd (a b : Pc) : diffs a b = ((a.zip b).map rd).flatten := rfl
theorem lossI_app (l m : List Int) : lossI (l ++ m) = lossI l + lossI m := by simp [lossI]
theorem lossI_flat : ∀ ls : List (List Int), lossI ls.flatten = (ls.map lossI).sum
  | [] => rfl
  | l :: ls => by simp [lossI_app, lossI_flat ls]
theorem lossI_cons (x : Int) (l : List Int) : lossI (x :: l) = x * x + lossI l := rfl
theorem lossI_nn : ∀ l : List Int, 0 ≤ lossI l
  | [] => Int.le_refl _
  | x :: l => by
    have h1 := lossI_nn l
    have h2 : 0 ≤ x * x := by
      rcases Int.le_total 0 x with h | h
      · exact Int.mul_nonneg h h
      · exact Int.mul_nonneg_of_nonpos_of_nonpos h h
    rw [lossI_cons]; omega
theorem sum_rev : ∀ l : List Int, l.reverse.sum = l.sum
  | [] => rfl
  | x :: l => by simp [sum_rev l]; omega
theorem sum_map_rev (f : List Int × List Int → Int) (l : List (List Int × List Int)) : (l.reverse.map f).sum = (l.map f).sum := by rw [List.map_reverse, sum_rev]
theorem lossI_rev (l : List Int) : lossI l.reverse = lossI l := by unfold lossI; rw [List.map_reverse, sum_rev]
theorem zip_rev {α β : Type} : ∀ (l : List α) (m : List β), l.length = m.length → l.reverse.zip m.reverse = (l.zip m).reverse := by
  intro l m h
  rw [List.zip_eq_zipWith, List.zip_eq_zipWith, ← List.reverse_zipWith h]
theorem rd_rev (p : List Int × List Int) (h : p.1.length = p.2.length) : rd (p.1.reverse, p.2.reverse) = (rd p).reverse := by
  unfold rd
  rw [zip_rev _ _ h, List.map_reverse]
theorem zip_swap {α β : Type} : ∀ (l : List α) (m : List β), m.zip l = (l.zip m).map fun p => (p.2, p.1)
  | [], m => by simp
  | _ :: _, [] => by simp
  | x :: l, y :: m => by simp [zip_swap l m]
theorem diffs_swap (a b : Pc) : diffs b a = (diffs a b).map fun x => -x := by
  rw [diffs_rd, diffs_rd, zip_swap a b, List.map_map, List.map_flatten, List.map_map]
  congr 1
  apply List.map_congr_left
  intro p _
  simp only [Function.comp, rd]
  rw [zip_swap p.1 p.2, List.map_map, List.map_map]
  apply List.map_congr_left
  intro q _
  simp only [Function.comp]; omega
theorem lossI_neg : ∀ l : List Int, lossI (l.map fun x => -x) = lossI l
  | [] => rfl
  | x :: l => by
    rw [List.map_cons, lossI_cons, lossI_cons, lossI_neg l, Int.neg_mul_neg]
theorem ab_neg (x : Int) : ab (-x) = ab x := by unfold ab; split <;> split <;> omega
theorem gapI_neg (l : List Int) : gapI (l.map fun x => -x) = gapI l := by
  unfold gapI
  rw [List.map_map]
  congr 1
  exact List.map_congr_left fun x _ => ab_neg x
theorem lossI_zero : ∀ l : List Int, lossI l = 0 ↔ ∀ x ∈ l, x = 0
  | [] => by simp [lossI]
  | x :: l => by
    have h1 := lossI_nn l
    have h2 : 0 ≤ x * x := by
      rcases Int.le_total 0 x with h | h
      · exact Int.mul_nonneg h h
      · exact Int.mul_nonneg_of_nonpos_of_nonpos h h
    rw [lossI_cons]
    constructor
    · intro h
      have hx : x * x = 0 := by omega
      have hl := (lossI_zero l).mp (by omega)
      intro y hy
      rcases List.mem_cons.mp hy with rfl | hy
      · rcases Int.mul_eq_zero.mp hx with h | h <;> exact h
      · exact hl y hy
    · intro h
      have := (lossI_zero l).mpr fun y hy => h y (List.mem_cons_of_mem _ hy)
      rw [this, h x (by simp)]
      rfl
theorem rd_zero : ∀ (p q : List Int), p.length = q.length → ((∀ x ∈ rd (p, q), x = 0) ↔ p = q)
  | [], [], _ => by simp [rd]
  | [], _ :: _, h => by simp at h
  | _ :: _, [], h => by simp at h
  | x :: p, y :: q, h => by
    have ih := rd_zero p q (by simpa using h)
    have e : rd (x :: p, y :: q) = (x - y) :: rd (p, q) := rfl
    rw [e]
    simp only [List.mem_cons, List.cons.injEq, ← ih]
    constructor
    · intro h
      exact ⟨by have := h _ (.inl rfl); omega, fun z hz => h z (.inr hz)⟩
    · rintro ⟨rfl, h'⟩ z (rfl | hz)
      · omega
      · exact h' z hz
theorem diffs_zero : ∀ (a b : Pc) (w : Nat), a.length = b.length → (∀ r ∈ a, r.length = w) → (∀ r ∈ b, r.length = w) → ((∀ x ∈ diffs a b, x = 0) ↔ a = b)
  | [], [], _, _, _, _ => by simp [diffs]
  | [], _ :: _, _, h, _, _ => by simp at h
  | _ :: _, [], _, h, _, _ => by simp at h
  | r :: a, s :: b, w, h, ha, hb => by
    have ih := diffs_zero a b w (by simpa using h) (fun r hr => ha r (List.mem_cons_of_mem _ hr)) (fun r hr => hb r (List.mem_cons_of_mem _ hr))
    have e : diffs (r :: a) (s :: b) = rd (r, s) ++ diffs a b := rfl
    have hrs := rd_zero r s (by rw [ha r (by simp), hb s (by simp)])
    rw [e]
    simp only [List.mem_append, List.cons.injEq, ← ih, ← hrs]
    constructor
    · intro h
      exact ⟨fun z hz => h z (.inl hz), fun z hz => h z (.inr hz)⟩
    · rintro ⟨h1, h2⟩ z (hz | hz)
      · exact h1 z hz
      · exact h2 z hz
theorem loss_zero {a b : Pc} {w : Nat} (h : a.length = b.length) (ha : ∀ r ∈ a, r.length = w) (hb : ∀ r ∈ b, r.length = w) : lossI (diffs a b) = 0 ↔ a = b := by
  rw [lossI_zero, diffs_zero a b w h ha hb]
/-! ### gaps -/
theorem ab_nn (x : Int) : 0 ≤ ab x := by unfold ab; split <;> omega
theorem ab_sq (x : Int) : ab x * ab x = x * x := by
  unfold ab; split
  · rw [Int.neg_mul_neg]
  · rfl
theorem gap_ge {l : List Int} {x : Int} (h : x ∈ l) : ab x ≤ gapI l := mx_le _ _ (List.mem_map.mpr ⟨x, h, rfl⟩)
theorem gap_mem {l : List Int} (h : l ≠ []) : ∃ x ∈ l, gapI l = ab x := by
  obtain ⟨x, hx, e⟩ := List.mem_map.mp (mx_mem (l.map ab) (by simpa using h))
  exact ⟨x, hx, e.symm⟩
theorem gap_nn {l : List Int} (h : l ≠ []) : 0 ≤ gapI l := by
  obtain ⟨x, _, e⟩ := gap_mem h
  rw [e]; exact ab_nn x
theorem sq_le {x y : Int} (h0 : 0 ≤ x) (h : x ≤ y) : x * x ≤ y * y := Int.mul_le_mul h h h0 (by omega)
theorem loss_le : ∀ (l : List Int) (g : Int), (∀ x ∈ l, ab x ≤ g) → lossI l ≤ g * g * l.length
  | [], g, _ => by simp [lossI]
  | x :: l, g, h => by
    have ih := loss_le l g fun y hy => h y (List.mem_cons_of_mem _ hy)
    have h1 := sq_le (ab_nn x) (h x (by simp))
    rw [ab_sq] at h1
    rw [lossI_cons, List.length_cons]
    have : ((l.length + 1 : Nat) : Int) = (l.length : Int) + 1 := by omega
    rw [this, Int.mul_add, Int.mul_one]
    omega
theorem sq_le_loss : ∀ (l : List Int) (x : Int), x ∈ l → x * x ≤ lossI l
  | y :: l, x, h => by
    rw [lossI_cons]
    rcases List.mem_cons.mp h with rfl | h
    · have := lossI_nn l; omega
    · have := sq_le_loss l x h
      have h3 : 0 ≤ y * y := by have := lossI_nn [y]; simpa [lossI] using this
      omega
theorem gap_sq_le {l : List Int} (h : l ≠ []) : gapI l * gapI l ≤ lossI l := by
  obtain ⟨x, hx, e⟩ := gap_mem h
  rw [e, ab_sq]
  exact sq_le_loss l x hx
/-! ### differences add up -/
theorem rd_add : ∀ (p q r : List Int), p.length = q.length → q.length = r.length → rd (p, r) = List.zipWith (· + ·) (rd (p, q)) (rd (q, r))
  | [], _, _, _, _ => by simp [rd]
  | _ :: _, [], _, h, _ => by simp at h
  | _ :: _, _ :: _, [], _, h => by simp at h
  | x :: p, y :: q, z :: r, h1, h2 => by
    have ih := rd_add p q r (by simpa using h1) (by simpa using h2)
    have e : ∀ (x y : Int) (p q : List Int), rd (x :: p, y :: q) = (x - y) :: rd (p, q) := fun _ _ _ _ => rfl
    rw [e, e, e, List.zipWith_cons_cons, ← ih]
    congr 1
    omega
theorem zw_app {l m l' m' : List Int} (h : l.length = m.length) : List.zipWith (· + ·) (l ++ l') (m ++ m') = List.zipWith (· + ·) l m ++ List.zipWith (· + ·) l' m' := List.zipWith_append h
theorem rd_len (p q : List Int) (h : p.length = q.length) : (rd (p, q)).length = p.length := by simp [rd, h]
theorem diffs_add : ∀ (a b c : Pc) (w : Nat), a.length = b.length → b.length = c.length → (∀ r ∈ a, r.length = w) → (∀ r ∈ b, r.length = w) → (∀ r ∈ c, r.length = w) → diffs a c = List.zipWith (· + ·) (diffs a b) (diffs b c)
  | [], _, _, _, _, _, _, _, _ => by simp [diffs]
  | _ :: _, [], _, _, h, _, _, _, _ => by simp at h
  | _ :: _, _ :: _, [], _, _, h, _, _, _ => by simp at h
  | x :: a, y :: b, z :: c, w, h1, h2, ha, hb, hc => by
    have ih := diffs_add a b c w (by simpa using h1) (by simpa using h2) (fun r hr => ha r (List.mem_cons_of_mem _ hr)) (fun r hr => hb r (List.mem_cons_of_mem _ hr)) (fun r hr => hc r (List.mem_cons_of_mem _ hr))
    have e : ∀ (x y : List Int) (p q : Pc), diffs (x :: p) (y :: q) = rd (x, y) ++ diffs p q := fun _ _ _ _ => rfl
    have lx := ha x (by simp)
    have ly := hb y (by simp)
    have lz := hc z (by simp)
    rw [e, e, e, zw_app (by rw [rd_len x y (by omega), rd_len y z (by omega)]; omega), ← ih, rd_add x y z (by omega) (by omega)]
theorem zw_mem : ∀ {l m : List Int} {x : Int}, x ∈ List.zipWith (· + ·) l m → ∃ y ∈ l, ∃ z ∈ m, x = y + z
  | [], m, x, h => by simp at h
  | _ :: _, [], x, h => by simp at h
  | y :: l, z :: m, x, h => by
    rw [List.zipWith_cons_cons] at h
    rcases List.mem_cons.mp h with rfl | h
    · exact ⟨y, by simp, z, by simp, rfl⟩
    · obtain ⟨y', h1, z', h2, e⟩ := zw_mem h
      exact ⟨y', List.mem_cons_of_mem _ h1, z', List.mem_cons_of_mem _ h2, e⟩
theorem gap_tri {l m n : List Int} (e : n = List.zipWith (· + ·) l m) (h : n ≠ []) : gapI n ≤ gapI l + gapI m := by
  obtain ⟨x, hx, hg⟩ := gap_mem h
  subst e
  obtain ⟨y, hy, z, hz, rfl⟩ := zw_mem hx
  have h1 := gap_ge hy
  have h2 := gap_ge hz
  rw [hg]
  have : ab (y + z) ≤ ab y + ab z := by unfold ab; split <;> split <;> split <;> omega
  omega
/-! ### parts -/
theorem diffs_above (a b a' b' : Pc) (h : a.length = b.length) : diffs (a ++ a') (b ++ b') = diffs a b ++ diffs a' b' := by
  rw [diffs_rd, diffs_rd, diffs_rd, List.zip_append h, List.map_append, List.flatten_append]
theorem gap_app {l m : List Int} (hl : l ≠ []) (hm : m ≠ []) : gapI (l ++ m) = mx [gapI l, gapI m] := by
  refine (mx_iff (by simp [hl]) _).mpr ?_
  have e : mx [gapI l, gapI m] = max (gapI l) (gapI m) := rfl
  rw [e]
  constructor
  · rw [List.map_append, List.mem_append]
    rcases Int.le_total (gapI l) (gapI m) with h | h
    · rw [Int.max_eq_right h]; exact .inr (mx_mem _ (by simpa using hm))
    · rw [Int.max_eq_left h]; exact .inl (mx_mem _ (by simpa using hl))
  · intro y hy
    rw [List.map_append, List.mem_append] at hy
    rcases hy with hy | hy
    · have : y ≤ gapI l := mx_le _ _ hy
      omega
    · have : y ≤ gapI m := mx_le _ _ hy
      omega
end
end K08


set_option Elab.async false
set_option linter.all false
set_option maxRecDepth 100000
set_option maxHeartbeats 4000000
namespace K08
open PySem PySem.Spec PyProof.Rows L2 M
section
variable [Tabs]
/-- what stands in the law's loop, once its pictures are drawn -/
structure En (e : M.Env) (h w : Nat) (a b c : Pc) : Prop where
  len : e.length = 25
  d : e[1]? = some (some (.loc 0))
  h : e[3]? = some (some (.int h))
  w : e[4]? = some (some (.int w))
  a : e[5]? = some (some (pic a))
  b : e[6]? = some (some (pic b))
  c : e[7]? = some (some (pic c))
structure Ok (h w : Nat) (a b c : Pc) : Prop where
  h0 : 0 < h
  h9 : h ≤ 9
  w0 : 0 < w
  w9 : w ≤ 9
  a : IsPic h w a
  b : IsPic h w b
  c : IsPic h w c
variable {e : M.Env} {S : Store} {h w : Nat} {a b c : Pc} {i : Nat} {v : Option D}
theorem En.set (n : En e h w a b c) (hi : (i != 1 && i != 3 && i != 4 && i != 5 && i != 6 && i != 7) = true) : En (e.set i v) h w a b c := by
  simp only [Bool.and_eq_true, bne_iff_ne, ne_eq] at hi
  obtain ⟨⟨⟨⟨⟨h1, h3⟩, h4⟩, h5⟩, h6⟩, h7⟩ := hi
  exact ⟨by rw [List.length_set]; exact n.len, by rw [List.getElem?_set_ne h1]; exact n.d, by rw [List.getElem?_set_ne h3]; exact n.h, by rw [List.getElem?_set_ne h4]; exact n.w,
    by rw [List.getElem?_set_ne h5]; exact n.a, by rw [List.getElem?_set_ne h6]; exact n.b, by rw [List.getElem?_set_ne h7]; exact n.c⟩
theorem En.at (n : En e h w a b c) (hi : i < 25) : (e.set i v)[i]? = some v := by
  rw [List.getElem?_set_self (by rw [n.len]; exact hi)]
theorem or_ff {s t : MT} (hs : s e S = .ok false S) (ht : t e S = .ok false S) : mOr s t e S = .ok false S := by rw [x_mOr, hs, Res.bind_ok]; exact ht
theorem ne_ff {x y : ME} {u v : D} (hx : x e S = .ok u S) (hy : y e S = .ok v S) (hd : dNe u v S = some (.bl false)) : mB (mBin dNe x y) e S = .ok false S := b_ok (bin_ok hx hy hd)
theorem neI {x y : Int} (h : x = y) : dNe (.int x) (.int y) S = some (.bl false) := by rw [x_neI, decide_eq_true h]; rfl
theorem neB {x y : Bool} (h : x = y) : dNe (.bl x) (.bl y) S = some (.bl false) := by rw [x_neB, decide_eq_true h]; rfl
theorem neL {x y : List Int} (h : x = y) : dNe (.lst (I x)) (.lst (I y)) S = some (.bl false) := by rw [x_neL, decide_eq_true h]; rfl
theorem neP {x y : Pc} (h : x = y) : dNe (pic x) (pic y) S = some (.bl false) := by rw [x_neP, decide_eq_true h]; rfl
theorem neS {x y : PySem.Str} (h : x = y) : dNe (.str x) (.str y) S = some (.bl false) := by rw [x_neStr, decide_eq_true h]; rfl
theorem gt_ff {x y : ME} {u v : Int} (hx : x e S = .ok (.int u) S) (hy : y e S = .ok (.int v) S) (hd : u ≤ v) : mB (mBin dGt x y) e S = .ok false S := b_ok (bin_ok hx hy (by rw [x_gt, decide_eq_false (by omega)]))
/-! ### pictures that are made -/
theorem above_pic {h h' w : Nat} (pa : IsPic h w a) (pb : IsPic h' w b) : IsPic (h + h') w (a ++ b) := by
  refine ⟨by rw [List.length_append, pa.high, pb.high], fun r hr => ?_, fun r hr => ?_⟩
  · rcases List.mem_append.mp hr with hr | hr
    · exact pa.wide r hr
    · exact pb.wide r hr
  · rcases List.mem_append.mp hr with hr | hr
    · exact pa.grey r hr
    · exact pb.grey r hr
def bes (a b : Pc) : Pc := (a.zip b).map fun p => p.1 ++ p.2
theorem bes_pic {h w w' : Nat} (pa : IsPic h w a) (pb : IsPic h w' b) : IsPic h (w + w') (bes a b) := by
  refine ⟨by simp [bes, pa.high, pb.high], fun r hr => ?_, fun r hr => ?_⟩ <;> obtain ⟨p, hp, rfl⟩ := List.mem_map.mp hr
  · rw [List.length_append, pa.wide _ (List.of_mem_zip hp).1, pb.wide _ (List.of_mem_zip hp).2]
  · intro x hx
    rcases List.mem_append.mp hx with hx | hx
    · exact pa.grey _ (List.of_mem_zip hp).1 x hx
    · exact pb.grey _ (List.of_mem_zip hp).2 x hx
theorem flat_pic {h w : Nat} {g : Int} (hg : 0 ≤ g ∧ g ≤ 15) : IsPic h w (List.replicate h (List.replicate w g)) := by
  refine ⟨by simp, fun r hr => ?_, fun r hr => ?_⟩ <;> rw [(List.mem_replicate.mp hr).2]
  · simp
  · intro x hx
    rw [(List.mem_replicate.mp hx).2]
    exact hg
theorem rev_pic (pa : IsPic h w a) : IsPic h w a.reverse := ⟨by rw [List.length_reverse, pa.high], fun r hr => pa.wide r (List.mem_reverse.mp hr), fun r hr => pa.grey r (List.mem_reverse.mp hr)⟩
theorem mir_pic (pa : IsPic h w a) : IsPic h w (a.map List.reverse) := by
  refine ⟨by rw [List.length_map, pa.high], fun r hr => ?_, fun r hr => ?_⟩ <;> obtain ⟨p, hp, rfl⟩ := List.mem_map.mp hr
  · rw [List.length_reverse, pa.wide p hp]
  · exact fun x hx => pa.grey p hp x (List.mem_reverse.mp hx)
theorem len_pic (pa : IsPic h w a) : dLen [pic a] S = some (.int h) := by
  show some (D.int ((a.map fun r => D.tup (I r)).length : Int)) = _
  rw [List.length_map, pa.high]
theorem head_pic (pa : IsPic h w a) (h0 : 0 < h) : ∃ r, dIx (pic a) (.int 0) S = some (.tup (I r)) ∧ r.length = w := by
  cases a with
  | nil => have := pa.high; simp at this; omega
  | cons r a => exact ⟨r, ix0 _ _ _, pa.wide r (by simp)⟩
theorem len_row {r : List Int} (hr : r.length = w) : dLen [.tup (I r)] S = some (.int w) := by
  show some (D.int ((I r).length : Int)) = _
  rw [I, List.length_map, hr]
/-! ### calls -/
theorem Ok.two (k : Ok h w a b c) (pa : IsPic h w a) (pb : IsPic h w b) : Same2 h w a b := Same2.of k.h0 (by have := k.h9; omega) (by have := k.w9; omega) pa pb
section
variable {x y : ME} {p q : Pc} {m n : Nat}
theorem c_loss (hS : clS S.length S = true) (hx : x e S = .ok (pic p) S) (hy : y e S = .ok (pic q) S) (pp : IsPic m n p) (pq : IsPic m n q) (m0 : 0 < m) (m9 : m ≤ 40) (n9 : n ≤ 40) : mCallF 2 m_loss (mCons x (mCons y mNil)) e S = .ok (.int (lossI (diffs p q))) S :=
  callF_ok (cons_ok hx (one_ok hy)) (loss_ok hS (Same2.of m0 m9 n9 pp pq) pp.grey pq.grey)
theorem c_gap (hS : clS S.length S = true) (hx : x e S = .ok (pic p) S) (hy : y e S = .ok (pic q) S) (pp : IsPic m n p) (pq : IsPic m n q) (m0 : 0 < m) (m9 : m ≤ 40) (n9 : n ≤ 40) (n0 : 0 < n) : mCallF 2 m_gap (mCons x (mCons y mNil)) e S = .ok (.int (gapI (diffs p q))) S :=
  callF_ok (cons_ok hx (one_ok hy)) (gap_ok hS (Same2.of m0 m9 n9 pp pq) n0)
theorem c_diff (hS : clS S.length S = true) (hx : x e S = .ok (pic p) S) (hy : y e S = .ok (pic q) S) (pp : IsPic m n p) (pq : IsPic m n q) (m0 : 0 < m) (m9 : m ≤ 40) (n9 : n ≤ 40) : mCallF 2 m_differences (mCons x (mCons y mNil)) e S = .ok (.lst (I (diffs p q))) S :=
  callF_ok (cons_ok hx (one_ok hy)) (diff_ok hS (Same2.of m0 m9 n9 pp pq))
theorem c_above {m' : Nat} (hS : clS S.length S = true) (hx : x e S = .ok (pic p) S) (hy : y e S = .ok (pic q) S) (pp : IsPic m n p) (pq : IsPic m' n q) (m9 : m ≤ 40) (m9' : m' ≤ 40) : mCallF 2 m_above (mCons x (mCons y mNil)) e S = .ok (pic (p ++ q)) S :=
  callF_ok (cons_ok hx (one_ok hy)) (above_ok hS (by rw [pp.high]; omega) (by rw [pq.high]; omega))
theorem c_bes {n' : Nat} (hS : clS S.length S = true) (hx : x e S = .ok (pic p) S) (hy : y e S = .ok (pic q) S) (pp : IsPic m n p) (pq : IsPic m n' q) (m9 : m ≤ 40) (n9 : n ≤ 40) (n9' : n' ≤ 40) : mCallF 2 m_beside (mCons x (mCons y mNil)) e S = .ok (pic (bes p q)) S :=
  callF_ok (cons_ok hx (one_ok hy)) (beside_ok hS (by rw [pp.high]; omega) (fun r hr => by rw [pp.wide r hr]; omega) (fun r hr => by rw [pq.wide r hr]; omega))
theorem c_write (hS : clS S.length S = true) (hx : x e S = .ok (pic p) S) (pp : IsPic m n p) (m9 : m ≤ 40) (n9 : n ≤ 40) : mCallF 1 m_write (mCons x mNil) e S = .ok (.str (mk (txt p))) S :=
  callF_ok (one_ok hx) (write_ok hS pp.grey (by rw [pp.high]; exact m9) (fun r hr => by rw [pp.wide r hr]; exact n9))
end
end
end K08


set_option Elab.async false
set_option linter.all false
set_option maxRecDepth 100000
set_option maxHeartbeats 4000000
namespace K08
open PySem PySem.Spec PyProof.Rows L2 M
section
variable [Tabs]
noncomputable def s1 : MS := (sSet (gTup 2 (gCons (gN 3) (gCons (gN 4) gNil))) (mTup (mCons (mBin dAdd (mC (.int 1)) (mCallF 2 m__law_take (mCons (mVar 1) (mCons (mC (.int 9)) mNil)))) (mCons (mBin dAdd (mC (.int 1)) (mCallF 2 m__law_take (mCons (mVar 1) (mCons (mC (.int 9)) mNil)))) mNil))))
noncomputable def s2 : MS := (sSet (gLst 3 (gCons (gN 5) (gCons (gN 6) (gCons (gN 7) gNil)))) (asV (mLc (mSrcA srcR1 (mCons (mC (.int 3)) mNil)) (gN 8) mYes e_law_1 [8])))
noncomputable def s3 : MS := (sSet (gTup 2 (gCons (gN 9) (gCons (gN 10) gNil))) (mTup (mCons (mCallF 2 m__law_take (mCons (mVar 1) (mCons (mBin dAdd (mVar 3) (mC (.int 1))) mNil))) (mCons (mCallF 2 m__law_take (mCons (mVar 1) (mCons (mBin dAdd (mVar 4) (mC (.int 1))) mNil))) mNil))))
noncomputable def s4 : MS := (sIf (mAnd (mB (mChain dLt dLt (mC (.int 0)) (mVar 9) (mVar 3))) (mB (mChain dLt dLt (mC (.int 0)) (mVar 10) (mVar 4)))) b_law_10 sSkip)
noncomputable def s5 : MS := (sIf (mB (mBin dNe (asV (mLst (mCons (mCall dLen (mCons (mCallF 2 m_beside (mCons (mVar 5) (mCons (mVar 6) mNil))) mNil)) (mCons (mCall dLen (mCons (mBin dIx (mCallF 2 m_beside (mCons (mVar 5) (mCons (mVar 6) mNil))) (mC (.int 0))) mNil)) (mCons (mCall dLen (mCons (mCallF 2 m_above (mCons (mVar 5) (mCons (mVar 6) mNil))) mNil)) (mCons (mCall dLen (mCons (mBin dIx (mCallF 2 m_above (mCons (mVar 5) (mCons (mVar 6) mNil))) (mC (.int 0))) mNil)) mNil)))))) (asV (mLst (mCons (mVar 3) (mCons (mBin dMul (mC (.int 2)) (mVar 4)) (mCons (mBin dMul (mC (.int 2)) (mVar 3)) (mCons (mVar 4) mNil)))))))) (sRet (mC (.bl false))) sSkip)
noncomputable def s6 : MS := (sIf (mOr (mB (mBin dNe (mCallF 2 m_loss (mCons (mVar 5) (mCons (mVar 6) mNil))) (mCallF 2 m_loss (mCons (mVar 6) (mCons (mVar 5) mNil))))) (mOr (mB (mBin dNe (mCallF 2 m_gap (mCons (mVar 5) (mCons (mVar 6) mNil))) (mCallF 2 m_gap (mCons (mVar 6) (mCons (mVar 5) mNil))))) (mOr (mB (mBin dNe (mBin dEq (mCallF 2 m_loss (mCons (mVar 5) (mCons (mVar 6) mNil))) (mC (.int 0))) (mBin dEq (mVar 5) (mVar 6)))) (mB (mBin dNe (mCallF 2 m_loss (mCons (mVar 5) (mCons (mVar 5) mNil))) (mC (.int 0))))))) (sRet (mC (.bl false))) sSkip)
noncomputable def s7 : MS := (sIf (mOr (mB (mBin dGt (mCallF 2 m_gap (mCons (mVar 5) (mCons (mVar 7) mNil))) (mBin dAdd (mCallF 2 m_gap (mCons (mVar 5) (mCons (mVar 6) mNil))) (mCallF 2 m_gap (mCons (mVar 6) (mCons (mVar 7) mNil)))))) (mOr (mB (mBin dGt (mCallF 2 m_loss (mCons (mVar 5) (mCons (mVar 6) mNil))) (mBin dMul (mBin dMul (mBin dPow (mCallF 2 m_gap (mCons (mVar 5) (mCons (mVar 6) mNil))) (mC (.int 2))) (mVar 3)) (mVar 4)))) (mB (mBin dGt (mBin dPow (mCallF 2 m_gap (mCons (mVar 5) (mCons (mVar 6) mNil))) (mC (.int 2))) (mCallF 2 m_loss (mCons (mVar 5) (mCons (mVar 6) mNil))))))) (sRet (mC (.bl false))) sSkip)
noncomputable def s8 : MS := (sSet (gN 19) (asV (mLst (mCons (mCallF 2 m_differences (mCons (mVar 5) (mCons (mVar 6) mNil))) (mCons (mCallF 2 m_differences (mCons (mVar 6) (mCons (mVar 7) mNil))) (mCons (mCallF 2 m_differences (mCons (mVar 5) (mCons (mVar 7) mNil))) mNil))))))
noncomputable def s9 : MS := (sIf (mOr (mB (mBin dNe (asV (mLc (mSrcA srcR1 (mCons (mBin dMul (mVar 3) (mVar 4)) mNil)) (gN 8) mYes e_law_11 [8])) (mBin dIx (mVar 19) (mC (.int 2))))) (mB (mBin dNe (asV (mLc (mSrc (mBin dIx (mVar 19) (mC (.int 0)))) (gN 20) mYes (mUn dNeg (mVar 20)) [20])) (mCallF 2 m_differences (mCons (mVar 6) (mCons (mVar 5) mNil)))))) (sRet (mC (.bl false))) sSkip)
noncomputable def s10 : MS := (sIf (mB (mBin dNe (mCall dSum (mCons (asV (mLc (mSrc (mBin dIx (mVar 19) (mC (.int 2)))) (gN 20) mYes e_law_12 [20])) mNil)) (mCallF 2 m_loss (mCons (mVar 5) (mCons (mVar 7) mNil))))) (sRet (mC (.bl false))) sSkip)
noncomputable def s11 : MS := (sIf (mOr (mB (mBin dNe (mCallF 1 m_write (mCons (mCallF 2 m_above (mCons (mVar 5) (mCons (mVar 6) mNil))) mNil)) (mBin dAdd (mCallF 1 m_write (mCons (mVar 5) mNil)) (mCallF 1 m_write (mCons (mVar 6) mNil))))) (mOr (mB (mBin dNe (mCallF 1 m_read (mCons (mBin dAdd (mCallF 1 m_write (mCons (mVar 5) mNil)) (mCallF 1 m_write (mCons (mVar 6) mNil))) mNil)) (mCallF 2 m_above (mCons (mVar 5) (mCons (mVar 6) mNil))))) (mB (mBin dIsNot (mCallF 1 m_is_picture (mCons (mCallF 2 m_beside (mCons (mVar 5) (mCons (mVar 7) mNil))) mNil)) (mC (.bl true)))))) (sRet (mC (.bl false))) sSkip)
noncomputable def s12 : MS := (sSet (gN 21) (mCallF 2 m__law_take (mCons (mVar 1) (mCons (mC (.int 16)) mNil))))
noncomputable def s13 : MS := (sSet (gN 22) (mCallF 3 m_flat_picture (mCons (mVar 3) (mCons (mVar 4) (mCons (mVar 21) mNil)))))
noncomputable def s14 : MS := (sIf (mOr (mB (mBin dNe (mCallF 2 m_loss (mCons (mVar 5) (mCons (mVar 22) mNil))) (mCall dSum (mCons (asV (mLc (mSrc (mVar 5)) (gN 24) mYes e_law_14 [24])) mNil)))) (mB (mBin dNe (mCallF 2 m_beside (mCons (mVar 22) (mCons (mVar 22) mNil))) (mCallF 3 m_flat_picture (mCons (mVar 3) (mCons (mBin dMul (mC (.int 2)) (mVar 4)) (mCons (mVar 21) mNil))))))) (sRet (mC (.bl false))) sSkip)
noncomputable def s15 : MS := (sIf (mOr (mB (mBin dNe (mCallF 2 m_loss (mCons (mCall dTuple (mCons (asV (mLc (mSrc (mVar 5)) (gN 24) mYes (mUn dRev (mVar 24)) [24])) mNil)) (mCons (mCall dTuple (mCons (asV (mLc (mSrc (mVar 6)) (gN 24) mYes (mUn dRev (mVar 24)) [24])) mNil)) mNil))) (mCallF 2 m_loss (mCons (mVar 5) (mCons (mVar 6) mNil))))) (mB (mBin dNe (mCallF 2 m_loss (mCons (mUn dRev (mVar 5)) (mCons (mUn dRev (mVar 6)) mNil))) (mCallF 2 m_loss (mCons (mVar 5) (mCons (mVar 6) mNil)))))) (sRet (mC (.bl false))) sSkip)
theorem l_law_15_eq : l_law_15 = sSeq s1 (sSeq s2 (sSeq s3 (sSeq s4 (sSeq s5 (sSeq s6 (sSeq s7 (sSeq s8 (sSeq s9 (sSeq s10 (sSeq s11 (sSeq s12 (sSeq s13 (sSeq s14 s15))))))))))))) := rfl
noncomputable def q1 : MS := (sSet (gN 11) (asV (mLc (mSrc (asV (mLst (mCons (mTup (mCons (mC (.int 0)) (mCons (mVar 9) mNil))) (mCons (mTup (mCons (mVar 9) (mCons (mBin dSub (mVar 3) (mVar 9)) mNil))) mNil))))) (gTup 2 (gCons (gN 14) (gCons (gN 15) gNil))) mYes e_law_3 [14, 15])))
noncomputable def q2 : MS := (sSet (gN 16) (mCallF 2 m_above (mCons (mCallF 2 m_beside (mCons (mBin dIx (mBin dIx (mVar 11) (mC (.int 0))) (mC (.int 0))) (mCons (mBin dIx (mBin dIx (mVar 11) (mC (.int 0))) (mC (.int 1))) mNil))) (mCons (mCallF 2 m_beside (mCons (mBin dIx (mBin dIx (mVar 11) (mC (.int 1))) (mC (.int 0))) (mCons (mBin dIx (mBin dIx (mVar 11) (mC (.int 1))) (mC (.int 1))) mNil))) mNil))))
noncomputable def q3 : MS := (sIf (mOr (mB (mBin dNe (mVar 16) (mVar 5))) (mB (mBin dNe (mCallF 2 m_beside (mCons (mCallF 2 m_above (mCons (mBin dIx (mBin dIx (mVar 11) (mC (.int 0))) (mC (.int 0))) (mCons (mBin dIx (mBin dIx (mVar 11) (mC (.int 1))) (mC (.int 0))) mNil))) (mCons (mCallF 2 m_above (mCons (mBin dIx (mBin dIx (mVar 11) (mC (.int 0))) (mC (.int 1))) (mCons (mBin dIx (mBin dIx (mVar 11) (mC (.int 1))) (mC (.int 1))) mNil))) mNil))) (mVar 5)))) (sRet (mC (.bl false))) sSkip)
noncomputable def q4 : MS := (sSet (gN 17) (asV (mLc (mSrc (asV (mLst (mCons (mTup (mCons (mC (.int 0)) (mCons (mVar 9) mNil))) (mCons (mTup (mCons (mVar 9) (mCons (mBin dSub (mVar 3) (mVar 9)) mNil))) mNil))))) (gTup 2 (gCons (gN 14) (gCons (gN 15) gNil))) mYes e_law_5 [14, 15])))
noncomputable def q5 : MS := (sIf (mB (mBin dNe (mCall dSum (mCons (asV (mLc (mSrcA srcR1 (mCons (mC (.int 2)) mNil)) (gN 8) mYes e_law_7 [8])) mNil)) (mCallF 2 m_loss (mCons (mVar 5) (mCons (mVar 6) mNil))))) (sRet (mC (.bl false))) sSkip)
noncomputable def q6 : MS := (sIf (mB (mBin dNe (mCall dMax (mCons (asV (mLc (mSrcA srcR1 (mCons (mC (.int 2)) mNil)) (gN 8) mYes e_law_9 [8])) mNil)) (mCallF 2 m_gap (mCons (mVar 5) (mCons (mVar 6) mNil))))) (sRet (mC (.bl false))) sSkip)
theorem b_law_10_eq : b_law_10 = sSeq q1 (sSeq q2 (sSeq q3 (sSeq q4 (sSeq q5 q6)))) := rfl

variable {e : M.Env} {S : Store} {h w : Nat} {a b c : Pc} {i : Nat} {v : Option D}
theorem s5_ok (hS : clS S.length S = true) (n : En e h w a b c) (k : Ok h w a b c) : s5 e S = some (.nx, e, S) := by
  have hh := k.h9
  have hw := k.w9
  have vb := c_bes hS (var_ok n.a) (var_ok n.b) k.a k.b (by omega) (by omega) (by omega)
  have va := c_above hS (var_ok n.a) (var_ok n.b) k.a k.b (by omega) (by omega)
  have pb := bes_pic k.a k.b
  have pa := above_pic k.a k.b
  obtain ⟨r, r1, r2⟩ := head_pic (S := S) pb k.h0
  obtain ⟨q, q1, q2⟩ := head_pic (S := S) pa (by have := k.h0; omega)
  refine if_skip (ne_ff (u := .lst (I [(h : Int), ((w + w : Nat) : Int), ((h + h : Nat) : Int), (w : Int)])) (v := .lst (I [(h : Int), 2 * (w : Int), 2 * (h : Int), (w : Int)])) ?_ ?_ (neL ?_))
  · refine asV_ok (lst_ok (cons_ok (call_ok (one_ok vb) (len_pic pb)) (cons_ok (call_ok (one_ok (bin_ok vb rfl r1)) (len_row r2)) (cons_ok (call_ok (one_ok va) (len_pic pa)) (one_ok (call_ok (one_ok (bin_ok va rfl q1)) (len_row q2)))))) (a1 (w := 4) (by decide)))
  · exact asV_ok (lst_ok (cons_ok (var_ok n.h) (cons_ok (bin_ok rfl (var_ok n.w) (x_mul (.inl (by decide)))) (cons_ok (bin_ok rfl (var_ok n.h) (x_mul (.inl (by decide)))) (one_ok (var_ok n.w))))) (a1 (w := 4) (by decide)))
  · simp; omega
theorem swap_loss (a b : Pc) : lossI (diffs b a) = lossI (diffs a b) := by rw [diffs_swap a b, lossI_neg]
theorem swap_gap (a b : Pc) : gapI (diffs b a) = gapI (diffs a b) := by rw [diffs_swap a b, gapI_neg]
theorem s6_ok (hS : clS S.length S = true) (n : En e h w a b c) (k : Ok h w a b c) : s6 e S = some (.nx, e, S) := by
  have hh := k.h9
  have hw := k.w9
  have h0 := k.h0
  have w0 := k.w0
  have lab := c_loss hS (var_ok n.a) (var_ok n.b) k.a k.b h0 (by omega) (by omega)
  have lba := c_loss hS (var_ok n.b) (var_ok n.a) k.b k.a h0 (by omega) (by omega)
  have laa := c_loss hS (var_ok n.a) (var_ok n.a) k.a k.a h0 (by omega) (by omega)
  have gab := c_gap hS (var_ok n.a) (var_ok n.b) k.a k.b h0 (by omega) (by omega) w0
  have gba := c_gap hS (var_ok n.b) (var_ok n.a) k.b k.a h0 (by omega) (by omega) w0
  have z := loss_zero (a := a) (b := b) (by rw [k.a.high, k.b.high]) k.a.wide k.b.wide
  have z2 := (loss_zero (a := a) (b := a) rfl k.a.wide k.a.wide).mpr rfl
  refine if_skip (or_ff (ne_ff lab lba (neI (swap_loss a b).symm)) (or_ff (ne_ff gab gba (neI (swap_gap a b).symm)) (or_ff (ne_ff (bin_ok lab rfl x_eqI) (bin_ok (var_ok n.a) (var_ok n.b) (x_eqP a b)) (neB ?_)) (ne_ff laa rfl (neI z2)))))
  by_cases q : a = b
  · rw [decide_eq_true q, decide_eq_true (z.mpr q)]
  · rw [decide_eq_false q, decide_eq_false (fun hz => q (z.mp hz))]
theorem dne {p q : Pc} (pp : IsPic h w p) (pq : IsPic h w q) (k : Ok h w a b c) : diffs p q ≠ [] := by
  have hh := k.h9
  have hw := k.w9
  intro h0
  have h1 := diffs_len (Same2.of k.h0 (by omega) (by omega) pp pq)
  rw [h0] at h1
  have := Nat.mul_pos k.h0 k.w0
  simp at h1; omega
theorem add_abc (k : Ok h w a b c) : diffs a c = List.zipWith (· + ·) (diffs a b) (diffs b c) :=
  diffs_add a b c w (by rw [k.a.high, k.b.high]) (by rw [k.b.high, k.c.high]) k.a.wide k.b.wide k.c.wide
theorem s7_ok (hS : clS S.length S = true) (n : En e h w a b c) (k : Ok h w a b c) : s7 e S = some (.nx, e, S) := by
  have hh := k.h9
  have hw := k.w9
  have h0 := k.h0
  have w0 := k.w0
  have lab := c_loss hS (var_ok n.a) (var_ok n.b) k.a k.b h0 (by omega) (by omega)
  have gab := c_gap hS (var_ok n.a) (var_ok n.b) k.a k.b h0 (by omega) (by omega) w0
  have gac := c_gap hS (var_ok n.a) (var_ok n.c) k.a k.c h0 (by omega) (by omega) w0
  have gbc := c_gap hS (var_ok n.b) (var_ok n.c) k.b k.c h0 (by omega) (by omega) w0
  have hg : ∀ S, dPow (.int (gapI (diffs a b))) (.int 2) S = some (.int (gapI (diffs a b) * gapI (diffs a b))) := fun S => by
    obtain ⟨x, hx, e⟩ := gap_mem (dne k.a k.b k)
    have hin := diffs_in k.a.grey k.b.grey x hx
    refine (x_pow ⟨by decide, by decide, ?_⟩).trans ?_
    · rw [e]; unfold ab; split <;> omega
    · have : ∀ x : Int, x ^ (2 : Int).toNat = x * x := fun x => by
        show x ^ 2 = _
        rw [Int.pow_succ, Int.pow_succ, Int.pow_zero, Int.one_mul]
      rw [this]
  have pw := bin_ok gab (e := e) (S1 := S) (S2 := S) (mb := mC (.int 2)) rfl (hg S)
  refine if_skip (or_ff (gt_ff gac (bin_ok gab gbc x_add) (gap_tri (add_abc k) (dne k.a k.c k))) (or_ff (gt_ff lab (bin_ok (bin_ok pw (var_ok n.h) (x_mul (.inr (by omega)))) (var_ok n.w) (x_mul (.inr (by omega)))) ?_) (gt_ff pw lab (gap_sq_le (dne k.a k.b k)))))
  have h1 := loss_le (diffs a b) (gapI (diffs a b)) fun x hx => gap_ge hx
  rw [diffs_len (Same2.of h0 (by omega) (by omega) k.a k.b)] at h1
  rw [Int.natCast_mul, ← Int.mul_assoc] at h1
  exact h1
end
end K08


set_option Elab.async false
set_option linter.all false
set_option maxRecDepth 100000
set_option maxHeartbeats 4000000
namespace K08
open PySem PySem.Spec PyProof.Rows L2 M
section
variable [Tabs]
variable {e : M.Env} {S : Store} {h w : Nat} {a b c : Pc} {i : Nat} {v : Option D}
/-- the three rows of differences -/
abbrev tri (a b c : Pc) : D := .lst [.lst (I (diffs a b)), .lst (I (diffs b c)), .lst (I (diffs a c))]
theorem s8_ok (hS : clS S.length S = true) (n : En e h w a b c) (k : Ok h w a b c) : s8 e S = some (.nx, e.set 19 (some (tri a b c)), S) := by
  have hh := k.h9
  have hw := k.w9
  have h0 := k.h0
  exact set_ok (asV_ok (lst_ok (cons_ok (c_diff hS (var_ok n.a) (var_ok n.b) k.a k.b h0 (by omega) (by omega)) (cons_ok (c_diff hS (var_ok n.b) (var_ok n.c) k.b k.c h0 (by omega) (by omega)) (one_ok (c_diff hS (var_ok n.a) (var_ok n.c) k.a k.c h0 (by omega) (by omega))))) (a1 (w := 3) (by decide))))
theorem tri_at (he : e[19]? = some (some (tri a b c))) : mBin dIx (mVar 19) (mC (.int 0)) e S = .ok (.lst (I (diffs a b))) S ∧ mBin dIx (mVar 19) (mC (.int 1)) e S = .ok (.lst (I (diffs b c))) S ∧ mBin dIx (mVar 19) (mC (.int 2)) e S = .ok (.lst (I (diffs a c))) S :=
  ⟨bin_ok (var_ok he) rfl (ix_lst _ 0 _ _ rfl), bin_ok (var_ok he) rfl (ix_lst _ 1 _ _ rfl), bin_ok (var_ok he) rfl (ix_lst _ 2 _ _ rfl)⟩
theorem zw_range : ∀ (l m : List Int), l.length = m.length → (List.range l.length).map (fun i => l.getD i 0 + m.getD i 0) = List.zipWith (· + ·) l m := by
  intro l m hl
  apply List.ext_getElem
  · simp [hl]
  · intro i h1 h2
    have h3 : i < l.length := by simpa using h1
    have h4 : i < m.length := by omega
    simp [h3, h4]
theorem getD_ix {l : List Int} {i : Nat} (hi : i < l.length) : dIx (.lst (I l)) (.int i) S = some (.int (l.getD i 0)) := by
  refine ix_lst _ i _ _ ?_
  rw [I, List.getElem?_map, List.getElem?_eq_getElem hi]
  simp [hi]
theorem s9_ok (hS : clS S.length S = true) (n : En e h w a b c) (k : Ok h w a b c) (he : e[19]? = some (some (tri a b c))) : s9 e S = some (.nx, e, S) := by
  have hh := k.h9
  have hw := k.w9
  have h0 := k.h0
  have hm : h * w ≤ 9 * 9 := Nat.mul_le_mul hh hw
  have lab := diffs_len (Same2.of h0 (by omega) (by omega) k.a k.b)
  have lbc := diffs_len (Same2.of h0 (by omega) (by omega) k.b k.c)
  obtain ⟨t0, t1, t2⟩ := tri_at (S := S) he
  refine if_skip (or_ff (ne_ff (u := .lst (I (diffs a c))) (asV_ok (lc_ok (src_rng (h * w) (by omega) ?_) ?_ ?_)) t2 (neL rfl)) (ne_ff (u := .lst (I ((diffs a b).map fun x => -x))) (asV_ok (lc_ok (src_lst t0) ?_ ?_)) (c_diff hS (var_ok n.b) (var_ok n.a) k.b k.a h0 (by omega) (by omega)) (neL (diffs_swap a b).symm)))
  · refine bin_ok (var_ok n.h) (var_ok n.w) ((x_mul (.inr (by omega))).trans ?_)
    rw [Int.natCast_mul]
  · rw [rng_len]; omega
  · have hI : I (diffs a c) = (List.range (h * w)).map fun i => D.int ((diffs a b).getD i 0 + (diffs b c).getD i 0) := by
      rw [I, add_abc k, ← zw_range _ _ (lab.trans lbc.symm), List.map_map, lab]
      rfl
    rw [hI]
    refine lc_map (f := fun i => D.int ((diffs a b).getD i 0 + (diffs b c).getD i 0)) _ (List.range (h * w)) fun i hi => ⟨_, rfl, ?_⟩
    have hi' : i < h * w := by simpa using hi
    have n8 : (((wipeE e [8]).set 8 (some (D.int (0 + (i : Int))))))[8]? = some (some (.int (i : Int))) := by
      rw [Int.zero_add, List.getElem?_set_self (by rw [wipeE_length, n.len]; decide)]
    have n19 : (((wipeE e [8]).set 8 (some (D.int (0 + (i : Int))))))[19]? = some (some (tri a b c)) := by
      rw [List.getElem?_set_ne (by decide)]
      show ((e.set 8 none)[19]?) = _
      rw [List.getElem?_set_ne (by decide), he]
    obtain ⟨u0, u1, u2⟩ := tri_at (S := S) n19
    exact bin_ok (bin_ok u0 (var_ok n8) (getD_ix (by omega))) (bin_ok u1 (var_ok n8) (getD_ix (by omega))) x_add
  · rw [I, List.length_map]; omega
  · have hI : I ((diffs a b).map fun x => -x) = (diffs a b).map fun x => D.int (-x) := by rw [I, List.map_map]; rfl
    rw [hI]
    refine lc_map (f := fun x => D.int (-x)) D.int (diffs a b) fun x hx => ⟨_, rfl, ?_⟩
    rw [x_mUn, var_ok (d := .int x) (List.getElem?_set_self (by rw [wipeE_length, n.len]; decide))]
    rfl
theorem s10_ok (hS : clS S.length S = true) (n : En e h w a b c) (k : Ok h w a b c) (he : e[19]? = some (some (tri a b c))) : s10 e S = some (.nx, e, S) := by
  have hh := k.h9
  have hw := k.w9
  have h0 := k.h0
  have hm : h * w ≤ 9 * 9 := Nat.mul_le_mul hh hw
  have lac := diffs_len (Same2.of h0 (by omega) (by omega) k.a k.c)
  obtain ⟨t0, t1, t2⟩ := tri_at (S := S) he
  refine if_skip (ne_ff (call_ok (one_ok (asV_ok (ds := I ((diffs a c).map fun x => x * x)) (lc_ok (src_lst t2) ?_ (sq_ok (diffs_in k.a.grey k.c.grey) _ 20 ?_)))) (sum_I _)) (c_loss hS (var_ok n.a) (var_ok n.c) k.a k.c h0 (by omega) (by omega)) (neI rfl))
  · rw [I, List.length_map]; omega
  · rw [wipeE_length, n.len]; decide
theorem txt_add : mk (txt a) ++ mk (txt b) = mk (txt (a ++ b)) := by rw [mk_app, txt_app]
theorem s11_ok (hS : clS S.length S = true) (n : En e h w a b c) (k : Ok h w a b c) : s11 e S = some (.nx, e, S) := by
  have hh := k.h9
  have hw := k.w9
  have h0 := k.h0
  have w0 := k.w0
  have va := c_above hS (var_ok n.a) (var_ok n.b) k.a k.b (by omega) (by omega)
  have pa := above_pic k.a k.b
  have wa := c_write hS (var_ok n.a) k.a (by omega) (by omega)
  have wb := c_write hS (var_ok n.b) k.b (by omega) (by omega)
  have wab := c_write hS va pa (by omega) (by omega)
  have la := ln_sum a fun r hr => Nat.le_of_eq (k.a.wide r hr)
  have lb := ln_sum b fun r hr => Nat.le_of_eq (k.b.wide r hr)
  rw [k.a.high] at la
  rw [k.b.high] at lb
  have hm : h * (w + 1) ≤ 9 * 10 := Nat.mul_le_mul hh (by omega)
  have hadd : dAdd (.str (mk (txt a))) (.str (mk (txt b))) S = some (.str (mk (txt (a ++ b)))) := by
    show (if (mk (txt a)).length + (mk (txt b)).length ≤ sizeLine then some (D.str (mk (txt a) ++ mk (txt b))) else none) = _
    rw [if_pos (by rw [mk_len, mk_len]; exact sz (by omega)), txt_add]
  have both := bin_ok wa wb hadd
  have vc := c_bes hS (var_ok n.a) (var_ok n.c) k.a k.c (by omega) (by omega) (by omega)
  refine if_skip (or_ff (ne_ff wab both (neS rfl)) (or_ff (ne_ff (callF_ok (one_ok both) (read_ok hS (by omega) (by omega) w0 (by omega) pa)) va (neP rfl)) (b_ok (bin_ok (callF_ok (one_ok vc) (is_pic_ok hS h0 (by omega) (by omega) (by omega) (bes_pic k.a k.c))) rfl rfl))))
end
end K08


set_option Elab.async false
set_option linter.all false
set_option maxRecDepth 100000
set_option maxHeartbeats 4000000
namespace K08
open PySem PySem.Spec PyProof.Rows L2 M
section
variable [Tabs]
variable {e : M.Env} {S : Store} {h w : Nat} {a b c : Pc} {i : Nat} {v : Option D} {g : Int}
abbrev flt (h w : Nat) (g : Int) : Pc := List.replicate h (List.replicate w g)
theorem zip_repl {α β : Type} (y : β) : ∀ (l : List α), l.zip (List.replicate l.length y) = l.map fun x => (x, y)
  | [] => rfl
  | x :: l => by rw [List.length_cons, List.replicate_succ, List.zip_cons_cons, zip_repl y l]; rfl
theorem loss_flat (pa : IsPic h w a) : lossI (diffs a (flt h w g)) = (a.map fun r => (r.map fun x => (x - g) * (x - g)).sum).sum := by
  rw [diffs_rd, lossI_flat, ← pa.high, zip_repl, List.map_map, List.map_map]
  congr 1
  apply List.map_congr_left
  intro r hr
  show lossI ((r.zip (List.replicate w g)).map fun q => q.1 - q.2) = _
  rw [← pa.wide r hr, zip_repl, lossI, List.map_map, List.map_map]
  rfl
theorem bes_flat : bes (flt h w g) (flt h w g) = flt h (2 * w) g := by
  have : ∀ (x : List Int) (h : Nat), ((List.replicate h x).zip (List.replicate h x)).map (fun p => p.1 ++ p.2) = List.replicate h (x ++ x) := by
    intro x h
    induction h with
    | zero => rfl
    | succ h ih => rw [List.replicate_succ, List.zip_cons_cons, List.map_cons, ih]; rfl
  show ((List.replicate h _).zip (List.replicate h _)).map _ = _
  rw [this, List.replicate_append_replicate]
  have e : w + w = 2 * w := by omega
  rw [e]
theorem s14_ok (hS : clS S.length S = true) (n : En e h w a b c) (k : Ok h w a b c) (hg : 0 ≤ g ∧ g ≤ 15) (h21 : e[21]? = some (some (.int g))) (h22 : e[22]? = some (some (pic (flt h w g)))) : s14 e S = some (.nx, e, S) := by
  have hh := k.h9
  have hw := k.w9
  have h0 := k.h0
  have w0 := k.w0
  have pf : IsPic h w (flt h w g) := flat_pic hg
  have hsum : asV (mLc (mSrc (mVar 5)) (gN 24) mYes e_law_14 [24]) e S = .ok (.lst (I (a.map fun r => (r.map fun x => (x - g) * (x - g)).sum))) S := by
    refine asV_ok (lc_ok (src_tup (var_ok n.a)) ?_ ?_)
    · rw [List.length_map, k.a.high]; omega
    · rw [I, List.map_map]
      refine lc_map (f := fun r => D.int (r.map fun x => (x - g) * (x - g)).sum) (fun r => D.tup (I r)) a fun r hr => ⟨_, rfl, ?_⟩
      have e24 : ((wipeE e [24]).set 24 (some (.tup (I r))))[24]? = some (some (.tup (I r))) := List.getElem?_set_self (by rw [wipeE_length, n.len]; decide)
      refine call_ok (one_ok (asV_ok (ds := I (r.map fun x => (x - g) * (x - g))) (lc_ok (src_tup (var_ok e24)) ?_ ?_))) (sum_I _)
      · rw [I, List.length_map, k.a.wide r hr]; omega
      · rw [I, I, List.map_map]
        refine lc_map (f := fun x => D.int ((x - g) * (x - g))) D.int r fun x hx => ⟨_, rfl, ?_⟩
        have hx15 := k.a.grey r hr x hx
        have e23 : ((wipeE ((wipeE e [24]).set 24 (some (.tup (I r)))) [23]).set 23 (some (.int x)))[23]? = some (some (.int x)) := List.getElem?_set_self (by rw [wipeE_length, List.length_set, wipeE_length, n.len]; decide)
        have e21 : ((wipeE ((wipeE e [24]).set 24 (some (.tup (I r)))) [23]).set 23 (some (.int x)))[21]? = some (some (.int g)) := by
          rw [List.getElem?_set_ne (by decide)]
          show ((((e.set 24 none).set 24 (some (.tup (I r)))).set 23 none)[21]?) = _
          rw [List.getElem?_set_ne (by decide), List.getElem?_set_ne (by decide), List.getElem?_set_ne (by decide), h21]
        exact bin_ok (bin_ok (var_ok e23) (var_ok e21) x_sub) (bin_ok (var_ok e23) (var_ok e21) x_sub) (x_mul (.inl (by omega)))
  have h2w : ((2 : Int) * (w : Int)) = ((2 * w : Nat) : Int) := by omega
  refine if_skip (or_ff (ne_ff (c_loss hS (var_ok n.a) (var_ok h22) k.a pf h0 (by omega) (by omega)) (call_ok (one_ok hsum) (sum_I _)) (neI (loss_flat k.a))) (ne_ff (c_bes hS (var_ok h22) (var_ok h22) pf pf (by omega) (by omega) (by omega)) (callF_ok (cons_ok (var_ok n.h) (cons_ok (bin_ok rfl (var_ok n.w) (x_mul (.inl (by decide)))) (one_ok (var_ok h21)))) ?_) (neP bes_flat)))
  rw [h2w]
  exact flat_ok hS h (2 * w) g (by omega) (by omega)
theorem loss_mir (pa : IsPic h w a) (pb : IsPic h w b) : lossI (diffs (a.map List.reverse) (b.map List.reverse)) = lossI (diffs a b) := by
  rw [diffs_rd, diffs_rd, lossI_flat, lossI_flat, List.map_map, List.map_map, List.zip_map, List.map_map]
  congr 1
  apply List.map_congr_left
  intro p hp
  show lossI (rd (p.1.reverse, p.2.reverse)) = lossI (rd p)
  rw [rd_rev p (by rw [pa.wide _ (List.of_mem_zip hp).1, pb.wide _ (List.of_mem_zip hp).2]), lossI_rev]
theorem loss_rev (pa : IsPic h w a) (pb : IsPic h w b) : lossI (diffs a.reverse b.reverse) = lossI (diffs a b) := by
  rw [diffs_rd, diffs_rd, lossI_flat, lossI_flat, List.map_map, List.map_map, zip_rev a b (by rw [pa.high, pb.high]), sum_map_rev]
theorem mir_ok {j : Nat} {p : Pc} (n : e.length = 25) (hj : e[j]? = some (some (pic p))) (pp : IsPic h w p) (hh : h ≤ 40) : mCall dTuple (mCons (asV (mLc (mSrc (mVar j)) (gN 24) mYes (mUn dRev (mVar 24)) [24])) mNil) e S = .ok (pic (p.map List.reverse)) S := by
  refine tuple_ok (lc_ok (src_tup (var_ok hj)) ?_ ?_)
  · rw [List.length_map, pp.high]; omega
  · rw [List.map_map]
    refine lc_map (f := fun r => D.tup (I r.reverse)) (fun r => D.tup (I r)) p fun r hr => ⟨_, rfl, ?_⟩
    rw [x_mUn, var_ok (d := .tup (I r)) (List.getElem?_set_self (by rw [wipeE_length, n]; decide)), Res.bind_ok]
    show Res.ok (D.tup (I r).reverse) S = _
    rw [I, I, List.map_reverse]
theorem rev_ok {j : Nat} {p : Pc} (hj : e[j]? = some (some (pic p))) : mUn dRev (mVar j) e S = .ok (pic p.reverse) S := by
  rw [x_mUn, var_ok hj, Res.bind_ok]
  show Res.ok (D.tup (p.map _).reverse) S = _
  rw [pic, List.map_reverse]
theorem s15_ok (hS : clS S.length S = true) (n : En e h w a b c) (k : Ok h w a b c) : s15 e S = some (.nx, e, S) := by
  have hh := k.h9
  have hw := k.w9
  have h0 := k.h0
  have lab := c_loss hS (var_ok n.a) (var_ok n.b) k.a k.b h0 (by omega) (by omega)
  exact if_skip (or_ff (ne_ff (c_loss hS (mir_ok n.len n.a k.a (by omega)) (mir_ok n.len n.b k.b (by omega)) (mir_pic k.a) (mir_pic k.b) h0 (by omega) (by omega)) lab (neI (loss_mir k.a k.b)))
    (ne_ff (c_loss hS (rev_ok n.a) (rev_ok n.b) (rev_pic k.a) (rev_pic k.b) h0 (by omega) (by omega)) lab (neI (loss_rev k.a k.b))))
end
end K08


set_option Elab.async false
set_option linter.all false
set_option maxRecDepth 100000
set_option maxHeartbeats 4000000
namespace K08
open PySem PySem.Spec PyProof.Rows L2 M
section
variable [Tabs]
variable {e : M.Env} {S : Store} {h w : Nat} {a b c : Pc} {i : Nat} {v : Option D} {g : Int} {row col : Nat}
/-! the four parts of a picture -/
def pt (a : Pc) (row col : Nat) (i j : Nat) : Pc := ((if i = 0 then a.take row else a.drop row)).map (if j = 0 then List.take col else List.drop col)
theorem bes_cut (l : Pc) (c : Nat) : bes (l.map (List.take c)) (l.map (List.drop c)) = l := by
  unfold bes
  rw [List.zip_map', List.map_map]
  conv => rhs; rw [← List.map_id l]
  exact List.map_congr_left fun r _ => List.take_append_drop c r
theorem rd_cut (p q : List Int) (c : Nat) : rd (p, q) = rd (p.take c, q.take c) ++ rd (p.drop c, q.drop c) := by
  unfold rd
  rw [← List.map_append, List.zip_eq_zipWith, List.zip_eq_zipWith, List.zip_eq_zipWith, ← List.take_zipWith, ← List.drop_zipWith, List.take_append_drop]
theorem cols_loss (c : Nat) : ∀ (l m : Pc), lossI (diffs l m) = lossI (diffs (l.map (List.take c)) (m.map (List.take c))) + lossI (diffs (l.map (List.drop c)) (m.map (List.drop c)))
  | [], _ => by simp [diffs, lossI]
  | _ :: _, [] => by simp [diffs, lossI]
  | p :: l, q :: m => by
    have ih := cols_loss c l m
    have e : ∀ (x y : List Int) (p q : Pc), diffs (x :: p) (y :: q) = rd (x, y) ++ diffs p q := fun _ _ _ _ => rfl
    rw [List.map_cons, List.map_cons, List.map_cons, List.map_cons, e, e, e, lossI_app, lossI_app, lossI_app, ih, rd_cut p q c, lossI_app]
    omega
theorem cols_mem (c : Nat) (x : Int) : ∀ (l m : Pc), x ∈ diffs l m ↔ x ∈ diffs (l.map (List.take c)) (m.map (List.take c)) ++ diffs (l.map (List.drop c)) (m.map (List.drop c))
  | [], _ => by simp [diffs]
  | _ :: _, [] => by simp [diffs]
  | p :: l, q :: m => by
    have ih := cols_mem c x l m
    have e : ∀ (x y : List Int) (p q : Pc), diffs (x :: p) (y :: q) = rd (x, y) ++ diffs p q := fun _ _ _ _ => rfl
    rw [List.map_cons, List.map_cons, List.map_cons, List.map_cons, e, e, e, rd_cut p q c]
    simp only [List.mem_append] at ih ⊢
    rw [ih]
    constructor <;> rintro ((h | h) | (h | h)) <;> simp [h]
theorem gap_ext {l m : List Int} (hl : l ≠ []) (hm : m ≠ []) (h : ∀ x, x ∈ l ↔ x ∈ m) : gapI l = gapI m := by
  obtain ⟨x, hx, e1⟩ := gap_mem hl
  obtain ⟨y, hy, e2⟩ := gap_mem hm
  have h1 := gap_ge ((h x).mp hx)
  have h2 := gap_ge ((h y).mpr hy)
  omega
theorem take_pic (pa : IsPic h w a) (hr : row ≤ h) : IsPic row w (a.take row) := ⟨by rw [List.length_take, pa.high]; omega, fun r hr => pa.wide r (List.mem_of_mem_take hr), fun r hr => pa.grey r (List.mem_of_mem_take hr)⟩
theorem drop_pic (pa : IsPic h w a) : IsPic (h - row) w (a.drop row) := ⟨by rw [List.length_drop, pa.high], fun r hr => pa.wide r (List.mem_of_mem_drop hr), fun r hr => pa.grey r (List.mem_of_mem_drop hr)⟩
theorem ctake_pic (pa : IsPic h w a) (hc : col ≤ w) : IsPic h col (a.map (List.take col)) := by
  refine ⟨by rw [List.length_map, pa.high], fun r hr => ?_, fun r hr => ?_⟩ <;> obtain ⟨p, hp, rfl⟩ := List.mem_map.mp hr
  · rw [List.length_take, pa.wide p hp]; omega
  · exact fun x hx => pa.grey p hp x (List.mem_of_mem_take hx)
theorem cdrop_pic (pa : IsPic h w a) : IsPic h (w - col) (a.map (List.drop col)) := by
  refine ⟨by rw [List.length_map, pa.high], fun r hr => ?_, fun r hr => ?_⟩ <;> obtain ⟨p, hp, rfl⟩ := List.mem_map.mp hr
  · rw [List.length_drop, pa.wide p hp]
  · exact fun x hx => pa.grey p hp x (List.mem_of_mem_drop hx)
/-- the sides of the parts -/
def sd (n c i : Nat) : Nat := if i = 0 then c else n - c
theorem pt_pic (pa : IsPic h w a) (hr : row ≤ h) (hc : col ≤ w) (i j : Nat) : IsPic (sd h row i) (sd w col j) (pt a row col i j) := by
  unfold pt sd
  by_cases hi : i = 0 <;> by_cases hj : j = 0 <;> simp only [hi, hj, if_true, if_false]
  · exact ctake_pic (take_pic pa hr) hc
  · exact cdrop_pic (take_pic pa hr)
  · exact ctake_pic (drop_pic pa) hc
  · exact cdrop_pic (drop_pic pa)
theorem dn0 {m n : Nat} {p q : Pc} (pp : IsPic m n p) (pq : IsPic m n q) (m0 : 0 < m) (n0 : 0 < n) (m9 : m ≤ 40) (n9 : n ≤ 40) : diffs p q ≠ [] := by
  intro h0
  have h1 := diffs_len (Same2.of m0 m9 n9 pp pq)
  rw [h0] at h1
  have := Nat.mul_pos m0 n0
  simp at h1; omega
theorem part_eq (pa : IsPic h w a) (hr : row ≤ h) (hc : col ≤ w) (i j : Nat) (hi : i < 2) (hj : j < 2) :
    ((a.drop (if i = 0 then 0 else row)).take (sd h row i)).map (fun r => (r.drop (if j = 0 then 0 else col)).take (sd w col j)) = pt a row col i j := by
  unfold pt sd
  by_cases hi : i = 0 <;> by_cases hj : j = 0 <;> simp only [hi, hj, if_true, if_false, List.drop_zero]
  · refine List.map_congr_left fun r hr => ?_
    rw [List.take_of_length_le (by rw [List.length_drop, pa.wide r (List.mem_of_mem_take hr)]; exact Nat.le_refl _)]
  · rw [List.take_of_length_le (by rw [List.length_drop, pa.high]; exact Nat.le_refl _)]
  · rw [List.take_of_length_le (by rw [List.length_drop, pa.high]; exact Nat.le_refl _)]
    refine List.map_congr_left fun r hr => ?_
    rw [List.take_of_length_le (by rw [List.length_drop, pa.wide r (List.mem_of_mem_drop hr)]; exact Nat.le_refl _)]
theorem loss_parts (a b : Pc) (hl : a.length = b.length) (row col : Nat) : lossI (diffs a b) = lossI (diffs (pt a row col 0 0) (pt b row col 0 0)) + lossI (diffs (pt a row col 0 1) (pt b row col 0 1)) + (lossI (diffs (pt a row col 1 0) (pt b row col 1 0)) + lossI (diffs (pt a row col 1 1) (pt b row col 1 1))) := by
  have h1 : diffs a b = diffs (a.take row) (b.take row) ++ diffs (a.drop row) (b.drop row) := by
    rw [← diffs_above _ _ _ _ (by simp [hl]), List.take_append_drop, List.take_append_drop]
  rw [h1, lossI_app, cols_loss col (a.take row), cols_loss col (a.drop row)]
  rfl
theorem gap_parts (pa : IsPic h w a) (pb : IsPic h w b) (h9 : h ≤ 40) (w9 : w ≤ 40) (r0 : 0 < row) (r1 : row < h) (c0 : 0 < col) (c1 : col < w) :
    gapI (diffs a b) = mx [mx [gapI (diffs (pt a row col 0 0) (pt b row col 0 0)), gapI (diffs (pt a row col 0 1) (pt b row col 0 1))], mx [gapI (diffs (pt a row col 1 0) (pt b row col 1 0)), gapI (diffs (pt a row col 1 1) (pt b row col 1 1))]] := by
  have h1 : diffs a b = diffs (a.take row) (b.take row) ++ diffs (a.drop row) (b.drop row) := by
    rw [← diffs_above _ _ _ _ (by rw [List.length_take, List.length_take, pa.high, pb.high]), List.take_append_drop, List.take_append_drop]
  have n0 : diffs (a.take row) (b.take row) ≠ [] := dn0 (take_pic pa (by omega)) (take_pic pb (by omega)) r0 (by omega) (by omega) w9
  have n1 : diffs (a.drop row) (b.drop row) ≠ [] := dn0 (drop_pic (row := row) pa) (drop_pic pb) (by omega) (by omega) (by omega) w9
  have q : ∀ i j, diffs (pt a row col i j) (pt b row col i j) ≠ [] := fun i j => by
    have s1 : 0 < sd h row i ∧ sd h row i ≤ 40 := by unfold sd; split <;> omega
    have s2 : 0 < sd w col j ∧ sd w col j ≤ 40 := by unfold sd; split <;> omega
    exact dn0 (pt_pic pa (by omega) (by omega) i j) (pt_pic pb (by omega) (by omega) i j) s1.1 s2.1 s1.2 s2.2
  rw [h1, gap_app n0 n1, gap_ext (m := diffs (pt a row col 0 0) (pt b row col 0 0) ++ diffs (pt a row col 0 1) (pt b row col 0 1)) n0 (by simp [q]) (fun x => cols_mem col x _ _),
    gap_ext (m := diffs (pt a row col 1 0) (pt b row col 1 0) ++ diffs (pt a row col 1 1) (pt b row col 1 1)) n1 (by simp [q]) (fun x => cols_mem col x _ _), gap_app (q 0 0) (q 0 1), gap_app (q 1 0) (q 1 1)]
end
end K08


set_option Elab.async false
set_option linter.all false
set_option maxRecDepth 100000
set_option maxHeartbeats 4000000
namespace K08
open PySem PySem.Spec PyProof.Rows L2 M
section
variable [Tabs]
variable {e : M.Env} {S : Store} {h w : Nat} {a b c : Pc} {i : Nat} {v : Option D} {g : Int} {row col : Nat}
def io (n m i : Nat) : D := .tup [.int ((if i = 0 then 0 else m : Nat) : Int), .int ((sd n m i : Nat) : Int)]
theorem io_eq {n m : Nat} (hm : m ≤ n) : ([.tup [.int 0, .int (m : Int)], .tup [.int (m : Int), .int ((n : Int) - (m : Int))]] : List D) = [0, 1].map (io n m) := by
  have e1 : (n : Int) - (m : Int) = ((n - m : Nat) : Int) := by omega
  rw [e1]
  rfl
theorem io_src {n m s t : Nat} (hm : m ≤ n) (hs : e[s]? = some (some (.int (m : Int)))) (ht : e[t]? = some (some (.int (n : Int)))) :
    mSrc (asV (mLst (mCons (mTup (mCons (mC (.int 0)) (mCons (mVar s) mNil))) (mCons (mTup (mCons (mVar s) (mCons (mBin dSub (mVar t) (mVar s)) mNil))) mNil)))) e S = .ok ⟨[0, 1].map (io n m), []⟩ S := by
  refine src_lst ?_
  rw [← io_eq hm]
  exact asV_ok (lst_ok (cons_ok (tup_ok (cons_ok rfl (one_ok (var_ok hs))) (a1 (w := 2) (by decide))) (one_ok (tup_ok (cons_ok (var_ok hs) (one_ok (bin_ok (var_ok ht) (var_ok hs) x_sub))) (a1 (w := 2) (by decide))))) (a1 (w := 2) (by decide)))
abbrev PV (a : Pc) (row col : Nat) : D := .lst [.lst [pic (pt a row col 0 0), pic (pt a row col 0 1)], .lst [pic (pt a row col 1 0), pic (pt a row col 1 1)]]
theorem parts_ok {j : Nat} (hS : clS S.length S = true) (n : En e h w a b c) (k : Ok h w a b c) {p : Pc} (pp : IsPic h w p) (hj : e[j]? = some (some (pic p))) (h9 : e[9]? = some (some (.int (row : Int)))) (h10 : e[10]? = some (some (.int (col : Int)))) (hr : row ≤ h) (hc : col ≤ w)
    (hne : (j != 12 && j != 13 && j != 14 && j != 15) = true) :
    asV (mLc (mSrc (asV (mLst (mCons (mTup (mCons (mC (.int 0)) (mCons (mVar 9) mNil))) (mCons (mTup (mCons (mVar 9) (mCons (mBin dSub (mVar 3) (mVar 9)) mNil))) mNil))))) (gTup 2 (gCons (gN 14) (gCons (gN 15) gNil))) mYes
      (asV (mLc (mSrc (asV (mLst (mCons (mTup (mCons (mC (.int 0)) (mCons (mVar 10) mNil))) (mCons (mTup (mCons (mVar 10) (mCons (mBin dSub (mVar 4) (mVar 10)) mNil))) mNil))))) (gTup 2 (gCons (gN 12) (gCons (gN 13) gNil))) mYes
        (mCallF 5 m_part_of (mCons (mVar j) (mCons (mVar 14) (mCons (mVar 12) (mCons (mVar 15) (mCons (mVar 13) mNil)))))) [12, 13])) [14, 15]) e S = .ok (PV p row col) S := by
  have hh := k.h9
  simp only [Bool.and_eq_true, bne_iff_ne, ne_eq] at hne
  obtain ⟨⟨⟨j12, j13⟩, j14⟩, j15⟩ := hne
  refine asV_ok (lc_ok (io_src hr h9 n.h) (by simp) ?_)
  refine lc_map (f := fun i => D.lst ([0, 1].map fun j => pic (pt p row col i j))) (io h row) [0, 1] fun i hi => ?_
  have hi2 : i < 2 := by simp at hi; omega
  refine ⟨_, rfl, ?_⟩
  have get : ∀ s, s ≠ 14 → s ≠ 15 → (((wipeE e [14, 15]).set 14 (some (.int ((if i = 0 then 0 else row : Nat) : Int)))).set 15 (some (.int ((sd h row i : Nat) : Int))))[s]? = e[s]? := fun s a1 a2 => by
    show ((((e.set 15 none).set 14 none).set 14 _).set 15 _)[s]? = _
    rw [List.getElem?_set_ne (Ne.symm a2), List.getElem?_set_ne (Ne.symm a1), List.getElem?_set_ne (Ne.symm a1), List.getElem?_set_ne (Ne.symm a2)]
  refine asV_ok (lc_ok (io_src hc ((get 10 (by decide) (by decide)).trans h10) ((get 4 (by decide) (by decide)).trans n.w)) (by simp) ?_)
  refine lc_map (f := fun j => pic (pt p row col i j)) (io w col) [0, 1] fun l hl => ?_
  have hl2 : l < 2 := by simp at hl; omega
  refine ⟨_, rfl, ?_⟩
  generalize he1 : ((wipeE e [14, 15]).set 14 (some (.int ((if i = 0 then 0 else row : Nat) : Int)))).set 15 (some (.int ((sd h row i : Nat) : Int))) = e1 at get
  have len1 : e1.length = 25 := by rw [← he1, List.length_set, List.length_set, wipeE_length, n.len]
  have g14 : e1[14]? = some (some (.int ((if i = 0 then 0 else row : Nat) : Int))) := by
    rw [← he1, List.getElem?_set_ne (by decide), List.getElem?_set_self (by rw [wipeE_length, n.len]; decide)]
  have g15 : e1[15]? = some (some (.int ((sd h row i : Nat) : Int))) := by
    rw [← he1, List.getElem?_set_self (by rw [List.length_set, wipeE_length, n.len]; decide)]
  have get2 : ∀ s, s ≠ 12 → s ≠ 13 → (((wipeE e1 [12, 13]).set 12 (some (.int ((if l = 0 then 0 else col : Nat) : Int)))).set 13 (some (.int ((sd w col l : Nat) : Int))))[s]? = e1[s]? := fun s a1 a2 => by
    show ((((e1.set 13 none).set 12 none).set 12 _).set 13 _)[s]? = _
    rw [List.getElem?_set_ne (Ne.symm a2), List.getElem?_set_ne (Ne.symm a1), List.getElem?_set_ne (Ne.symm a1), List.getElem?_set_ne (Ne.symm a2)]
  have g12 : (((wipeE e1 [12, 13]).set 12 (some (.int ((if l = 0 then 0 else col : Nat) : Int)))).set 13 (some (.int ((sd w col l : Nat) : Int))))[12]? = some (some (.int ((if l = 0 then 0 else col : Nat) : Int))) := by
    rw [List.getElem?_set_ne (by decide), List.getElem?_set_self (by rw [wipeE_length, len1]; decide)]
  have g13 : (((wipeE e1 [12, 13]).set 12 (some (.int ((if l = 0 then 0 else col : Nat) : Int)))).set 13 (some (.int ((sd w col l : Nat) : Int))))[13]? = some (some (.int ((sd w col l : Nat) : Int))) := by
    rw [List.getElem?_set_self (by rw [List.length_set, wipeE_length, len1]; decide)]
  refine callF_ok (cons_ok (var_ok ((get2 j j12 j13).trans ((get j j14 j15).trans hj))) (cons_ok (var_ok ((get2 14 (by decide) (by decide)).trans g14)) (cons_ok (var_ok g12) (cons_ok (var_ok ((get2 15 (by decide) (by decide)).trans g15)) (one_ok (var_ok g13)))))) ?_
  rw [part_of_ok hS (by rw [pp.high]; omega), part_eq pp hr hc i l hi2 hl2]
theorem q1_ok (hS : clS S.length S = true) (n : En e h w a b c) (k : Ok h w a b c) (h9 : e[9]? = some (some (.int (row : Int)))) (h10 : e[10]? = some (some (.int (col : Int)))) (hr : row ≤ h) (hc : col ≤ w) : q1 e S = some (.nx, e.set 11 (some (PV a row col)), S) :=
  set_ok (parts_ok hS n k k.a n.a h9 h10 hr hc rfl)
theorem q4_ok (hS : clS S.length S = true) (n : En e h w a b c) (k : Ok h w a b c) (h9 : e[9]? = some (some (.int (row : Int)))) (h10 : e[10]? = some (some (.int (col : Int)))) (hr : row ≤ h) (hc : col ≤ w) : q4 e S = some (.nx, e.set 17 (some (PV b row col)), S) :=
  set_ok (parts_ok hS n k k.b n.b h9 h10 hr hc rfl)
theorem pv_at {s i j : Nat} {p : Pc} {mi mj : ME} (hs : e[s]? = some (some (PV p row col))) (hi : mi e S = .ok (.int (i : Int)) S) (hj : mj e S = .ok (.int (j : Int)) S) (i2 : i < 2) (j2 : j < 2) : mBin dIx (mBin dIx (mVar s) mi) mj e S = .ok (pic (pt p row col i j)) S := by
  have hi3 : i = 0 ∨ i = 1 := by omega
  have hj3 : j = 0 ∨ j = 1 := by omega
  rcases hi3 with rfl | rfl <;> rcases hj3 with rfl | rfl <;> exact bin_ok (bin_ok (var_ok hs) hi (ix_lst _ _ _ _ rfl)) hj (ix_lst _ _ _ _ rfl)
end
end K08


set_option Elab.async false
set_option linter.all false
set_option maxRecDepth 100000
set_option maxHeartbeats 4000000
namespace K08
open PySem PySem.Spec PyProof.Rows L2 M
section
variable [Tabs]
variable {e : M.Env} {S : Store} {h w : Nat} {a b c : Pc} {i : Nat} {v : Option D} {g : Int} {row col : Nat}
theorem rows_eq (a : Pc) (row col i : Nat) : bes (pt a row col i 0) (pt a row col i 1) = if i = 0 then a.take row else a.drop row := bes_cut _ _
theorem cols_eq (a : Pc) (row col j : Nat) : pt a row col 0 j ++ pt a row col 1 j = a.map (if j = 0 then List.take col else List.drop col) := by
  unfold pt
  simp only [if_true, Nat.one_ne_zero, if_false]
  rw [← List.map_append, List.take_append_drop]
theorem sd_le (n c i : Nat) (h : n ≤ 9) (hc : c ≤ n) : sd n c i ≤ 9 := by unfold sd; split <;> omega
theorem sd_pos (n c i : Nat) (h0 : 0 < c) (hc : c < n) : 0 < sd n c i := by unfold sd; split <;> omega
theorem q2_ok (hS : clS S.length S = true) (n : En e h w a b c) (k : Ok h w a b c) (h11 : e[11]? = some (some (PV a row col))) (hr : row ≤ h) (hc : col ≤ w) : q2 e S = some (.nx, e.set 16 (some (pic a)), S) := by
  have hh := k.h9
  have hw := k.w9
  have pq := fun i j => pt_pic (row := row) (col := col) k.a hr hc i j
  have s1 := fun i => sd_le h row i hh hr
  have s2 := fun j => sd_le w col j hw hc
  have v := fun (i j : Nat) (hi : i < 2) (hj : j < 2) (mi mj : ME) (e1 : mi e S = .ok (.int (i : Int)) S) (e2 : mj e S = .ok (.int (j : Int)) S) => pv_at (S := S) h11 e1 e2 hi hj
  have b0 := c_bes hS (v 0 0 (by decide) (by decide) (mC (.int 0)) (mC (.int 0)) rfl rfl) (v 0 1 (by decide) (by decide) (mC (.int 0)) (mC (.int 1)) rfl rfl) (pq 0 0) (pq 0 1) (by have := s1 0; omega) (by have := s2 0; omega) (by have := s2 1; omega)
  have b1 := c_bes hS (v 1 0 (by decide) (by decide) (mC (.int 1)) (mC (.int 0)) rfl rfl) (v 1 1 (by decide) (by decide) (mC (.int 1)) (mC (.int 1)) rfl rfl) (pq 1 0) (pq 1 1) (by have := s1 1; omega) (by have := s2 0; omega) (by have := s2 1; omega)
  rw [rows_eq, if_pos rfl] at b0
  rw [rows_eq, if_neg (by decide)] at b1
  have r := c_above hS b0 b1 (take_pic k.a hr) (drop_pic k.a) (by omega) (by omega)
  rw [List.take_append_drop] at r
  exact set_ok r
theorem q3_ok (hS : clS S.length S = true) (n : En e h w a b c) (k : Ok h w a b c) (h11 : e[11]? = some (some (PV a row col))) (h16 : e[16]? = some (some (pic a))) (hr : row ≤ h) (hc : col ≤ w) : q3 e S = some (.nx, e, S) := by
  have hh := k.h9
  have hw := k.w9
  have pq := fun i j => pt_pic (row := row) (col := col) k.a hr hc i j
  have s1 := fun i => sd_le h row i hh hr
  have v := fun (i j : Nat) (hi : i < 2) (hj : j < 2) (mi mj : ME) (e1 : mi e S = .ok (.int (i : Int)) S) (e2 : mj e S = .ok (.int (j : Int)) S) => pv_at (S := S) h11 e1 e2 hi hj
  have b0 := c_above hS (v 0 0 (by decide) (by decide) (mC (.int 0)) (mC (.int 0)) rfl rfl) (v 1 0 (by decide) (by decide) (mC (.int 1)) (mC (.int 0)) rfl rfl) (pq 0 0) (pq 1 0) (by have := s1 0; omega) (by have := s1 1; omega)
  have b1 := c_above hS (v 0 1 (by decide) (by decide) (mC (.int 0)) (mC (.int 1)) rfl rfl) (v 1 1 (by decide) (by decide) (mC (.int 1)) (mC (.int 1)) rfl rfl) (pq 0 1) (pq 1 1) (by have := s1 0; omega) (by have := s1 1; omega)
  rw [cols_eq, if_pos rfl] at b0
  rw [cols_eq, if_neg (by decide)] at b1
  have r := c_bes hS b0 b1 (ctake_pic k.a hc) (cdrop_pic k.a) (by omega) (by omega) (by omega)
  rw [bes_cut] at r
  exact if_skip (or_ff (ne_ff (var_ok h16) (var_ok n.a) (neP rfl)) (ne_ff r (var_ok n.a) (neP rfl)))
theorem rng2 (F : Nat → Int) : (I [F 0, F 1] : List D) = (List.range 2).map fun i => D.int (F i) := rfl
theorem sum2 (me : ME) (s : Nat) (F : Nat → Int) (hm : ∀ i : Nat, i < 2 → me ((wipeE e [s]).set s (some (.int (i : Int)))) S = .ok (.int (F i)) S) : asV (mLc (mSrcA srcR1 (mCons (mC (.int 2)) mNil)) (gN s) mYes me [s]) e S = .ok (.lst (I [F 0, F 1])) S := by
  refine asV_ok (lc_ok (src_rng 2 (by decide) rfl) (by rw [rng_len]; decide) ?_)
  rw [rng2]
  refine lc_map (f := fun i => D.int (F i)) _ (List.range 2) fun i hi => ⟨_, rfl, ?_⟩
  rw [Int.zero_add]
  exact hm i (by simpa using hi)
theorem get_w {s j : Nat} (hj : j ≠ s) (v : Option D) : ((wipeE e [s]).set s v)[j]? = e[j]? := by
  show ((e.set s none).set s v)[j]? = _
  rw [List.getElem?_set_ne (Ne.symm hj), List.getElem?_set_ne (Ne.symm hj)]
theorem get_s {s : Nat} (hs : s < e.length) (v : Option D) : ((wipeE e [s]).set s v)[s]? = some v := List.getElem?_set_self (by rw [wipeE_length]; exact hs)
theorem q5_ok (hS : clS S.length S = true) (n : En e h w a b c) (k : Ok h w a b c) (h11 : e[11]? = some (some (PV a row col))) (h17 : e[17]? = some (some (PV b row col))) (r0 : 0 < row) (hr : row < h) (c0 : 0 < col) (hc : col < w) : q5 e S = some (.nx, e, S) := by
  have hh := k.h9
  have hw := k.w9
  have inner : ∀ i : Nat, i < 2 → e_law_7 ((wipeE e [8]).set 8 (some (.int (i : Int)))) S = .ok (.int ([lossI (diffs (pt a row col i 0) (pt b row col i 0)), lossI (diffs (pt a row col i 1) (pt b row col i 1))]).sum) S := by
    intro i hi
    refine call_ok (one_ok (sum2 e_law_6 18 (fun j => lossI (diffs (pt a row col i j) (pt b row col i j))) fun j hj => ?_)) (sum_I _)
    have x8 := (get_w (e := (wipeE e [8]).set 8 (some (.int (i : Int)))) (s := 18) (j := 8) (by decide) (some (.int (j : Int)))).trans (get_s (e := e) (s := 8) (by rw [n.len]; decide) _)
    have x11 := (get_w (e := (wipeE e [8]).set 8 (some (.int (i : Int)))) (s := 18) (j := 11) (by decide) (some (.int (j : Int)))).trans ((get_w (e := e) (s := 8) (j := 11) (by decide) _).trans h11)
    have x17 := (get_w (e := (wipeE e [8]).set 8 (some (.int (i : Int)))) (s := 18) (j := 17) (by decide) (some (.int (j : Int)))).trans ((get_w (e := e) (s := 8) (j := 17) (by decide) _).trans h17)
    have x18 := get_s (e := (wipeE e [8]).set 8 (some (.int (i : Int)))) (s := 18) (by rw [List.length_set, wipeE_length, n.len]; decide) (some (.int (j : Int)))
    exact c_loss hS (pv_at x11 (var_ok x8) (var_ok x18) hi hj) (pv_at x17 (var_ok x8) (var_ok x18) hi hj) (pt_pic k.a (by omega) (by omega) i j) (pt_pic k.b (by omega) (by omega) i j) (sd_pos h row i r0 hr) (by have := sd_le h row i hh (by omega); omega) (by have := sd_le w col j hw (by omega); omega)
  refine if_skip (ne_ff (call_ok (one_ok (sum2 e_law_7 8 _ inner)) (sum_I _)) (c_loss hS (var_ok n.a) (var_ok n.b) k.a k.b k.h0 (by omega) (by omega)) (neI ?_))
  rw [loss_parts a b (by rw [k.a.high, k.b.high]) row col]
  simp
theorem q6_ok (hS : clS S.length S = true) (n : En e h w a b c) (k : Ok h w a b c) (h11 : e[11]? = some (some (PV a row col))) (h17 : e[17]? = some (some (PV b row col))) (r0 : 0 < row) (hr : row < h) (c0 : 0 < col) (hc : col < w) : q6 e S = some (.nx, e, S) := by
  have hh := k.h9
  have hw := k.w9
  have inner : ∀ i : Nat, i < 2 → e_law_9 ((wipeE e [8]).set 8 (some (.int (i : Int)))) S = .ok (.int (mx [gapI (diffs (pt a row col i 0) (pt b row col i 0)), gapI (diffs (pt a row col i 1) (pt b row col i 1))])) S := by
    intro i hi
    refine call_ok (one_ok (sum2 e_law_8 18 (fun j => gapI (diffs (pt a row col i j) (pt b row col i j))) fun j hj => ?_)) (max_I _ (by simp))
    have x8 := (get_w (e := (wipeE e [8]).set 8 (some (.int (i : Int)))) (s := 18) (j := 8) (by decide) (some (.int (j : Int)))).trans (get_s (e := e) (s := 8) (by rw [n.len]; decide) _)
    have x11 := (get_w (e := (wipeE e [8]).set 8 (some (.int (i : Int)))) (s := 18) (j := 11) (by decide) (some (.int (j : Int)))).trans ((get_w (e := e) (s := 8) (j := 11) (by decide) _).trans h11)
    have x17 := (get_w (e := (wipeE e [8]).set 8 (some (.int (i : Int)))) (s := 18) (j := 17) (by decide) (some (.int (j : Int)))).trans ((get_w (e := e) (s := 8) (j := 17) (by decide) _).trans h17)
    have x18 := get_s (e := (wipeE e [8]).set 8 (some (.int (i : Int)))) (s := 18) (by rw [List.length_set, wipeE_length, n.len]; decide) (some (.int (j : Int)))
    exact c_gap hS (pv_at x11 (var_ok x8) (var_ok x18) hi hj) (pv_at x17 (var_ok x8) (var_ok x18) hi hj) (pt_pic k.a (by omega) (by omega) i j) (pt_pic k.b (by omega) (by omega) i j) (sd_pos h row i r0 hr) (by have := sd_le h row i hh (by omega); omega) (by have := sd_le w col j hw (by omega); omega) (sd_pos w col j c0 hc)
  refine if_skip (ne_ff (call_ok (one_ok (sum2 e_law_9 8 _ inner)) (max_I _ (by simp))) (c_gap hS (var_ok n.a) (var_ok n.b) k.a k.b k.h0 (by omega) (by omega) k.w0) (neI ?_))
  exact (gap_parts k.a k.b (by omega) (by omega) r0 hr c0 hc).symm
theorem chain_lt {s t : Nat} {m n : Int} (hs : e[s]? = some (some (.int m))) (ht : e[t]? = some (some (.int n))) : mB (mChain dLt dLt (mC (.int 0)) (mVar s) (mVar t)) e S = .ok (decide (0 < m ∧ m < n)) S := by
  refine b_ok ?_
  rw [x_mChain, x_mC, Res.bind_ok, var_ok hs, Res.bind_ok, x_lt, Res.of_some, Res.bind_ok]
  by_cases h0 : 0 < m
  · rw [decide_eq_true h0]
    show (mVar t e S).bind _ = _
    rw [var_ok ht, Res.bind_ok, x_lt]
    simp [h0]
  · rw [decide_eq_false h0]
    simp [h0]
theorem s4_ok (hS : clS S.length S = true) (n : En e h w a b c) (k : Ok h w a b c) (h9 : e[9]? = some (some (.int (row : Int)))) (h10 : e[10]? = some (some (.int (col : Int)))) : ∃ e', En e' h w a b c ∧ s4 e S = some (.nx, e', S) := by
  by_cases q : (0 < row ∧ row < h) ∧ (0 < col ∧ col < w)
  · obtain ⟨⟨r0, r1⟩, c0, c1⟩ := q
    have n1 : En (e.set 11 (some (PV a row col))) h w a b c := n.set rfl
    have n2 : En ((e.set 11 (some (PV a row col))).set 16 (some (pic a))) h w a b c := n1.set rfl
    have n3 : En (((e.set 11 (some (PV a row col))).set 16 (some (pic a))).set 17 (some (PV b row col))) h w a b c := n2.set rfl
    refine ⟨_, n3, ?_⟩
    refine (if_t (S1 := S) ?_).trans ?_
    · rw [x_mAnd, chain_lt h9 n.h, Res.bind_ok, decide_eq_true ⟨by omega, by omega⟩, if_pos rfl, chain_lt h10 n.w, decide_eq_true ⟨by omega, by omega⟩]
    rw [b_law_10_eq]
    have f11 : ((e.set 11 (some (PV a row col))).set 16 (some (pic a)))[11]? = some (some (PV a row col)) := by
      rw [List.getElem?_set_ne (by decide)]; exact n.at (by decide)
    have f16 : ((e.set 11 (some (PV a row col))).set 16 (some (pic a)))[16]? = some (some (pic a)) := n1.at (by decide)
    have f9 : ((e.set 11 (some (PV a row col))).set 16 (some (pic a)))[9]? = some (some (.int (row : Int))) := by
      rw [List.getElem?_set_ne (by decide), List.getElem?_set_ne (by decide)]; exact h9
    have f10 : ((e.set 11 (some (PV a row col))).set 16 (some (pic a)))[10]? = some (some (.int (col : Int))) := by
      rw [List.getElem?_set_ne (by decide), List.getElem?_set_ne (by decide)]; exact h10
    have g11 : (((e.set 11 (some (PV a row col))).set 16 (some (pic a))).set 17 (some (PV b row col)))[11]? = some (some (PV a row col)) := by
      rw [List.getElem?_set_ne (by decide)]; exact f11
    have g17 : (((e.set 11 (some (PV a row col))).set 16 (some (pic a))).set 17 (some (PV b row col)))[17]? = some (some (PV b row col)) := n2.at (by decide)
    refine (seq_nx (q1_ok hS n k h9 h10 (by omega) (by omega))).trans ?_
    refine (seq_nx (q2_ok hS n1 k (n.at (by decide)) (by omega) (by omega))).trans ?_
    refine (seq_nx (q3_ok hS n2 k f11 f16 (by omega) (by omega))).trans ?_
    refine (seq_nx (q4_ok hS n2 k f9 f10 (by omega) (by omega))).trans ?_
    refine (seq_nx (q5_ok hS n3 k g11 g17 r0 r1 c0 c1)).trans ?_
    exact q6_ok hS n3 k g11 g17 r0 r1 c0 c1
  · refine ⟨e, n, if_skip ?_⟩
    rw [x_mAnd, chain_lt h9 n.h, Res.bind_ok]
    by_cases q1 : 0 < row ∧ row < h
    · rw [decide_eq_true ⟨by omega, by omega⟩, if_pos rfl, chain_lt h10 n.w, decide_eq_false (by omega)]
    · rw [decide_eq_false (by omega)]
      rfl
end
end K08


set_option Elab.async false
set_option linter.all false
set_option maxRecDepth 100000
set_option maxHeartbeats 4000000
namespace K08
open PySem PySem.Spec PyProof.Rows L2 M
section
variable [Tabs]
variable {e : M.Env} {h w : Nat} {a b c : Pc} {l : List Int}
theorem take_nat (n : Nat) (hn : 0 < n) (l : List Int) : ∃ (k : Nat) (l' : List Int), k < n ∧ m__law_take [.loc 0, .int (n : Int)] (St l) = .ok (.int (k : Int)) (St l') := by
  obtain ⟨k, l', k0, k1, q⟩ := take_ex (n : Int) (by omega) l
  obtain ⟨m, rfl⟩ := Int.eq_ofNat_of_zero_le k0
  exact ⟨m, l', by omega, q⟩
theorem s1_ok (h1 : e[1]? = some (some (.loc 0))) (l : List Int) : ∃ (h w : Nat) (l' : List Int), 0 < h ∧ h ≤ 9 ∧ 0 < w ∧ w ≤ 9 ∧ s1 e (St l) = some (.nx, (e.set 3 (some (.int (h : Int)))).set 4 (some (.int (w : Int))), St l') := by
  obtain ⟨m, l1, m1, q1⟩ := take_nat 9 (by decide) l
  obtain ⟨n, l2, n1, q2⟩ := take_nat 9 (by decide) l1
  have c1 : (1 : Int) + (m : Int) = ((m + 1 : Nat) : Int) := by omega
  have c2 : (1 : Int) + (n : Int) = ((n + 1 : Nat) : Int) := by omega
  refine ⟨m + 1, n + 1, l2, by omega, by omega, by omega, by omega, ?_⟩
  rw [← c1, ← c2]
  exact setg_ok (tup_ok (cons_ok (bin_ok rfl (callF_ok (cons_ok (var_ok h1) (one_ok rfl)) q1) x_add) (one_ok (bin_ok rfl (callF_ok (cons_ok (var_ok h1) (one_ok rfl)) q2) x_add))) (a1 (w := 2) (by decide))) rfl
theorem s2_ok (hl : e.length = 25) (h1 : e[1]? = some (some (.loc 0))) (h3 : e[3]? = some (some (.int (h : Int)))) (h4 : e[4]? = some (some (.int (w : Int)))) (hh : h ≤ 9) (hw : w ≤ 9) (l : List Int) :
    ∃ (a b c : Pc) (l' : List Int), IsPic h w a ∧ IsPic h w b ∧ IsPic h w c ∧ s2 e (St l) = some (.nx, ((e.set 5 (some (pic a))).set 6 (some (pic b))).set 7 (some (pic c)), St l') := by
  obtain ⟨ys, l', hy, hp, hr⟩ := lc_run (t := gN 8) (me := e_law_1) (e := wipeE e [8]) (xs := rng 0 3) (P := fun y => ∃ a, y = pic a ∧ IsPic h w a) St (rng 0 3) l (fun d hd l => by
    obtain ⟨a, l', pa, q⟩ := picture_ex h w (by omega) (by omega) l
    exact ⟨_, pic a, l', rfl, ⟨a, rfl, pa⟩, callF_ok (cons_ok (var_ok ((get_w (by decide) _).trans h1)) (cons_ok (var_ok ((get_w (by decide) _).trans h3)) (one_ok (var_ok ((get_w (by decide) _).trans h4))))) q⟩)
  rw [rng_len] at hy
  match ys, hy, hp, hr with
  | [x, y, z], _, hp, hr =>
    obtain ⟨a, rfl, pa⟩ := hp x (by simp)
    obtain ⟨b, rfl, pb⟩ := hp y (by simp)
    obtain ⟨c, rfl, pc⟩ := hp z (by simp)
    refine ⟨a, b, c, l', pa, pb, pc, setg_ok (d := .lst [pic a, pic b, pic c]) (asV_ok ?_) rfl⟩
    rw [x_mLc, src_rng 3 (by decide) rfl, Res.bind_ok]
    have hz : (Src.mk (rng 0 3) []).xs.length ≤ sizeLine := a4 (by decide)
    rw [if_pos hz]
    exact hr
theorem s3_ok (n : En e h w a b c) (l : List Int) : ∃ (row col : Nat) (l' : List Int), s3 e (St l) = some (.nx, (e.set 9 (some (.int (row : Int)))).set 10 (some (.int (col : Int))), St l') := by
  obtain ⟨m, l1, m1, q1⟩ := take_nat (h + 1) (by omega) l
  obtain ⟨k, l2, k1, q2⟩ := take_nat (w + 1) (by omega) l1
  have c1 : ((h + 1 : Nat) : Int) = (h : Int) + 1 := by omega
  have c2 : ((w + 1 : Nat) : Int) = (w : Int) + 1 := by omega
  rw [c1] at q1
  rw [c2] at q2
  exact ⟨m, k, l2, setg_ok (tup_ok (cons_ok (callF_ok (cons_ok (var_ok n.d) (one_ok (bin_ok (var_ok n.h) rfl x_add))) q1) (one_ok (callF_ok (cons_ok (var_ok n.d) (one_ok (bin_ok (var_ok n.w) rfl x_add))) q2))) (a1 (w := 2) (by decide))) rfl⟩
theorem step_ok (hl : e.length = 25) (h1 : e[1]? = some (some (.loc 0))) (l : List Int) : ∃ e' l', e'.length = 25 ∧ e'[1]? = some (some (.loc 0)) ∧ l_law_15 e (St l) = some (.nx, e', St l') := by
  obtain ⟨h, w, l1, h0, h9, w0, w9, r1⟩ := s1_ok h1 l
  have t1 : ((e.set 3 (some (.int (h : Int)))).set 4 (some (.int (w : Int))))[1]? = some (some (.loc 0)) := by
    rw [List.getElem?_set_ne (by decide), List.getElem?_set_ne (by decide)]; exact h1
  have t3 : ((e.set 3 (some (.int (h : Int)))).set 4 (some (.int (w : Int))))[3]? = some (some (.int (h : Int))) := by
    rw [List.getElem?_set_ne (by decide), List.getElem?_set_self (by rw [hl]; decide)]
  have t4 : ((e.set 3 (some (.int (h : Int)))).set 4 (some (.int (w : Int))))[4]? = some (some (.int (w : Int))) := by
    rw [List.getElem?_set_self (by rw [List.length_set, hl]; decide)]
  have tl : ((e.set 3 (some (.int (h : Int)))).set 4 (some (.int (w : Int)))).length = 25 := by rw [List.length_set, List.length_set, hl]
  generalize he1 : (e.set 3 (some (.int (h : Int)))).set 4 (some (.int (w : Int))) = e1 at r1 t1 t3 t4 tl
  obtain ⟨a, b, c, l2, pa, pb, pc, r2⟩ := s2_ok tl t1 t3 t4 h9 w9 l1
  have k : Ok h w a b c := ⟨h0, h9, w0, w9, pa, pb, pc⟩
  have n : En (((e1.set 5 (some (pic a))).set 6 (some (pic b))).set 7 (some (pic c))) h w a b c := by
    refine ⟨by rw [List.length_set, List.length_set, List.length_set, tl], ?_, ?_, ?_, ?_, ?_, ?_⟩
    · rw [List.getElem?_set_ne (by decide), List.getElem?_set_ne (by decide), List.getElem?_set_ne (by decide)]; exact t1
    · rw [List.getElem?_set_ne (by decide), List.getElem?_set_ne (by decide), List.getElem?_set_ne (by decide)]; exact t3
    · rw [List.getElem?_set_ne (by decide), List.getElem?_set_ne (by decide), List.getElem?_set_ne (by decide)]; exact t4
    · rw [List.getElem?_set_ne (by decide), List.getElem?_set_ne (by decide), List.getElem?_set_self (by rw [tl]; decide)]
    · rw [List.getElem?_set_ne (by decide), List.getElem?_set_self (by rw [List.length_set, tl]; decide)]
    · rw [List.getElem?_set_self (by rw [List.length_set, List.length_set, tl]; decide)]
  generalize he2 : ((e1.set 5 (some (pic a))).set 6 (some (pic b))).set 7 (some (pic c)) = e2 at r2 n
  obtain ⟨row, col, l3, r3⟩ := s3_ok n l2
  have n3 : En ((e2.set 9 (some (.int (row : Int)))).set 10 (some (.int (col : Int)))) h w a b c := (n.set rfl).set rfl
  have f9 : ((e2.set 9 (some (.int (row : Int)))).set 10 (some (.int (col : Int))))[9]? = some (some (.int (row : Int))) := by
    rw [List.getElem?_set_ne (by decide)]; exact n.at (by decide)
  have n9 : En (e2.set 9 (some (.int (row : Int)))) h w a b c := n.set rfl
  have f10 : ((e2.set 9 (some (.int (row : Int)))).set 10 (some (.int (col : Int))))[10]? = some (some (.int (col : Int))) := n9.at (by decide)
  have hS : ∀ l, clS (St l).length (St l) = true := fun l => clS_St l _
  obtain ⟨e4, n4, r4⟩ := s4_ok (hS l3) n3 k f9 f10
  have n8 : En (e4.set 19 (some (tri a b c))) h w a b c := n4.set rfl
  have f19 : (e4.set 19 (some (tri a b c)))[19]? = some (some (tri a b c)) := n4.at (by decide)
  obtain ⟨g, l4, g1, q12⟩ := take_nat 16 (by decide) l3
  have n12 : En ((e4.set 19 (some (tri a b c))).set 21 (some (.int (g : Int)))) h w a b c := n8.set rfl
  have n13 : En (((e4.set 19 (some (tri a b c))).set 21 (some (.int (g : Int)))).set 22 (some (pic (flt h w (g : Int))))) h w a b c := n12.set rfl
  have f21 : ((e4.set 19 (some (tri a b c))).set 21 (some (.int (g : Int))))[21]? = some (some (.int (g : Int))) := n8.at (by decide)
  have f21b : (((e4.set 19 (some (tri a b c))).set 21 (some (.int (g : Int)))).set 22 (some (pic (flt h w (g : Int)))))[21]? = some (some (.int (g : Int))) := by
    rw [List.getElem?_set_ne (by decide)]; exact f21
  have f22 : (((e4.set 19 (some (tri a b c))).set 21 (some (.int (g : Int)))).set 22 (some (pic (flt h w (g : Int)))))[22]? = some (some (pic (flt h w (g : Int)))) := n12.at (by decide)
  refine ⟨_, l4, n13.len, n13.d, ?_⟩
  rw [l_law_15_eq]
  refine (seq_nx r1).trans ((seq_nx r2).trans ((seq_nx r3).trans ((seq_nx r4).trans ?_)))
  refine (seq_nx (s5_ok (hS l3) n4 k)).trans ((seq_nx (s6_ok (hS l3) n4 k)).trans ((seq_nx (s7_ok (hS l3) n4 k)).trans ((seq_nx (s8_ok (hS l3) n4 k)).trans ?_)))
  refine (seq_nx (s9_ok (hS l3) n8 k f19)).trans ((seq_nx (s10_ok (hS l3) n8 k f19)).trans ((seq_nx (s11_ok (hS l3) n8 k)).trans ?_))
  refine (seq_nx (set_ok (callF_ok (cons_ok (var_ok n8.d) (one_ok rfl)) q12))).trans ?_
  refine (seq_nx (set_ok (callF_ok (cons_ok (var_ok n12.h) (cons_ok (var_ok n12.w) (one_ok (var_ok f21)))) (flat_ok (hS l4) h w (g : Int) (by omega) (by omega))))).trans ?_
  exact (seq_nx (s14_ok (hS l4) n13 k (by omega) f21b f22)).trans (s15_ok (hS l4) n13 k)
theorem plain_law (ns : List Int) (hl : ns.length ≤ 63) (hb : ∀ z ∈ ns, Builtin.Int.intBits z ≤ 1048576) : ∃ S', m_law [.fro (ns.map D.int)] [] = .ok (.bl true) S' := by
  obtain ⟨l, hd⟩ := draws_ex ns hl
  obtain ⟨e', S', ⟨l', hl', h1, rfl⟩, hf⟩ := for_ex (xs := rng 0 6) (g := gN 2) (b := l_law_15) (fun _ e S => ∃ l, e.length = 25 ∧ e[1]? = some (some (.loc 0)) ∧ S = St l) (rng 0 6) 0
    ((some (.fro (I ns)) :: List.replicate 24 none).set 1 (some (.loc 0))) (St l) ⟨l, rfl, rfl, rfl⟩ (by
      rintro d hd k e S hk ⟨l, hl, h1, rfl⟩
      obtain ⟨e', l', a0, a1, r⟩ := step_ok (e := e.set 2 (some d)) (by rw [List.length_set, hl]) (by rw [List.getElem?_set_ne (by decide)]; exact h1) l
      exact ⟨_, e', St l', rfl, r, l', a0, a1, rfl⟩)
  refine ⟨(St l').take 0, (retV_ok (d := .bl true) (S' := St l') (run_rt (e' := e') ?_) rfl rfl)⟩
  refine (seq_nx (set_ok (callF_ok (one_ok (var_ok rfl)) hd))).trans ?_
  exact (seq_nx (for_ok (src_rng 6 (by decide) rfl) hf)).trans (ret_ok rfl)
end
end K08


set_option Elab.async false
set_option linter.all false
set_option maxRecDepth 100000
set_option maxHeartbeats 0
namespace K08
open PySem PySem.Spec PyProof.Rows L2 M
def d__law_draws : He.DefD := ⟨("_law_draws", none), "_law_draws", "_law_draws", defArgs s__law_draws, defBody s__law_draws, defScope s__law_draws, [], []⟩
def d__law_take : He.DefD := ⟨("_law_take", none), "_law_take", "_law_take", defArgs s__law_take, defBody s__law_take, defScope s__law_take, [], []⟩
def d__law_grey : He.DefD := ⟨("_law_grey", none), "_law_grey", "_law_grey", defArgs s__law_grey, defBody s__law_grey, defScope s__law_grey, [], []⟩
def d__law_picture : He.DefD := ⟨("_law_picture", none), "_law_picture", "_law_picture", defArgs s__law_picture, defBody s__law_picture, defScope s__law_picture, [], []⟩
def d_part_of : He.DefD := ⟨("part_of", none), "part_of", "part_of", defArgs s_part_of, defBody s_part_of, defScope s_part_of, [], []⟩
def d_above : He.DefD := ⟨("above", none), "above", "above", defArgs s_above, defBody s_above, defScope s_above, [], []⟩
def d_beside : He.DefD := ⟨("beside", none), "beside", "beside", defArgs s_beside, defBody s_beside, defScope s_beside, [], []⟩
def d_alike_in_sides : He.DefD := ⟨("alike_in_sides", none), "alike_in_sides", "alike_in_sides", defArgs s_alike_in_sides, defBody s_alike_in_sides, defScope s_alike_in_sides, [], []⟩
def d_differences : He.DefD := ⟨("differences", none), "differences", "differences", defArgs s_differences, defBody s_differences, defScope s_differences, [], []⟩
def d_loss : He.DefD := ⟨("loss", none), "loss", "loss", defArgs s_loss, defBody s_loss, defScope s_loss, [], []⟩
def d_gap : He.DefD := ⟨("gap", none), "gap", "gap", defArgs s_gap, defBody s_gap, defScope s_gap, [], []⟩
def d_write : He.DefD := ⟨("write", none), "write", "write", defArgs s_write, defBody s_write, defScope s_write, [], []⟩
def d_is_number : He.DefD := ⟨("is_number", none), "is_number", "is_number", defArgs s_is_number, defBody s_is_number, defScope s_is_number, [], []⟩
def d_is_grey : He.DefD := ⟨("is_grey", none), "is_grey", "is_grey", defArgs s_is_grey, defBody s_is_grey, defScope s_is_grey, [], []⟩
def d_is_picture : He.DefD := ⟨("is_picture", none), "is_picture", "is_picture", defArgs s_is_picture, defBody s_is_picture, defScope s_is_picture, [], []⟩
def d_read : He.DefD := ⟨("read", none), "read", "read", defArgs s_read, defBody s_read, defScope s_read, [], []⟩
def d_flat_picture : He.DefD := ⟨("flat_picture", none), "flat_picture", "flat_picture", defArgs s_flat_picture, defBody s_flat_picture, defScope s_flat_picture, [], []⟩
def d_law : He.DefD := ⟨("law", none), "law", "law", defArgs s_law, defBody s_law, defScope s_law, [], []⟩
def fnl : List He.DefD := [d__law_draws, d__law_take, d__law_grey, d__law_picture, d_part_of, d_above, d_beside, d_alike_in_sides, d_differences, d_loss, d_gap, d_write, d_is_number, d_is_grey, d_is_picture, d_read, d_flat_picture, d_law]
def fal : List He.Fa := [.glo "_law_draws", .glo "_law_take", .glo "_law_grey", .glo "_law_picture", .glo "part_of", .glo "above", .glo "beside", .glo "alike_in_sides", .glo "differences", .glo "loss", .glo "gap", .glo "write", .glo "is_number", .glo "is_grey", .glo "is_picture", .glo "read", .glo "flat_picture", .glo "law", .int "MOST_GREY" 15, .int "MOST_SIDE" 32, .str "SIGNS" "0123456789abcdef", .free "abs", .free "all", .free "bool", .free "int", .free "isinstance", .free "len", .free "list", .free "max", .free "min", .free "range", .free "reversed", .free "str", .free "sum", .free "tuple", .free "zip"]
def tfl : List He.Defn := [("is_picture", none), ("read", none)]
abbrev Rw : PySem.W.OpenRow := PySem.W.OpenLaw.row PySem.Challenge.rw_lostastold_k08_whole_pictures_in_parts
abbrev hk : PySem.W.Hook := He.hookX 4 fal fnl [] tfl (fun _ => true)
def ob (s : PySem.W.SharedT) : He.AlX := He.obsX 4 fal fnl [] tfl (fun _ => true) (HandSHeadRun.getT s)
theorem ob_eq (s : PySem.W.SharedT) : ob s = hk.obs s.abs := He.obsX_eq (HandSHeadRun.getT_eq s)
def loose : List PySem.Str := ["LostError", "Malformed", "Refused", "alike_in_sides", "differences", "loss", "gap", "is_number", "MOST_GREY", "MOST_SIDE", "is_grey", "is_picture", "part_of", "flat_picture", "beside", "above", "SIGNS", "write", "read", "_law_draws", "_law_take", "_law_alike", "_law_grey", "_law_picture"]
theorem run (w : World) : HandSHeadRun.RunEq Rw (PySem.W.view Rw.prog [30]) hk ob 6000 loose w := by
  intro os
  kernel_rfl
theorem facts {P : Program} {w : World} {K : PySem.W.Frag} {h : Heap} {mg : Str → Option Value} {f : Addr} (X : K.In h) (G : h.Ns mainGlobals mg) (hfa : mg ("law" : Str) = some (.ref f)) (c : He.SaysX fal fnl [] tfl (fun _ => true) w h K) {l : PySem.W.OpenLaw} :
    LamX.LawAtS l w K (L2.CX l.prog w) 12 63 "script" mg f h := by
  have D := c.t.d
  obtain ⟨fd__law_draws, F__law_draws⟩ := D.def_ 0 (d := d__law_draws) rfl
  obtain ⟨fd__law_take, F__law_take⟩ := D.def_ 1 (d := d__law_take) rfl
  obtain ⟨fd__law_grey, F__law_grey⟩ := D.def_ 2 (d := d__law_grey) rfl
  obtain ⟨fd__law_picture, F__law_picture⟩ := D.def_ 3 (d := d__law_picture) rfl
  obtain ⟨fd_part_of, F_part_of⟩ := D.def_ 4 (d := d_part_of) rfl
  obtain ⟨fd_above, F_above⟩ := D.def_ 5 (d := d_above) rfl
  obtain ⟨fd_beside, F_beside⟩ := D.def_ 6 (d := d_beside) rfl
  obtain ⟨fd_alike_in_sides, F_alike_in_sides⟩ := D.def_ 7 (d := d_alike_in_sides) rfl
  obtain ⟨fd_differences, F_differences⟩ := D.def_ 8 (d := d_differences) rfl
  obtain ⟨fd_loss, F_loss⟩ := D.def_ 9 (d := d_loss) rfl
  obtain ⟨fd_gap, F_gap⟩ := D.def_ 10 (d := d_gap) rfl
  obtain ⟨fd_write, F_write⟩ := D.def_ 11 (d := d_write) rfl
  obtain ⟨fd_is_number, F_is_number⟩ := D.def_ 12 (d := d_is_number) rfl
  obtain ⟨fd_is_grey, F_is_grey⟩ := D.def_ 13 (d := d_is_grey) rfl
  obtain ⟨fd_is_picture, F_is_picture⟩ := D.def_ 14 (d := d_is_picture) rfl
  obtain ⟨fd_read, F_read⟩ := D.def_ 15 (d := d_read) rfl
  obtain ⟨fd_flat_picture, F_flat_picture⟩ := D.def_ 16 (d := d_flat_picture) rfl
  obtain ⟨fd_law, F_law⟩ := D.def_ 17 (d := d_law) rfl
  have g__law_draws := He.glo_ok X G (D.fact 0 (f := .glo "_law_draws") rfl)
  have g__law_take := He.glo_ok X G (D.fact 1 (f := .glo "_law_take") rfl)
  have g__law_grey := He.glo_ok X G (D.fact 2 (f := .glo "_law_grey") rfl)
  have g__law_picture := He.glo_ok X G (D.fact 3 (f := .glo "_law_picture") rfl)
  have g_part_of := He.glo_ok X G (D.fact 4 (f := .glo "part_of") rfl)
  have g_above := He.glo_ok X G (D.fact 5 (f := .glo "above") rfl)
  have g_beside := He.glo_ok X G (D.fact 6 (f := .glo "beside") rfl)
  have g_alike_in_sides := He.glo_ok X G (D.fact 7 (f := .glo "alike_in_sides") rfl)
  have g_differences := He.glo_ok X G (D.fact 8 (f := .glo "differences") rfl)
  have g_loss := He.glo_ok X G (D.fact 9 (f := .glo "loss") rfl)
  have g_gap := He.glo_ok X G (D.fact 10 (f := .glo "gap") rfl)
  have g_write := He.glo_ok X G (D.fact 11 (f := .glo "write") rfl)
  have g_is_number := He.glo_ok X G (D.fact 12 (f := .glo "is_number") rfl)
  have g_is_grey := He.glo_ok X G (D.fact 13 (f := .glo "is_grey") rfl)
  have g_is_picture := He.glo_ok X G (D.fact 14 (f := .glo "is_picture") rfl)
  have g_read := He.glo_ok X G (D.fact 15 (f := .glo "read") rfl)
  have g_flat_picture := He.glo_ok X G (D.fact 16 (f := .glo "flat_picture") rfl)
  have g_law := He.glo_ok X G (D.fact 17 (f := .glo "law") rfl)
  obtain ⟨t_MOST_GREY, g_MOST_GREY⟩ := He.int_ok X G (D.fact 18 (f := .int "MOST_GREY" 15) rfl)
  obtain ⟨t_MOST_SIDE, g_MOST_SIDE⟩ := He.int_ok X G (D.fact 19 (f := .int "MOST_SIDE" 32) rfl)
  obtain ⟨t_SIGNS, g_SIGNS⟩ := He.str_ok X G (D.fact 20 (f := .str "SIGNS" "0123456789abcdef") rfl)
  have n_abs := He.free_ok X G (D.fact 21 (f := .free "abs") rfl)
  have n_all := He.free_ok X G (D.fact 22 (f := .free "all") rfl)
  have n_bool := He.free_ok X G (D.fact 23 (f := .free "bool") rfl)
  have n_int := He.free_ok X G (D.fact 24 (f := .free "int") rfl)
  have n_isinstance := He.free_ok X G (D.fact 25 (f := .free "isinstance") rfl)
  have n_len := He.free_ok X G (D.fact 26 (f := .free "len") rfl)
  have n_list := He.free_ok X G (D.fact 27 (f := .free "list") rfl)
  have n_max := He.free_ok X G (D.fact 28 (f := .free "max") rfl)
  have n_min := He.free_ok X G (D.fact 29 (f := .free "min") rfl)
  have n_range := He.free_ok X G (D.fact 30 (f := .free "range") rfl)
  have n_reversed := He.free_ok X G (D.fact 31 (f := .free "reversed") rfl)
  have n_str := He.free_ok X G (D.fact 32 (f := .free "str") rfl)
  have n_sum := He.free_ok X G (D.fact 33 (f := .free "sum") rfl)
  have n_tuple := He.free_ok X G (D.fact 34 (f := .free "tuple") rfl)
  have n_zip := He.free_ok X G (D.fact 35 (f := .free "zip") rfl)
  have b__law_draws : Binds K fd__law_draws ["script"] [] := F__law_draws.bindsN fun _ _ _ _ _ _ us hl => match us, hl with | [_], _ => rfl
  have b__law_take : Binds K fd__law_take ["draws", "bound"] [] := F__law_take.bindsN fun _ _ _ _ _ _ us hl => match us, hl with | [_, _], _ => rfl
  have b__law_grey : Binds K fd__law_grey ["draws"] [] := F__law_grey.bindsN fun _ _ _ _ _ _ us hl => match us, hl with | [_], _ => rfl
  have b__law_picture : Binds K fd__law_picture ["draws", "high", "wide"] [] := F__law_picture.bindsN fun _ _ _ _ _ _ us hl => match us, hl with | [_, _, _], _ => rfl
  have b_part_of : Binds K fd_part_of ["picture", "top", "left", "many", "long"] [] := F_part_of.bindsN fun _ _ _ _ _ _ us hl => match us, hl with | [_, _, _, _, _], _ => rfl
  have b_above : Binds K fd_above ["one", "other"] [] := F_above.bindsN fun _ _ _ _ _ _ us hl => match us, hl with | [_, _], _ => rfl
  have b_beside : Binds K fd_beside ["one", "other"] [] := F_beside.bindsN fun _ _ _ _ _ _ us hl => match us, hl with | [_, _], _ => rfl
  have b_alike_in_sides : Binds K fd_alike_in_sides ["one", "other"] [] := F_alike_in_sides.bindsN fun _ _ _ _ _ _ us hl => match us, hl with | [_, _], _ => rfl
  have b_differences : Binds K fd_differences ["one", "other"] [] := F_differences.bindsN fun _ _ _ _ _ _ us hl => match us, hl with | [_, _], _ => rfl
  have b_loss : Binds K fd_loss ["one", "other"] [] := F_loss.bindsN fun _ _ _ _ _ _ us hl => match us, hl with | [_, _], _ => rfl
  have b_gap : Binds K fd_gap ["one", "other"] [] := F_gap.bindsN fun _ _ _ _ _ _ us hl => match us, hl with | [_, _], _ => rfl
  have b_write : Binds K fd_write ["picture"] [] := F_write.bindsN fun _ _ _ _ _ _ us hl => match us, hl with | [_], _ => rfl
  have b_is_number : Binds K fd_is_number ["value", "least", "most"] [] := F_is_number.bindsN fun _ _ _ _ _ _ us hl => match us, hl with | [_, _, _], _ => rfl
  have b_is_grey : Binds K fd_is_grey ["value"] [] := F_is_grey.bindsN fun _ _ _ _ _ _ us hl => match us, hl with | [_], _ => rfl
  have b_is_picture : Binds K fd_is_picture ["value"] [] := F_is_picture.bindsN fun _ _ _ _ _ _ us hl => match us, hl with | [_], _ => rfl
  have b_read : Binds K fd_read ["value"] [] := F_read.bindsN fun _ _ _ _ _ _ us hl => match us, hl with | [_], _ => rfl
  have b_flat_picture : Binds K fd_flat_picture ["many", "long", "grey"] [] := F_flat_picture.bindsN fun _ _ _ _ _ _ us hl => match us, hl with | [_, _, _], _ => rfl
  have b_law : Binds K fd_law ["script"] [] := F_law.bindsN fun _ _ _ _ _ _ us hl => match us, hl with | [_], _ => rfl
  have hc_is_picture : fd_is_picture.code = .ref (He.codeOf K ("is_picture", none)) := code_ref F_is_picture
  have hc_read : fd_read.code = .ref (He.codeOf K ("read", none)) := code_ref F_read
  letI : Tabs := ⟨(tfl.map (He.cT K)).map (·.2)⟩
  have e := hfa.symm.trans g_law
  cases e
  have bA := FunD.bindsA (ps := ["script"]) F_law fun _ _ _ _ _ _ us hl => match us, hl with | [_], _ => rfl
  refine ⟨fd_law, tfl.map (He.cT K), spM K mg 1 m_law, ?_, ?_, ?_, fun s u => bA s [u] rfl, ?_, ?_⟩
  · intro p hp
    obtain ⟨q, hq, rfl⟩ := List.mem_map.mp hp
    exact c.empty q hq
  · intro p hp
    obtain ⟨q, hq, rfl⟩ := List.mem_map.mp hp
    exact c.out q hq
  · intro p hp
    obtain ⟨q, hq, rfl⟩ := List.mem_map.mp hp
    exact PySem.W.codeHd_of_K X (c.hd q hq)
  · intro H a ns hl hbits hT hS
    obtain ⟨S', e⟩ := plain_law ns hl hbits
    exact spM_start e hT hS
  · intro base KB GB TB
    exact fn_law (P := l.prog) (w := w) (K := K) (mg := mg) (base := base) ⟨fd__law_draws, F__law_draws, g__law_draws, b__law_draws, fd__law_take, F__law_take, g__law_take, b__law_take, fd__law_grey, F__law_grey, g__law_grey, b__law_grey, fd__law_picture, F__law_picture, g__law_picture, b__law_picture, fd_part_of, F_part_of, g_part_of, b_part_of, fd_above, F_above, g_above, b_above, fd_beside, F_beside, g_beside, b_beside, fd_alike_in_sides, F_alike_in_sides, g_alike_in_sides, b_alike_in_sides, fd_differences, F_differences, g_differences, b_differences, fd_loss, F_loss, g_loss, b_loss, fd_gap, F_gap, g_gap, b_gap, fd_write, F_write, g_write, b_write, fd_is_number, F_is_number, g_is_number, b_is_number, fd_is_grey, F_is_grey, g_is_grey, b_is_grey, fd_is_picture, F_is_picture, g_is_picture, b_is_picture, He.codeOf K ("is_picture", none), (He.cT K ("is_picture", none)).2, hc_is_picture, tabB_of (TB (He.cT K ("is_picture", none)) (List.mem_map.mpr ⟨_, by simp [tfl], rfl⟩)), List.mem_map.mpr ⟨_, List.mem_map.mpr ⟨("is_picture", none), by simp [tfl], rfl⟩, rfl⟩, fd_read, F_read, g_read, b_read, He.codeOf K ("read", none), (He.cT K ("read", none)).2, hc_read, tabB_of (TB (He.cT K ("read", none)) (List.mem_map.mpr ⟨_, by simp [tfl], rfl⟩)), List.mem_map.mpr ⟨_, List.mem_map.mpr ⟨("read", none), by simp [tfl], rfl⟩, rfl⟩, fd_flat_picture, F_flat_picture, g_flat_picture, b_flat_picture, fd_law, F_law, g_law, b_law, _, g_MOST_GREY, ⟨t_MOST_GREY, rfl⟩, _, g_MOST_SIDE, ⟨t_MOST_SIDE, rfl⟩, _, g_SIGNS, ⟨t_SIGNS, rfl⟩, n_abs, n_all, n_bool, n_int, n_isinstance, n_len, n_list, n_max, n_min, n_range, n_reversed, n_str, n_sum, n_tuple, n_zip⟩
end K08
open PySem PySem.W PySem.Calls PyProof.Rows
theorem PySem.Challenge.cw_lostastold_k08_whole_pictures_in_parts_holds : PySem.Challenge.rw_lostastold_k08_whole_pictures_in_parts.Holds := by
  w_on; o_law
  refine HandSHeadRun.head_any (r := OpenLaw.row PySem.Challenge.rw_lostastold_k08_whole_pictures_in_parts) (q := view (OpenLaw.row PySem.Challenge.rw_lostastold_k08_whole_pictures_in_parts).prog [30]) (H := K08.hk) (ob := K08.ob) (M := 6000) (loose := K08.loose) (d := HandSHeadRun.topDef (OpenLaw.row PySem.Challenge.rw_lostastold_k08_whole_pictures_in_parts).prog 30) (kwd := []) K08.ob_eq
    (by kernel_rfl) (fun s => by kernel_rfl) K08.run (by kernel_rfl) (by kernel_rfl) (by kernel_rfl) (by rfl) (by first | assumption | decide +kernel) (by decide +kernel) ⟨rfl, rfl, rfl, rfl, rfl, by decide +kernel⟩ ?hw ?hc
  case hw => w_witness2
  case hc =>
    refine LamX.walk_ofTsE (l := PySem.Challenge.rw_lostastold_k08_whole_pictures_in_parts) (n := 63) (k := 12) (x := "script") (CX := fun w => L2.CX PySem.Challenge.rw_lostastold_k08_whole_pictures_in_parts.prog w) rfl (by decide) (by kernel_rfl) ⟨rfl, by decide, by decide⟩ ?F (fun w H s e s' z => M.cx_false z)
    intro w mg fa h Y G hmg0
    obtain ⟨K, KX, c⟩ := Y
    have hmg : mg ("law" : PySem.Str) = some (.ref fa) := by
      have e : (HandSHeadRun.topDef (OpenLaw.row PySem.Challenge.rw_lostastold_k08_whole_pictures_in_parts).prog 30).name = ("law" : PySem.Str) := by kernel_rfl
      rw [← e]
      exact hmg0
    exact ⟨K, KX, K08.facts (P := PySem.Challenge.rw_lostastold_k08_whole_pictures_in_parts.prog) KX G hmg c⟩

