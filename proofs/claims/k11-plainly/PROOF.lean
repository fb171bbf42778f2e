import PyProof.Rows.All
import Wide.All
import OpenK.AllK
import Wide.FinOn
import HandS.ForMost
import HandS.Exc
import HandS.ExcOwn
import HandS.WordsExc
import HandS.Defaults
import HandS.Walk
import HandS.HeadHook1
import HandS.HeadHook2
import HandS.Lambda
import HandS.CallSlots
import HandS.Deep
import HandS.TupAny
import HandS.SortInts
import HandS.SetFor
import HandS.IsInst
import HandS.More
import HandS.Small
import HandS.Flow
import HandS.DictComp
import KE.DatumMore
import HandS.SortOrd
import HandS.SortRule
import HandS.ListItems
import HandS.Keys
import KE.KDictSum
import KE.KItemsList
import HandS.ExcInit
import HandS.ExcIs
import HandS.ExcField
import HandS.ClsMeth
import HandS.Finally
import HandS.HeadWalk
import HandS.Strs
import HandS.SetBool
import HandS.HeadHook4
import HandS.NestedK
import HandS.Head2
import HandS.HeadEnd
import KE.KStateDown
import PySem.Challenge.RW_timeleaf_k11_plainly
set_option Elab.async false
set_option linter.all false
set_option maxRecDepth 100000
set_option maxHeartbeats 4000000
/-! Dx1: a program's values as trees, its changing objects as a small memory; readings over (slots, memory) laid over HandS. -/
namespace Dx
open PySem PySem.Spec L2

/-- a value: trees are never changed; ref n is the n-th changing object -/
inductive D where
  | non | bl (b : Bool) | int (i : Int) | str (s : Str)
  | tup (xs : List D) | lst (xs : List D) | kls (xs : List D) | obj (c : Str) (fs : List (Str × D))
  | ref (n : Nat) | adr (a : Addr) | ty (n : String)
  /-- a caught exception: where it is, its dict, its fields -/
  | exc (a : Addr) (d : Option Addr) (fs : List (Str × D))
  deriving Inhabited
/-- a changing object -/
inductive MO where
  | lst (xs : List D) | dic (kvs : List (Key × D)) | ins (c : Str) (fs : List (Str × D))
  /-- a dict while it is walked -/
  | lck (o : HO) (kvs : List (Key × D))
  /-- a def's table of code objects, at P, all of the name q -/
  | tab (P : Addr) (q : Str)
abbrev Mem := List MO
abbrev Lo := List (Option D)

section
variable (K : PySem.W.Frag) (G : Hp) (al : List Addr)
mutual
inductive RelD : D → V → Prop
  | non : RelD .non .non
  | bl (b : Bool) : RelD (.bl b) (.bl b)
  | int (i : Int) : RelD (.int i) (.int i)
  | str (s : Str) : RelD (.str s) (.str s)
  | ty (n : String) : RelD (.ty n) (.ty n)
  | adr (a : Addr) : RelD (.adr a) (.ref a)
  | ref {n : Nat} {a : Addr} : al[n]? = some a → RelD (.ref n) (.ref a)
  | tup {a : Addr} {vs : List V} {ds : List D} : SqT K G a vs → RelDs ds vs → RelD (.tup ds) (.ref a)
  | lst {a : Addr} {vs : List V} {ds : List D} : G a = some (.lst vs) → RelDs ds vs → RelD (.lst ds) (.ref a)
  | kls {a : Addr} {vs : List V} {ds : List D} : SqL K G a vs → RelDs ds vs → RelD (.kls ds) (.ref a)
  | obj {a dx : Addr} {c : Str} {vs : List (Str × V)} {fs : List (Str × D)} : G a = some (.ins (He.ga K c) dx vs) → RelFs fs vs → RelD (.obj c fs) (.ref a)
  | exc0 (a : Addr) : RelD (.exc a none []) (.ref a)
  | exc {a dd : Addr} {vs : List (Str × V)} {fs : List (Str × D)} : G dd = some (.xd vs) → RelFs fs vs → RelD (.exc a (some dd) fs) (.ref a)
inductive RelDs : List D → List V → Prop
  | nil : RelDs [] []
  | cons {d : D} {v : V} {ds : List D} {vs : List V} : RelD d v → RelDs ds vs → RelDs (d :: ds) (v :: vs)
inductive RelFs : List (Str × D) → List (Str × V) → Prop
  | nil : RelFs [] []
  | cons {f : Str} {d : D} {v : V} {ds : List (Str × D)} {vs : List (Str × V)} : RelD d v → RelFs ds vs → RelFs ((f, d) :: ds) ((f, v) :: vs)
end
/-- a dict's pairs -/
inductive RelKs : List (Key × D) → List (Key × V) → Prop
  | nil : RelKs [] []
  | cons {k : Key} {d : D} {v : V} {ds : List (Key × D)} {vs : List (Key × V)} : RelD K G al d v → RelKs ds vs → RelKs ((k, d) :: ds) ((k, v) :: vs)
/-- slots: what is not known of a slot (none) may be anything -/
structure RelSt (de : Lo) (σ : St) : Prop where
  len : de.length = σ.length
  at_ : ∀ (i : Nat) (d : D), de[i]? = some (some d) → ∃ v, σ[i]? = some (some v) ∧ RelD K G al d v
def MoRel (H : Hp) (a : Addr) : MO → Prop
  | .lst ds => G a = none ∧ ∃ vs, H a = some (.lst vs) ∧ RelDs K G al ds vs
  | .dic kvs => G a = none ∧ ∃ vs, H a = some (.dK vs) ∧ RelKs K G al kvs vs
  | .ins c fs => G a = none ∧ ∃ dx vs, H a = some (.ins (He.ga K c) dx vs) ∧ RelFs K G al fs vs
  | .lck o kvs => G a = none ∧ H a = some o ∧ ∃ od vs, o = .frz od (.dK vs) ∧ RelKs K G al kvs vs
  | .tab P q => a = P ∧ G a = none ∧ ∃ ps : Array Value, H a = some (.tbl ps) ∧ TriplesOk ps.toList ∧ ∀ (pos : Pos) (cv : Value), codeAmong pos ps.toList = some cv → ∃ c, cv = .ref c ∧ G c = some (LamX.CodeO c q)
/-- G: what never changes again; al: where the changing objects lie -/
structure World (H : Hp) (M : Mem) : Prop where
  len : al.length = M.length
  nd : al.Nodup
  sub : Same G H
  alive : ∀ a ∈ al, H a ≠ none
  obj : ∀ (i : Nat) (a : Addr) (mo : MO), al[i]? = some a → M[i]? = some mo → MoRel K G al H a mo
  nt : ∀ (a : Addr) (ps : Array Value), G a ≠ some (.tbl ps)
  tb : ∀ (i : Nat) (P : Addr) (q : Str), M[i]? = some (.tab P q) → i = 0
end

/-- nothing lies there, or a table -/
def Free (H : Hp) (a : Addr) : Prop := H a = none ∨ ∃ ps : Array Value, H a = some (.tbl ps)
theorem Free.not {H : Hp} {a : Addr} {o : HO} (f : Free H a) (h : H a = some o) (n : ∀ ps, o ≠ .tbl ps) : False := by
  rcases f with z | ⟨ps, z⟩
  · rw [z] at h; cases h
  · rw [z] at h; cases h; exact n _ rfl
/-- what a piece of code keeps -/
structure Ext (al al' : List Addr) (G G' H H' : Hp) : Prop where
  pre : ∀ (n : Nat) (a : Addr), al[n]? = some a → al'[n]? = some a
  new : ∀ a ∈ al', a ∈ al ∨ Free H a
  same : Same G G'
  frm : ∀ (a : Addr) (o : HO), H a = some o → a ∉ al → (∀ ps, o ≠ .tbl ps) → H' a = some o
  gnew : ∀ a, G' a ≠ none → G a ≠ none ∨ a ∈ al' ∨ Free H a ∨ ∃ c q, G' a = some (LamX.CodeO c q)
  thr : ∀ a, ¬ Free H a → ¬ Free H' a
theorem Ext.refl (al : List Addr) (G H : Hp) : Ext al al G G H H := ⟨fun _ _ h => h, fun _ h => .inl h, Same.refl _, fun _ _ h _ _ => h, fun _ h => .inl h, fun _ h => h⟩
theorem Ext.mem {al al' : List Addr} {G G' H H' : Hp} (e : Ext al al' G G' H H') {a : Addr} (h : a ∈ al) : a ∈ al' := by
  obtain ⟨i, hi, q⟩ := List.mem_iff_getElem.mp h
  have z := e.pre i a (by rw [List.getElem?_eq_getElem hi, q])
  exact List.mem_of_getElem? z
theorem Ext.trans {a0 a1 a2 : List Addr} {G0 G1 G2 H0 H1 H2 : Hp} (e : Ext a0 a1 G0 G1 H0 H1) (f : Ext a1 a2 G1 G2 H1 H2) : Ext a0 a2 G0 G2 H0 H2 where
  pre := fun n a h => f.pre n a (e.pre n a h)
  new := fun a h => by
    by_cases hn : Free H0 a
    · exact .inr hn
    · rcases f.new a h with h1 | h1
      · exact e.new a h1
      · exact absurd h1 (e.thr a hn)
  same := e.same.trans f.same
  frm := fun a o h n t => f.frm a o (e.frm a o h n t) (fun z => by
    rcases e.new a z with q | q
    · exact n q
    · exact q.not h t) t
  gnew := fun a h => by
    by_cases hn : Free H0 a
    · exact .inr (.inr (.inl hn))
    · rcases f.gnew a h with h1 | h1 | h1 | h1
      · rcases e.gnew a h1 with h2 | h2 | h2 | ⟨c, q, h2⟩
        · exact .inl h2
        · exact .inr (.inl (f.mem h2))
        · exact absurd h2 hn
        · exact .inr (.inr (.inr ⟨c, q, f.same _ _ h2⟩))
      · exact .inr (.inl h1)
      · exact absurd h1 (e.thr a hn)
      · exact .inr (.inr (.inr h1))
  thr := fun a h => f.thr a (e.thr a h)

section
variable {K : PySem.W.Frag} {G G' H H' : Hp} {al al' : List Addr}
theorem SqT_same {a : Addr} {xs : List V} (e : Same G G') (h : SqT K G a xs) : SqT K G' a xs := by
  rcases h with (h | ⟨o, h⟩) | h
  · exact .inl (.inl (e _ _ h))
  · exact .inl (.inr ⟨o, e _ _ h⟩)
  · exact .inr h
mutual
theorem RelD.mono (hG : Same G G') (ha : ∀ (n : Nat) (a : Addr), al[n]? = some a → al'[n]? = some a) : ∀ {d : D} {v : V}, RelD K G al d v → RelD K G' al' d v
  | _, _, .non => .non
  | _, _, .bl b => .bl b
  | _, _, .int i => .int i
  | _, _, .str s => .str s
  | _, _, .ty n => .ty n
  | _, _, .adr a => .adr a
  | _, _, .ref h => .ref (ha _ _ h)
  | _, _, .tup h r => .tup (SqT_same hG h) (RelDs.mono hG ha r)
  | _, _, .lst h r => .lst (hG _ _ h) (RelDs.mono hG ha r)
  | _, _, .kls h r => .kls (hG.seq h) (RelDs.mono hG ha r)
  | _, _, .obj h r => .obj (hG _ _ h) (RelFs.mono hG ha r)
  | _, _, .exc0 a => .exc0 a
  | _, _, .exc h r => .exc (hG _ _ h) (RelFs.mono hG ha r)
theorem RelDs.mono (hG : Same G G') (ha : ∀ (n : Nat) (a : Addr), al[n]? = some a → al'[n]? = some a) : ∀ {d : List D} {v : List V}, RelDs K G al d v → RelDs K G' al' d v
  | _, _, .nil => .nil
  | _, _, .cons r t => .cons (RelD.mono hG ha r) (RelDs.mono hG ha t)
theorem RelFs.mono (hG : Same G G') (ha : ∀ (n : Nat) (a : Addr), al[n]? = some a → al'[n]? = some a) : ∀ {d : List (Str × D)} {v : List (Str × V)}, RelFs K G al d v → RelFs K G' al' d v
  | _, _, .nil => .nil
  | _, _, .cons r t => .cons (RelD.mono hG ha r) (RelFs.mono hG ha t)
end
theorem RelKs.mono (hG : Same G G') (ha : ∀ (n : Nat) (a : Addr), al[n]? = some a → al'[n]? = some a) : ∀ {d : List (Key × D)} {v : List (Key × V)}, RelKs K G al d v → RelKs K G' al' d v
  | _, _, .nil => .nil
  | _, _, .cons r t => .cons (r.mono hG ha) (RelKs.mono hG ha t)
theorem RelD.ext {d : D} {v : V} (r : RelD K G al d v) (e : Ext al al' G G' H H') : RelD K G' al' d v := r.mono e.same e.pre
theorem RelDs.ext {d : List D} {v : List V} (r : RelDs K G al d v) (e : Ext al al' G G' H H') : RelDs K G' al' d v := r.mono e.same e.pre
theorem RelFs.ext {d : List (Str × D)} {v : List (Str × V)} (r : RelFs K G al d v) (e : Ext al al' G G' H H') : RelFs K G' al' d v := r.mono e.same e.pre
theorem RelKs.ext {d : List (Key × D)} {v : List (Key × V)} (r : RelKs K G al d v) (e : Ext al al' G G' H H') : RelKs K G' al' d v := r.mono e.same e.pre
theorem RelSt.ext {de : Lo} {σ : St} (r : RelSt K G al de σ) (e : Ext al al' G G' H H') : RelSt K G' al' de σ := ⟨r.len, fun i d h => let ⟨v, h1, h2⟩ := r.at_ i d h; ⟨v, h1, h2.ext e⟩⟩
theorem RelDs.length : ∀ {ds : List D} {vs : List V}, RelDs K G al ds vs → ds.length = vs.length
  | _, _, .nil => rfl
  | _, _, .cons _ t => congrArg Nat.succ (RelDs.length t)
theorem RelDs.get : ∀ {ds : List D} {vs : List V} {i : Nat} {d : D}, RelDs K G al ds vs → ds[i]? = some d → ∃ v, vs[i]? = some v ∧ RelD K G al d v
  | _, _, _, _, .nil, h => by simp at h
  | _, _, 0, _, .cons r _, h => by simp at h; subst h; exact ⟨_, rfl, r⟩
  | _, _, i + 1, _, .cons _ t, h => by simpa using RelDs.get (i := i) t (by simpa using h)
theorem RelDs.get' : ∀ {ds : List D} {vs : List V} {i : Nat} {v : V}, RelDs K G al ds vs → vs[i]? = some v → ∃ d, ds[i]? = some d ∧ RelD K G al d v
  | _, _, _, _, .nil, h => by simp at h
  | _, _, 0, _, .cons r _, h => by simp at h; subst h; exact ⟨_, rfl, r⟩
  | _, _, i + 1, _, .cons _ t, h => by simpa using RelDs.get' (i := i) t (by simpa using h)
theorem RelDs.append : ∀ {ds es : List D} {vs us : List V}, RelDs K G al ds vs → RelDs K G al es us → RelDs K G al (ds ++ es) (vs ++ us)
  | _, _, _, _, .nil, r => r
  | _, _, _, _, .cons r t, s => .cons r (RelDs.append t s)
theorem RelDs.take : ∀ {ds : List D} {vs : List V} (n : Nat), RelDs K G al ds vs → RelDs K G al (ds.take n) (vs.take n)
  | _, _, 0, _ => by simpa using RelDs.nil
  | _, _, _ + 1, .nil => .nil
  | _, _, n + 1, .cons r t => .cons r (RelDs.take n t)
theorem RelDs.drop : ∀ {ds : List D} {vs : List V} (n : Nat), RelDs K G al ds vs → RelDs K G al (ds.drop n) (vs.drop n)
  | _, _, 0, r => r
  | _, _, _ + 1, .nil => .nil
  | _, _, n + 1, .cons _ t => by simpa using RelDs.drop n t
theorem RelDs.set {d : D} {v : V} (q : RelD K G al d v) : ∀ {ds : List D} {vs : List V} (n : Nat), RelDs K G al ds vs → RelDs K G al (ds.set n d) (vs.set n v)
  | _, _, _, .nil => .nil
  | _, _, 0, .cons _ t => .cons q t
  | _, _, n + 1, .cons r t => .cons r (RelDs.set q n t)
theorem RelDs.one {d : D} {v : V} (q : RelD K G al d v) : RelDs K G al [d] [v] := .cons q .nil
theorem RelFs.length : ∀ {ds : List (Str × D)} {vs : List (Str × V)}, RelFs K G al ds vs → ds.length = vs.length
  | _, _, .nil => rfl
  | _, _, .cons _ t => congrArg Nat.succ (RelFs.length t)
theorem RelFs.look : ∀ {ds : List (Str × D)} {vs : List (Str × V)} {f : Str} {d : D}, RelFs K G al ds vs → ds.lookup f = some d → ∃ v, vs.lookup f = some v ∧ RelD K G al d v
  | _, _, _, _, .nil, h => by simp at h
  | (g, e) :: ds, (_, w) :: vs, f, d, .cons r t, h => by
    rw [List.lookup_cons] at h ⊢
    cases q : f == g with
    | true => rw [q] at h; cases h; exact ⟨_, rfl, r⟩
    | false => rw [q] at h; exact RelFs.look t h
theorem RelFs.look_none : ∀ {ds : List (Str × D)} {vs : List (Str × V)} {f : Str}, RelFs K G al ds vs → ds.lookup f = none → vs.lookup f = none
  | _, _, _, .nil, h => rfl
  | (g, e) :: ds, (_, w) :: vs, f, .cons r t, h => by
    rw [List.lookup_cons] at h ⊢
    cases q : f == g with
    | true => rw [q] at h; cases h
    | false => rw [q] at h; exact RelFs.look_none t h
/-- a field stored -/
def putD (f : Str) (d : D) : List (Str × D) → List (Str × D)
  | [] => [(f, d)]
  | (g, e) :: r => if g = f then (g, d) :: r else (g, e) :: putD f d r
theorem RelFs.put {f : Str} {d : D} {v : V} (q : RelD K G al d v) : ∀ {ds : List (Str × D)} {vs : List (Str × V)}, RelFs K G al ds vs → RelFs K G al (putD f d ds) (putF f v vs)
  | _, _, .nil => .cons q .nil
  | (g, e) :: ds, (_, w) :: vs, .cons r t => by
    show RelFs K G al (if g = f then (g, d) :: ds else (g, e) :: putD f d ds) (if g = f then (g, v) :: vs else (g, w) :: putF f v vs)
    by_cases h : g = f
    · rw [if_pos h, if_pos h]; exact .cons q t
    · rw [if_neg h, if_neg h]; exact .cons r (RelFs.put q t)
theorem RelKs.length : ∀ {ds : List (Key × D)} {vs : List (Key × V)}, RelKs K G al ds vs → ds.length = vs.length
  | _, _, .nil => rfl
  | _, _, .cons _ t => congrArg Nat.succ (RelKs.length t)
theorem RelKs.keys : ∀ {ds : List (Key × D)} {vs : List (Key × V)}, RelKs K G al ds vs → ds.map (·.1) = vs.map (·.1)
  | _, _, .nil => rfl
  | _, _, .cons _ t => by simpa using RelKs.keys t

/-! ### the world's steps -/
theorem World.at_ {M : Mem} {n : Nat} {mo : MO} (w : World K G al H M) (h : M[n]? = some mo) : ∃ a, al[n]? = some a ∧ MoRel K G al H a mo := by
  have hl : n < al.length := by rw [w.len]; exact (List.getElem?_eq_some_iff.mp h).1
  exact ⟨al[n], List.getElem?_eq_getElem hl, w.obj n _ mo (List.getElem?_eq_getElem hl) h⟩
theorem MoRel.ext {a : Addr} {mo : MO} (r : MoRel K G al H a mo) (hG : Same G G') (ha : ∀ (n : Nat) (a : Addr), al[n]? = some a → al'[n]? = some a) (hg : G a = none → G' a = none) (hH : ∀ o, H a = some o → H' a = some o) : MoRel K G' al' H' a mo := by
  cases mo with
  | lst ds => obtain ⟨h1, vs, h2, h3⟩ := r; exact ⟨hg h1, vs, hH _ h2, h3.mono hG ha⟩
  | dic ds => obtain ⟨h1, vs, h2, h3⟩ := r; exact ⟨hg h1, vs, hH _ h2, h3.mono hG ha⟩
  | ins c ds => obtain ⟨h1, dx, vs, h2, h3⟩ := r; exact ⟨hg h1, dx, vs, hH _ h2, h3.mono hG ha⟩
  | tab P q => obtain ⟨h0, h1, ps, h2, h3, h4⟩ := r; exact ⟨h0, hg h1, ps, hH _ h2, h3, fun pos cv h => let ⟨c, e1, e2⟩ := h4 pos cv h; ⟨c, e1, hG _ _ e2⟩⟩
  | lck o ds => obtain ⟨h1, h2, od, vs, h3, h4⟩ := r; exact ⟨hg h1, hH _ h2, od, vs, h3, h4.mono hG ha⟩
theorem upd_nt {H : Hp} {p : Addr} {o : HO} (h : ∀ (a : Addr) (ps : Array Value), H a ≠ some (.tbl ps)) (ho : ∀ ps, o ≠ .tbl ps) (a : Addr) (ps : Array Value) : upd H p o a ≠ some (.tbl ps) := by
  by_cases e : a = p
  · rw [e, upd_same]; exact fun z => ho ps (Option.some.inj z)
  · rw [upd_ne e]; exact h a ps
theorem app_tb {M : Mem} {mo : MO} (h : ∀ (i : Nat) (P : Addr) (q : Str), M[i]? = some (.tab P q) → i = 0) (hm : ∀ P q, mo ≠ .tab P q) (i : Nat) (P : Addr) (q : Str) (e : (M ++ [mo])[i]? = some (.tab P q)) : i = 0 := by
  by_cases hi : i < M.length
  · rw [List.getElem?_append_left hi] at e; exact h i P q e
  · rw [List.getElem?_append_right (by omega)] at e
    cases j : i - M.length with
    | zero => rw [j] at e; exact absurd (Option.some.inj e) (hm P q)
    | succ n => rw [j] at e; cases e
theorem set_tb {M : Mem} {n : Nat} {mo : MO} (h : ∀ (i : Nat) (P : Addr) (q : Str), M[i]? = some (.tab P q) → i = 0) (hm : ∀ P q, mo ≠ .tab P q) (i : Nat) (P : Addr) (q : Str) (e : (M.set n mo)[i]? = some (.tab P q)) : i = 0 := by
  by_cases hi : i = n
  · subst hi
    by_cases hl : i < M.length
    · rw [List.getElem?_set_self hl] at e; exact absurd (Option.some.inj e) (hm P q)
    · rw [List.getElem?_eq_none (by simpa using hl)] at e; cases e
  · rw [List.getElem?_set_ne (Ne.symm hi)] at e; exact h i P q e
theorem upd_thr {H : Hp} {p : Addr} {o : HO} (hp : H p = none) (a : Addr) (h : ¬ Free H a) : ¬ Free (upd H p o) a := by
  have e : a ≠ p := fun e => h (.inl (by rw [e]; exact hp))
  intro z
  unfold Free at z
  rw [upd_ne e] at z
  exact h z
theorem upd_thr2 {H : Hp} {p : Addr} {o : HO} (ho : ∀ ps, o ≠ .tbl ps) (a : Addr) (h : ¬ Free H a) : ¬ Free (upd H p o) a := by
  intro z
  by_cases e : a = p
  · rw [e] at z
    exact z.not upd_same ho
  · unfold Free at z
    rw [upd_ne e] at z
    exact h z
/-- a new object that will never change -/
theorem World.cold {M : Mem} {p : Addr} {o : HO} (w : World K G al H M) (hp : H p = none) (ho : ∀ ps, o ≠ .tbl ps := by nofun) : World K (upd G p o) al (upd H p o) M ∧ Ext al al G (upd G p o) H (upd H p o) := by
  have gp : G p = none := w.sub.free hp
  have sG : Same G (upd G p o) := fun b u h => by rw [upd_ne (ne_of_none h gp)]; exact h
  have nA : ∀ a ∈ al, a ≠ p := fun a h z => w.alive a h (by rw [z]; exact hp)
  refine ⟨⟨w.len, w.nd, fun b u h => ?_, fun a h => ?_, fun i a mo h1 h2 => ?_, upd_nt w.nt ho, w.tb⟩, ⟨fun _ _ h => h, fun _ h => .inl h, sG, fun a u h _ _ => by rw [upd_ne (ne_of_none h hp)]; exact h, fun a h => ?_, upd_thr hp⟩⟩
  · by_cases e : b = p
    · subst e; rw [upd_same] at h ⊢; exact h
    · rw [upd_ne e] at h ⊢; exact w.sub b u h
  · rw [upd_ne (nA a h)]; exact w.alive a h
  · have ne := nA a (List.mem_of_getElem? h1)
    exact (w.obj i a mo h1 h2).ext sG (fun _ _ h => h) (fun z => by rw [upd_ne ne]; exact z) fun u z => by rw [upd_ne ne]; exact z
  · by_cases e : a = p
    · subst e; exact .inr (.inr (.inl (.inl hp)))
    · rw [upd_ne e] at h; exact .inl h
/-- a new object that may change -/
theorem World.warm {M : Mem} {p : Addr} {o : HO} {mo : MO} (w : World K G al H M) (hp : H p = none) (r : MoRel K G (al ++ [p]) (upd H p o) p mo) (hm : ∀ P q, mo ≠ .tab P q := by nofun) : World K G (al ++ [p]) (upd H p o) (M ++ [mo]) ∧ Ext al (al ++ [p]) G G H (upd H p o) := by
  have gp : G p = none := w.sub.free hp
  have nA : ∀ a ∈ al, a ≠ p := fun a h z => w.alive a h (by rw [z]; exact hp)
  have pre : ∀ (n : Nat) (a : Addr), al[n]? = some a → (al ++ [p])[n]? = some a := fun n a h => by
    rw [List.getElem?_append_left (List.getElem?_eq_some_iff.mp h).1]; exact h
  refine ⟨⟨by simp [w.len], ?_, fun b u h => ?_, fun a h => ?_, fun i a m h1 h2 => ?_, w.nt, app_tb w.tb hm⟩, ⟨pre, fun a h => ?_, Same.refl _, fun a u h _ _ => by rw [upd_ne (ne_of_none h hp)]; exact h, fun a h => .inl h, upd_thr hp⟩⟩
  · rw [List.nodup_append]
    exact ⟨w.nd, by simp, fun a h b hb => by rw [List.mem_singleton] at hb; subst hb; exact nA a h⟩
  · rw [upd_ne (ne_of_none h gp)]; exact w.sub b u h
  · rcases List.mem_append.mp h with h | h
    · rw [upd_ne (nA a h)]; exact w.alive a h
    · rw [List.mem_singleton] at h; subst h; rw [upd_same]; simp
  · by_cases hi : i < al.length
    · rw [List.getElem?_append_left hi] at h1
      rw [List.getElem?_append_left (by rw [← w.len]; exact hi)] at h2
      have ne := nA a (List.mem_of_getElem? h1)
      exact (w.obj i a m h1 h2).ext (Same.refl _) pre (fun z => z) fun u z => by rw [upd_ne ne]; exact z
    · have e1 : i = al.length := by
        have := (List.getElem?_eq_some_iff.mp h1).1
        simp at this; omega
      subst e1
      rw [List.getElem?_append_right (Nat.le_refl _)] at h1
      rw [List.getElem?_append_right (by rw [w.len]; exact Nat.le_refl _), w.len] at h2
      simp at h1 h2
      subst h1 h2
      exact r
  · rcases List.mem_append.mp h with h | h
    · exact .inl h
    · rw [List.mem_singleton] at h; subst h; exact .inr (.inl hp)
theorem getElem?_inj_nodup {l : List Addr} (nd : l.Nodup) {i j : Nat} {a : Addr} (h1 : l[i]? = some a) (h2 : l[j]? = some a) : i = j := by
  exact (List.getElem?_inj (List.getElem?_eq_some_iff.mp h1).1 nd).mp (h1.trans h2.symm)
/-- the n-th object is changed -/
theorem World.store {M : Mem} {n : Nat} {a : Addr} {o : HO} {mo : MO} (w : World K G al H M) (ha : al[n]? = some a) (hg : G a = none) (r : MoRel K G al (upd H a o) a mo) (hm : ∀ P q, mo ≠ .tab P q := by nofun) (ho : ∀ ps, o ≠ .tbl ps := by nofun) : World K G al (upd H a o) (M.set n mo) ∧ Ext al al G G H (upd H a o) := by
  refine ⟨⟨by simp [w.len], w.nd, fun b u h => ?_, fun b h => ?_, fun i b m h1 h2 => ?_, w.nt, set_tb w.tb hm⟩, ⟨fun _ _ h => h, fun _ h => .inl h, Same.refl _, fun b u h hb _ => ?_, fun b h => .inl h, upd_thr2 ho⟩⟩
  · rw [upd_ne (ne_of_none h hg)]; exact w.sub b u h
  · by_cases e : b = a
    · subst e; rw [upd_same]; simp
    · rw [upd_ne e]; exact w.alive b h
  · by_cases e : i = n
    · subst e
      rw [ha] at h1; cases h1
      have hn : i < M.length := by rw [← w.len]; exact (List.getElem?_eq_some_iff.mp ha).1
      rw [List.getElem?_set_self hn] at h2; cases h2
      exact r
    · rw [List.getElem?_set_ne (Ne.symm e)] at h2
      have ne : b ≠ a := fun z => e (getElem?_inj_nodup w.nd (z ▸ h1) ha)
      exact (w.obj i b m h1 h2).ext (Same.refl _) (fun _ _ h => h) (fun z => z) fun u z => by rw [upd_ne ne]; exact z
  · rw [upd_ne (fun z => hb (by rw [z]; exact List.mem_of_getElem? ha))]; exact h
end
end Dx
/-! Dx2: readings over slots and memory; names, constants, operators, tests, arguments, displays. -/
namespace Dx
open PySem PySem.Spec L2
abbrev KD := D → Mem → Prop
/-- an exception: its class's name, its fields -/
abbrev SD := Str → List (Str × D) → Mem → Prop
abbrev SS := Str → List (Str × D) → Lo → Mem → Prop
abbrev TEd := Lo → Mem → KD → SD → Prop
abbrev TTd := Lo → Mem → (Bool → Mem → Prop) → SD → Prop
abbrev TAd := Lo → Mem → (List D → Mem → Prop) → SD → Prop
structure EndsD where
  nx : Lo → Mem → Prop
  rt : KD
abbrev TSd := EndsD → Lo → Mem → SS → Prop
/-- an exception as it lies -/
def XRel (K : PySem.W.Frag) (G : Hp) (al : List Addr) (H : Hp) (fs : List (Str × D)) : Option Addr → Prop
  | none => fs = []
  | some d => ∃ vs, G d = some (.xd vs) ∧ RelFs K G al fs vs
/-- where one stands -/
structure At (K : PySem.W.Frag) (al : List Addr) (G H : Hp) (M : Mem) (de : Lo) (σ : L2.St) : Prop where
  w : World K G al H M
  st : RelSt K G al de σ
def ToE (K : PySem.W.Frag) (al : List Addr) (G H : Hp) (R : KD) (Q : VK) : Prop :=
  ∀ d M', R d M' → ∀ al' G' H' v, Ext al al' G G' H H' → World K G' al' H' M' → RelD K G' al' d v → Q v H'
def ToX (K : PySem.W.Frag) (al : List Addr) (G H : Hp) (S : SD) (W : Value → Option Addr → Hp → Prop) : Prop :=
  ∀ c fs M', S c fs M' → ∀ al' G' H' xd, Ext al al' G G' H H' → World K G' al' H' M' → XRel K G' al' H' fs xd → W (.ref (He.ga K c)) xd H'
def liftE (K : PySem.W.Frag) (W : WX) (t : TEd) : TE := fun σ H Q => ∃ al G M de R S, At K al G H M de σ ∧ t de M R S ∧ ToE K al G H R Q ∧ ToX K al G H S (fun c d H' => W c d σ H')
def ToT (K : PySem.W.Frag) (al : List Addr) (G H : Hp) (R : Bool → Mem → Prop) (Q : Bool → Hp → Prop) : Prop :=
  ∀ b M', R b M' → ∀ al' G' H', Ext al al' G G' H H' → World K G' al' H' M' → Q b H'
def liftT (K : PySem.W.Frag) (W : WX) (t : TTd) : TT := fun σ H Q => ∃ al G M de R S, At K al G H M de σ ∧ t de M R S ∧ ToT K al G H R Q ∧ ToX K al G H S (fun c d H' => W c d σ H')
def ToA (K : PySem.W.Frag) (al : List Addr) (G H : Hp) (R : List D → Mem → Prop) (Q : List V → Hp → Prop) : Prop :=
  ∀ ds M', R ds M' → ∀ al' G' H' vs, Ext al al' G G' H H' → World K G' al' H' M' → RelDs K G' al' ds vs → Q vs H'
def liftA (K : PySem.W.Frag) (W : WX) (t : TAd) : TA := fun σ H Q => ∃ al G M de R S, At K al G H M de σ ∧ t de M R S ∧ ToA K al G H R Q ∧ ToX K al G H S (fun c d H' => W c d σ H')
def ToN (K : PySem.W.Frag) (al : List Addr) (G H : Hp) (N : Lo → Mem → Prop) (Q : L2.St → Hp → Prop) : Prop :=
  ∀ de' M', N de' M' → ∀ al' G' H' σ', Ext al al' G G' H H' → World K G' al' H' M' → RelSt K G' al' de' σ' → Q σ' H'
def ToSX (K : PySem.W.Frag) (al : List Addr) (G H : Hp) (S : SS) (W : WX) : Prop :=
  ∀ c fs de' M', S c fs de' M' → ∀ al' G' H' xd σ', Ext al al' G G' H H' → World K G' al' H' M' → RelSt K G' al' de' σ' → XRel K G' al' H' fs xd → W (.ref (He.ga K c)) xd σ' H'
def liftS (K : PySem.W.Frag) (W : WX) (t : TSd) : TS := fun D σ H => ∃ al G M de N R S, At K al G H M de σ ∧ t ⟨N, R⟩ de M S ∧ ToN K al G H N D.nx ∧ ToE K al G H R D.rt ∧ ToSX K al G H S W
abbrev PEd (X : Cx) (W : WX) (e : Expr) (t : TEd) : Prop := PE X e (liftE X.K W t)
abbrev PTd (X : Cx) (W : WX) (e : Expr) (t : TTd) : Prop := PT X e (liftT X.K W t)
abbrev PWd (X : Cx) (W : WX) (e : Expr) (t : TTd) : Prop := PW X e (liftT X.K W t)
abbrev PAd (X : Cx) (W : WX) (es : List Expr) (t : TAd) : Prop := PA X es (liftA X.K W t)
abbrev PSd (X : Cx) (W : WX) (st : Stmt) (t : TSd) : Prop := PS X st (liftS X.K W t)
abbrev PSsd (X : Cx) (W : WX) (st : List Stmt) (t : TSd) : Prop := PSs X st (liftS X.K W t)

section
variable {K : PySem.W.Frag} {G G' G1 H H' H1 : Hp} {al al' al1 : List Addr} {W : WX} {σ : L2.St} {de : Lo} {M M' : Mem}
theorem At.ext (a : At K al G H M de σ) (e : Ext al al' G G' H H') (w : World K G' al' H' M') : At K al' G' H' M' de σ := ⟨w, a.st.ext e⟩
theorem ToE.ext {R : KD} {Q : VK} (t : ToE K al G H R Q) (e : Ext al al' G G' H H') : ToE K al' G' H' R Q := fun d M' h al2 G2 H2 v e2 w r => t d M' h al2 G2 H2 v (e.trans e2) w r
theorem ToX.ext {S : SD} {Q : Value → Option Addr → Hp → Prop} (t : ToX K al G H S Q) (e : Ext al al' G G' H H') : ToX K al' G' H' S Q := fun c fs M' h al2 G2 H2 v e2 w r => t c fs M' h al2 G2 H2 v (e.trans e2) w r
theorem ToT.ext {R : Bool → Mem → Prop} {Q : Bool → Hp → Prop} (t : ToT K al G H R Q) (e : Ext al al' G G' H H') : ToT K al' G' H' R Q := fun d M' h al2 G2 H2 e2 w => t d M' h al2 G2 H2 (e.trans e2) w
theorem ToA.ext {R : List D → Mem → Prop} {Q : List V → Hp → Prop} (t : ToA K al G H R Q) (e : Ext al al' G G' H H') : ToA K al' G' H' R Q := fun d M' h al2 G2 H2 v e2 w r => t d M' h al2 G2 H2 v (e.trans e2) w r
theorem ToN.ext {R : Lo → Mem → Prop} {Q : L2.St → Hp → Prop} (t : ToN K al G H R Q) (e : Ext al al' G G' H H') : ToN K al' G' H' R Q := fun d M' h al2 G2 H2 v e2 w r => t d M' h al2 G2 H2 v (e.trans e2) w r
theorem ToSX.ext {S : SS} {W : WX} (t : ToSX K al G H S W) (e : Ext al al' G G' H H') : ToSX K al' G' H' S W := fun c fs d M' h al2 G2 H2 xd σ' e2 w r x => t c fs d M' h al2 G2 H2 xd σ' (e.trans e2) w r x
theorem ToE.now {R : KD} {Q : VK} (t : ToE K al G H R Q) {d : D} {v : V} (h : R d M) (w : World K G al H M) (r : RelD K G al d v) : Q v H := t d M h al G H v (Ext.refl _ _ _) w r
theorem ToA.now {R : List D → Mem → Prop} {Q : List V → Hp → Prop} (t : ToA K al G H R Q) {d : List D} {v : List V} (h : R d M) (w : World K G al H M) (r : RelDs K G al d v) : Q v H := t d M h al G H v (Ext.refl _ _ _) w r
theorem ToT.now {R : Bool → Mem → Prop} {Q : Bool → Hp → Prop} (t : ToT K al G H R Q) {d : Bool} (h : R d M) (w : World K G al H M) : Q d H := t d M h al G H (Ext.refl _ _ _) w
theorem ToN.now {R : Lo → Mem → Prop} {Q : L2.St → Hp → Prop} (t : ToN K al G H R Q) (h : R de M) (w : World K G al H M) (r : RelSt K G al de σ) : Q σ H := t de M h al G H σ (Ext.refl _ _ _) w r
theorem ToSX.at_ {S : SS} (t : ToSX K al G H S W) (r : RelSt K G al de σ) : ToX K al G H (fun c fs M' => S c fs de M') (fun c d H' => W c d σ H') :=
  fun c fs M' h al2 G2 H2 xd e2 w x => t c fs de M' h al2 G2 H2 xd σ e2 w (r.ext e2) x
/-- one expression, then what follows -/
theorem liftE.mk {t : TEd} {R : KD} {S : SD} {Q : VK} (a : At K al G H M de σ) (h : t de M R S) (hR : ToE K al G H R Q) (hS : ToX K al G H S (fun c d H' => W c d σ H')) : liftE K W t σ H Q := ⟨al, G, M, de, R, S, a, h, hR, hS⟩
theorem liftT.mk {t : TTd} {R : Bool → Mem → Prop} {S : SD} {Q : Bool → Hp → Prop} (a : At K al G H M de σ) (h : t de M R S) (hR : ToT K al G H R Q) (hS : ToX K al G H S (fun c d H' => W c d σ H')) : liftT K W t σ H Q := ⟨al, G, M, de, R, S, a, h, hR, hS⟩
theorem liftA.mk {t : TAd} {R : List D → Mem → Prop} {S : SD} {Q : List V → Hp → Prop} (a : At K al G H M de σ) (h : t de M R S) (hR : ToA K al G H R Q) (hS : ToX K al G H S (fun c d H' => W c d σ H')) : liftA K W t σ H Q := ⟨al, G, M, de, R, S, a, h, hR, hS⟩
theorem liftS.mk {t : TSd} {D : Ends} {N : Lo → Mem → Prop} {R : KD} {S : SS} (a : At K al G H M de σ) (h : t ⟨N, R⟩ de M S) (hN : ToN K al G H N D.nx) (hR : ToE K al G H R D.rt) (hS : ToSX K al G H S W) : liftS K W t D σ H := ⟨al, G, M, de, N, R, S, a, h, hN, hR, hS⟩
end

section
variable {X : Cx} {W : WX} {e a b c : Expr} {es : List Expr} {pos : Pos}
theorem PE.imp {t u : TE} (h : PE X e t) (i : ∀ σ H Q, u σ H Q → t σ H Q) : PE X e u := ⟨fun pins s σ H Q I q => h.run pins s σ H Q I (i σ H Q q)⟩
theorem PT.imp {t u : TT} (h : PT X e t) (i : ∀ σ H Q, u σ H Q → t σ H Q) : PT X e u := ⟨fun pins s σ H Q I q => h.run pins s σ H Q I (i σ H Q q)⟩
theorem PW.imp {t u : TT} (h : PW X e t) (i : ∀ σ H Q, u σ H Q → t σ H Q) : PW X e u := ⟨fun wh pins s σ H Q I q => h.run wh pins s σ H Q I (i σ H Q q)⟩
theorem PA.imp {t u : TA} (h : PA X es t) (i : ∀ σ H Q, u σ H Q → t σ H Q) : PA X es u := ⟨fun p pins s σ H Q I q => h.run p pins s σ H Q I (i σ H Q q)⟩
theorem PS.imp {st : Stmt} {t u : TS} (h : PS X st t) (i : ∀ D σ H, u D σ H → t D σ H) : PS X st u := ⟨fun pins s σ H D I q => h.run pins s σ H D I (i D σ H q)⟩
theorem PSs.imp {st : List Stmt} {t u : TS} (h : PSs X st t) (i : ∀ D σ H, u D σ H → t D σ H) : PSs X st u := ⟨fun pins s σ H D I q => h.run pins s σ H D I (i D σ H q)⟩
theorem PG.imp {st : Expr} {t u : TG} (h : PG X st t) (i : ∀ v σ H Q, u v σ H Q → t v σ H Q) : PG X st u := ⟨fun pins s σ H v w Q I r q => h.run pins s σ H v w Q I r (i _ _ _ _ q)⟩

/-! ### names, constants -/
def eVar (i : Nat) : TEd := fun de M R _ => ∃ d, de[i]? = some (some d) ∧ R d M
def eC (d : D) : TEd := fun _ M R _ => R d M
theorem pd_var (i : Nat) {x : Str} (hN : X.N[i]? = some x := by rfl) (hv : Vis X.env.scope x := by first | exact Or.inl rfl | exact Or.inr (Or.inl rfl) | exact Or.inr (Or.inr rfl)) (hd : (x == ("__debug__" : Str)) = false := by decide)
    (hcd : (x == ("__classdict__" : Str)) = false := by decide) : PEd X W (.Name x pos) (eVar i) :=
  PE.imp (pe_var hN hv hd hcd) fun σ H Q ⟨al, G, M, de, R, S, a, ⟨d, h1, h2⟩, hR, hS⟩ => let ⟨v, e, r⟩ := a.st.at_ i d h1; ⟨v, e, hR.now h2 a.w r⟩
/-- a constant's reading -/
theorem pd_c {d : D} {v : V} (h : PE X e (tC v)) (r : ∀ G al, RelD X.K G al d v) : PEd X W e (eC d) :=
  PE.imp h fun σ H Q ⟨al, G, M, de, R, S, a, h2, hR, hS⟩ => hR.now h2 a.w (r G al)
theorem pd_int {i j} : PEd X W (.Constant (.int i) j pos) (eC (.int i)) := pd_c pe_int fun _ _ => .int i
theorem pd_bl {b j} : PEd X W (.Constant (.bool b) j pos) (eC (.bl b)) := pd_c pe_bl fun _ _ => .bl b
theorem pd_non {j} : PEd X W (.Constant .none j pos) (eC .non) := pd_c pe_non fun _ _ => .non
theorem pd_str {x j} : PEd X W (.Constant (.str x) j pos) (eC (.str x)) := pd_c pe_str fun _ _ => .str x
theorem pd_gint {x : Str} {i : Int} (hg : Gl X x) (hm : ∃ t, X.mg x = some (.int i t)) (hd : (x == ("__debug__" : Str)) = false := by decide) : PEd X W (.Name x pos) (eC (.int i)) := by
  obtain ⟨t, hm⟩ := hm
  exact pd_c (pe_glob (v := .int i) hg hm ⟨t, rfl⟩ hd) fun _ _ => .int i
theorem pd_gstr {x z : Str} (hg : Gl X x) (hm : ∃ t, X.mg x = some (.str z t)) (hd : (x == ("__debug__" : Str)) = false := by decide) : PEd X W (.Name x pos) (eC (.str z)) := by
  obtain ⟨t, hm⟩ := hm
  exact pd_c (pe_glob (v := .str z) hg hm ⟨t, rfl⟩ hd) fun _ _ => .str z
theorem pd_gref {x : Str} {a : Addr} (hg : Gl X x) (hm : X.mg x = some (.ref a)) (hd : (x == ("__debug__" : Str)) = false := by decide) : PEd X W (.Name x pos) (eC (.adr a)) :=
  pd_c (pe_glob (v := .ref a) hg hm rfl hd) fun _ _ => .adr a
theorem pd_bty {x : Str} {n : String} (hg : Gl X x) (hm : X.mg x = none) (hv : bootBuiltins x = some (.type n)) (hn : x ≠ "__name__" := by decide) (hd : (x == ("__debug__" : Str)) = false := by decide) : PEd X W (.Name x pos) (eC (.ty n)) :=
  pd_c (pe_bltn (v := .ty n) hg hm hv rfl hn hd) fun _ _ => .ty n

/-! ### operators by values -/
abbrev O2 := D → D → Mem → KD → Prop
def eOp (o : O2) (ta tb : TEd) : TEd := fun de M R S => ta de M (fun x M1 => tb de M1 (fun y M2 => o x y M2 R) S) S
def OpOk (K : PySem.W.Frag) (r : R2) (o : O2) : Prop := ∀ al G H M x y v u R Q, World K G al H M → RelD K G al x v → RelD K G al y u → o x y M R → ToE K al G H R Q → r v u H Q
theorem lift_op {r : R2} {o : O2} {ta tb : TEd} (h : OpOk X.K r o) : ∀ σ H Q, liftE X.K W (eOp o ta tb) σ H Q → tOp r (liftE X.K W ta) (liftE X.K W tb) σ H Q := fun σ H Q ⟨al, G, M, de, R, S, a, ht, hR, hS⟩ =>
  liftE.mk a ht (fun x M1 h1 al1 G1 H1 v e1 w1 r1 => liftE.mk (a.ext e1 w1) h1 (fun y M2 h2 al2 G2 H2 u e2 w2 r2 => h al2 G2 H2 M2 x y v u R Q w2 (r1.ext e2) r2 h2 (hR.ext (e1.trans e2))) (hS.ext e1)) hS
theorem pd_op {op : Operator} {r : R2} {o : O2} {ta tb : TEd} (ho : OpR X (binaryOp op) r) (h : OpOk X.K r o) (ha : PEd X W a ta) (hb : PEd X W b tb) : PEd X W (.BinOp a op b pos) (eOp o ta tb) :=
  PE.imp (pe_op ho ha hb) (lift_op h)
/-- ints -/
def oI (C : Int → Int → Prop) (g : Int → Int → D) : O2 := fun x y M R => match x, y with
  | .int i, .int j => C i j ∧ R (g i j) M
  | _, _ => False
theorem oI_ok {K : PySem.W.Frag} {C : Int → Int → Prop} {g : Int → Int → D} {gv : Int → Int → V} (hg : ∀ G al i j, RelD K G al (g i j) (gv i j)) : OpOk K (rI C gv) (oI C g) := fun al G H M x y v u R Q w rx ry h hR => by
  cases x <;> try exact h.elim
  cases y <;> try exact h.elim
  cases rx; cases ry
  exact ⟨_, _, rfl, rfl, h.1, hR.now h.2 w (hg G al _ _)⟩
def oI0 (g : Int → Int → D) : O2 := fun x y M R => match x, y with
  | .int i, .int j => R (g i j) M
  | _, _ => False
theorem oI0_ok {K : PySem.W.Frag} {g : Int → Int → D} {gv : Int → Int → V} (hg : ∀ G al i j, RelD K G al (g i j) (gv i j)) : OpOk K (rI0 gv) (oI0 g) := fun al G H M x y v u R Q w rx ry h hR => by
  cases x <;> try exact h.elim
  cases y <;> try exact h.elim
  cases rx; cases ry
  exact ⟨_, _, rfl, rfl, hR.now h w (hg G al _ _)⟩
abbrev oAdd : O2 := oI0 fun i j => .int (i + j)
abbrev oSub : O2 := oI0 fun i j => .int (i - j)
abbrev oMul : O2 := oI CMul fun i j => .int (i * j)
abbrev oDiv : O2 := oI CDiv fun i j => .int (i / j)
abbrev oMod : O2 := oI (fun _ j => 0 < j) fun i j => .int (i % j)
abbrev oPow : O2 := oI CPow fun i j => .int (i ^ j.toNat)
variable {ta tb tc : TEd}
theorem pd_add (ha : PEd X W a ta) (hb : PEd X W b tb) : PEd X W (.BinOp a .Add b pos) (eOp oAdd ta tb) := pd_op op_add (oI0_ok fun _ _ _ _ => .int _) ha hb
theorem pd_sub (ha : PEd X W a ta) (hb : PEd X W b tb) : PEd X W (.BinOp a .Sub b pos) (eOp oSub ta tb) := pd_op op_sub (oI0_ok fun _ _ _ _ => .int _) ha hb
theorem pd_mul (ha : PEd X W a ta) (hb : PEd X W b tb) : PEd X W (.BinOp a .Mult b pos) (eOp oMul ta tb) := pd_op op_mul (oI_ok fun _ _ _ _ => .int _) ha hb
theorem pd_div (ha : PEd X W a ta) (hb : PEd X W b tb) : PEd X W (.BinOp a .FloorDiv b pos) (eOp oDiv ta tb) := pd_op op_fdiv (oI_ok fun _ _ _ _ => .int _) ha hb
theorem pd_mod (ha : PEd X W a ta) (hb : PEd X W b tb) : PEd X W (.BinOp a .Mod b pos) (eOp oMod ta tb) := pd_op op_mod (oI_ok fun _ _ _ _ => .int _) ha hb
theorem pd_pow (ha : PEd X W a ta) (hb : PEd X W b tb) : PEd X W (.BinOp a .Pow b pos) (eOp oPow ta tb) := pd_op op_pow (oI_ok fun _ _ _ _ => .int _) ha hb
/-- -a -/
def eNeg (ta : TEd) : TEd := fun de M R S => ta de M (fun x M1 => match x with | .int i => R (.int (-i)) M1 | _ => False) S
theorem pd_neg (ha : PEd X W a ta) : PEd X W (.UnaryOp .USub a pos) (eNeg ta) := PE.imp (pe_un un_neg ha) fun σ H Q ⟨al, G, M, de, R, S, at_, ht, hR, hS⟩ =>
  liftE.mk at_ ht (fun x M1 h1 al1 G1 H1 v e1 w1 r1 => by
    cases x <;> try exact h1.elim
    cases r1
    exact ⟨_, rfl, (hR.ext e1).now h1 w1 (.int _)⟩) hS

/-! ### comparisons -/
theorem pd_cmp {op : CmpOp} {r : R2} {o : O2} (ho : OpR X (compareOp op) r) (h : OpOk X.K r o) (ha : PEd X W a ta) (hb : PEd X W b tb) (hm : behindInMarks op b = false) : PEd X W (.Compare a [op] [b] pos) (eOp o ta tb) :=
  PE.imp (pe_cmpR ho ha hb hm) (lift_op h)
/-- a value that is a bool, as a test -/
def eB (t : TEd) : TTd := fun de M R S => t de M (fun x M1 => match x with | .bl k => R k M1 | _ => False) S
theorem lift_b {t : TEd} : ∀ σ H Q, liftT X.K W (eB t) σ H Q → (liftE X.K W t) σ H (fun x H' => ∃ k, x = .bl k ∧ Q k H') := fun σ H Q ⟨al, G, M, de, R, S, at_, ht, hR, hS⟩ =>
  liftE.mk at_ ht (fun x M1 h1 al1 G1 H1 v e1 w1 r1 => by
    cases x <;> try exact h1.elim
    cases r1
    exact ⟨_, rfl, (hR.ext e1).now h1 w1⟩) hS
theorem lift_bop {r : R2} {o : O2} {ta tb : TEd} (h : OpOk X.K r o) : ∀ σ H Q, liftT X.K W (eB (eOp o ta tb)) σ H Q → tOp r (liftE X.K W ta) (liftE X.K W tb) σ H (fun x H' => ∃ k, x = .bl k ∧ Q k H') := fun σ H Q ⟨al, G, M, de, R, S, at_, ht, hR, hS⟩ => lift_op h σ H _ (liftE.mk at_ ht (fun x M1 h1 al1 G1 H1 v e1 w1 r1 => by
    cases x <;> try exact h1.elim
    cases r1
    exact ⟨_, rfl, (hR.ext e1).now h1 w1⟩) hS)
/-- an expression whose value is a bool, as a test -/
theorem pdt_val {t : TEd} (h : PEd X W e t) (he : ∀ whole, isTrue e X.env whole = (do let v ← whole; standAt e.pos; holding [v] (truthy v)) := by intro _; rfl) : PTd X W e (eB t) := PT.imp (pt_val h he) fun σ H Q q => lift_b σ H Q q
theorem pdt_cmp {op : CmpOp} {r : R2} {o : O2} (ho : OpR X (compareOp op) r) (h : OpOk X.K r o) (ha : PEd X W a ta) (hb : PEd X W b tb) (hm : behindInMarks op b = false) : PTd X W (.Compare a [op] [b] pos) (eB (eOp o ta tb)) :=
  PT.imp (pt_cmpR ho ha hb hm) fun σ H Q ⟨al, G, M, de, R, S, at_, ht, hR, hS⟩ => lift_op h σ H _ (liftE.mk at_ ht (fun x M1 h1 al1 G1 H1 v e1 w1 r1 => by
    cases x <;> try exact h1.elim
    cases r1
    exact ⟨_, rfl, (hR.ext e1).now h1 w1⟩) hS)
abbrev oLt : O2 := oI0 fun i j => .bl (decide (i < j))
abbrev oLe : O2 := oI0 fun i j => .bl (decide (i ≤ j))
abbrev oGt : O2 := oI0 fun i j => .bl (decide (j < i))
abbrev oGe : O2 := oI0 fun i j => .bl (decide (j ≤ i))
theorem oLt_ok {K : PySem.W.Frag} : OpOk K (rI0 fun i j => .bl (decide (i < j))) oLt := oI0_ok fun _ _ _ _ => .bl _
theorem oLe_ok {K : PySem.W.Frag} : OpOk K (rI0 fun i j => .bl (decide (i ≤ j))) oLe := oI0_ok fun _ _ _ _ => .bl _
theorem oGt_ok {K : PySem.W.Frag} : OpOk K (rI0 fun i j => .bl (decide (j < i))) oGt := oI0_ok fun _ _ _ _ => .bl _
theorem oGe_ok {K : PySem.W.Frag} : OpOk K (rI0 fun i j => .bl (decide (j ≤ i))) oGe := oI0_ok fun _ _ _ _ => .bl _
theorem pdt_lt (ha : PEd X W a ta) (hb : PEd X W b tb) : PTd X W (.Compare a [.Lt] [b] pos) (eB (eOp oLt ta tb)) := pdt_cmp op_lt oLt_ok ha hb (nomark _)
theorem pdt_le (ha : PEd X W a ta) (hb : PEd X W b tb) : PTd X W (.Compare a [.LtE] [b] pos) (eB (eOp oLe ta tb)) := pdt_cmp op_le oLe_ok ha hb (nomark _)
theorem pdt_gt (ha : PEd X W a ta) (hb : PEd X W b tb) : PTd X W (.Compare a [.Gt] [b] pos) (eB (eOp oGt ta tb)) := pdt_cmp op_gt oGt_ok ha hb (nomark _)
theorem pdt_ge (ha : PEd X W a ta) (hb : PEd X W b tb) : PTd X W (.Compare a [.GtE] [b] pos) (eB (eOp oGe ta tb)) := pdt_cmp op_ge oGe_ok ha hb (nomark _)
theorem pd_lt (ha : PEd X W a ta) (hb : PEd X W b tb) : PEd X W (.Compare a [.Lt] [b] pos) (eOp oLt ta tb) := pd_cmp op_lt oLt_ok ha hb (nomark _)
theorem pd_le (ha : PEd X W a ta) (hb : PEd X W b tb) : PEd X W (.Compare a [.LtE] [b] pos) (eOp oLe ta tb) := pd_cmp op_le oLe_ok ha hb (nomark _)
theorem pd_gt (ha : PEd X W a ta) (hb : PEd X W b tb) : PEd X W (.Compare a [.Gt] [b] pos) (eOp oGt ta tb) := pd_cmp op_gt oGt_ok ha hb (nomark _)
theorem pd_ge (ha : PEd X W a ta) (hb : PEd X W b tb) : PEd X W (.Compare a [.GtE] [b] pos) (eOp oGe ta tb) := pd_cmp op_ge oGe_ok ha hb (nomark _)
/-- is None -/
def isNon : D → Bool
  | .non => true
  | _ => false
def oIsN : O2 := fun x y M R => match y with
  | .non => R (.bl (isNon x)) M
  | _ => False
def oNotN : O2 := fun x y M R => match y with
  | .non => R (.bl (!isNon x)) M
  | _ => False
theorem isN_eq {K : PySem.W.Frag} {G : Hp} {al : List Addr} {d : D} {v : V} (r : RelD K G al d v) : decide (v = V.non) = isNon d := by
  cases r <;> first | rfl | exact decide_eq_false (fun z => by cases z)
theorem oIsN_ok {K : PySem.W.Frag} : OpOk K (fun x y H Q => y = .non ∧ Q (.bl (decide (x = .non))) H) oIsN := fun al G H M x y v u R Q w rx ry h hR => by
  cases y <;> try exact h.elim
  cases ry
  refine ⟨rfl, ?_⟩
  rw [isN_eq rx]
  exact hR.now h w (.bl _)
theorem oNotN_ok {K : PySem.W.Frag} : OpOk K (fun x y H Q => y = .non ∧ Q (.bl (!decide (x = .non))) H) oNotN := fun al G H M x y v u R Q w rx ry h hR => by
  cases y <;> try exact h.elim
  cases ry
  refine ⟨rfl, ?_⟩
  rw [isN_eq rx]
  exact hR.now h w (.bl _)
theorem pdt_isN (ha : PEd X W a ta) (hb : PEd X W b tb) : PTd X W (.Compare a [.Is] [b] pos) (eB (eOp oIsN ta tb)) := pdt_cmp op_isN oIsN_ok ha hb (nomark _)
theorem pdt_notN (ha : PEd X W a ta) (hb : PEd X W b tb) : PTd X W (.Compare a [.IsNot] [b] pos) (eB (eOp oNotN ta tb)) := pdt_cmp op_notN oNotN_ok ha hb (nomark _)
theorem pd_isN (ha : PEd X W a ta) (hb : PEd X W b tb) : PEd X W (.Compare a [.Is] [b] pos) (eOp oIsN ta tb) := pd_cmp op_isN oIsN_ok ha hb (nomark _)
theorem pd_notN (ha : PEd X W a ta) (hb : PEd X W b tb) : PEd X W (.Compare a [.IsNot] [b] pos) (eOp oNotN ta tb) := pd_cmp op_notN oNotN_ok ha hb (nomark _)
/-- a < b <= c -/
def eChain (o o' : O2) (ta tb tc : TEd) : TEd := fun de M R S => ta de M (fun x M1 => tb de M1 (fun y M2 => o x y M2 fun z M3 => match z with
  | .bl true => tc de M3 (fun w M4 => o' y w M4 R) S
  | .bl false => R (.bl false) M3
  | _ => False) S) S
theorem lift_chain {r r' : R2} {o o' : O2} (h : OpOk X.K r o) (h' : OpOk X.K r' o') : ∀ σ H Q, liftE X.K W (eChain o o' ta tb tc) σ H Q → tChain r r' (liftE X.K W ta) (liftE X.K W tb) (liftE X.K W tc) σ H Q := fun σ H Q ⟨al, G, M, de, R, S, a, ht, hR, hS⟩ =>
  liftE.mk a ht (fun x M1 h1 al1 G1 H1 v e1 w1 r1 => liftE.mk (a.ext e1 w1) h1 (fun y M2 h2 al2 G2 H2 u e2 w2 r2 => h al2 G2 H2 M2 x y v u _ _ w2 (r1.ext e2) r2 h2 fun z M3 h3 al3 G3 H3 q e3 w3 r3 => by
    have e13 := (e1.trans e2).trans e3
    cases z <;> try exact h3.elim
    rename_i k
    cases r3
    refine ⟨k, rfl, ?_⟩
    cases k with
    | true =>
      rw [if_pos rfl]
      exact liftE.mk (a.ext e13 w3) h3 (fun z M4 h4 al4 G4 H4 q e4 w4 r4 => h' al4 G4 H4 M4 y z u q R Q w4 (r2.ext (e3.trans e4)) r4 h4 (hR.ext (e13.trans e4))) (hS.ext e13)
    | false =>
      rw [if_neg Bool.false_ne_true]
      exact (hR.ext e13).now h3 w3 (.bl _)) (hS.ext e1)) hS
theorem pd_chain {op op' : CmpOp} {r r' : R2} {o o' : O2} (ho : OpR X (compareOp op) r) (ho' : OpR X (compareOp op') r') (h : OpOk X.K r o) (h' : OpOk X.K r' o') (ha : PEd X W a ta) (hb : PEd X W b tb) (hc : PEd X W c tc)
    (hm : lastMarks [op, op'] [b, c] = false := by with_unfolding_all rfl) : PEd X W (.Compare a [op, op'] [b, c] pos) (eChain o o' ta tb tc) := PE.imp (pe_chain ho ho' ha hb hc hm) (lift_chain h h')
theorem pdt_chain {op op' : CmpOp} {r r' : R2} {o o' : O2} (ho : OpR X (compareOp op) r) (ho' : OpR X (compareOp op') r') (h : OpOk X.K r o) (h' : OpOk X.K r' o') (ha : PEd X W a ta) (hb : PEd X W b tb) (hc : PEd X W c tc)
    (hm : lastMarks [op, op'] [b, c] = false := by with_unfolding_all rfl) : PTd X W (.Compare a [op, op'] [b, c] pos) (eB (eChain o o' ta tb tc)) := PT.imp (pt_chain ho ho' ha hb hc hm) fun σ H Q ⟨al, G, M, de, R, S, at_, ht, hR, hS⟩ =>
  lift_chain h h' σ H _ (liftE.mk at_ ht (fun x M1 h1 al1 G1 H1 v e1 w1 r1 => by
    cases x <;> try exact h1.elim
    cases r1
    exact ⟨_, rfl, (hR.ext e1).now h1 w1⟩) hS)

/-! ### and, or, not, if else -/
def eAnd (t u : TTd) : TTd := fun de M R S => t de M (fun c M1 => match c with | true => u de M1 R S | false => R false M1) S
def eOr (t u : TTd) : TTd := fun de M R S => t de M (fun c M1 => match c with | true => R true M1 | false => u de M1 R S) S
def eNot (t : TTd) : TTd := fun de M R S => t de M (fun c M1 => R (!c) M1) S
def eIf (t : TTd) (ta tb : TEd) : TEd := fun de M R S => t de M (fun c M1 => match c with | true => ta de M1 R S | false => tb de M1 R S) S
variable {tA tB' : TTd} {rest : List Expr}
theorem pdw_and1 (ha : PTd X W a tA) : PWd X W (.BoolOp .And [a] pos) tA := pw_and1 ha
theorem pdw_or1 (ha : PTd X W a tA) : PWd X W (.BoolOp .Or [a] pos) tA := pw_or1 ha
theorem pdw_and (ha : PTd X W a tA) (hb : PWd X W (.BoolOp .And (b :: rest) pos) tB') : PWd X W (.BoolOp .And (a :: b :: rest) pos) (eAnd tA tB') := PW.imp (pw_and ha hb) fun σ H Q ⟨al, G, M, de, R, S, at_, ht, hR, hS⟩ =>
  liftT.mk at_ ht (fun c M1 h1 al1 G1 H1 e1 w1 => by
    cases c with
    | true => rw [if_pos rfl]; exact liftT.mk (at_.ext e1 w1) h1 (hR.ext e1) (hS.ext e1)
    | false => rw [if_neg Bool.false_ne_true]; exact (hR.ext e1).now h1 w1) hS
theorem pdw_or (ha : PTd X W a tA) (hb : PWd X W (.BoolOp .Or (b :: rest) pos) tB') : PWd X W (.BoolOp .Or (a :: b :: rest) pos) (eOr tA tB') := PW.imp (pw_or ha hb) fun σ H Q ⟨al, G, M, de, R, S, at_, ht, hR, hS⟩ =>
  liftT.mk at_ ht (fun c M1 h1 al1 G1 H1 e1 w1 => by
    cases c with
    | true => rw [if_pos rfl]; exact (hR.ext e1).now h1 w1
    | false => rw [if_neg Bool.false_ne_true]; exact liftT.mk (at_.ext e1 w1) h1 (hR.ext e1) (hS.ext e1)) hS
theorem pdt_w {t : TTd} (h : PWd X W e t) : PTd X W e t := PW.pt h
theorem pdt_not (ha : PTd X W a tA) : PTd X W (.UnaryOp .Not a pos) (eNot tA) := PT.imp (pt_not ha) fun σ H Q ⟨al, G, M, de, R, S, at_, ht, hR, hS⟩ =>
  liftT.mk at_ ht (fun c M1 h1 al1 G1 H1 e1 w1 => (hR.ext e1).now h1 w1) hS
theorem pd_if (hc : PTd X W c tA) (ha : PEd X W a ta) (hb : PEd X W b tb) : PEd X W (.IfExp c a b pos) (eIf tA ta tb) := PE.imp (pe_ifExp hc ha hb) fun σ H Q ⟨al, G, M, de, R, S, at_, ht, hR, hS⟩ =>
  liftT.mk at_ ht (fun c M1 h1 al1 G1 H1 e1 w1 => by
    cases c with
    | true => rw [if_pos rfl]; exact liftE.mk (at_.ext e1 w1) h1 (hR.ext e1) (hS.ext e1)
    | false => rw [if_neg Bool.false_ne_true]; exact liftE.mk (at_.ext e1 w1) h1 (hR.ext e1) (hS.ext e1)) hS
/-- as values: all but the last True or False -/
def eAndV (ta tb : TEd) : TEd := fun de M R S => ta de M (fun x M1 => match x with | .bl true => tb de M1 R S | .bl false => R (.bl false) M1 | _ => False) S
def eOrV (ta tb : TEd) : TEd := fun de M R S => ta de M (fun x M1 => match x with | .bl true => R (.bl true) M1 | .bl false => tb de M1 R S | _ => False) S
def eNotV (ta : TEd) : TEd := fun de M R S => ta de M (fun x M1 => match x with | .bl k => R (.bl (!k)) M1 | _ => False) S
theorem pd_one {op} {t : TEd} (h : PEd X W a t) : PEd X W (.BoolOp op [a] pos) t := pe_one h
theorem pd_and (ha : PEd X W a ta) (hb : PEd X W (.BoolOp .And (b :: rest) pos) tb) : PEd X W (.BoolOp .And (a :: b :: rest) pos) (eAndV ta tb) := PE.imp (pe_and ha hb) fun σ H Q ⟨al, G, M, de, R, S, at_, ht, hR, hS⟩ =>
  liftE.mk at_ ht (fun x M1 h1 al1 G1 H1 v e1 w1 r1 => by
    cases x <;> try exact h1.elim
    rename_i k
    cases r1
    refine ⟨k, rfl, ?_⟩
    cases k with
    | true => rw [if_pos rfl]; exact liftE.mk (at_.ext e1 w1) h1 (hR.ext e1) (hS.ext e1)
    | false => rw [if_neg Bool.false_ne_true]; exact (hR.ext e1).now h1 w1 (.bl _)) hS
theorem pd_or (ha : PEd X W a ta) (hb : PEd X W (.BoolOp .Or (b :: rest) pos) tb) : PEd X W (.BoolOp .Or (a :: b :: rest) pos) (eOrV ta tb) := PE.imp (pe_or ha hb) fun σ H Q ⟨al, G, M, de, R, S, at_, ht, hR, hS⟩ =>
  liftE.mk at_ ht (fun x M1 h1 al1 G1 H1 v e1 w1 r1 => by
    cases x <;> try exact h1.elim
    rename_i k
    cases r1
    refine ⟨k, rfl, ?_⟩
    cases k with
    | true => rw [if_pos rfl]; exact (hR.ext e1).now h1 w1 (.bl _)
    | false => rw [if_neg Bool.false_ne_true]; exact liftE.mk (at_.ext e1 w1) h1 (hR.ext e1) (hS.ext e1)) hS
theorem pd_not (ha : PEd X W a ta) : PEd X W (.UnaryOp .Not a pos) (eNotV ta) := PE.imp (pe_not ha) fun σ H Q ⟨al, G, M, de, R, S, at_, ht, hR, hS⟩ =>
  liftE.mk at_ ht (fun x M1 h1 al1 G1 H1 v e1 w1 r1 => by
    cases x <;> try exact h1.elim
    cases r1
    exact ⟨_, rfl, (hR.ext e1).now h1 w1 (.bl _)⟩) hS

/-! ### argument lists, tuples, lists -/
def aNil : TAd := fun _ M R _ => R [] M
def aCons (ta : TEd) (tr : TAd) : TAd := fun de M R S => ta de M (fun x M1 => tr de M1 (fun xs M2 => R (x :: xs) M2) S) S
theorem pda_nil : PAd X W [] aNil := PA.imp pa_nil fun σ H Q ⟨al, G, M, de, R, S, at_, ht, hR, hS⟩ => hR.now ht at_.w .nil
theorem pda_cons {t : TAd} (ha : PEd X W e ta) (hr : PAd X W es t) (hs : starEach (e :: es) X.env = (false, eval e X.env) :: starEach es X.env := by rfl) : PAd X W (e :: es) (aCons ta t) := PA.imp (pa_cons ha hr hs) fun σ H Q ⟨al, G, M, de, R, S, at_, ht, hR, hS⟩ =>
  liftE.mk at_ ht (fun x M1 h1 al1 G1 H1 v e1 w1 r1 => liftA.mk (at_.ext e1 w1) h1 (fun xs M2 h2 al2 G2 H2 vs e2 w2 r2 => (hR.ext (e1.trans e2)).now h2 w2 (.cons (r1.ext e2) r2)) (hS.ext e1)) hS
def eTup (t : TAd) : TEd := fun de M R S => t de M (fun xs M1 => xs.length ≤ sizeLine ∧ R (.tup xs) M1) S
/-- a new list: m: may it change? -/
def newL (m : Bool) (xs : List D) (M : Mem) (R : KD) : Prop := match m with
  | false => R (.lst xs) M
  | true => R (.ref M.length) (M ++ [.lst xs])
def eLst (m : Bool) (t : TAd) : TEd := fun de M R S => t de M (fun xs M1 => xs.length ≤ sizeLine ∧ newL m xs M1 R) S
theorem newT_to {K : PySem.W.Frag} {al : List Addr} {G H : Hp} {M : Mem} {xs : List D} {vs : List V} {R : KD} {Q : VK} (w : World K G al H M) (r : RelDs K G al xs vs) (h : R (.tup xs) M) (hR : ToE K al G H R Q) (p : Addr) (hp : H p = none) : Q (.ref p) (upd H p (.tup vs)) := by
  obtain ⟨w1, e1⟩ := w.cold (o := .tup vs) hp
  exact hR _ _ h al _ _ _ e1 w1 (.tup (SqT.of upd_same) (r.ext e1))
theorem newL_to {K : PySem.W.Frag} {al : List Addr} {G H : Hp} {M : Mem} {xs : List D} {vs : List V} {m : Bool} {R : KD} {Q : VK} (w : World K G al H M) (r : RelDs K G al xs vs) (h : newL m xs M R) (hR : ToE K al G H R Q) (p : Addr) (hp : H p = none) : Q (.ref p) (upd H p (.lst vs)) := by
  cases m with
  | false =>
    obtain ⟨w1, e1⟩ := w.cold (o := .lst vs) hp
    exact hR _ _ h al _ _ _ e1 w1 (.lst upd_same (r.ext e1))
  | true =>
    have pre : ∀ (n : Nat) (a : Addr), al[n]? = some a → (al ++ [p])[n]? = some a := fun n a h => by rw [List.getElem?_append_left (List.getElem?_eq_some_iff.mp h).1]; exact h
    obtain ⟨w1, e1⟩ := w.warm (o := .lst vs) (mo := .lst xs) hp ⟨w.sub.free hp, vs, upd_same, r.mono (Same.refl _) pre⟩
    refine hR _ _ h _ _ _ _ e1 w1 (.ref ?_)
    rw [← w.len, List.getElem?_append_right (Nat.le_refl _)]
    simp
theorem pd_tup {t : TAd} {x1} (h : PAd X W es t) : PEd X W (.Tuple es x1 pos) (eTup t) := PE.imp (pe_tup h) fun σ H Q ⟨al, G, M, de, R, S, at_, ht, hR, hS⟩ =>
  liftA.mk at_ ht (fun xs M1 h1 al1 G1 H1 vs e1 w1 r1 => ⟨by rw [← r1.length]; exact h1.1, newT_to w1 r1 h1.2 (hR.ext e1)⟩) hS
theorem pd_lst {t : TAd} (m : Bool) (h : PAd X W es t) : PEd X W (.List es pos) (eLst m t) := PE.imp (pe_lst h) fun σ H Q ⟨al, G, M, de, R, S, at_, ht, hR, hS⟩ =>
  liftA.mk at_ ht (fun xs M1 h1 al1 G1 H1 vs e1 w1 r1 => ⟨by rw [← r1.length]; exact h1.1, newL_to w1 r1 h1.2 (hR.ext e1)⟩) hS
end
end Dx
/-! Dx3: what a value is in the memory; subscripts, slices, built-ins, methods of lists; fields; calls of defs, methods, classes. -/
namespace Dx
open PySem PySem.Spec L2
/-! ### what a value is -/
def lstOf (M : Mem) : D → Option (List D)
  | .lst xs => some xs
  | .kls xs => some xs
  | .ref n => match M[n]? with
    | some (.lst xs) => some xs
    | _ => none
  | _ => none
/-- a list whose object is tracked: it may stand beside + and * -/
def ownOf (M : Mem) : D → Option (List D)
  | .lst xs => some xs
  | .ref n => match M[n]? with
    | some (.lst xs) => some xs
    | _ => none
  | _ => none
def seqOf (M : Mem) : D → Option (List D)
  | .lst xs => some xs
  | .kls xs => some xs
  | .tup xs => some xs
  | .ref n => match M[n]? with
    | some (.lst xs) => some xs
    | _ => none
  | _ => none
def dicOf (M : Mem) : D → Option (List (Key × D))
  | .ref n => match M[n]? with
    | some (.dic xs) => some xs
    | _ => none
  | _ => none
def insOf (M : Mem) : D → Option (Str × List (Str × D))
  | .obj c fs => some (c, fs)
  | .ref n => match M[n]? with
    | some (.ins c fs) => some (c, fs)
    | _ => none
  | _ => none
section
variable {K : PySem.W.Frag} {G H : Hp} {al : List Addr} {M : Mem}
theorem World.lst {d : D} {v : V} {xs : List D} (w : World K G al H M) (r : RelD K G al d v) (h : lstOf M d = some xs) : ∃ a vs, v = .ref a ∧ SqL K H a vs ∧ RelDs K G al xs vs := by
  cases r <;> try cases h
  case ref n a e =>
    simp only [lstOf] at h
    cases q : M[n]? with
    | none => rw [q] at h; cases h
    | some mo =>
      rw [q] at h
      cases mo <;> try cases h
      obtain ⟨_, vs, h1, h2⟩ := w.obj n a _ e q
      exact ⟨a, vs, rfl, SqL.of h1, h2⟩
  case lst a vs h1 h2 => exact ⟨a, vs, rfl, SqL.of (w.sub _ _ h1), h2⟩
  case kls a vs h1 h2 => exact ⟨a, vs, rfl, w.sub.seq h1, h2⟩
theorem World.own {d : D} {v : V} {xs : List D} (w : World K G al H M) (r : RelD K G al d v) (h : ownOf M d = some xs) : ∃ a vs, v = .ref a ∧ H a = some (.lst vs) ∧ RelDs K G al xs vs := by
  cases r <;> try cases h
  case ref n a e =>
    simp only [ownOf] at h
    cases q : M[n]? with
    | none => rw [q] at h; cases h
    | some mo =>
      rw [q] at h
      cases mo <;> try cases h
      obtain ⟨_, vs, h1, h2⟩ := w.obj n a _ e q
      exact ⟨a, vs, rfl, h1, h2⟩
  case lst a vs h1 h2 => exact ⟨a, vs, rfl, w.sub _ _ h1, h2⟩
theorem World.seq {d : D} {v : V} {xs : List D} (w : World K G al H M) (r : RelD K G al d v) (h : seqOf M d = some xs) : ∃ a vs, v = .ref a ∧ (SqL K H a vs ∨ SqT K H a vs) ∧ RelDs K G al xs vs := by
  cases r <;> try cases h
  case ref n a e =>
    simp only [seqOf] at h
    cases q : M[n]? with
    | none => rw [q] at h; cases h
    | some mo =>
      rw [q] at h
      cases mo <;> try cases h
      obtain ⟨_, vs, h1, h2⟩ := w.obj n a _ e q
      exact ⟨a, vs, rfl, .inl (SqL.of h1), h2⟩
  case lst a vs h1 h2 => exact ⟨a, vs, rfl, .inl (SqL.of (w.sub _ _ h1)), h2⟩
  case kls a vs h1 h2 => exact ⟨a, vs, rfl, .inl (w.sub.seq h1), h2⟩
  case tup a vs h1 h2 => exact ⟨a, vs, rfl, .inr (SqT_same w.sub h1), h2⟩
theorem World.dic {d : D} {v : V} {xs : List (Key × D)} (w : World K G al H M) (r : RelD K G al d v) (h : dicOf M d = some xs) : ∃ a vs, v = .ref a ∧ H a = some (.dK vs) ∧ RelKs K G al xs vs := by
  cases r <;> try cases h
  case ref n a e =>
    simp only [dicOf] at h
    cases q : M[n]? with
    | none => rw [q] at h; cases h
    | some mo =>
      rw [q] at h
      cases mo <;> try cases h
      obtain ⟨_, vs, h1, h2⟩ := w.obj n a _ e q
      exact ⟨a, vs, rfl, h1, h2⟩
theorem World.ins {d : D} {v : V} {c : Str} {fs : List (Str × D)} (w : World K G al H M) (r : RelD K G al d v) (h : insOf M d = some (c, fs)) : ∃ a dx vs, v = .ref a ∧ H a = some (.ins (He.ga K c) dx vs) ∧ RelFs K G al fs vs := by
  cases r <;> try cases h
  case ref n a e =>
    simp only [insOf] at h
    cases q : M[n]? with
    | none => rw [q] at h; cases h
    | some mo =>
      rw [q] at h
      cases mo <;> try cases h
      obtain ⟨_, dx, vs, h1, h2⟩ := w.obj n a _ e q
      exact ⟨a, dx, vs, rfl, h1, h2⟩
  case obj a dx vs h1 h2 => exact ⟨a, dx, vs, rfl, w.sub _ _ h1, h2⟩
theorem World.refLst {n : Nat} {v : V} {xs : List D} (w : World K G al H M) (r : RelD K G al (.ref n) v) (h : M[n]? = some (.lst xs)) : ∃ a vs, v = .ref a ∧ al[n]? = some a ∧ G a = none ∧ H a = some (.lst vs) ∧ RelDs K G al xs vs := by
  cases r with
  | ref e => obtain ⟨h0, vs, h1, h2⟩ := w.obj n _ _ e h; exact ⟨_, vs, rfl, e, h0, h1, h2⟩
theorem World.refDic {n : Nat} {v : V} {xs : List (Key × D)} (w : World K G al H M) (r : RelD K G al (.ref n) v) (h : M[n]? = some (.dic xs)) : ∃ a vs, v = .ref a ∧ al[n]? = some a ∧ G a = none ∧ H a = some (.dK vs) ∧ RelKs K G al xs vs := by
  cases r with
  | ref e => obtain ⟨h0, vs, h1, h2⟩ := w.obj n _ _ e h; exact ⟨_, vs, rfl, e, h0, h1, h2⟩
theorem World.refIns {n : Nat} {v : V} {c : Str} {xs : List (Str × D)} (w : World K G al H M) (r : RelD K G al (.ref n) v) (h : M[n]? = some (.ins c xs)) : ∃ a dx vs, v = .ref a ∧ al[n]? = some a ∧ G a = none ∧ H a = some (.ins (He.ga K c) dx vs) ∧ RelFs K G al xs vs := by
  cases r with
  | ref e => obtain ⟨h0, dx, vs, h1, h2⟩ := w.obj n _ _ e h; exact ⟨_, dx, vs, rfl, e, h0, h1, h2⟩
theorem RelDs.map_int : ∀ {ns : List Int} {vs : List V}, RelDs K G al (ns.map D.int) vs → vs = ns.map V.int
  | [], _, .nil => rfl
  | n :: ns, _, .cons r t => by
    cases r
    rw [List.map_cons, ← RelDs.map_int t]
theorem RelDs.of_ints : ∀ (ns : List Int), RelDs K G al (ns.map D.int) (ns.map V.int)
  | [] => .nil
  | n :: ns => .cons (.int n) (RelDs.of_ints ns)
theorem RelDs.map_str : ∀ {ns : List Str} {vs : List V}, RelDs K G al (ns.map D.str) vs → vs = ns.map V.str
  | [], _, .nil => rfl
  | n :: ns, _, .cons r t => by
    cases r
    rw [List.map_cons, ← RelDs.map_str t]
theorem RelDs.of_strs : ∀ (ns : List Str), RelDs K G al (ns.map D.str) (ns.map V.str)
  | [] => .nil
  | n :: ns => .cons (.str n) (RelDs.of_strs ns)
theorem RelDs.flatten_rep {ds : List D} {vs : List V} (r : RelDs K G al ds vs) : ∀ n : Nat, RelDs K G al (List.replicate n ds).flatten (List.replicate n vs).flatten
  | 0 => by simpa using RelDs.nil
  | n + 1 => by
    rw [List.replicate_succ, List.replicate_succ, List.flatten_cons, List.flatten_cons]
    exact r.append (RelDs.flatten_rep r n)
end
section
variable {X : Cx} {W : WX} {e a b c o : Expr} {es : List Expr} {pos p apos cpos p2 : Pos} {ta tb tc : TEd} {t : TAd}

/-! ### subscripts -/
def atD (xs : List D) (i : Int) : Option D := atI xs i
theorem atI_rel {K : PySem.W.Frag} {G : Hp} {al : List Addr} {ds : List D} {vs : List V} {i : Int} {d : D} (r : RelDs K G al ds vs) (h : atI ds i = some d) : ∃ v, atI vs i = some v ∧ RelD K G al d v := by
  unfold atI at h ⊢
  rw [← r.length]
  cases q : ixN ds.length i with
  | none => rw [q] at h; cases h
  | some j =>
    rw [q] at h
    exact r.get h
/-- xs[i], t[i] -/
def oIx : O2 := fun x y M R => ∃ xs i d, seqOf M x = some xs ∧ y = .int i ∧ atI xs i = some d ∧ R d M
theorem oIx_ok {K : PySem.W.Frag} : OpOk K (fun x y H Q => rIxL K x y H Q ∨ rIxT K x y H Q) oIx := fun al G H M x y v u R Q w rx ry h hR => by
  obtain ⟨xs, i, d, h1, h2, h3, h4⟩ := h
  subst h2
  cases ry
  obtain ⟨a, vs, rfl, hq, rv⟩ := w.seq rx h1
  obtain ⟨z, hz, rz⟩ := atI_rel rv h3
  rcases hq with hq | hq
  · exact .inl ⟨a, vs, i, z, rfl, rfl, hq, hz, hR.now h4 w rz⟩
  · exact .inr ⟨a, vs, i, z, rfl, rfl, hq, hz, hR.now h4 w rz⟩
theorem pd_ix (ha : PEd X W a ta) (hb : PEd X W b tb) (hs : PlainIx b := by exact fun _ _ => rfl) : PEd X W (.Subscript a b pos) (eOp oIx ta tb) := PE.imp (pe_ix (ix_list.or ix_tup) ha hb hs) (lift_op oIx_ok)
/-- d[k], a dict -/
def keyD : D → Option Key
  | .int i => some (.inl i)
  | .str s => some (.inr s)
  | _ => none
def valD (kvs : List (Key × D)) (k : Key) : Option D := (kvs.find? fun kv => decide (kv.1 = k)).map (·.2)
theorem keyD_rel {K : PySem.W.Frag} {G : Hp} {al : List Addr} {d : D} {v : V} {k : Key} (r : RelD K G al d v) (h : keyD d = some k) : v = kV k := by
  cases r <;> cases h <;> rfl
theorem valD_rel {K : PySem.W.Frag} {G : Hp} {al : List Addr} {k : Key} : ∀ {ds : List (Key × D)} {vs : List (Key × V)}, RelKs K G al ds vs → (valD ds k = none ∧ valV vs k = none) ∨ ∃ d v, valD ds k = some d ∧ valV vs k = some v ∧ RelD K G al d v
  | _, _, .nil => .inl ⟨rfl, rfl⟩
  | (k', d) :: ds, (_, v) :: vs, .cons r t => by
    by_cases e : k' = k
    · refine .inr ⟨d, v, ?_, ?_, r⟩ <;> simp [valD, valV, List.find?_cons, e]
    · have h1 : valD ((k', d) :: ds) k = valD ds k := by simp [valD, List.find?_cons, e]
      have h2 : valV ((k', v) :: vs) k = valV vs k := by simp [valV, List.find?_cons, e]
      rw [h1, h2]
      exact valD_rel t
def oDGet : O2 := fun x y M R => ∃ kvs k d, dicOf M x = some kvs ∧ keyD y = some k ∧ valD kvs k = some d ∧ R d M
theorem dget_rel {K : PySem.W.Frag} {G H : Hp} {al : List Addr} {M : Mem} {x y : D} {v u : V} {kvs : List (Key × D)} {k : Key} (w : World K G al H M) (rx : RelD K G al x v) (ry : RelD K G al y u) (h1 : dicOf M x = some kvs) (h2 : keyD y = some k) :
    ∃ a o, v = .ref a ∧ DGet H a u o ∧ ((valD kvs k = none ∧ o = none) ∨ ∃ d z, valD kvs k = some d ∧ o = some z ∧ RelD K G al d z) := by
  obtain ⟨a, vs, rfl, hq, rv⟩ := w.dic rx h1
  have e := keyD_rel ry h2
  subst e
  refine ⟨a, valV vs k, rfl, DGet.k hq, ?_⟩
  rcases valD_rel (k := k) rv with ⟨z1, z2⟩ | ⟨d, z, z1, z2, z3⟩
  · exact .inl ⟨z1, z2⟩
  · exact .inr ⟨d, z, z1, z2, z3⟩
theorem oDGet_ok {K : PySem.W.Frag} : OpOk K (fun x y H Q => ∃ a v, x = .ref a ∧ DGet H a y (some v) ∧ Q v H) oDGet := fun al G H M x y v u R Q w rx ry h hR => by
  obtain ⟨kvs, k, d, h1, h2, h3, h4⟩ := h
  obtain ⟨a, o, rfl, g, hh⟩ := dget_rel w rx ry h1 h2
  rcases hh with ⟨z1, _⟩ | ⟨d', z, z1, rfl, z3⟩
  · rw [h3] at z1; cases z1
  · rw [h3] at z1; cases z1
    exact ⟨a, z, rfl, g, hR.now h4 w z3⟩
theorem pd_dget (hu : X.A.units + 1 < cLine) (ha : PEd X W a ta) (hb : PEd X W b tb) (hs : NoSl b := by exact fun _ _ => rfl) : PEd X W (.Subscript a b pos) (eOp oDGet ta tb) := PE.imp (pe_dget hu ha hb hs) (lift_op oDGet_ok)
/-- k in d, k not in d -/
def oDIn (neg : Bool) : O2 := fun y x M R => ∃ kvs k, dicOf M x = some kvs ∧ keyD y = some k ∧ R (.bl (if neg then !(valD kvs k).isSome else (valD kvs k).isSome)) M
theorem oDIn_ok {K : PySem.W.Frag} : OpOk K (fun y x H Q => ∃ a o, x = .ref a ∧ DGet H a y o ∧ Q (.bl o.isSome) H) (oDIn false) := fun al G H M y x u v R Q w ry rx h hR => by
  obtain ⟨kvs, k, h1, h2, h4⟩ := h
  obtain ⟨a, o, rfl, g, hh⟩ := dget_rel w rx ry h1 h2
  refine ⟨a, o, rfl, g, ?_⟩
  rcases hh with ⟨z1, rfl⟩ | ⟨d', z, z1, rfl, z3⟩ <;> rw [z1] at h4 <;> exact hR.now h4 w (.bl _)
theorem oDNotIn_ok {K : PySem.W.Frag} : OpOk K (fun y x H Q => ∃ a o, x = .ref a ∧ DGet H a y o ∧ Q (.bl (!o.isSome)) H) (oDIn true) := fun al G H M y x u v R Q w ry rx h hR => by
  obtain ⟨kvs, k, h1, h2, h4⟩ := h
  obtain ⟨a, o, rfl, g, hh⟩ := dget_rel w rx ry h1 h2
  refine ⟨a, o, rfl, g, ?_⟩
  rcases hh with ⟨z1, rfl⟩ | ⟨d', z, z1, rfl, z3⟩ <;> rw [z1] at h4 <;> exact hR.now h4 w (.bl _)
theorem pd_din (hu : X.A.units + 1 < cLine) (ha : PEd X W a ta) (hb : PEd X W b tb) (hm : behindInMarks .In b = false := by rfl) : PEd X W (.Compare a [.In] [b] pos) (eOp (oDIn false) ta tb) := PE.imp (pe_cmp (pc_din hu ha hb) hm) (lift_op oDIn_ok)
theorem pd_dnotin (hu : X.A.units + 1 < cLine) (ha : PEd X W a ta) (hb : PEd X W b tb) (hm : behindInMarks .NotIn b = false := by rfl) : PEd X W (.Compare a [.NotIn] [b] pos) (eOp (oDIn true) ta tb) := PE.imp (pe_cmp (pc_dnotin hu ha hb) hm) (lift_op oDNotIn_ok)
theorem pdt_din (hu : X.A.units + 1 < cLine) (ha : PEd X W a ta) (hb : PEd X W b tb) (hm : behindInMarks .In b = false := by rfl) : PTd X W (.Compare a [.In] [b] pos) (eB (eOp (oDIn false) ta tb)) := PT.imp (pt_cmp (pc_din hu ha hb) hm) (lift_bop oDIn_ok)
theorem pdt_dnotin (hu : X.A.units + 1 < cLine) (ha : PEd X W a ta) (hb : PEd X W b tb) (hm : behindInMarks .NotIn b = false := by rfl) : PTd X W (.Compare a [.NotIn] [b] pos) (eB (eOp (oDIn true) ta tb)) := PT.imp (pt_cmp (pc_dnotin hu ha hb) hm) (lift_bop oDNotIn_ok)

/-! ### slices -/
abbrev TOd := Lo → Mem → (Option Int → Mem → Prop) → SD → Prop
def ToO (K : PySem.W.Frag) (al : List Addr) (G H : Hp) (R : Option Int → Mem → Prop) (Q : Option Int → Hp → Prop) : Prop :=
  ∀ d M', R d M' → ∀ al' G' H', Ext al al' G G' H H' → World K G' al' H' M' → Q d H'
def liftO (K : PySem.W.Frag) (W : WX) (t : TOd) : TO := fun σ H Q => ∃ al G M de R S, At K al G H M de σ ∧ t de M R S ∧ ToO K al G H R Q ∧ ToX K al G H S (fun c d H' => W c d σ H')
def noPart : TOd := fun _ M R _ => R none M
def somePart (ta : TEd) : TOd := fun de M R S => ta de M (fun x M1 => match x with | .int i => R (some i) M1 | _ => False) S
abbrev POd (X : Cx) (W : WX) (e : Option Expr) (t : TOd) : Prop := PO X e (liftO X.K W t)
theorem PO.imp {e : Option Expr} {t u : TO} (h : PO X e t) (i : ∀ σ H Q, u σ H Q → t σ H Q) : PO X e u := ⟨fun pins s σ H Q I q => h.run pins s σ H Q I (i σ H Q q)⟩
theorem pdo_none : POd X W none noPart := PO.imp po_none fun σ H Q ⟨al, G, M, de, R, S, at_, ht, hR, hS⟩ => hR _ _ ht al G H (Ext.refl _ _ _) at_.w
theorem pdo_some (h : PEd X W e ta) : POd X W (some e) (somePart ta) := PO.imp (po_some h) fun σ H Q ⟨al, G, M, de, R, S, at_, ht, hR, hS⟩ => liftE.mk at_ ht (fun x M1 h1 al1 G1 H1 v e1 w1 r1 => by
  cases x <;> try exact h1.elim
  cases r1
  exact ⟨_, rfl, hR _ _ h1 al1 G1 H1 e1 w1⟩) hS
def cutD (xs : List D) (lo hi : Option Int) : List D := (xs.drop (HT.sIx xs.length 0 lo)).take (HT.sIx xs.length xs.length hi - HT.sIx xs.length 0 lo)
theorem cut_rel {K : PySem.W.Frag} {G : Hp} {al : List Addr} {ds : List D} {vs : List V} (lo hi : Option Int) (r : RelDs K G al ds vs) : RelDs K G al (cutD ds lo hi) (cutV vs lo hi) := by
  unfold cutD cutV
  rw [r.length]
  exact (r.drop _).take _
abbrev OSl := D → Option Int → Option Int → Mem → KD → Prop
def eSl (o : OSl) (ta : TEd) (tl th : TOd) : TEd := fun de M R S => ta de M (fun x M1 => tl de M1 (fun l M2 => th de M2 (fun u M3 => o x l u M3 R) S) S) S
def SlOk (K : PySem.W.Frag) (r : V → Option Int → Option Int → Hp → VK → Prop) (o : OSl) : Prop := ∀ al G H M x l u v R Q, World K G al H M → RelD K G al x v → o x l u M R → ToE K al G H R Q → r v l u H Q
theorem pd_slice {lo hi : Option Expr} {r : V → Option Int → Option Int → Hp → VK → Prop} {o : OSl} {tl th : TOd} (hr : SlR X r) (h : SlOk X.K r o) (he : PEd X W e ta) (hl : POd X W lo tl) (hu : POd X W hi th) : PEd X W (.Subscript e (.Slice lo hi none p2) pos) (eSl o ta tl th) :=
  PE.imp (pe_slice hr he hl hu) fun σ H Q ⟨al, G, M, de, R, S, at_, ht, hR, hS⟩ => liftE.mk at_ ht (fun x M1 h1 al1 G1 H1 v e1 w1 r1 => ⟨al1, G1, M1, de, _, S, at_.ext e1 w1, h1, fun l M2 h2 al2 G2 H2 e2 w2 =>
    ⟨al2, G2, M2, de, _, S, at_.ext (e1.trans e2) w2, h2, fun u M3 h3 al3 G3 H3 e3 w3 => h al3 G3 H3 M3 x l u v R Q w3 (r1.ext (e2.trans e3)) h3 (hR.ext ((e1.trans e2).trans e3)), hS.ext (e1.trans e2)⟩, hS.ext e1⟩) hS
/-- xs[lo:hi] -/
def oSlL (m : Bool) : OSl := fun x l u M R => ∃ xs, lstOf M x = some xs ∧ newL m (cutD xs l u) M R
theorem oSlL_ok {K : PySem.W.Frag} {m : Bool} : SlOk K (rSlL K) (oSlL m) := fun al G H M x l u v R Q w rx h hR => by
  obtain ⟨xs, h1, h2⟩ := h
  obtain ⟨a, vs, rfl, hq, rv⟩ := w.lst rx h1
  exact ⟨a, vs, rfl, hq, newL_to w (cut_rel l u rv) h2 hR⟩
theorem pd_slL (m : Bool) {lo hi : Option Expr} {tl th : TOd} (he : PEd X W e ta) (hl : POd X W lo tl) (hu : POd X W hi th) : PEd X W (.Subscript e (.Slice lo hi none p2) pos) (eSl (oSlL m) ta tl th) := pd_slice sl_list oSlL_ok he hl hu
/-- t[lo:hi], not the whole -/
def oSlT : OSl := fun x l u M R => ∃ xs, x = .tup xs ∧ ¬ (HT.sIx xs.length 0 l = 0 ∧ HT.sIx xs.length xs.length u = xs.length) ∧ R (.tup (cutD xs l u)) M
theorem oSlT_ok {K : PySem.W.Frag} : SlOk K (rSlT K) oSlT := fun al G H M x l u v R Q w rx h hR => by
  obtain ⟨xs, rfl, hn, h2⟩ := h
  cases rx
  rename_i a vs hq rv
  exact ⟨a, vs, rfl, SqT_same w.sub hq, by rw [← rv.length]; exact hn, newT_to w (cut_rel l u rv) h2 hR⟩
theorem pd_slT {lo hi : Option Expr} {tl th : TOd} (he : PEd X W e ta) (hl : POd X W lo tl) (hu : POd X W hi th) : PEd X W (.Subscript e (.Slice lo hi none p2) pos) (eSl oSlT ta tl th) := pd_slice sl_tup oSlT_ok he hl hu

/-! ### + and * of lists, + of tuples, of texts -/
/-- xs + ys -/
def oCat (m : Bool) : O2 := fun x y M R => ∃ xs ys, ownOf M x = some xs ∧ ownOf M y = some ys ∧ xs.length + ys.length ≤ sizeLine ∧ newL m (xs ++ ys) M R
theorem oCat_ok {K : PySem.W.Frag} {m : Bool} : OpOk K rCat (oCat m) := fun al G H M x y v u R Q w rx ry h hR => by
  obtain ⟨xs, ys, h1, h2, h3, h4⟩ := h
  obtain ⟨a, vs, rfl, hq, rv⟩ := w.own rx h1
  obtain ⟨b, us, rfl, hq2, rv2⟩ := w.own ry h2
  exact ⟨a, b, vs, us, rfl, rfl, hq, hq2, by rw [← rv.length, ← rv2.length]; exact h3, newL_to w (rv.append rv2) h4 hR⟩
theorem pd_cat (m : Bool) (ha : PEd X W a ta) (hb : PEd X W b tb) : PEd X W (.BinOp a .Add b pos) (eOp (oCat m) ta tb) := pd_op op_cat oCat_ok ha hb
/-- xs * k -/
def oRep (m : Bool) : O2 := fun x y M R => ∃ xs k, ownOf M x = some xs ∧ y = .int k ∧ -(2 ^ 63) ≤ k ∧ k < 2 ^ 63 ∧ xs.length * k.toNat ≤ sizeLine ∧ newL m (List.replicate k.toNat xs).flatten M R
theorem oRep_ok {K : PySem.W.Frag} {m : Bool} : OpOk K rRep (oRep m) := fun al G H M x y v u R Q w rx ry h hR => by
  obtain ⟨xs, k, h1, rfl, h2, h3, h4, h5⟩ := h
  obtain ⟨a, vs, rfl, hq, rv⟩ := w.own rx h1
  cases ry
  exact ⟨a, k, vs, rfl, rfl, hq, h2, h3, by rw [← rv.length]; exact h4, newL_to w (rv.flatten_rep _) h5 hR⟩
theorem pd_rep (m : Bool) (ha : PEd X W a ta) (hb : PEd X W b tb) : PEd X W (.BinOp a .Mult b pos) (eOp (oRep m) ta tb) := pd_op op_rep oRep_ok ha hb
/-- t + u -/
def oCatT : O2 := fun x y M R => ∃ xs ys, x = .tup xs ∧ y = .tup ys ∧ xs ≠ [] ∧ xs.length + ys.length ≤ sizeLine ∧ R (.tup (xs ++ ys)) M
theorem RelDs.nil_iff {K : PySem.W.Frag} {G : Hp} {al : List Addr} {ds : List D} {vs : List V} (r : RelDs K G al ds vs) : vs = [] ↔ ds = [] := by
  cases r <;> simp
theorem oCatT_ok {K : PySem.W.Frag} : OpOk K (rCatT K) oCatT := fun al G H M x y v u R Q w rx ry h hR => by
  obtain ⟨xs, ys, rfl, rfl, h3, h4, h5⟩ := h
  cases rx
  cases ry
  rename_i a vs hq rv b us hq2 rv2
  refine ⟨a, b, vs, us, rfl, rfl, SqT_same w.sub hq, SqT_same w.sub hq2, fun z => h3 (rv.nil_iff.mp z), by rw [← rv.length, ← rv2.length]; exact h4, fun z => ?_, fun _ => newT_to w (rv.append rv2) h5 hR⟩
  have z2 := rv2.nil_iff.mp z
  subst z2
  rw [List.append_nil] at h5
  exact hR.now h5 w (.tup hq rv)
theorem pd_catT (ha : PEd X W a ta) (hb : PEd X W b tb) : PEd X W (.BinOp a .Add b pos) (eOp oCatT ta tb) := pd_op op_catT oCatT_ok ha hb
/-- texts -/
def oCatS : O2 := fun x y M R => match x, y with
  | .str i, .str j => i.length + j.length ≤ sizeLine ∧ R (.str (i ++ j)) M
  | _, _ => False
theorem oCatS_ok {K : PySem.W.Frag} : OpOk K (fun x y H Q => ∃ i j, x = .str i ∧ y = .str j ∧ i.length + j.length ≤ sizeLine ∧ Q (.str (i ++ j)) H) oCatS := fun al G H M x y v u R Q w rx ry h hR => by
  cases x <;> try exact h.elim
  cases y <;> try exact h.elim
  cases rx; cases ry
  exact ⟨_, _, rfl, rfl, h.1, hR.now h.2 w (.str _)⟩
theorem pd_catS (ha : PEd X W a ta) (hb : PEd X W b tb) : PEd X W (.BinOp a .Add b pos) (eOp oCatS ta tb) := pd_op op_add_str oCatS_ok ha hb

/-! ### built-ins by values -/
abbrev OA := List D → Mem → KD → Prop
def eCB (o : OA) (t : TAd) : TEd := fun de M R S => t de M (fun xs M1 => o xs M1 R) S
def CallOk (K : PySem.W.Frag) (r : List V → Hp → VK → Prop) (o : OA) : Prop := ∀ al G H M xs vs R Q, World K G al H M → RelDs K G al xs vs → o xs M R → ToE K al G H R Q → r vs H Q
theorem lift_cb {r : List V → Hp → VK → Prop} {o : OA} (h : CallOk X.K r o) : ∀ σ H Q, liftE X.K W (eCB o t) σ H Q → tCB r (liftA X.K W t) σ H Q := fun σ H Q ⟨al, G, M, de, R, S, at_, ht, hR, hS⟩ =>
  liftA.mk at_ ht (fun xs M1 h1 al1 G1 H1 vs e1 w1 r1 => h al1 G1 H1 M1 xs vs R Q w1 r1 h1 (hR.ext e1)) hS
theorem pd_callB {x : Str} {id : String} {r : List V → Hp → VK → Prop} {o : OA} (hc : CallR X (.builtin id) r) (h : CallOk X.K r o) (hg : Gl X x) (hm : X.mg x = none) (hv : bootBuiltins x = some (.builtin id)) (ha : PAd X W (e :: es) t)
    (hn : x ≠ "__name__" := by decide) (hd : (x == ("__debug__" : Str)) = false := by decide) (hs : starEach (e :: es) X.env = (false, eval e X.env) :: starEach es X.env := by rfl) (hpl : (backTo pos (starEach es X.env)).any (·.1) = false := by rfl) :
    PEd X W (.Call (.Name x p) (e :: es) [] pos) (eCB o t) := PE.imp (pe_callB hc hg hm hv ha hn hd hs hpl) (lift_cb h)
theorem pd_callTy {x : Str} {T : String} {r : List V → Hp → VK → Prop} {o : OA} (hc : CallR X (.type T) r) (h : CallOk X.K r o) (hg : Gl X x) (hm : X.mg x = none) (hv : bootBuiltins x = some (.type T)) (ha : PAd X W (e :: es) t)
    (hn : x ≠ "__name__" := by decide) (hd : (x == ("__debug__" : Str)) = false := by decide) (hs : starEach (e :: es) X.env = (false, eval e X.env) :: starEach es X.env := by rfl) (hpl : (backTo pos (starEach es X.env)).any (·.1) = false := by rfl) :
    PEd X W (.Call (.Name x p) (e :: es) [] pos) (eCB o t) := PE.imp (pe_callTy hc hg hm hv ha hn hd hs hpl) (lift_cb h)
end
end Dx
/-! Dx4: built-ins and methods; fields; calls of defs, methods, classes. -/
namespace Dx
open PySem PySem.Spec L2
section
variable {X : Cx} {W : WX} {e a b c o : Expr} {es : List Expr} {pos p apos cpos p2 : Pos} {ta tb tc : TEd} {t : TAd}

/-! ### len, int, str, max, min, list, tuple -/
def oLen : OA := fun xs M R => ∃ x ys, xs = [x] ∧ seqOf M x = some ys ∧ R (.int ys.length) M
theorem rel1 {K : PySem.W.Frag} {G : Hp} {al : List Addr} {x : D} {vs : List V} (r : RelDs K G al [x] vs) : ∃ v, vs = [v] ∧ RelD K G al x v := by
  cases r with
  | cons h t => cases t; exact ⟨_, rfl, h⟩
theorem rel2 {K : PySem.W.Frag} {G : Hp} {al : List Addr} {x y : D} {vs : List V} (r : RelDs K G al [x, y] vs) : ∃ v u, vs = [v, u] ∧ RelD K G al x v ∧ RelD K G al y u := by
  cases r with
  | cons h t => obtain ⟨u, rfl, h2⟩ := rel1 t; exact ⟨_, u, rfl, h, h2⟩
theorem oLen_ok {K : PySem.W.Frag} : CallOk K (fun xs H Q => ∃ p ys, xs = [.ref p] ∧ (SqL K H p ys ∨ SqT K H p ys) ∧ Q (.int ys.length) H) oLen := fun al G H M xs vs R Q w r h hR => by
  obtain ⟨x, ys, rfl, h1, h2⟩ := h
  obtain ⟨v, rfl, rx⟩ := rel1 r
  obtain ⟨a, us, rfl, hq, rv⟩ := w.seq rx h1
  exact ⟨a, us, rfl, hq, by rw [← rv.length]; exact hR.now h2 w (.int _)⟩
theorem pd_len (hg : Gl X "len") (hm : X.mg "len" = none) (ha : PAd X W [e] t) (hs : starEach [e] X.env = (false, eval e X.env) :: starEach [] X.env := by rfl) : PEd X W (.Call (.Name "len" p) [e] [] pos) (eCB oLen t) := pd_callB call_len_seq oLen_ok hg hm boot_len ha (hs := hs)
def oLenD : OA := fun xs M R => ∃ x ys, xs = [x] ∧ dicOf M x = some ys ∧ R (.int ys.length) M
theorem oLenD_ok {K : PySem.W.Frag} : CallOk K (fun xs H Q => ∃ a kvs, xs = [V.ref a] ∧ H a = some (.dK kvs) ∧ Q (.int kvs.length) H) oLenD := fun al G H M xs vs R Q w r h hR => by
  obtain ⟨x, ys, rfl, h1, h2⟩ := h
  obtain ⟨v, rfl, rx⟩ := rel1 r
  obtain ⟨a, us, rfl, hq, rv⟩ := w.dic rx h1
  exact ⟨a, us, rfl, hq, by rw [← rv.length]; exact hR.now h2 w (.int _)⟩
theorem pd_lenD (hg : Gl X "len") (hm : X.mg "len" = none) (ha : PAd X W [e] t) (hs : starEach [e] X.env = (false, eval e X.env) :: starEach [] X.env := by rfl) : PEd X W (.Call (.Name "len" p) [e] [] pos) (eCB oLenD t) := pd_callB call_lenD oLenD_ok hg hm boot_len ha (hs := hs)
def oLenS : OA := fun xs M R => ∃ z, xs = [.str z] ∧ z.length ≤ sizeLine ∧ R (.int z.length) M
theorem oLenS_ok {K : PySem.W.Frag} : CallOk K (fun xs H Q => ∃ z, xs = [.str z] ∧ z.length ≤ sizeLine ∧ Q (.int z.length) H) oLenS := fun al G H M xs vs R Q w r h hR => by
  obtain ⟨z, rfl, h1, h2⟩ := h
  obtain ⟨v, rfl, rx⟩ := rel1 r
  cases rx
  exact ⟨z, rfl, h1, hR.now h2 w (.int _)⟩
theorem pd_lenS (hg : Gl X "len") (hm : X.mg "len" = none) (ha : PAd X W [e] t) (hs : starEach [e] X.env = (false, eval e X.env) :: starEach [] X.env := by rfl) : PEd X W (.Call (.Name "len" p) [e] [] pos) (eCB oLenS t) := pd_callB call_len_str oLenS_ok hg hm boot_len ha (hs := hs)
/-- int(n), int(flag) -/
def oInt : OA := fun xs M R => match xs with
  | [.int i] => R (.int i) M
  | [.bl k] => R (.int (if k then 1 else 0)) M
  | _ => False
theorem oInt_ok {K : PySem.W.Frag} : CallOk K (fun xs H Q => (∃ i, xs = [.int i] ∧ Q (.int i) H) ∨ ∃ k, xs = [.bl k] ∧ Q (.int (if k then 1 else 0)) H) oInt := fun al G H M xs vs R Q w r h hR => by
  unfold oInt at h
  split at h
  · obtain ⟨v, rfl, rx⟩ := rel1 r
    cases rx
    exact .inl ⟨_, rfl, hR.now h w (.int _)⟩
  · obtain ⟨v, rfl, rx⟩ := rel1 r
    cases rx
    exact .inr ⟨_, rfl, hR.now h w (.int _)⟩
  · exact h.elim
theorem pd_int1 (hg : Gl X "int") (hm : X.mg "int" = none) (ha : PAd X W [e] t) (hs : starEach [e] X.env = (false, eval e X.env) :: starEach [] X.env := by rfl) : PEd X W (.Call (.Name "int" p) [e] [] pos) (eCB oInt t) := pd_callTy call_int1 oInt_ok hg hm (by decide +kernel) ha (hs := hs)
/-- int(text) -/
def oIntS : OA := fun xs M R => ∃ z n, xs = [.str z] ∧ PySem.intText? z = some n ∧ z.length ≤ 640 ∧ R (.int n) M
theorem oIntS_ok {K : PySem.W.Frag} : CallOk K (fun xs H Q => ∃ a n, xs = [.str a] ∧ PySem.intText? a = some n ∧ a.length ≤ 640 ∧ Q (.int n) H) oIntS := fun al G H M xs vs R Q w r h hR => by
  obtain ⟨z, n, rfl, h1, h2, h3⟩ := h
  obtain ⟨v, rfl, rx⟩ := rel1 r
  cases rx
  exact ⟨z, n, rfl, h1, h2, hR.now h3 w (.int _)⟩
theorem pd_intS (hg : Gl X "int") (hm : X.mg "int" = none) (ha : PAd X W [e] t) (hs : starEach [e] X.env = (false, eval e X.env) :: starEach [] X.env := by rfl) : PEd X W (.Call (.Name "int" p) [e] [] pos) (eCB oIntS t) := pd_callTy call_int_str oIntS_ok hg hm (by decide +kernel) ha (hs := hs)
def oStr : OA := fun xs M R => ∃ i : Int, xs = [.int i] ∧ i.natAbs.log2 < 1920 ∧ R (.str (toString i)) M
theorem oStr_ok {K : PySem.W.Frag} : CallOk K (fun xs H Q => ∃ i, xs = [.int i] ∧ i.natAbs.log2 < 1920 ∧ Q (.str (toString i)) H) oStr := fun al G H M xs vs R Q w r h hR => by
  obtain ⟨i, rfl, h1, h2⟩ := h
  obtain ⟨v, rfl, rx⟩ := rel1 r
  cases rx
  exact ⟨i, rfl, h1, hR.now h2 w (.str _)⟩
theorem pd_strI (hg : Gl X "str") (hm : X.mg "str" = none) (ha : PAd X W [e] t) (hs : starEach [e] X.env = (false, eval e X.env) :: starEach [] X.env := by rfl) : PEd X W (.Call (.Name "str" p) [e] [] pos) (eCB oStr t) := pd_callTy call_str_int oStr_ok hg hm (by decide +kernel) ha (hs := hs)
def oMax2 : OA := fun xs M R => match xs with
  | [.int i, .int j] => R (.int (if j > i then j else i)) M
  | _ => False
def oMin2 : OA := fun xs M R => match xs with
  | [.int i, .int j] => R (.int (if j < i then j else i)) M
  | _ => False
theorem oMax2_ok {K : PySem.W.Frag} : CallOk K (fun xs H Q => ∃ i j, xs = [.int i, .int j] ∧ Q (.int (if j > i then j else i)) H) oMax2 := fun al G H M xs vs R Q w r h hR => by
  unfold oMax2 at h
  split at h
  · obtain ⟨v, u, rfl, rx, ry⟩ := rel2 r
    cases rx; cases ry
    exact ⟨_, _, rfl, hR.now h w (.int _)⟩
  · exact h.elim
theorem oMin2_ok {K : PySem.W.Frag} : CallOk K (fun xs H Q => ∃ i j, xs = [.int i, .int j] ∧ Q (.int (if j < i then j else i)) H) oMin2 := fun al G H M xs vs R Q w r h hR => by
  unfold oMin2 at h
  split at h
  · obtain ⟨v, u, rfl, rx, ry⟩ := rel2 r
    cases rx; cases ry
    exact ⟨_, _, rfl, hR.now h w (.int _)⟩
  · exact h.elim
theorem pd_max2 (hc : X.calm = true) (hg : Gl X "max") (hm : X.mg "max" = none) (ha : PAd X W [a, b] t) (hs : starEach [a, b] X.env = (false, eval a X.env) :: starEach [b] X.env := by rfl) (hpl : (backTo pos (starEach [b] X.env)).any (·.1) = false := by rfl) :
    PEd X W (.Call (.Name "max" p) [a, b] [] pos) (eCB oMax2 t) := pd_callB (call_max2 hc) oMax2_ok hg hm (by decide +kernel) ha (hs := hs) (hpl := hpl)
theorem pd_min2 (hc : X.calm = true) (hg : Gl X "min") (hm : X.mg "min" = none) (ha : PAd X W [a, b] t) (hs : starEach [a, b] X.env = (false, eval a X.env) :: starEach [b] X.env := by rfl) (hpl : (backTo pos (starEach [b] X.env)).any (·.1) = false := by rfl) :
    PEd X W (.Call (.Name "min" p) [a, b] [] pos) (eCB oMin2 t) := pd_callB (call_min2 hc) oMin2_ok hg hm (by decide +kernel) ha (hs := hs) (hpl := hpl)
/-- min(a list of ints) -/
def oMinL : OA := fun xs M R => ∃ (x : D) (ns : List Int), xs = [x] ∧ lstOf M x = some (ns.map D.int) ∧ 0 < ns.length ∧ ∀ m, m ∈ ns → (∀ y, y ∈ ns → m ≤ y) → R (.int m) M
theorem oMinL_ok {K : PySem.W.Frag} : CallOk K (rMin K) oMinL := fun al G H M xs vs R Q w r h hR => by
  obtain ⟨x, ns, rfl, h1, h2, h3⟩ := h
  obtain ⟨v, rfl, rx⟩ := rel1 r
  obtain ⟨a, us, rfl, hq, rv⟩ := w.lst rx h1
  have e := rv.map_int
  subst e
  exact ⟨a, ns, rfl, hq, h2, fun m h4 h5 => hR.now (h3 m h4 h5) w (.int _)⟩
theorem pd_minL (hc : X.calm = true) (hg : Gl X "min") (hm : X.mg "min" = none) (ha : PAd X W [e] t) (hs : starEach [e] X.env = (false, eval e X.env) :: starEach [] X.env := by rfl) : PEd X W (.Call (.Name "min" p) [e] [] pos) (eCB oMinL t) := pd_callB (cr_min hc) oMinL_ok hg hm (by decide +kernel) ha (hs := hs)
/-- list(xs) -/
def oList (m : Bool) : OA := fun xs M R => ∃ x ys, xs = [x] ∧ seqOf M x = some ys ∧ newL m ys M R
theorem oList_ok {K : PySem.W.Frag} {m : Bool} : CallOk K (fun xs H Q => ∃ p ys, xs = [.ref p] ∧ (SqL K H p ys ∨ SqT K H p ys) ∧ ∀ l, H l = none → Q (.ref l) (upd H l (.lst ys))) (oList m) := fun al G H M xs vs R Q w r h hR => by
  obtain ⟨x, ys, rfl, h1, h2⟩ := h
  obtain ⟨v, rfl, rx⟩ := rel1 r
  obtain ⟨a, us, rfl, hq, rv⟩ := w.seq rx h1
  exact ⟨a, us, rfl, hq, newL_to w rv h2 hR⟩
theorem pd_list (m : Bool) (hg : Gl X "list") (hm : X.mg "list" = none) (ha : PAd X W [e] t) (hs : starEach [e] X.env = (false, eval e X.env) :: starEach [] X.env := by rfl) : PEd X W (.Call (.Name "list" p) [e] [] pos) (eCB (oList m) t) := pd_callTy call_list_of oList_ok hg hm (by decide +kernel) ha (hs := hs)
/-- list(d) -/
def kD : Key → D
  | .inl i => .int i
  | .inr s => .str s
theorem kD_rel {K : PySem.W.Frag} {G : Hp} {al : List Addr} : ∀ k : Key, RelD K G al (kD k) (kV k)
  | .inl i => .int i
  | .inr s => .str s
theorem keysD_rel {K : PySem.W.Frag} {G : Hp} {al : List Addr} : ∀ {ds : List (Key × D)} {vs : List (Key × V)}, RelKs K G al ds vs → RelDs K G al (ds.map fun kv => kD kv.1) (vs.map fun kv => kV kv.1)
  | _, _, .nil => .nil
  | _, _, .cons _ t => .cons (kD_rel _) (keysD_rel t)
def oListD (m : Bool) : OA := fun xs M R => ∃ x kvs, xs = [x] ∧ dicOf M x = some kvs ∧ newL m (kvs.map fun kv => kD kv.1) M R
theorem oListD_ok {K : PySem.W.Frag} {m : Bool} : CallOk K (fun xs H Q => ∃ (a : Addr) (kvs : List (Key × V)), xs = [.ref a] ∧ Rd H a (.dK kvs) ∧ ∀ p, H p = none → Q (.ref p) (upd H p (.lst (kvs.map fun kv => kV kv.1)))) (oListD m) := fun al G H M xs vs R Q w r h hR => by
  obtain ⟨x, ys, rfl, h1, h2⟩ := h
  obtain ⟨v, rfl, rx⟩ := rel1 r
  obtain ⟨a, us, rfl, hq, rv⟩ := w.dic rx h1
  exact ⟨a, us, rfl, .inl hq, newL_to w (keysD_rel rv) h2 hR⟩
theorem pd_listD (m : Bool) (hc : X.calm = true) (hg : Gl X "list") (hm : X.mg "list" = none) (ha : PAd X W [e] t) (hs : starEach [e] X.env = (false, eval e X.env) :: starEach [] X.env := by rfl) : PEd X W (.Call (.Name "list" p) [e] [] pos) (eCB (oListD m) t) := pd_callTy (call_listD hc) oListD_ok hg hm (by decide +kernel) ha (hs := hs)
/-- a new dict -/
theorem newD_to {K : PySem.W.Frag} {al : List Addr} {G H : Hp} {M : Mem} {xs : List (Key × D)} {vs : List (Key × V)} {R : KD} {Q : VK} (w : World K G al H M) (r : RelKs K G al xs vs) (h : R (.ref M.length) (M ++ [.dic xs])) (hR : ToE K al G H R Q) (p : Addr) (hp : H p = none) : Q (.ref p) (upd H p (.dK vs)) := by
  have pre : ∀ (n : Nat) (a : Addr), al[n]? = some a → (al ++ [p])[n]? = some a := fun n a h => by rw [List.getElem?_append_left (List.getElem?_eq_some_iff.mp h).1]; exact h
  obtain ⟨w1, e1⟩ := w.warm (o := .dK vs) (mo := .dic xs) hp ⟨w.sub.free hp, vs, upd_same, r.mono (Same.refl _) pre⟩
  refine hR _ _ h _ _ _ _ e1 w1 (.ref ?_)
  rw [← w.len, List.getElem?_append_right (Nat.le_refl _)]
  simp
/-- dict(d) -/
def oDictD : OA := fun xs M R => ∃ x kvs, xs = [x] ∧ dicOf M x = some kvs ∧ R (.ref M.length) (M ++ [.dic kvs])
theorem oDictD_ok {K : PySem.W.Frag} : CallOk K (fun xs H Q => ∃ (a : Addr) (kvs : List (Key × V)), xs = [.ref a] ∧ Rd H a (.dK kvs) ∧ ∀ p, H p = none → Q (.ref p) (upd H p (.dK kvs))) oDictD := fun al G H M xs vs R Q w r h hR => by
  obtain ⟨x, ys, rfl, h1, h2⟩ := h
  obtain ⟨v, rfl, rx⟩ := rel1 r
  obtain ⟨a, us, rfl, hq, rv⟩ := w.dic rx h1
  exact ⟨a, us, rfl, .inl hq, newD_to w rv h2 hR⟩
theorem pd_dictD (hg : Gl X "dict") (hm : X.mg "dict" = none) (ha : PAd X W [e] t) (hs : starEach [e] X.env = (false, eval e X.env) :: starEach [] X.env := by rfl) : PEd X W (.Call (.Name "dict" p) [e] [] pos) (eCB oDictD t) := pd_callTy call_dictD oDictD_ok hg hm (by decide +kernel) ha (hs := hs)
/-- a dict's place -/
def putKD (kvs : List (Key × D)) (k : Key) (v : D) : List (Key × D) :=
  if (kvs.any fun kv => decide (kv.1 = k)) = true then kvs.map (fun kv => if kv.1 = k then (kv.1, v) else kv) else kvs ++ [(k, v)]
theorem RelKs.any {K : PySem.W.Frag} {G : Hp} {al : List Addr} (k : Key) : ∀ {ds : List (Key × D)} {vs : List (Key × V)}, RelKs K G al ds vs → (ds.any fun kv => decide (kv.1 = k)) = (vs.any fun kv => decide (kv.1 = k))
  | _, _, .nil => rfl
  | _, _, .cons _ t => by simp [RelKs.any k t]
theorem RelKs.app {K : PySem.W.Frag} {G : Hp} {al : List Addr} : ∀ {ds es : List (Key × D)} {vs us : List (Key × V)}, RelKs K G al ds vs → RelKs K G al es us → RelKs K G al (ds ++ es) (vs ++ us)
  | _, _, _, _, .nil, s => s
  | _, _, _, _, .cons r t, s => .cons r (RelKs.app t s)
theorem RelKs.mapPut {K : PySem.W.Frag} {G : Hp} {al : List Addr} {k : Key} {d : D} {v : V} (q : RelD K G al d v) : ∀ {ds : List (Key × D)} {vs : List (Key × V)}, RelKs K G al ds vs → RelKs K G al (ds.map (fun kv => if kv.1 = k then (kv.1, d) else kv)) (vs.map (fun kv => if kv.1 = k then (kv.1, v) else kv))
  | _, _, .nil => .nil
  | (k', d') :: ds, (_, v') :: vs, .cons r t => by
    rw [List.map_cons, List.map_cons]
    by_cases e : k' = k
    · simp only [e, if_true]; exact .cons q (RelKs.mapPut q t)
    · simp only [e, if_false]; exact .cons r (RelKs.mapPut q t)
theorem RelKs.put {K : PySem.W.Frag} {G : Hp} {al : List Addr} {k : Key} {d : D} {v : V} (q : RelD K G al d v) {ds : List (Key × D)} {vs : List (Key × V)} (r : RelKs K G al ds vs) : RelKs K G al (putKD ds k d) (putK vs k v) := by
  unfold putKD putK
  rw [r.any k]
  split
  · exact r.mapPut q
  · exact r.app (.cons q .nil)
def mergeD (kvs more : List (Key × D)) : List (Key × D) := more.foldl (fun acc kv => putKD acc kv.1 kv.2) kvs
theorem RelKs.merge {K : PySem.W.Frag} {G : Hp} {al : List Addr} : ∀ {more : List (Key × D)} {rs : List (Key × V)} {kvs : List (Key × D)} {vs : List (Key × V)}, RelKs K G al more rs → RelKs K G al kvs vs → RelKs K G al (mergeD kvs more) (mergeK vs rs)
  | _, _, _, _, .nil, q => q
  | (k, d) :: ds, (_, v) :: vs', kvs, vs, .cons r t, q => by
    show RelKs K G al (mergeD (putKD kvs k d) ds) (mergeK (putK vs k v) vs')
    exact RelKs.merge t (q.put r)
/-- dict(a list of pairs) -/
def pairsOf : List D → Option (List (Key × D))
  | [] => some []
  | .tup [k, v] :: r => match keyD k, pairsOf r with
    | some k, some ps => some ((k, v) :: ps)
    | _, _ => none
  | _ => none
def oDictP : OA := fun xs M R => ∃ x ys ps, xs = [x] ∧ lstOf M x = some ys ∧ pairsOf ys = some ps ∧ R (.ref M.length) (M ++ [.dic (mergeD [] ps)])
theorem pairs_rel {K : PySem.W.Frag} {G : Hp} {al : List Addr} : ∀ {ys : List D} {us : List V} {ps : List (Key × D)}, RelDs K G al ys us → pairsOf ys = some ps → ∃ (as : List Addr) (kvs : List (Key × V)), us = as.map V.ref ∧ Paired (fun p kv => SqT K G p [kV kv.1, kv.2]) as kvs ∧ RelKs K G al ps kvs
  | [], _, ps, r, h => by
    cases r
    cases h
    exact ⟨[], [], rfl, .nil, .nil⟩
  | y :: ys, _, ps, r, h => by
    cases r with
    | cons h1 t =>
      unfold pairsOf at h
      split at h
      · rename_i q; cases q
      · rename_i k v r' heq
        injection heq with e1 e2
        subst e1 e2
        split at h
        · rename_i k' ps' hk hp
          cases h
          cases h1
          rename_i a vs hq rv
          obtain ⟨v1, v2, rfl, rk, rv2⟩ := rel2 rv
          obtain ⟨as, kvs, rfl, hP, hK⟩ := pairs_rel t hp
          refine ⟨a :: as, (k', v2) :: kvs, rfl, .cons ?_ hP, .cons rv2 hK⟩
          rw [← keyD_rel rk hk]
          exact hq
        · cases h
      · cases h
theorem oDictP_ok {K : PySem.W.Frag} : CallOk K (fun xs H Q => ∃ (a : Addr) (ps : List Addr) (kvs : List (Key × V)), xs = [.ref a] ∧ SqL K H a (ps.map V.ref) ∧ Paired (fun p kv => SqT K H p [kV kv.1, kv.2]) ps kvs ∧ ∀ p, H p = none → Q (.ref p) (upd H p (.dK (mergeK [] kvs)))) oDictP := fun al G H M xs vs R Q w r h hR => by
  obtain ⟨x, ys, ps, rfl, h1, h2, h3⟩ := h
  obtain ⟨v, rfl, rx⟩ := rel1 r
  obtain ⟨a, us, rfl, hq, rv⟩ := w.lst rx h1
  obtain ⟨as, kvs, rfl, hP, hK⟩ := pairs_rel rv h2
  exact ⟨a, as, kvs, rfl, hq, L2.Paired.mapP hP fun p kv z => SqT_same w.sub z, newD_to w (hK.merge .nil) h3 hR⟩
theorem pd_dictP (hc : X.calm = true) (hg : Gl X "dict") (hm : X.mg "dict" = none) (ha : PAd X W [e] t) (hs : starEach [e] X.env = (false, eval e X.env) :: starEach [] X.env := by rfl) : PEd X W (.Call (.Name "dict" p) [e] [] pos) (eCB oDictP t) := pd_callTy (call_dictP hc) oDictP_ok hg hm (by decide +kernel) ha (hs := hs)
/-- tuple(xs) -/
def oTuple : OA := fun xs M R => ∃ x ys, xs = [x] ∧ seqOf M x = some ys ∧ R (.tup ys) M
theorem oTuple_ok {K : PySem.W.Frag} : CallOk K (fun xs H Q => ∃ p ys, xs = [.ref p] ∧ ((SqL K H p ys ∧ ∀ l, H l = none → Q (.ref l) (upd H l (.tup ys))) ∨ (SqT K H p ys ∧ Q (.ref p) H))) oTuple := fun al G H M xs vs R Q w r h hR => by
  obtain ⟨x, ys, rfl, h1, h2⟩ := h
  obtain ⟨v, rfl, rx⟩ := rel1 r
  by_cases ht : ∃ zs, x = .tup zs
  · obtain ⟨zs, rfl⟩ := ht
    cases h1
    cases rx
    rename_i a us hq rv
    exact ⟨a, us, rfl, .inr ⟨SqT_same w.sub hq, hR.now h2 w (.tup hq rv)⟩⟩
  · have h3 : lstOf M x = some ys := by cases x <;> first | exact h1 | exact absurd ⟨_, rfl⟩ ht
    obtain ⟨a, us, rfl, hq, rv⟩ := w.lst rx h3
    exact ⟨a, us, rfl, .inl ⟨hq, newT_to w rv h2 hR⟩⟩
theorem pd_tuple (hg : Gl X "tuple") (hm : X.mg "tuple" = none) (ha : PAd X W [e] t) (hs : starEach [e] X.env = (false, eval e X.env) :: starEach [] X.env := by rfl) : PEd X W (.Call (.Name "tuple" p) [e] [] pos) (eCB oTuple t) := pd_callTy call_tuple_of oTuple_ok hg hm (by decide +kernel) ha (hs := hs)
/-- sorted(ints) -/
def oSortI (m : Bool) : OA := fun xs M R => ∃ (x : D) (ns : List Int), xs = [x] ∧ lstOf M x = some (ns.map D.int) ∧ ∀ ns' : List Int, ns'.Perm ns → ns'.Pairwise (· ≤ ·) → newL m (ns'.map D.int) M R
theorem oSortI_ok {K : PySem.W.Frag} {m : Bool} : CallOk K (rSortedI K) (oSortI m) := fun al G H M xs vs R Q w r h hR => by
  obtain ⟨x, ns, rfl, h1, h3⟩ := h
  obtain ⟨v, rfl, rx⟩ := rel1 r
  obtain ⟨a, us, rfl, hq, rv⟩ := w.lst rx h1
  have e := rv.map_int
  subst e
  exact ⟨a, ns, rfl, hq, fun ns' p h4 h5 hp => newL_to w (RelDs.of_ints ns') (h3 ns' h4 h5) hR p hp⟩
theorem pd_sortI (m : Bool) (hg : Gl X "sorted") (hm : X.mg "sorted" = none) (ha : PAd X W [e] t) (hs : starEach [e] X.env = (false, eval e X.env) :: starEach [] X.env := by rfl) : PEd X W (.Call (.Name "sorted" p) [e] [] pos) (eCB (oSortI m) t) := pd_callB cr_sortedI oSortI_ok hg hm (by decide +kernel) ha (hs := hs)

/-! ### isinstance of data -/
def tyOfD (M : Mem) : D → Option String
  | .non => some "NoneType"
  | .bl _ => some "bool"
  | .int _ => some "int"
  | .str _ => some "str"
  | .tup _ => some "tuple"
  | .lst _ => some "list"
  | .ref n => match M[n]? with
    | some (.lst _) => some "list"
    | some (.dic _) => some "dict"
    | _ => none
  | _ => none
def oIsi : OA := fun xs M R => ∃ x n ty k, xs = [x, .ty n] ∧ tyOfD M x = some ty ∧ kitB ty n = some k ∧ R (.bl k) M
theorem oIsi_ok {K : PySem.W.Frag} : CallOk K (rIsi K) oIsi := fun al G H M xs vs R Q w r h hR => by
  obtain ⟨x, n, ty, k, rfl, h1, h2, h3⟩ := h
  obtain ⟨v, u, rfl, rx, ry⟩ := rel2 r
  cases ry
  have key : TyX K H v (.type ty) := by
    cases rx <;> try cases h1
    case non => exact .base .non
    case bl b => exact .base (.bl b)
    case int i => exact .base (.int i)
    case str i => exact .base (.str i)
    case tup a us hq rv =>
      rcases SqT_same w.sub hq with (h | ⟨ob, h⟩) | ⟨o, its, n', h, hc, _⟩
      · exact .base (.tup h)
      · exact .fTuple h
      · exact .kTuple h hc
    case lst a us hq rv => exact .base (.lst (w.sub _ _ hq))
    case ref n' a e =>
      simp only [tyOfD] at h1
      cases q : M[n']? with
      | none => rw [q] at h1; cases h1
      | some mo =>
        rw [q] at h1
        cases mo <;> try cases h1
        · obtain ⟨_, us, h4, _⟩ := w.obj n' a _ e q; exact .base (.lst h4)
        · obtain ⟨_, us, h4, _⟩ := w.obj n' a _ e q; exact .base (.dK h4)
  exact ⟨v, .ty n, .type ty, .type n, k, rfl, .ty n, key, kit_ty h2, hR.now h3 w (.bl _)⟩
theorem pd_isi (hg : Gl X "isinstance") (hm : X.mg "isinstance" = none) (ha : PAd X W [a, b] t) (hs : starEach [a, b] X.env = (false, eval a X.env) :: starEach [b] X.env := by rfl) (hpl : (backTo pos (starEach [b] X.env)).any (·.1) = false := by rfl) :
    PEd X W (.Call (.Name "isinstance" p) [a, b] [] pos) (eCB oIsi t) := pd_callB call_isi oIsi_ok hg hm (by decide +kernel) ha (hs := hs) (hpl := hpl)

/-! ### methods of built-ins -/
abbrev OM := D → List D → Mem → KD → Prop
def tyD (T : String) (M : Mem) (x : D) : Prop := match x with
  | .str _ => T = "str"
  | x => (T = "list" ∧ (lstOf M x).isSome = true) ∨ (T = "dict" ∧ (dicOf M x).isSome = true)
def eBM (T : String) (o : OM) (to : TEd) (t : TAd) : TEd := fun de M R S => to de M (fun x M1 => tyD T M1 x ∧ t de M1 (fun xs M2 => o x xs M2 R) S) S
def eBM0 (T : String) (o : OM) (to : TEd) : TEd := fun de M R S => to de M (fun x M1 => tyD T M1 x ∧ o x [] M1 R) S
def MtOk (K : PySem.W.Frag) (r : V → List V → Hp → VK → Prop) (o : OM) : Prop := ∀ al G H M x xs v vs R Q, World K G al H M → RelD K G al x v → RelDs K G al xs vs → o x xs M R → ToE K al G H R Q → r v vs H Q
theorem tyD_ok {K : PySem.W.Frag} {G H : Hp} {al : List Addr} {M : Mem} {T : String} {x : D} {v : V} (w : World K G al H M) (r : RelD K G al x v) (h : tyD T M x) : tyV K T v H := by
  by_cases hs : ∃ z, x = .str z
  · obtain ⟨z, rfl⟩ := hs
    cases r
    exact h
  · have h' : (T = "list" ∧ (lstOf M x).isSome = true) ∨ (T = "dict" ∧ (dicOf M x).isSome = true) := by
      cases x <;> first | exact h | exact absurd ⟨_, rfl⟩ hs
    rcases h' with ⟨e, q⟩ | ⟨e, q⟩
    · obtain ⟨xs, q⟩ := Option.isSome_iff_exists.mp q
      obtain ⟨a, vs, rfl, hq, _⟩ := w.lst r q
      exact .inl ⟨e, vs, hq⟩
    · obtain ⟨xs, q⟩ := Option.isSome_iff_exists.mp q
      obtain ⟨a, vs, rfl, hq, _⟩ := w.dic r q
      exact .inr (.inr (.inl ⟨e, .inl ⟨vs, hq⟩⟩))
variable {name : Str} {T id : String} {r : V → List V → Hp → VK → Prop} {om : OM} {to : TEd}
theorem pd_bm (pa : PySem.PlainAttrs T) (slot : PySem.Slot T name id) (hty : typeOf (.builtin id) = pure (.type "method_descriptor")) (hm : MtR X id r) (h : MtOk X.K r om) (ho : PEd X W o to) (ha : PAd X W (e :: es) t)
    (hbase : attributeBase o name X.env (eval o X.env) = eval o X.env := by rfl)
    (hfew : ((backTo cpos (starEach (e :: es) X.env)).all (fun x => !x.1) && (backToKw cpos (keywordEach [] X.env)).all (fun x => x.1.isSome)
      && decide ((e :: es).length + ([] : List Keyword).length + (if ([] : List Keyword).isEmpty then 0 else 1) < 30)) = true := by rfl)
    (hline : (apos.endLine == cpos.line) = true := by rfl) (hs : starEach (e :: es) X.env = (false, eval e X.env) :: starEach es X.env := by rfl) (hplain : (backTo cpos (starEach es X.env)).any (·.1) = false := by rfl) :
    PEd X W (.Call (.Attribute o name apos) (e :: es) [] cpos) (eBM T om to t) := PE.imp (pe_bm pa slot hty hm ho ha hbase hfew hline hs hplain) fun σ H Q ⟨al, G, M, de, R, S, at_, ht, hR, hS⟩ =>
  liftE.mk at_ ht (fun x M1 h1 al1 G1 H1 v e1 w1 r1 => ⟨tyD_ok w1 r1 h1.1, liftA.mk (at_.ext e1 w1) h1.2 (fun xs M2 h2 al2 G2 H2 vs e2 w2 r2 => h al2 G2 H2 M2 x xs v vs R Q w2 (r1.ext e2) r2 h2 (hR.ext (e1.trans e2))) (hS.ext e1)⟩) hS
theorem pd_bm0 (pa : PySem.PlainAttrs T) (slot : PySem.Slot T name id) (hty : typeOf (.builtin id) = pure (.type "method_descriptor")) (hm : MtR X id r) (h : MtOk X.K r om) (ho : PEd X W o to)
    (hbase : attributeBase o name X.env (eval o X.env) = eval o X.env := by rfl) (hline : (apos.endLine == cpos.line) = true := by rfl) : PEd X W (.Call (.Attribute o name apos) [] [] cpos) (eBM0 T om to) := PE.imp (pe_bm0 pa slot hty hm ho hbase hline) fun σ H Q ⟨al, G, M, de, R, S, at_, ht, hR, hS⟩ =>
  liftE.mk at_ ht (fun x M1 h1 al1 G1 H1 v e1 w1 r1 => ⟨tyD_ok w1 r1 h1.1, h al1 G1 H1 M1 x [] v [] R Q w1 r1 .nil h1.2 (hR.ext e1)⟩) hS
/-- a list of the memory is changed -/
theorem setL_to {K : PySem.W.Frag} {al : List Addr} {G H : Hp} {M : Mem} {n : Nat} {a : Addr} {ys : List D} {us : List V} {d : D} {v : V} {R : KD} {Q : VK} (w : World K G al H M) (ha : al[n]? = some a) (hg : G a = none) (r : RelDs K G al ys us) (rd : RelD K G al d v) (h : R d (M.set n (.lst ys))) (hR : ToE K al G H R Q) : Q v (upd H a (.lst us)) := by
  obtain ⟨w1, e1⟩ := w.store (o := .lst us) (mo := .lst ys) ha hg ⟨hg, us, upd_same, r⟩
  exact hR _ _ h _ _ _ _ e1 w1 (rd.ext e1)
def oAppend : OM := fun x xs M R => ∃ n ys y, x = .ref n ∧ xs = [y] ∧ M[n]? = some (.lst ys) ∧ ys.length < sizeLine ∧ R .non (M.set n (.lst (ys ++ [y])))
theorem oAppend_ok {K : PySem.W.Frag} : MtOk K rAppend oAppend := fun al G H M x xs v vs R Q w rx rxs h hR => by
  obtain ⟨n, ys, y, rfl, rfl, h1, h2, h3⟩ := h
  obtain ⟨a, us, rfl, ha, hg, hH, ru⟩ := w.refLst rx h1
  obtain ⟨u, rfl, ry⟩ := rel1 rxs
  exact ⟨a, us, u, rfl, rfl, hH, by rw [← ru.length]; exact h2, setL_to w ha hg (ru.append (.cons ry .nil)) .non h3 hR⟩
theorem pd_append (ho : PEd X W o to) (ha : PAd X W [e] t) (hbase : attributeBase o "append" X.env (eval o X.env) = eval o X.env := by rfl)
    (hfew : ((backTo cpos (starEach [e] X.env)).all (fun x => !x.1) && (backToKw cpos (keywordEach [] X.env)).all (fun x => x.1.isSome)
      && decide (([e] : List Expr).length + ([] : List Keyword).length + (if ([] : List Keyword).isEmpty then 0 else 1) < 30)) = true := by rfl)
    (hline : (apos.endLine == cpos.line) = true := by rfl) (hs : starEach [e] X.env = (false, eval e X.env) :: starEach [] X.env := by rfl) : PEd X W (.Call (.Attribute o "append" apos) [e] [] cpos) (eBM "list" oAppend to t) :=
  pd_bm PySem.F.plainAttrs_list PySem.F.slot_list_append PySem.F.type_list_append mt_append oAppend_ok ho ha hbase hfew hline hs
def oExtend : OM := fun x xs M R => ∃ n ys y zs, x = .ref n ∧ xs = [y] ∧ M[n]? = some (.lst ys) ∧ ownOf M y = some zs ∧ ys.length + zs.length ≤ sizeLine ∧ R .non (M.set n (.lst (ys ++ zs)))
theorem oExtend_ok {K : PySem.W.Frag} : MtOk K rExtend oExtend := fun al G H M x xs v vs R Q w rx rxs h hR => by
  obtain ⟨n, ys, y, zs, rfl, rfl, h1, h2, h3, h4⟩ := h
  obtain ⟨a, us, rfl, ha, hg, hH, ru⟩ := w.refLst rx h1
  obtain ⟨u, rfl, ry⟩ := rel1 rxs
  obtain ⟨b, ws, rfl, hB, rw'⟩ := w.own ry h2
  exact ⟨a, b, us, ws, rfl, rfl, hH, hB, by rw [← ru.length, ← rw'.length]; exact h3, setL_to w ha hg (ru.append rw') .non h4 hR⟩
theorem pd_extend (ho : PEd X W o to) (ha : PAd X W [e] t) (hbase : attributeBase o "extend" X.env (eval o X.env) = eval o X.env := by rfl)
    (hfew : ((backTo cpos (starEach [e] X.env)).all (fun x => !x.1) && (backToKw cpos (keywordEach [] X.env)).all (fun x => x.1.isSome)
      && decide (([e] : List Expr).length + ([] : List Keyword).length + (if ([] : List Keyword).isEmpty then 0 else 1) < 30)) = true := by rfl)
    (hline : (apos.endLine == cpos.line) = true := by rfl) (hs : starEach [e] X.env = (false, eval e X.env) :: starEach [] X.env := by rfl) : PEd X W (.Call (.Attribute o "extend" apos) [e] [] cpos) (eBM "list" oExtend to t) :=
  pd_bm PySem.F.plainAttrs_list PySem.F.slot_list_extend PySem.F.type_list_extend mt_extend oExtend_ok ho ha hbase hfew hline hs
theorem RelDs.dropLast {K : PySem.W.Frag} {G : Hp} {al : List Addr} {ds : List D} {vs : List V} (r : RelDs K G al ds vs) : RelDs K G al ds.dropLast vs.dropLast := by
  rw [List.dropLast_eq_take, List.dropLast_eq_take, r.length]
  exact r.take _
def oPop : OM := fun x xs M R => ∃ n ys y, x = .ref n ∧ xs = [] ∧ M[n]? = some (.lst ys) ∧ ys[ys.length - 1]? = some y ∧ R y (M.set n (.lst ys.dropLast))
theorem oPop_ok {K : PySem.W.Frag} : MtOk K rPop oPop := fun al G H M x xs v vs R Q w rx rxs h hR => by
  obtain ⟨n, ys, y, rfl, rfl, h1, h2, h3⟩ := h
  obtain ⟨a, us, rfl, ha, hg, hH, ru⟩ := w.refLst rx h1
  cases rxs
  obtain ⟨u, hu, ry⟩ := ru.get h2
  exact ⟨a, us, u, rfl, rfl, hH, by rw [← ru.length]; exact hu, setL_to w ha hg ru.dropLast ry h3 hR⟩
theorem pd_pop (ho : PEd X W o to) (hbase : attributeBase o "pop" X.env (eval o X.env) = eval o X.env := by rfl) (hline : (apos.endLine == cpos.line) = true := by rfl) : PEd X W (.Call (.Attribute o "pop" apos) [] [] cpos) (eBM0 "list" oPop to) :=
  pd_bm0 PySem.F.plainAttrs_list PySem.F.slot_list_pop PySem.F.type_list_pop mt_pop oPop_ok ho hbase hline
def oClear : OM := fun x xs M R => ∃ n ys, x = .ref n ∧ xs = [] ∧ M[n]? = some (.lst ys) ∧ R .non (M.set n (.lst []))
theorem oClear_ok {K : PySem.W.Frag} : MtOk K rClear oClear := fun al G H M x xs v vs R Q w rx rxs h hR => by
  obtain ⟨n, ys, rfl, rfl, h1, h3⟩ := h
  obtain ⟨a, us, rfl, ha, hg, hH, ru⟩ := w.refLst rx h1
  cases rxs
  exact ⟨a, us, rfl, rfl, hH, setL_to w ha hg .nil .non h3 hR⟩
theorem pd_clear (ho : PEd X W o to) (hbase : attributeBase o "clear" X.env (eval o X.env) = eval o X.env := by rfl) (hline : (apos.endLine == cpos.line) = true := by rfl) : PEd X W (.Call (.Attribute o "clear" apos) [] [] cpos) (eBM0 "list" oClear to) :=
  pd_bm0 PySem.F.plainAttrs_list PySem.F.slot_list_clear PySem.F.type_list_clear mt_clear oClear_ok ho hbase hline
end
end Dx
/-! Dx5: fields; calls of defs, methods, classes; statements; loops. -/
namespace Dx
open PySem PySem.Spec L2
/-! ### fields -/
abbrev Flds := List (Str × List Str)
def hasF (Ga : Flds) (c f : Str) : Bool := match Ga.lookup c with
  | some l => l.contains f
  | none => false
structure FOk (K : PySem.W.Frag) (Ga : Flds) : Prop where
  ok : ∀ c f, hasF Ga c f = true → Cls K (He.ga K c) ∧ NoAttr K (He.ga K c) f
abbrev SE (S : SS) (de : Lo) : SD := fun c fs M => S c fs de M
def eFld (Ga : Flds) (f : Str) (ta : TEd) : TEd := fun de M R S => ta de M (fun x M1 => ∃ c fs d, insOf M1 x = some (c, fs) ∧ hasF Ga c f = true ∧ fs.lookup f = some d ∧ R d M1) S
section
variable {X : Cx} {W : WX} {e a b c o value : Expr} {es : List Expr} {pos pos' tpos p apos cpos p2 : Pos} {ta tb tc tv : TEd} {t : TAd} {Ga : Flds} {f m : Str}
theorem pd_fld (F : FOk X.K Ga) (he : PEd X W e ta) (hb : attributeBase e f X.env (eval e X.env) = eval e X.env := by rfl) : PEd X W (.Attribute e f pos) (eFld Ga f ta) := PE.imp (pe_fld he hb) fun σ H Q ⟨al, G, M, de, R, S, at_, ht, hR, hS⟩ =>
  liftE.mk at_ ht (fun x M1 h1 al1 G1 H1 v e1 w1 r1 => by
    obtain ⟨c, fs, d, h2, h3, h4, h5⟩ := h1
    obtain ⟨a, dx, vs, rfl, hH, rf⟩ := w1.ins r1 h2
    obtain ⟨z, hz, rz⟩ := rf.look h4
    obtain ⟨k1, k2⟩ := F.ok c f h3
    exact ⟨a, _, dx, vs, z, rfl, hH, k1, k2, hz, (hR.ext e1).now h5 w1 rz⟩) hS
/-- an instance of the memory is changed -/
theorem setI_to {K : PySem.W.Frag} {al : List Addr} {G H : Hp} {M : Mem} {n : Nat} {a dx : Addr} {c : Str} {ys : List (Str × D)} {us : List (Str × V)} (w : World K G al H M) (ha : al[n]? = some a) (hg : G a = none) (r : RelFs K G al ys us) :
    World K G al (upd H a (.ins (He.ga K c) dx us)) (M.set n (.ins c ys)) ∧ Ext al al G G H (upd H a (.ins (He.ga K c) dx us)) :=
  w.store (o := .ins (He.ga K c) dx us) (mo := .ins c ys) ha hg ⟨hg, dx, us, upd_same, r⟩
/-- o.f = v, by values -/
def putFld (Ga : Flds) (f : Str) (x y : D) (M : Mem) (Q : Mem → Prop) : Prop := ∃ n c fs, x = .ref n ∧ M[n]? = some (.ins c fs) ∧ hasF Ga c f = true ∧ fs.length < 1000 ∧ Q (M.set n (.ins c (putD f y fs)))
def sFld (Ga : Flds) (f : Str) (ta tv : TEd) : TSd := fun E de M S => tv de M (fun y M1 => ta de M1 (fun x M2 => putFld Ga f x y M2 (E.nx de)) (SE S de)) (SE S de)
theorem psd_fld (F : FOk X.K Ga) (ha : PEd X W o ta) (hv : PEd X W value tv) (hs : swapsWith value (some (.Attribute o f pos')) pos.line X.env = pure false := by rfl) : PSd X W (.Assign [.Attribute o f pos'] value pos) (sFld Ga f ta tv) :=
  PS.imp (ps_fld ha hv hs) fun D σ H ⟨al, G, M, de, N, R, S, at_, ht, hN, hR, hS⟩ =>
    liftE.mk at_ ht (fun y M1 h1 al1 G1 H1 v e1 w1 r1 => liftE.mk (at_.ext e1 w1) h1 (fun x M2 h2 al2 G2 H2 u e2 w2 r2 => by
      obtain ⟨n, c, fs, rfl, h3, h4, h5, h6⟩ := h2
      obtain ⟨a, dx, vs, rfl, ha, hg, hH, rf⟩ := w2.refIns r2 h3
      obtain ⟨k1, k2⟩ := F.ok c f h4
      obtain ⟨w3, e3⟩ := setI_to (dx := dx) (c := c) w2 ha hg (rf.put (f := f) (r1.ext e2))
      have e13 := (e1.trans e2).trans e3
      exact ⟨a, _, dx, vs, rfl, hH, k1, k2, by rw [← rf.length]; exact h5, hN _ _ h6 _ _ _ _ e13 w3 (at_.st.ext e13)⟩) ((hS.at_ at_.st).ext e1)) (hS.at_ at_.st)
/-- o.f += v, ints -/
def sFldAdd (Ga : Flds) (f : Str) (ta tv : TEd) : TSd := fun E de M S => ta de M (fun x M1 => ∃ n c fs i, x = .ref n ∧ M1[n]? = some (.ins c fs) ∧ hasF Ga c f = true ∧ fs.lookup f = some (.int i) ∧
  tv de M1 (fun y M2 => ∃ j fs', y = .int j ∧ M2[n]? = some (.ins c fs') ∧ fs'.length < 1000 ∧ E.nx de (M2.set n (.ins c (putD f (.int (i + j)) fs')))) (SE S de)) (SE S de)
theorem psd_fldAdd (F : FOk X.K Ga) (ha : PEd X W o ta) (hv : PEd X W value tv) : PSd X W (.AugAssign (.Attribute o f tpos) .Add value pos) (sFldAdd Ga f ta tv) :=
  PS.imp (ps_fldaug ha hv in_add) fun D σ H ⟨al, G, M, de, N, R, S, at_, ht, hN, hR, hS⟩ =>
    liftE.mk at_ ht (fun x M1 h1 al1 G1 H1 v e1 w1 r1 => by
      obtain ⟨n, c, fs, i, rfl, h3, h4, h5, h6⟩ := h1
      obtain ⟨a, dx, vs, rfl, ha, hg, hH, rf⟩ := w1.refIns r1 h3
      obtain ⟨k1, k2⟩ := F.ok c f h4
      obtain ⟨z, hz, rz⟩ := rf.look h5
      cases rz
      refine ⟨a, _, dx, vs, _, rfl, hH, k1, k2, hz, liftE.mk (at_.ext e1 w1) h6 (fun y M2 h2 al2 G2 H2 u e2 w2 r2 => ?_) ((hS.at_ at_.st).ext e1)⟩
      obtain ⟨j, fs', rfl, h7, h8, h9⟩ := h2
      cases r2
      have ha2 := e2.pre n a ha
      obtain ⟨hg2, dx2, vs2, hH2, rf2⟩ := w2.obj n a _ ha2 h7
      obtain ⟨w3, e3⟩ := setI_to (dx := dx2) (c := c) w2 ha2 hg2 (rf2.put (f := f) (.int (i + j)))
      have e13 := (e1.trans e2).trans e3
      exact ⟨i, j, rfl, rfl, dx2, vs2, hH2, by rw [← rf2.length]; exact h8, hN _ _ h9 _ _ _ _ e13 w3 (at_.st.ext e13)⟩) (hS.at_ at_.st)

/-! ### what a def does -/
abbrev FD := List D → Mem → KD → SD → Prop
def spD (K : PySem.W.Frag) (n : Nat) (Pt : FD) : Sp := fun vs H Q E => vs.length = n ∧ ∃ al G M ds R S, World K G al H M ∧ RelDs K G al ds vs ∧ Pt ds M R S ∧ ToE K al G H R Q ∧ ToX K al G H S E
/-- the def at f: Pt at most k calls deep; dd: the defaults that fill up -/
structure FunAt (P : Program) (w : PySem.World) (K : PySem.W.Frag) (mg : Str → Option Value) (base : Heap) (k : Nat) (f : Addr) (n : Nat) (dd : List D) (Pt : FD) : Prop where
  ex : ∃ (fd : FuncData) (ps : List Str) (dvs : List V) (ds : List Value), FnOk P w K mg base (L2.CX P w) k f fd ps (spD K n Pt) ∧ Vals dvs ds ∧ L2.Binds K fd ps ds ∧ ∀ G al, RelDs K G al dd dvs
theorem FunAt.mono {P : Program} {w : PySem.World} {K : PySem.W.Frag} {mg : Str → Option Value} {base : Heap} {k j : Nat} {f : Addr} {n : Nat} {dd : List D} {Pt : FD} (c : FunAt P w K mg base k f n dd Pt) (h : k ≤ j) : FunAt P w K mg base j f n dd Pt :=
  let ⟨fd, ps, dvs, ds, h1, h2⟩ := c.ex
  ⟨fd, ps, dvs, ds, h1.mono h, h2⟩
/-- a weaker word -/
theorem FunAt.imp {P : Program} {w : PySem.World} {K : PySem.W.Frag} {mg : Str → Option Value} {base : Heap} {k : Nat} {f : Addr} {n : Nat} {dd : List D} {Pt Pt' : FD} (c : FunAt P w K mg base k f n dd Pt) (h : ∀ ds M R S, Pt' ds M R S → Pt ds M R S) : FunAt P w K mg base k f n dd Pt' :=
  let ⟨fd, ps, dvs, ds, h1, h2⟩ := c.ex
  ⟨fd, ps, dvs, ds, h1.imp fun vs H Q E ⟨l, al, G, M, ds, R, S, w, r, q, hh⟩ => ⟨l, al, G, M, ds, R, S, w, r, h _ _ _ _ q, hh⟩, h2⟩
/-- the same, its result and memory told otherwise (what is known of them may be forgotten, a changing object may be told as a fixed one) -/
def eCall (n : Nat) (dd : List D) (Pt : FD) (t : TAd) : TEd := fun de M R S => t de M (fun ds M1 => ds.length + dd.length = n ∧ Pt (ds ++ dd) M1 R S) S
theorem spD_of {K : PySem.W.Frag} {al : List Addr} {G H : Hp} {M : Mem} {n : Nat} {Pt : FD} {ds : List D} {vs : List V} {R : KD} {S : SD} {Q : VK} {E : XK} (w : World K G al H M) (r : RelDs K G al ds vs) (hl : ds.length = n) (h : Pt ds M R S) (hR : ToE K al G H R Q) (hS : ToX K al G H S E) : spD K n Pt vs H Q E :=
  ⟨by rw [← r.length]; exact hl, al, G, M, ds, R, S, w, r, h, hR, hS⟩
theorem pd_call {k j n : Nat} {g : Addr} {x : Str} {dd : List D} {Pt : FD} (F : FunAt X.prog X.w X.K X.mg X.base k g n dd Pt) (hr : Room j X.A) (hk : k ≤ j) (hg : Gl X x) (hm : X.mg x = some (.ref g)) (kp : PySem.W.keepIn X.K (.ref g) = true) (tk : Takes X W) (ha : PAd X W (e :: es) t)
    (hdb : (x == ("__debug__" : Str)) = false := by decide) (he : starEach (e :: es) X.env = (false, eval e X.env) :: starEach es X.env := by rfl) (hpl : (backTo pos (starEach es X.env)).any (·.1) = false := by rfl) :
    PEd X W (.Call (.Name x p) (e :: es) [] pos) (eCall n dd Pt t) := by
  obtain ⟨fd, ps, dvs, ds, h1, h2, h3, h4⟩ := F.ex
  exact PE.imp (pe_callSD h1 (hr.mono hk) hg hm kp h3 h2 (fun σ => passAt tk σ) ha hdb he hpl) fun σ H Q ⟨al, G, M, de, R, S, at_, ht, hR, hS⟩ =>
    liftA.mk at_ ht (fun xs M1 hh al1 G1 H1 vs e1 w1 r1 => spD_of w1 (r1.append (h4 _ _)) (by rw [List.length_append]; exact hh.1) hh.2 (hR.ext e1) (hS.ext e1)) hS
def eCall0 (dd : List D) (Pt : FD) : TEd := fun de M R S => Pt dd M R S
theorem pd_call0 {k j n : Nat} {g : Addr} {x : Str} {dd : List D} {Pt : FD} (F : FunAt X.prog X.w X.K X.mg X.base k g n dd Pt) (hr : Room j X.A) (hk : k ≤ j) (hg : Gl X x) (hm : X.mg x = some (.ref g)) (kp : PySem.W.keepIn X.K (.ref g) = true) (tk : Takes X W) (hn : dd.length = n)
    (hdb : (x == ("__debug__" : Str)) = false := by decide) : PEd X W (.Call (.Name x p) [] [] pos) (eCall0 dd Pt) := by
  obtain ⟨fd, ps, dvs, ds, h1, h2, h3, h4⟩ := F.ex
  refine ⟨fun pins s σ H Q I h => ?_⟩
  obtain ⟨al, G, M, de, R, S, at_, ht, hR, hS⟩ := h
  refine wpAny_Call_Name_kw (ld_glob I hg hm ?_ hdb)
  exact PySem.W.callWith_K0 I.kIn kp (run_fnSD (us := []) (vs := []) h1 (hr.mono hk) h3 h2 (passAt tk σ) I .nil (spD_of at_.w (h4 _ _) hn ht hR hS))
/-- a method -/
structure MethAt (P : Program) (w : PySem.World) (K : PySem.W.Frag) (mg : Str → Option Value) (base : Heap) (k : Nat) (c m : Str) (n : Nat) (dd : List D) (Pt : FD) : Prop where
  cls : Cls K (He.ga K c)
  ex : ∃ g, Meth K (He.ga K c) m g ∧ FunAt P w K mg base k g n dd Pt
def eMeth (c m : Str) (n : Nat) (dd : List D) (Pt : FD) (ta : TEd) (t : TAd) : TEd := fun de M R S => ta de M (fun x M1 => ∃ fs, insOf M1 x = some (c, fs) ∧ fs.lookup m = none ∧ t de M1 (fun ds M2 => ds.length + dd.length + 1 = n ∧ Pt (x :: (ds ++ dd)) M2 R S) S) S
theorem pd_meth {k j n : Nat} {c' : Str} {dd : List D} {Pt : FD} {pl : Sem Bool} (F : MethAt X.prog X.w X.K X.mg X.base k c' m n dd Pt) (hr : Room j X.A) (hk : k ≤ j) (tk : Takes X W) (ho : PEd X W o ta) (ha : PAd X W (e :: es) t)
    (hst : starEach (e :: es) X.env = (false, eval e X.env) :: starEach es X.env := by rfl) (hpl : (backTo pos (starEach es X.env)).any (·.1) = false := by rfl)
    (ht : eval (.Call (.Attribute o m apos) (e :: es) [] pos) X.env = (do
      let ov ← eval o X.env
      standAt apos.atName
      let (f, first) ← holding [ov] (getMethod ov m pl)
      callWith pos f first (backTo pos (starEach (e :: es) X.env)) (backToKw pos (keywordEach [] X.env))) := by rfl) :
    PEd X W (.Call (.Attribute o m apos) (e :: es) [] pos) (eMeth c' m n dd Pt ta t) := by
  obtain ⟨g, hm, F2⟩ := F.ex
  obtain ⟨fd, ps, dvs, ds, h1, h2, h3, h4⟩ := F2.ex
  refine ⟨fun pins s σ H Q I h => ?_⟩
  obtain ⟨al, G, M, de, R, S, at_, hh, hR, hS⟩ := h
  refine PySem.W.methodCall_KW (pl := pl) (thn (ho.run pins s σ H (fun x H1 => ∃ a dx fs, x = .ref a ∧ H1 a = some (.ins (He.ga X.K c') dx fs) ∧ fs.lookup m = none ∧ liftA X.K W t σ H1 (fun vs H2 => spD X.K n Pt (x :: (vs ++ dvs)) H2 Q (fun c d H' => W c d σ H'))) I
    (liftE.mk at_ hh (fun x M1 q al1 G1 H1 v e1 w1 r1 => ?_) hS)) fun u s1 ⟨x, H1, I1, rx, a, dx, fs, ex, ea, l, q⟩ => ?_) ht
  · obtain ⟨fs, q1, q2, q3⟩ := q
    obtain ⟨a, dx, vs, rfl, hH, rf⟩ := w1.ins r1 q1
    refine ⟨a, dx, vs, rfl, hH, rf.look_none q2, liftA.mk (at_.ext e1 w1) q3 (fun xs M2 q4 al2 G2 H2 us e2 w2 r2 => ?_) (hS.ext e1)⟩
    exact spD_of w2 (.cons (r1.ext e2) (r2.append (h4 _ _))) (by rw [List.length_cons, List.length_append]; exact q4.1) q4.2 (hR.ext (e1.trans e2)) (hS.ext (e1.trans e2))
  · subst ex
    obtain rfl : u = Value.ref a := rx
    refine getmeth_ok I1 ea F.cls hm l ?_
    refine PySem.W.callWith_K (first := [.ref a]) (h₀ := X.base) I.ok.mod.kin hm.kp (thn (ha.run pos pins s1 σ H1 _ I1 q) fun us s2 ⟨vs, H2, I2, r, q2⟩ => ⟨I2.kIn, ?_⟩) hst hpl
    exact run_fnSD (us := .ref a :: us) (vs := .ref a :: vs) (E := fun σ => fun c d H' => W c d σ H') h1 (hr.mono hk) h3 h2 (passAt tk σ) I2 (.cons rfl r) q2
def eMeth0 (c m : Str) (dd : List D) (Pt : FD) (ta : TEd) : TEd := fun de M R S => ta de M (fun x M1 => ∃ fs, insOf M1 x = some (c, fs) ∧ fs.lookup m = none ∧ Pt (x :: dd) M1 R S) S
theorem pd_meth0 {k j n : Nat} {c' : Str} {dd : List D} {Pt : FD} {pl : Sem Bool} (F : MethAt X.prog X.w X.K X.mg X.base k c' m n dd Pt) (hr : Room j X.A) (hk : k ≤ j) (tk : Takes X W) (ho : PEd X W o ta) (hn : dd.length + 1 = n)
    (ht : eval (.Call (.Attribute o m apos) [] [] pos) X.env = (do
      let ov ← eval o X.env
      standAt apos.atName
      let (f, first) ← holding [ov] (getMethod ov m pl)
      callWith pos f first (backTo pos (starEach [] X.env)) (backToKw pos (keywordEach [] X.env))) := by rfl) :
    PEd X W (.Call (.Attribute o m apos) [] [] pos) (eMeth0 c' m dd Pt ta) := by
  obtain ⟨g, hm, F2⟩ := F.ex
  obtain ⟨fd, ps, dvs, ds, h1, h2, h3, h4⟩ := F2.ex
  refine ⟨fun pins s σ H Q I h => ?_⟩
  obtain ⟨al, G, M, de, R, S, at_, hh, hR, hS⟩ := h
  refine PySem.W.methodCall_KW (pl := pl) (thn (ho.run pins s σ H (fun x H1 => ∃ a dx fs, x = .ref a ∧ H1 a = some (.ins (He.ga X.K c') dx fs) ∧ fs.lookup m = none ∧ spD X.K n Pt (x :: dvs) H1 Q (fun c d H' => W c d σ H')) I
    (liftE.mk at_ hh (fun x M1 q al1 G1 H1 v e1 w1 r1 => ?_) hS)) fun u s1 ⟨x, H1, I1, rx, a, dx, fs, ex, ea, l, q⟩ => ?_) ht
  · obtain ⟨fs, q1, q2, q3⟩ := q
    obtain ⟨a, dx, vs, rfl, hH, rf⟩ := w1.ins r1 q1
    exact ⟨a, dx, vs, rfl, hH, rf.look_none q2, spD_of w1 (.cons r1 (h4 _ _)) hn q3 (hR.ext e1) (hS.ext e1)⟩
  · subst ex
    obtain rfl : u = Value.ref a := rx
    refine getmeth_ok I1 ea F.cls hm l ?_
    exact PySem.W.callWith_K0 (first := [.ref a]) I1.kIn hm.kp (run_fnSD (us := [.ref a]) (vs := [.ref a]) (E := fun σ => fun c d H' => W c d σ H') h1 (hr.mono hk) h3 h2 (passAt tk σ) I1 (.cons rfl .nil) q)

/-! ### a new instance -/
/-- a new object that the memory does not hold -/
theorem World.aside {K : PySem.W.Frag} {al : List Addr} {G H : Hp} {M : Mem} {p : Addr} {o : HO} (w : World K G al H M) (hp : H p = none) : World K G al (upd H p o) M ∧ Ext al al G G H (upd H p o) := by
  have nA : ∀ a ∈ al, a ≠ p := fun a h z => w.alive a h (by rw [z]; exact hp)
  refine ⟨⟨w.len, w.nd, fun b u h => ?_, fun a h => ?_, fun i a mo h1 h2 => ?_, w.nt, w.tb⟩, ⟨fun _ _ h => h, fun _ h => .inl h, Same.refl _, fun a u h _ _ => by rw [upd_ne (ne_of_none h hp)]; exact h, fun a h => .inl h, upd_thr hp⟩⟩
  · rw [upd_ne (ne_of_none h (w.sub.free hp))]; exact w.sub b u h
  · rw [upd_ne (nA a h)]; exact w.alive a h
  · have ne := nA a (List.mem_of_getElem? h1)
    exact (w.obj i a mo h1 h2).ext (Same.refl _) (fun _ _ h => h) (fun z => z) fun u z => by rw [upd_ne ne]; exact z
structure MakeAt (P : Program) (w : PySem.World) (K : PySem.W.Frag) (mg : Str → Option Value) (base : Heap) (k : Nat) (c : Str) (n : Nat) (dd : List D) (Pt : FD) : Prop where
  ex : ∃ g, Mk K (He.ga K c) g ∧ FunAt P w K mg base k g n dd Pt
def eMake (c : Str) (n : Nat) (dd : List D) (Pt : FD) (t : TAd) : TEd := fun de M R S => t de M (fun ds M1 => ds.length + dd.length + 1 = n ∧ Pt (.ref M1.length :: (ds ++ dd)) (M1 ++ [.ins c []]) (fun d M2 => d = .non ∧ R (.ref M1.length) M2) S) S
theorem run_makeS {CX : CXT} {k : Nat} {f C : Addr} {fd : FuncData} {ps : List Str} {sp : Sp} {dvs : List V} {ds : List Value} {E : L2.St → XK} {pins : List (Addr × Obj)} {σ : L2.St} {H : Hp} {s : Shared} {Q : VK} {us : List Value} {vs : List V} (M : Mk X.K C f) (F : FnOk X.prog X.w X.K X.mg X.base CX k f fd ps sp) (hr : Room (k + 1) X.A) (hb : L2.Binds X.K fd ps ds) (hd : Vals dvs ds)
    (hx : PassesAt CX X σ (E σ)) (I : Inv X pins σ H s) (r : Vals vs us)
    (h : ∀ x dx, H x = none → H dx = none → dx ≠ x → sp (.ref x :: (vs ++ dvs)) (upd (upd H dx (.own x)) x (.ins C dx [])) (fun v H2 => v = .non ∧ Q (.ref x) H2) (E σ)) :
    wpAny (model X.prog X.w) X.A (call (.ref C) us) (EP X pins σ Q) X.xe s := by
  have hq := h (s.heap.objs.size + 1) s.heap.objs.size (I.hok.fresh (Nat.le_succ _)) (I.hok.fresh (Nat.le_refl _)) (Nat.ne_of_lt (Nat.lt_succ_self _))
  have I2 := Inv.made (C := C) I
  have r2 : Vals (V.ref (s.heap.objs.size + 1) :: (vs ++ dvs)) (Value.ref (s.heap.objs.size + 1) :: (us ++ ds)) := .cons rfl (r.append hd)
  have hl : (Value.ref (s.heap.objs.size + 1) :: us ++ ds).length = ps.length := by
    have e := r2.length
    rw [F.len _ _ _ _ hq] at e
    exact e.symm
  refine wpAny_call (make_map (f := f) I.kIn M.makes M.init (beq_iff_eq.mp M.fn) (codeAny_mono (F.run _ X.stack _ _ ⟨Value.ref (s.heap.objs.size + 1) :: us, []⟩ (Value.ref (s.heap.objs.size + 1) :: (us ++ ds)) _ _ (E σ) (hr.make C us [])
    (I2.env0.make C us []) (hb _ (Value.ref (s.heap.objs.size + 1) :: us) I2.kIn hl) r2 hq) fun r s' hq' => ?_))
  cases r with
  | error e => exact hx pins _ _ e s' I2 hq'
  | ok fl =>
    cases fl with
    | ret u =>
      obtain ⟨v, H', I3, rv, ev, q3⟩ := I2.after hq'
      subst ev
      exact ⟨rv, ⟨V.ref (s.heap.objs.size + 1), H', I3, rfl, q3⟩⟩
    | next => exact False.elim hq'
    | brk => exact False.elim hq'
    | cont => exact False.elim hq'
theorem make_to {K : PySem.W.Frag} {al : List Addr} {G H : Hp} {M : Mem} {n : Nat} {c : Str} {Pt : FD} {ds : List D} {vs : List V} {R : KD} {S : SD} {Q : VK} {E : XK} (w : World K G al H M) (r : RelDs K G al ds vs) (hl : ds.length + 1 = n) (h : Pt (.ref M.length :: ds) (M ++ [.ins c []]) (fun d M2 => d = .non ∧ R (.ref M.length) M2) S) (hR : ToE K al G H R Q) (hS : ToX K al G H S E)
    (x dx : Addr) (hx : H x = none) (hdx : H dx = none) (ne : dx ≠ x) : spD K n Pt (.ref x :: vs) (upd (upd H dx (.own x)) x (.ins (He.ga K c) dx [])) (fun v H2 => v = .non ∧ Q (.ref x) H2) E := by
  obtain ⟨w1, e1⟩ := w.aside (o := .own x) hdx
  have hx1 : upd H dx (.own x) x = none := by rw [upd_ne ne.symm]; exact hx
  obtain ⟨w2, e2⟩ := w1.warm (o := .ins (He.ga K c) dx []) (mo := .ins c []) hx1 ⟨w1.sub.free hx1, dx, [], upd_same, .nil⟩
  have e12 := e1.trans e2
  have me : (al ++ [x])[M.length]? = some x := by
    rw [← w.len, List.getElem?_append_right (Nat.le_refl _)]
    simp
  refine spD_of w2 (.cons (.ref me) (r.ext e12)) hl h (fun d M2 q al3 G3 H3 v e3 w3 r3 => ?_) (hS.ext e12)
  obtain ⟨rfl, q⟩ := q
  cases r3
  exact ⟨rfl, hR _ _ q _ _ _ _ (e12.trans e3) w3 (.ref (e3.pre _ _ me))⟩
theorem pd_make {k j n : Nat} {c' : Str} {dd : List D} {Pt : FD} (F : MakeAt X.prog X.w X.K X.mg X.base k c' n dd Pt) (hr : Room j X.A) (hk : k + 1 ≤ j) (hg : Gl X c') (hm : X.mg c' = some (.ref (He.ga X.K c'))) (tk : Takes X W) (ha : PAd X W (e :: es) t)
    (hdb : (c' == ("__debug__" : Str)) = false := by decide) (he : starEach (e :: es) X.env = (false, eval e X.env) :: starEach es X.env := by rfl) (hpl : (backTo pos (starEach es X.env)).any (·.1) = false := by rfl) :
    PEd X W (.Call (.Name c' p) (e :: es) [] pos) (eMake c' n dd Pt t) := by
  obtain ⟨g, hM, F2⟩ := F.ex
  obtain ⟨fd, ps, dvs, ds, h1, h2, h3, h4⟩ := F2.ex
  refine ⟨fun pins s σ H Q I h => ?_⟩
  obtain ⟨al, G, M, de, R, S, at_, hh, hR, hS⟩ := h
  refine wpAny_Call_Name_kw (ld_glob I hg hm ?_ hdb)
  refine PySem.W.callWith_K (h₀ := X.base) I.ok.mod.kin hM.kp (thn (ha.run pos pins s σ H (fun vs H1 => ∀ x dx, H1 x = none → H1 dx = none → dx ≠ x → spD X.K n Pt (.ref x :: (vs ++ dvs)) (upd (upd H1 dx (.own x)) x (.ins (He.ga X.K c') dx [])) (fun v H2 => v = .non ∧ Q (.ref x) H2) (fun c d H' => W c d σ H')) I
    (liftA.mk at_ hh (fun xs M1 q al1 G1 H1 vs e1 w1 r1 => ?_) hS)) fun us s1 ⟨vs, H1, I1, r, q⟩ => ⟨I1.kIn, ?_⟩) he hpl
  · exact make_to w1 (r1.append (h4 _ _)) (by rw [List.length_append]; exact q.1) q.2 (hR.ext e1) (hS.ext e1)
  · exact run_makeS (E := fun σ => fun c d H' => W c d σ H') hM h1 (hr.mono hk) h3 h2 (passAt tk σ) I1 r q

/-! ### statements -/
variable {st : Stmt} {rest sts : List Stmt} {ts us : TSd}
def sNext : TSd := fun E de M _ => E.nx de M
def sSeq (t u : TSd) : TSd := fun E de M S => t ⟨fun de1 M1 => u E de1 M1 S, E.rt⟩ de M S
theorem pssd_nil : PSsd X W [] sNext := PSs.imp pss_nil fun D σ H ⟨al, G, M, de, N, R, S, at_, ht, hN, hR, hS⟩ => hN.now ht at_.w at_.st
theorem lift_seq : ∀ D σ H, liftS X.K W (sSeq ts us) D σ H → tSeq (liftS X.K W ts) (liftS X.K W us) D σ H := fun D σ H ⟨al, G, M, de, N, R, S, at_, ht, hN, hR, hS⟩ =>
  liftS.mk at_ ht (fun de1 M1 h1 al1 G1 H1 σ1 e1 w1 r1 => liftS.mk ⟨w1, r1⟩ h1 (hN.ext e1) (hR.ext e1) (hS.ext e1)) hR hS
theorem pssd_cons (h1 : PSd X W st ts) (h2 : PSsd X W rest us) : PSsd X W (st :: rest) (sSeq ts us) := PSs.imp (pss_cons h1 h2) lift_seq
theorem pssd_one (h1 : PSd X W st ts) : PSsd X W [st] ts := pss_one h1
theorem psd_pass : PSd X W (.Pass pos) sNext := PS.imp ps_pass fun D σ H ⟨al, G, M, de, N, R, S, at_, ht, hN, hR, hS⟩ => hN.now ht at_.w at_.st
def sDrop (ta : TEd) : TSd := fun E de M S => ta de M (fun _ M1 => E.nx de M1) (SE S de)
theorem psd_expr (he : PEd X W e ta) (hs : swapsWith e none pos.line X.env = pure false := by rfl) : PSd X W (.Expr e pos) (sDrop ta) := PS.imp (ps_expr he hs) fun D σ H ⟨al, G, M, de, N, R, S, at_, ht, hN, hR, hS⟩ =>
  liftE.mk at_ ht (fun x M1 h1 al1 G1 H1 v e1 w1 r1 => hN _ _ h1 _ _ _ _ e1 w1 (at_.st.ext e1)) (hS.at_ at_.st)
def sRet (ta : TEd) : TSd := fun E de M S => ta de M E.rt (SE S de)
theorem psd_ret (he : PEd X W e ta) : PSd X W (.Return (some e) pos) (sRet ta) := PS.imp (ps_ret he) fun D σ H ⟨al, G, M, de, N, R, S, at_, ht, hN, hR, hS⟩ => liftE.mk at_ ht hR (hS.at_ at_.st)
def sRetN : TSd := fun E _ M _ => E.rt .non M
theorem psd_retN : PSd X W (.Return none pos) sRetN := PS.imp ps_retN fun D σ H ⟨al, G, M, de, N, R, S, at_, ht, hN, hR, hS⟩ => hR.now ht at_.w .non
def sIf (c : TTd) (t u : TSd) : TSd := fun E de M S => c de M (fun b M1 => match b with | true => t E de M1 S | false => u E de M1 S) (SE S de)
theorem psd_if {c' : Expr} {b1 b2 : List Stmt} {tcc : TTd} (hc : PTd X W c' tcc) (h1 : PSsd X W b1 ts) (h2 : PSsd X W b2 us) : PSd X W (.If c' b1 b2 pos) (sIf tcc ts us) := PS.imp (ps_if hc h1 h2) fun D σ H ⟨al, G, M, de, N, R, S, at_, ht, hN, hR, hS⟩ =>
  liftT.mk at_ ht (fun b M1 q al1 G1 H1 e1 w1 => by
    cases b with
    | true => rw [if_pos rfl]; exact liftS.mk (at_.ext e1 w1) q (hN.ext e1) (hR.ext e1) (hS.ext e1)
    | false => rw [if_neg Bool.false_ne_true]; exact liftS.mk (at_.ext e1 w1) q (hN.ext e1) (hR.ext e1) (hS.ext e1)) (hS.at_ at_.st)

/-! ### targets -/
abbrev TGd := D → Lo → Mem → (Lo → Mem → Prop) → Prop
abbrev TGsd := List D → Lo → Mem → (Lo → Mem → Prop) → Prop
def liftG (K : PySem.W.Frag) (g : TGd) : TG := fun v σ H Q => ∃ al G M de d N, At K al G H M de σ ∧ RelD K G al d v ∧ g d de M N ∧ ToN K al G H N Q
def liftGs (K : PySem.W.Frag) (g : TGsd) : TGs := fun v σ H Q => ∃ al G M de d N, At K al G H M de σ ∧ RelDs K G al d v ∧ g d de M N ∧ ToN K al G H N Q
abbrev PGd (X : Cx) (e : Expr) (g : TGd) : Prop := PG X e (liftG X.K g)
abbrev PGsd (X : Cx) (e : List Expr) (g : TGsd) : Prop := PGs X e (liftGs X.K g)
theorem PGs.imp {es : List Expr} {t u : TGs} (h : PGs X es t) (i : ∀ v σ H Q, u v σ H Q → t v σ H Q) : PGs X es u := ⟨fun pins s σ H v w Q I r q => h.run pins s σ H v w Q I r (i _ _ _ _ q)⟩
theorem RelSt.set {K : PySem.W.Frag} {G : Hp} {al : List Addr} {de : Lo} {σ : L2.St} {d : D} {v : V} (r : RelSt K G al de σ) (q : RelD K G al d v) (i : Nat) : RelSt K G al (de.set i (some d)) (σ.set i (some v)) := by
  refine ⟨by simp [r.len], fun j d' h => ?_⟩
  by_cases e : j = i
  · subst e
    have hj : j < de.length := by
      have := (List.getElem?_eq_some_iff.mp h).1
      simpa using this
    rw [List.getElem?_set_self hj] at h
    cases h
    exact ⟨v, List.getElem?_set_self (by rw [← r.len]; exact hj), q⟩
  · rw [List.getElem?_set_ne (Ne.symm e)] at h
    rw [List.getElem?_set_ne (Ne.symm e)]
    exact r.at_ j d' h
def dName (i : Nat) : TGd := fun d de M N => N (de.set i (some d)) M
theorem pgd_name (i : Nat) {x : Str} (hN : X.N.Nodup) (hi : X.N[i]? = some x := by rfl) (hx : Loc X.env.scope x := by first | exact Or.inl rfl | exact Or.inr rfl) (hf : X.fn x = true ∨ X.env.scope.names.lookup x = some .local := by first | exact .inl rfl | exact .inr rfl | assumption) : PGd X (.Name x pos) (dName i) :=
  PG.imp (pg_name hN hi hx hf) fun v σ H Q ⟨al, G, M, de, d, N, at_, r, h, hN⟩ => hN.now h at_.w (at_.st.set r i)
def dNil : TGsd := fun ds de M N => ds = [] ∧ N de M
def dCons (g : TGd) (gs : TGsd) : TGsd := fun ds de M N => ∃ d r, ds = d :: r ∧ g d de M (fun de1 M1 => gs r de1 M1 N)
theorem pgsd_nil : PGsd X [] dNil := PGs.imp pgs_nil fun v σ H Q ⟨al, G, M, de, d, N, at_, r, h, hN⟩ => by
  obtain ⟨rfl, h⟩ := h
  cases r
  exact ⟨rfl, hN.now h at_.w at_.st⟩
theorem pgsd_cons {g : TGd} {gs : TGsd} (h1 : PGd X e g) (h2 : PGsd X es gs) (hs : (assignEach (e :: es) X.env).map (·.2) = assign e X.env :: (assignEach es X.env).map (·.2) := by rfl) : PGsd X (e :: es) (dCons g gs) :=
  PGs.imp (pgs_cons h1 h2 hs) fun v σ H Q ⟨al, G, M, de, d, N, at_, r, h, hN⟩ => by
    obtain ⟨d1, dr, rfl, h⟩ := h
    cases r with
    | cons r1 r2 => exact ⟨_, _, rfl, al, G, M, de, d1, _, at_, r1, h, fun de1 M1 q al1 G1 H1 σ1 e1 w1 s1 => ⟨al1, G1, M1, de1, dr, N, ⟨w1, s1⟩, r2.ext e1, q, hN.ext e1⟩⟩
def dTup (n : Nat) (gs : TGsd) : TGd := fun d de M N => ∃ xs, d = .tup xs ∧ xs.length = n ∧ gs xs de M N
theorem pgd_tup {k n : Nat} {gs : TGsd} (hc : X.calm = true) (h : PGsd X es gs) (hn : (assignEach es X.env).length = n := by rfl) (hst : (assignEach es X.env).findIdx? (·.1) = none := by rfl) : PGd X (.Tuple es k pos) (dTup n gs) :=
  PG.imp (pg_tup hc h hn hst) fun v σ H Q ⟨al, G, M, de, d, N, at_, r, h, hN⟩ => by
    obtain ⟨xs, rfl, hl, h⟩ := h
    cases r with
    | tup hq rv => exact ⟨_, _, rfl, SqT_same at_.w.sub hq, by rw [← rv.length]; exact hl, al, G, M, de, xs, N, at_, rv, h, hN⟩
/-- o.f = v as a target -/
def dFld (Ga : Flds) (f : Str) (ta : TEd) : TGd := fun d de M N => ta de M (fun x M1 => putFld Ga f x d M1 (N de)) (fun _ _ _ => False)
theorem ToX.no {K : PySem.W.Frag} {al : List Addr} {G H : Hp} {W : Value → Option Addr → Hp → Prop} : ToX K al G H (fun _ _ _ => False) W := fun _ _ _ h => h.elim
theorem ToSX.no {K : PySem.W.Frag} {al : List Addr} {G H : Hp} {W : WX} : ToSX K al G H (fun _ _ _ _ => False) W := fun _ _ _ _ h => h.elim
theorem pgd_fld (F : FOk X.K Ga) (ho : PEd X W o ta) : PGd X (.Attribute o f pos) (dFld Ga f ta) := by
  refine ⟨fun pins s σ H v u Q I r h => ?_⟩
  obtain ⟨al, G, M, de, d, N, at_, rd, h, hN⟩ := h
  rw [assign_Attribute]
  refine wpAny_bind (wpAny_holding (thn (ho.run pins s σ H (fun x H2 => ∃ a C dx fs, x = .ref a ∧ H2 a = some (.ins C dx fs) ∧ Cls X.K C ∧ NoAttr X.K C f ∧ fs.length < 1000 ∧ Q σ (upd H2 a (.ins C dx (putF f v fs)))) I
    (liftE.mk at_ h (fun x M1 h2 al1 G1 H1 z e1 w1 r2 => ?_) ToX.no)) fun ov s1 ⟨x, H2, I2, rx, a, C, dx, fs, ex, ea, c, n, l, q2⟩ => ?_))
  · obtain ⟨n, c, fs, rfl, h3, h4, h5, h6⟩ := h2
    obtain ⟨a, dx, vs, rfl, ha, hg, hH, rf⟩ := w1.refIns r2 h3
    obtain ⟨k1, k2⟩ := F.ok c f h4
    obtain ⟨w3, e3⟩ := setI_to (dx := dx) (c := c) w1 ha hg (rf.put (f := f) (rd.ext e1))
    exact ⟨a, _, dx, vs, rfl, hH, k1, k2, by rw [← rf.length]; exact h5, hN _ _ h6 _ _ _ _ (e1.trans e3) w3 (at_.st.ext (e1.trans e3))⟩
  · subst ex
    obtain rfl : ov = Value.ref a := rx
    exact wpAny_bind (wpAny_standAt (wpAny_bind (wpAny_holding (setattr_ok I2 ea c n l r fun s3 I3 => wpAny_release ⟨σ, _, I3, q2⟩))))
/-- o[i] = v as a target -/
abbrev OSet := D → D → D → Mem → (Mem → Prop) → Prop
def SetOk (K : PySem.W.Frag) (r : TSet) (o : OSet) : Prop := ∀ al G H M x i d xv iv dv N (Q : Hp → Prop), World K G al H M → RelD K G al x xv → RelD K G al i iv → RelD K G al d dv → o x i d M N →
  (∀ M', N M' → ∀ al' G' H', Ext al al' G G' H H' → World K G' al' H' M' → Q H') → r xv iv dv H Q
def dSub (o : OSet) (ta tb : TEd) : TGd := fun d de M N => ta de M (fun x M1 => tb de M1 (fun i M2 => o x i d M2 (N de)) (fun _ _ _ => False)) (fun _ _ _ => False)
theorem pgd_sub {r : TSet} {os : OSet} {i : Expr} (hs : PSet X r) (h : SetOk X.K r os) (ho : PEd X W o ta) (hi : PEd X W i tb) (ha : ∀ v, assign (.Subscript o i pos) X.env v = (do
      let ov ← holding [v] (eval o X.env)
      let iv ← holding [v, ov] (eval i X.env)
      standAt pos
      holding [v, ov, iv] (setItem ov iv v)
      release [v, ov, iv] []) := by intro _; rfl) : PGd X (.Subscript o i pos) (dSub os ta tb) := PG.imp (pg_sub ho hi hs ha) fun v σ H Q ⟨al, G, M, de, d, N, at_, rd, hh, hN⟩ =>
  liftE.mk at_ hh (fun x M1 h1 al1 G1 H1 xv e1 w1 r1 => liftE.mk (at_.ext e1 w1) h1 (fun y M2 h2 al2 G2 H2 iv e2 w2 r2 => h al2 G2 H2 M2 x y d xv iv v _ _ w2 (r1.ext e2) r2 (rd.ext (e1.trans e2)) h2 fun M' q al3 G3 H3 e3 w3 =>
    hN _ _ q _ _ _ _ ((e1.trans e2).trans e3) w3 (at_.st.ext ((e1.trans e2).trans e3))) ToX.no) ToX.no
def oSetL : OSet := fun x i d M N => ∃ n xs k j, x = .ref n ∧ i = .int k ∧ M[n]? = some (.lst xs) ∧ ixN xs.length k = some j ∧ N (M.set n (.lst (xs.set j d)))
theorem oSetL_ok {K : PySem.W.Frag} : SetOk K rSetL oSetL := fun al G H M x i d xv iv dv N Q w rx ri rd h hN => by
  obtain ⟨n, xs, k, j, rfl, rfl, h1, h2, h3⟩ := h
  obtain ⟨a, us, rfl, ha, hg, hH, ru⟩ := w.refLst rx h1
  cases ri
  refine ⟨a, us, k, j, rfl, rfl, hH, by rw [← ru.length]; exact h2, ?_⟩
  obtain ⟨w1, e1⟩ := w.store (o := .lst (us.set j dv)) (mo := .lst (xs.set j d)) ha hg ⟨hg, _, upd_same, ru.set rd j⟩
  exact hN _ h3 _ _ _ e1 w1
theorem pgd_subL {i : Expr} (ho : PEd X W o ta) (hi : PEd X W i tb) (ha : ∀ v, assign (.Subscript o i pos) X.env v = (do
      let ov ← holding [v] (eval o X.env)
      let iv ← holding [v, ov] (eval i X.env)
      standAt pos
      holding [v, ov, iv] (setItem ov iv v)
      release [v, ov, iv] []) := by intro _; rfl) : PGd X (.Subscript o i pos) (dSub oSetL ta tb) := pgd_sub set_list oSetL_ok ho hi ha
def oSetD : OSet := fun x i d M N => ∃ n kvs k, x = .ref n ∧ keyD i = some k ∧ M[n]? = some (.dic kvs) ∧ kvs.length < sizeLine ∧ N (M.set n (.dic (putKD kvs k d)))
theorem oSetD_ok {K : PySem.W.Frag} : SetOk K rSetD oSetD := fun al G H M x i d xv iv dv N Q w rx ri rd h hN => by
  obtain ⟨n, xs, k, rfl, hk, h1, h2, h3⟩ := h
  obtain ⟨a, us, rfl, ha, hg, hH, ru⟩ := w.refDic rx h1
  have ek := keyD_rel ri hk
  subst ek
  obtain ⟨w1, e1⟩ := w.store (o := .dK (putK us k dv)) (mo := .dic (putKD xs k d)) ha hg ⟨hg, _, upd_same, ru.put rd⟩
  exact ⟨a, _, rfl, DPut.k hH (by rw [← ru.length]; exact h2), hN _ h3 _ _ _ e1 w1⟩
theorem pgd_subD (hu : X.A.units + 1 < cLine) {i : Expr} (ho : PEd X W o ta) (hi : PEd X W i tb) (ha : ∀ v, assign (.Subscript o i pos) X.env v = (do
      let ov ← holding [v] (eval o X.env)
      let iv ← holding [v, ov] (eval i X.env)
      standAt pos
      holding [v, ov, iv] (setItem ov iv v)
      release [v, ov, iv] []) := by intro _; rfl) : PGd X (.Subscript o i pos) (dSub oSetD ta tb) := pgd_sub (set_dict hu) oSetD_ok ho hi ha
/-- target = value -/
def sAsg (te : TEd) (g : TGd) : TSd := fun E de M S => te de M (fun x M1 => g x de M1 E.nx) (SE S de)
theorem psd_asg {tg : Expr} {g : TGd} (he : PEd X W e ta) (hg : PGd X tg g) (hs : swapsWithSole [tg] e pos.line X.env = pure false := by rfl) (hw : swappedStores [tg] e X.env = pure none := by rfl)
    (h1 : (assignEach [tg] X.env).map (·.2) = [assign tg X.env] := by rfl) : PSd X W (.Assign [tg] e pos) (sAsg ta g) := PS.imp (ps_asg he hg hs hw h1) fun D σ H ⟨al, G, M, de, N, R, S, at_, ht, hN, hR, hS⟩ =>
  liftE.mk at_ ht (fun x M1 h1 al1 G1 H1 v e1 w1 r1 => ⟨al1, G1, M1, de, x, N, at_.ext e1 w1, r1, h1, hN.ext e1⟩) (hS.at_ at_.st)
def sAsg2 (te : TEd) (g1 g2 : TGd) : TSd := fun E de M S => te de M (fun x M1 => g1 x de M1 (fun de2 M2 => g2 x de2 M2 E.nx)) (SE S de)
theorem psd_asg2 {t1 t2 : Expr} {g1 g2 : TGd} (he : PEd X W e ta) (h1 : PGd X t1 g1) (h2 : PGd X t2 g2) (ha : (assignEach [t1, t2] X.env).map (·.2) = [assign t1 X.env, assign t2 X.env] := by rfl) (hw : swappedStores [t1, t2] e X.env = pure none := by rfl) :
    PSd X W (.Assign [t1, t2] e pos) (sAsg2 ta g1 g2) := PS.imp (ps_asg2 he h1 h2 ha hw) fun D σ H ⟨al, G, M, de, N, R, S, at_, ht, hN, hR, hS⟩ =>
  liftE.mk at_ ht (fun x M1 h1 al1 G1 H1 v e1 w1 r1 => ⟨al1, G1, M1, de, x, _, at_.ext e1 w1, r1, h1, fun de2 M2 q al2 G2 H2 σ2 e2 w2 r2 => ⟨al2, G2, M2, de2, x, N, ⟨w2, r2⟩, r1.ext e2, q, hN.ext (e1.trans e2)⟩⟩) (hS.at_ at_.st)
/-- x = value, x a local -/
def sSet (i : Nat) (te : TEd) : TSd := fun E de M S => te de M (fun x M1 => E.nx (de.set i (some x)) M1) (SE S de)
theorem psd_set (i : Nat) {x : Str} {pos1 : Pos} (hN : X.N.Nodup) (he : PEd X W e ta) (hi : X.N[i]? = some x := by rfl) (hx : Loc X.env.scope x := by first | exact Or.inl rfl | exact Or.inr rfl) (hs : swapsWith e (some (.Name x pos1)) pos.line X.env = pure false := by rfl)
    (hf : X.fn x = true ∨ X.env.scope.names.lookup x = some .local := by first | exact .inl rfl | exact .inr rfl | assumption) : PSd X W (.Assign [.Name x pos1] e pos) (sSet i ta) := PS.imp (ps_set hN hi hx he hs hf) fun D σ H ⟨al, G, M, de, N, R, S, at_, ht, hN, hR, hS⟩ =>
  liftE.mk at_ ht (fun x M1 h1 al1 G1 H1 v e1 w1 r1 => hN _ _ h1 _ _ _ _ e1 w1 ((at_.st.ext e1).set r1 i)) (hS.at_ at_.st)
/-- a, b = x, y, two locals -/
def sPar (i j : Nat) (t : TAd) : TSd := fun E de M S => t de M (fun ds M1 => ∃ x y, ds = [x, y] ∧ E.nx ((de.set i (some x)).set j (some y)) M1) (SE S de)
end
end Dx
/-! Dx6: what is walked; for, while, list comprehensions. -/
namespace Dx
open PySem PySem.Spec L2
/-! ### what is walked -/
def WalkD (K : PySem.W.Frag) (al : List Addr) (G : Hp) (xs : List D) (stay : Mem → Prop) (J : It) : Prop :=
  ∃ Gd Y, Walk J xs.length Gd Y ∧
    (∀ al' G' H' M', (∀ (n : Nat) (a : Addr), al[n]? = some a → al'[n]? = some a) → Same G G' → World K G' al' H' M' → stay M' → Gd H') ∧
    ∀ i d al' G' H' M' x H'', xs[i]? = some d → (∀ (n : Nat) (a : Addr), al[n]? = some a → al'[n]? = some a) → Same G G' → World K G' al' H' M' → stay M' → Y i H' x H'' →
      ∃ G'', Ext al' al' G' G'' H' H'' ∧ World K G'' al' H'' M' ∧ RelD K G'' al' d x
abbrev TId := Lo → Mem → (List D → (Mem → Prop) → Mem → Prop) → SD → Prop
def ToI (K : PySem.W.Frag) (al : List Addr) (G H : Hp) (R : List D → (Mem → Prop) → Mem → Prop) (Q : It → Hp → Prop) : Prop :=
  ∀ xs stay M', R xs stay M' → ∀ al' G' H' J, Ext al al' G G' H H' → World K G' al' H' M' → stay M' → WalkD K al' G' xs stay J → Q J H'
def liftI (K : PySem.W.Frag) (W : WX) (t : TId) : TI := fun σ H Q => ∃ al G M de R S, At K al G H M de σ ∧ t de M R S ∧ ToI K al G H R Q ∧ ToX K al G H S (fun c d H' => W c d σ H')
abbrev PId (X : Cx) (W : WX) (tg iter : Expr) (t : TId) : Prop := PI X tg iter (liftI X.K W t)
section
variable {X : Cx} {W : WX} {e a b c o : Expr} {es : List Expr} {pos p apos cpos p2 tpos : Pos} {ta tb tc tv : TEd} {t : TAd} {tg : Expr}
theorem PI.imp {tg e : Expr} {t u : TI} (h : PI X tg e t) (i : ∀ σ H Q, u σ H Q → t σ H Q) : PI X tg e u := ⟨fun pins s σ H Q I q => h.run pins s σ H Q I (i σ H Q q)⟩
/-- a list -/
def iLst (ta : TEd) : TId := fun de M R S => ta de M (fun x M1 => ∃ xs, lstOf M1 x = some xs ∧ R xs (fun M' => lstOf M' x = some xs) M1) S
theorem walkD_list {K : PySem.W.Frag} {al : List Addr} {G : Hp} {a : Addr} {x : D} {xs : List D} (r : RelD K G al x (.ref a)) : WalkD K al G xs (fun M' => lstOf M' x = some xs) (Itl K a) := by
  refine ⟨fun H => ∃ vs, SqL K H a vs ∧ vs.length = xs.length, fun i H x H' => H' = H ∧ ∀ vs, SqL K H a vs → vs[i]? = some x, ⟨fun i H hi ⟨vs, h1, h2⟩ => ⟨vs, vs[i], h1, by simp [h2, hi]⟩, fun H ⟨vs, h1, h2⟩ => ⟨vs, h1, Nat.le_of_eq h2⟩, fun i H x H' hi _ y => y⟩, fun al' G' H' M' pre sG w st => ?_, fun i d al' G' H' M' x' H'' hd pre sG w st y => ?_⟩
  · obtain ⟨a', vs, e, h1, h2⟩ := w.lst (r.mono sG pre) st
    cases e
    exact ⟨vs, h1, h2.length.symm⟩
  · obtain ⟨a', vs, e, h1, h2⟩ := w.lst (r.mono sG pre) st
    cases e
    obtain ⟨rfl, y⟩ := y
    obtain ⟨z, hz, rz⟩ := h2.get hd
    rw [y vs h1] at hz
    cases hz
    exact ⟨G', Ext.refl _ _ _, w, rz⟩
theorem pid_list (h : PEd X W e ta) : PId X W tg e (iLst ta) := PI.imp (pi_list h) fun σ H Q ⟨al, G, M, de, R, S, at_, ht, hR, hS⟩ =>
  liftE.mk at_ ht (fun x M1 h1 al1 G1 H1 v e1 w1 r1 => by
    obtain ⟨xs, h2, h3⟩ := h1
    obtain ⟨a, vs, rfl, hq, _⟩ := w1.lst r1 h2
    exact ⟨a, rfl, ⟨vs, hq⟩, hR _ _ _ h3 _ _ _ _ e1 w1 h2 (walkD_list r1)⟩) hS
/-- a tuple -/
def iTupD (ta : TEd) : TId := fun de M R S => ta de M (fun x M1 => ∃ xs, x = .tup xs ∧ R xs (fun _ => True) M1) S
theorem walkD_tup {K : PySem.W.Frag} {al : List Addr} {G : Hp} {a : Addr} {xs : List D} {vs : List V} (h : SqT K G a vs) (r : RelDs K G al xs vs) : WalkD K al G xs (fun _ => True) (Itt K a) := by
  refine ⟨fun H => SqT K H a vs, fun i H x H' => H' = H ∧ ∀ vs, SqT K H a vs → vs[i]? = some x, ⟨fun i H hi h1 => ⟨vs, vs[i]'(by rw [← r.length]; exact hi), h1, by simp⟩, fun H h1 => ⟨vs, h1, Nat.le_of_eq r.length.symm⟩, fun i H x H' hi _ y => y⟩, fun al' G' H' M' pre sG w st => SqT_same w.sub (SqT_same sG h), fun i d al' G' H' M' x' H'' hd pre sG w st y => ?_⟩
  obtain ⟨rfl, y⟩ := y
  obtain ⟨z, hz, rz⟩ := r.get hd
  rw [y vs (SqT_same w.sub (SqT_same sG h))] at hz
  cases hz
  exact ⟨G', Ext.refl _ _ _, w, rz.mono sG pre⟩
theorem pid_tup (h : PEd X W e ta) : PId X W tg e (iTupD ta) := PI.imp (pi_tup h) fun σ H Q ⟨al, G, M, de, R, S, at_, ht, hR, hS⟩ =>
  liftE.mk at_ ht (fun x M1 h1 al1 G1 H1 v e1 w1 r1 => by
    obtain ⟨xs, rfl, h3⟩ := h1
    cases r1 with
    | tup hq rv => exact ⟨_, rfl, ⟨_, SqT_same w1.sub hq⟩, hR _ _ _ h3 _ _ _ _ e1 w1 trivial (walkD_tup hq rv)⟩) hS
/-- range(n), range(a, b) -/
def rgD (lo : Int) (n : Nat) : List D := (List.range n).map fun i => .int (lo + (i : Nat))
theorem rgD_get {lo : Int} {n i : Nat} {d : D} (h : (rgD lo n)[i]? = some d) : d = .int (lo + (i : Nat)) ∧ i < n := by
  unfold rgD at h
  rw [List.getElem?_map] at h
  by_cases hi : i < n
  · rw [List.getElem?_range hi] at h; cases h; exact ⟨rfl, hi⟩
  · rw [List.getElem?_eq_none (by simpa using Nat.le_of_not_lt hi)] at h; cases h
theorem walkD_range {K : PySem.W.Frag} {al : List Addr} {G : Hp} {lo : Int} {n : Nat} : WalkD K al G (rgD lo n) (fun _ => True) (Itr lo n) := by
  have hl : (rgD lo n).length = n := by simp [rgD]
  refine ⟨fun _ => True, fun i H x H' => H' = H ∧ x = .int (lo + (i : Nat)), by rw [hl]; exact ⟨fun i H hi _ => hi, fun H _ => Nat.le_refl n, fun i H x H' hi _ y => y⟩, fun _ _ _ _ _ _ _ _ => trivial, fun i d al' G' H' M' x' H'' hd pre sG w st y => ?_⟩
  obtain ⟨rfl, rfl⟩ := y
  obtain ⟨rfl, _⟩ := rgD_get hd
  exact ⟨G', Ext.refl _ _ _, w, .int _⟩
def iRange1 (t : TAd) : TId := fun de M R S => t de M (fun xs M1 => ∃ j, xs = [.int j] ∧ -(2 ^ 62) ≤ j ∧ j < 2 ^ 62 ∧ R (rgD 0 j.toNat) (fun _ => True) M1) S
theorem pid_range1 (hg : Gl X "range") (hm : X.mg "range" = none) (ha : PAd X W [a] t) (hs : starEach [a] X.env = [(false, eval a X.env)] := by rfl) : PId X W tg (.Call (.Name "range" p) [a] [] pos) (iRange1 t) := PI.imp (pi_range1 hg hm ha hs) fun σ H Q ⟨al, G, M, de, R, S, at_, ht, hR, hS⟩ =>
  liftA.mk at_ ht (fun x M1 h1 al1 G1 H1 vs e1 w1 r1 => by
    obtain ⟨j, rfl, h2, h3, h4⟩ := h1
    obtain ⟨v, rfl, rv⟩ := rel1 r1
    cases rv
    exact ⟨j, rfl, h2, h3, hR _ _ _ h4 _ _ _ _ e1 w1 trivial walkD_range⟩) hS
def iRange2 (t : TAd) : TId := fun de M R S => t de M (fun xs M1 => ∃ i j, xs = [.int i, .int j] ∧ (-(2 ^ 62) ≤ i ∧ i < 2 ^ 62 ∧ -(2 ^ 62) ≤ j ∧ j < 2 ^ 62) ∧ R (rgD i (j - i).toNat) (fun _ => True) M1) S
theorem pid_range2 (hg : Gl X "range") (hm : X.mg "range" = none) (ha : PAd X W [a, b] t) (hs : starEach [a, b] X.env = [(false, eval a X.env), (false, eval b X.env)] := by rfl) (hs2 : starEach [b] X.env = [(false, eval b X.env)] := by rfl) : PId X W tg (.Call (.Name "range" p) [a, b] [] pos) (iRange2 t) :=
  PI.imp (pi_range2 hg hm ha hs hs2) fun σ H Q ⟨al, G, M, de, R, S, at_, ht, hR, hS⟩ =>
  liftA.mk at_ ht (fun x M1 h1 al1 G1 H1 vs e1 w1 r1 => by
    obtain ⟨i, j, rfl, h2, h4⟩ := h1
    obtain ⟨v, u, rfl, rv, ru⟩ := rel2 r1
    cases rv; cases ru
    exact ⟨i, j, rfl, h2, hR _ _ _ h4 _ _ _ _ e1 w1 trivial walkD_range⟩) hS
/-- enumerate(a list) -/
def enumD (i : Nat) : List D → List D
  | [] => []
  | x :: r => .tup [.int (i : Nat), x] :: enumD (i + 1) r
theorem enumD_get : ∀ {xs : List D} {k i : Nat} {d : D}, (enumD k xs)[i]? = some d → ∃ x, xs[i]? = some x ∧ d = .tup [.int ((k + i : Nat)), x]
  | [], k, i, d, h => by simp [enumD] at h
  | x :: r, k, 0, d, h => by simp [enumD] at h; exact ⟨x, by simp, h.symm⟩
  | x :: r, k, i + 1, d, h => by
    have h' : (enumD (k + 1) r)[i]? = some d := by simpa [enumD] using h
    obtain ⟨y, h1, h2⟩ := enumD_get h'
    exact ⟨y, by simpa using h1, by rw [h2]; congr 3; omega⟩
theorem enumD_length : ∀ (xs : List D) (k : Nat), (enumD k xs).length = xs.length
  | [], _ => rfl
  | _ :: r, k => by simp [enumD, enumD_length r]
theorem pair_new {K : PySem.W.Frag} {al : List Addr} {G H : Hp} {M : Mem} {d1 d2 : D} {v1 v2 : V} {T : Addr} (w : World K G al H M) (hT : H T = none) (r1 : RelD K G al d1 v1) (r2 : RelD K G al d2 v2) : ∃ G'', Ext al al G G'' H (upd H T (.tup [v1, v2])) ∧ World K G'' al (upd H T (.tup [v1, v2])) M ∧ RelD K G'' al (.tup [d1, d2]) (.ref T) := by
  obtain ⟨w1, e1⟩ := w.cold (o := .tup [v1, v2]) hT
  exact ⟨_, e1, w1, .tup (SqT.of upd_same) (.cons (r1.ext e1) (.cons (r2.ext e1) .nil))⟩
theorem walkD_enum {K : PySem.W.Frag} {al : List Addr} {G : Hp} {a : Addr} {x : D} {xs : List D} (r : RelD K G al x (.ref a)) : WalkD K al G (enumD 0 xs) (fun M' => lstOf M' x = some xs) (Ite K a) := by
  refine ⟨fun H => ∃ vs, SqL K H a vs ∧ vs.length = xs.length, fun i H v H' => ∃ T x, v = .ref T ∧ H T = none ∧ H' = upd H T (.tup [.int (i : Nat), x]) ∧ ∀ vs, SqL K H a vs → vs[i]? = some x, ?_, fun al' G' H' M' pre sG w st => ?_, fun i d al' G' H' M' x' H'' hd pre sG w st y => ?_⟩
  · rw [enumD_length]
    exact ⟨fun i H hi ⟨vs, h1, h2⟩ => ⟨vs, vs[i], h1, by simp [h2, hi]⟩, fun H ⟨vs, h1, h2⟩ => ⟨vs, h1, Nat.le_of_eq h2⟩, fun i H x H' hi _ y => y⟩
  · obtain ⟨a', vs, e, h1, h2⟩ := w.lst (r.mono sG pre) st
    cases e
    exact ⟨vs, h1, h2.length.symm⟩
  · obtain ⟨a', vs, e, h1, h2⟩ := w.lst (r.mono sG pre) st
    cases e
    obtain ⟨T, z, rfl, hT, rfl, y⟩ := y
    obtain ⟨x0, hx0, rfl⟩ := enumD_get hd
    obtain ⟨u, hu, ru⟩ := h2.get hx0
    rw [y vs h1] at hu
    cases hu
    rw [Nat.zero_add]
    exact pair_new w hT (.int _) ru
def iEnumD (t : TAd) : TId := fun de M R S => t de M (fun ys M1 => ∃ x xs, ys = [x] ∧ lstOf M1 x = some xs ∧ R (enumD 0 xs) (fun M' => lstOf M' x = some xs) M1) S
theorem pid_enum {elts : List Expr} {kk : Nat} (hg : Gl X "enumerate") (hm : X.mg "enumerate" = none) (ha : PAd X W [a] t) (hs : starEach [a] X.env = [(false, eval a X.env)] := by rfl) : PId X W (.Tuple elts kk tpos) (.Call (.Name "enumerate" p) [a] [] pos) (iEnumD t) :=
  PI.imp (pi_enum hg hm ha hs) fun σ H Q ⟨al, G, M, de, R, S, at_, ht, hR, hS⟩ =>
  liftA.mk at_ ht (fun ys M1 h1 al1 G1 H1 vs e1 w1 r1 => by
    obtain ⟨x, xs, rfl, h2, h3⟩ := h1
    obtain ⟨v, rfl, rv⟩ := rel1 r1
    obtain ⟨a, us, rfl, hq, _⟩ := w1.lst rv h2
    exact ⟨a, us, rfl, hq, hR _ _ _ h3 _ _ _ _ e1 w1 h2 (walkD_enum rv)⟩) hS

/-! ### for -/
def forL (stay : Mem → Prop) (g : TGd) (body : TSd) : List D → EndsD → Lo → Mem → SS → Prop
  | [], E, de, M, _ => E.nx de M
  | x :: r, E, de, M, S => g x de M (fun de1 M1 => body ⟨fun de2 M2 => stay M2 ∧ forL stay g body r E de2 M2 S, E.rt⟩ de1 M1 S)
def sFor (ti : TId) (g : TGd) (body : TSd) : TSd := fun E de M S => ti de M (fun xs stay M1 => forL stay g body xs E de M1 S) (SE S de)
theorem psd_for {iter : Expr} {body : List Stmt} {ti : TId} {g : TGd} {tb : TSd} (hp : PassesOwn (model X.prog X.w) X.A X.env X.xe) (hc : X.calm = true) (hi : PId X W tg iter ti) (hg : PGd X tg g) (hb : PSsd X W body tb) (hs : ∀ x, foldedSetIterable iter X.env x = pure x := by intro _; rfl) :
    PSd X W (.For tg iter body [] pos) (sFor ti g tb) := PS.imp (ps_for hp hc hi hg hb hs) fun D σ H ⟨al, G, M, de, N, R, S, at_, ht, hN, hR, hS⟩ => by
  refine ⟨al, G, M, de, _, _, at_, ht, fun xs stay M1 q al1 G1 H1 J e1 w1 hst wk => ?_, hS.at_ at_.st⟩
  obtain ⟨Gd, Y, wk, k1, k2⟩ := wk
  refine for_it wk (fun i σ H => ∃ al' G' M' de', Ext al1 al' G1 G' H1 H ∧ At X.K al' G' H M' de' σ ∧ stay M' ∧ forL stay g tb (xs.drop i) ⟨N, R⟩ de' M' S) ⟨al1, G1, M1, de, Ext.refl _ _ _, at_.ext e1 w1, hst, by simpa using q⟩
    (fun i σ H _ ⟨al', G', M', de', e2, a2, st2, _⟩ => k1 al' G' H M' e2.pre e2.same a2.w st2) (fun i x σ H H' hi ⟨al', G', M', de', e2, a2, st2, q2⟩ y => ?_) (fun σ H ⟨al', G', M', de', e2, a2, st2, q2⟩ => ?_)
  · have hx : xs[i]? = some xs[i] := List.getElem?_eq_getElem hi
    obtain ⟨G'', e3, w3, rx⟩ := k2 i _ al' G' H M' x H' hx e2.pre e2.same a2.w st2 y
    rw [List.drop_eq_getElem_cons hi] at q2
    refine ⟨al', G'', M', de', _, _, a2.ext e3 w3, rx, q2, fun de3 M3 q3 al3 G3 H3 σ3 e4 w4 s4 => ?_⟩
    have e14 := e1.trans ((e2.trans e3).trans e4)
    refine liftS.mk ⟨w4, s4⟩ q3 (fun de5 M5 q5 al5 G5 H5 σ5 e5 w5 s5 => ?_) (hR.ext e14) (hS.ext e14)
    exact ⟨al5, G5, M5, de5, ((e2.trans e3).trans e4).trans e5, ⟨w5, s5⟩, q5.1, q5.2⟩
  · rw [List.drop_length] at q2
    exact hN _ _ q2 _ _ _ _ (e1.trans e2) a2.w a2.st

/-! ### while -/
def whL (c : TTd) (body : TSd) : Nat → EndsD → Lo → Mem → SS → Prop
  | 0, _, _, _, _ => False
  | n + 1, E, de, M, S => c de M (fun b M1 => match b with
    | false => E.nx de M1
    | true => body ⟨fun de2 M2 => whL c body n E de2 M2 S, E.rt⟩ de M1 S) (SE S de)
def sWhile (c : TTd) (body : TSd) : TSd := fun E de M S => ∃ n, whL c body n E de M S
theorem psd_while {c' : Expr} {body : List Stmt} {tcc : TTd} {tb : TSd} (hp : PassesOwn (model X.prog X.w) X.A X.env X.xe) (hc : PTd X W c' tcc) (hb : PSsd X W body tb) : PSd X W (.While c' body [] pos) (sWhile tcc tb) := PS.imp (ps_while hp hc hb) fun D σ H ⟨al, G, M, de, N, R, S, at_, ht, hN, hR, hS⟩ => by
  obtain ⟨n, ht⟩ := ht
  refine ⟨fun m σ' H' => ∃ al' G' M' de', Ext al al' G G' H H' ∧ At X.K al' G' H' M' de' σ' ∧ whL tcc tb m ⟨N, R⟩ de' M' S, ⟨n, al, G, M, de, Ext.refl _ _ _, at_, ht⟩, fun m σ1 H1 ⟨al1, G1, M1, de1, e1, a1, q1⟩ => ?_⟩
  cases m with
  | zero => exact q1.elim
  | succ m =>
    refine liftT.mk a1 q1 (fun b M2 q2 al2 G2 H2 e2 w2 => ?_) ((hS.ext e1).at_ a1.st)
    have e12 := e1.trans e2
    cases b with
    | false => rw [if_neg Bool.false_ne_true]; exact hN _ _ q2 _ _ _ _ e12 w2 (a1.st.ext e2)
    | true =>
      rw [if_pos rfl]
      exact ⟨_, fun σ' H' z => ⟨m, Nat.lt_succ_self _, z⟩, liftS.mk (a1.ext e2 w2) q2 (fun de3 M3 q3 al3 G3 H3 σ3 e3 w3 s3 => ⟨al3, G3, M3, de3, e12.trans e3, ⟨w3, s3⟩, q3⟩) (hR.ext e12) (hS.ext e12)⟩

/-! ### comprehensions: targets that change the block's own slots alone -/
def wipeD (de : Lo) : List Nat → Lo
  | [] => de
  | v :: vs => (wipeD de vs).set v none
theorem RelSt.wipe {K : PySem.W.Frag} {G : Hp} {al : List Addr} {de : Lo} {σ : L2.St} (r : RelSt K G al de σ) : ∀ vs : List Nat, RelSt K G al (wipeD de vs) (L2.wipe σ vs)
  | [] => r
  | v :: vs => by
    have ih := RelSt.wipe r vs
    refine ⟨by simp [wipeD, L2.wipe, ih.len], fun i d h => ?_⟩
    unfold wipeD at h
    unfold L2.wipe
    by_cases e : i = v
    · subst e
      by_cases hv : i < (wipeD de vs).length
      · rw [List.getElem?_set_self hv] at h; cases h
      · rw [List.getElem?_eq_none (by simpa using hv)] at h; cases h
    · rw [List.getElem?_set_ne (Ne.symm e)] at h
      rw [List.getElem?_set_ne (Ne.symm e)]
      exact ih.at_ i d h
theorem wipe_set {σ : L2.St} {x : Option V} : ∀ {vs : List Nat} {i : Nat}, i ∈ vs → L2.wipe (σ.set i x) vs = L2.wipe σ vs
  | v :: vs, i, h => by
    unfold L2.wipe
    by_cases hm : i ∈ vs
    · rw [wipe_set hm]
    · rcases List.mem_cons.mp h with rfl | h
      · have key : ∀ ws : List Nat, i ∉ ws → L2.wipe (σ.set i x) ws = (L2.wipe σ ws).set i x := by
          intro ws
          induction ws with
          | nil => intro _; rfl
          | cons w ws ih =>
            intro hw
            rw [List.mem_cons, not_or] at hw
            show (L2.wipe (σ.set i x) ws).set w none = ((L2.wipe σ ws).set w none).set i x
            rw [ih hw.2, List.set_comm _ _ hw.1]
        rw [key vs hm, List.set_set]
      · exact absurd h hm
def ToNw (K : PySem.W.Frag) (vs : List Nat) (σ : L2.St) (al : List Addr) (G H : Hp) (N : Lo → Mem → Prop) (Q : L2.St → Hp → Prop) : Prop :=
  ∀ de' M', N de' M' → ∀ al' G' H' σ', Ext al al' G G' H H' → World K G' al' H' M' → RelSt K G' al' de' σ' → L2.wipe σ' vs = L2.wipe σ vs → Q σ' H'
def liftGw (K : PySem.W.Frag) (vs : List Nat) (g : TGd) : TG := fun v σ H Q => ∃ al G M de d N, At K al G H M de σ ∧ RelD K G al d v ∧ g d de M N ∧ ToNw K vs σ al G H N Q
def liftGsw (K : PySem.W.Frag) (vs : List Nat) (g : TGsd) : TGs := fun v σ H Q => ∃ al G M de d N, At K al G H M de σ ∧ RelDs K G al d v ∧ g d de M N ∧ ToNw K vs σ al G H N Q
abbrev PGw (X : Cx) (vs : List Nat) (e : Expr) (g : TGd) : Prop := PG X e (liftGw X.K vs g)
abbrev PGsw (X : Cx) (vs : List Nat) (e : List Expr) (g : TGsd) : Prop := PGs X e (liftGsw X.K vs g)
variable {vs : List Nat}
theorem pgw_name (i : Nat) {x : Str} (hN : X.N.Nodup) (hv : i ∈ vs := by decide) (hi : X.N[i]? = some x := by rfl) (hx : Loc X.env.scope x := by first | exact Or.inl rfl | exact Or.inr rfl) (hf : X.fn x = true ∨ X.env.scope.names.lookup x = some .local := by first | exact .inl rfl | exact .inr rfl | assumption) : PGw X vs (.Name x pos) (dName i) :=
  PG.imp (pg_name hN hi hx hf) fun v σ H Q ⟨al, G, M, de, d, N, at_, r, h, hN⟩ => hN _ _ h _ _ _ _ (Ext.refl _ _ _) at_.w (at_.st.set r i) (wipe_set hv)
theorem pgsw_nil : PGsw X vs [] dNil := PGs.imp pgs_nil fun v σ H Q ⟨al, G, M, de, d, N, at_, r, h, hN⟩ => by
  obtain ⟨rfl, h⟩ := h
  cases r
  exact ⟨rfl, hN _ _ h _ _ _ _ (Ext.refl _ _ _) at_.w at_.st rfl⟩
theorem pgsw_cons {g : TGd} {gs : TGsd} (h1 : PGw X vs e g) (h2 : PGsw X vs es gs) (hs : (assignEach (e :: es) X.env).map (·.2) = assign e X.env :: (assignEach es X.env).map (·.2) := by rfl) : PGsw X vs (e :: es) (dCons g gs) :=
  PGs.imp (pgs_cons h1 h2 hs) fun v σ H Q ⟨al, G, M, de, d, N, at_, r, h, hN⟩ => by
    obtain ⟨d1, dr, rfl, h⟩ := h
    cases r with
    | cons r1 r2 => exact ⟨_, _, rfl, al, G, M, de, d1, _, at_, r1, h, fun de1 M1 q al1 G1 H1 σ1 e1 w1 s1 k1 => ⟨al1, G1, M1, de1, dr, N, ⟨w1, s1⟩, r2.ext e1, q, fun de2 M2 q2 al2 G2 H2 σ2 e2 w2 s2 k2 => hN _ _ q2 _ _ _ _ (e1.trans e2) w2 s2 (k2.trans k1)⟩⟩
theorem pgw_tup {k n : Nat} {gs : TGsd} (hc : X.calm = true) (h : PGsw X vs es gs) (hn : (assignEach es X.env).length = n := by rfl) (hst : (assignEach es X.env).findIdx? (·.1) = none := by rfl) : PGw X vs (.Tuple es k pos) (dTup n gs) :=
  PG.imp (pg_tup hc h hn hst) fun v σ H Q ⟨al, G, M, de, d, N, at_, r, h, hN⟩ => by
    obtain ⟨xs, rfl, hl, h⟩ := h
    cases r with
    | tup hq rv => exact ⟨_, _, rfl, SqT_same at_.w.sub hq, by rw [← rv.length]; exact hl, al, G, M, de, xs, N, at_, rv, h, hN⟩
abbrev W0 : WX := fun _ _ _ _ => False
abbrev S0 : SD := fun _ _ _ => False
abbrev PTsd (X : Cx) (ifs : List Expr) (t : TTd) : Prop := PTs X ifs (liftT X.K W0 t)
theorem PTs.imp {ifs : List Expr} {t u : TT} (h : PTs X ifs t) (i : ∀ σ H Q, u σ H Q → t σ H Q) : PTs X ifs u := ⟨fun pins s σ H Q I q => h.run pins s σ H Q I (i σ H Q q)⟩
def tYesD : TTd := fun _ M R _ => R true M
theorem ptsd_nil : PTsd X [] tYesD := PTs.imp pts_nil fun σ H Q ⟨al, G, M, de, R, S, at_, ht, hR, hS⟩ => hR.now ht at_.w
theorem ptsd_one {t : TTd} (h : PTd X W0 c t) : PTsd X [c] t := pts_one h

/-! ### list comprehensions -/
def lcL (stay : Mem → Prop) (g : TGd) (tt : TTd) (te : TEd) (de0 : Lo) : List D → List D → Mem → (List D → Mem → Prop) → Prop
  | [], acc, M, R => R acc M
  | x :: r, acc, M, R => g x de0 M (fun de1 M1 => tt de1 M1 (fun b M2 => match b with
    | true => te de1 M2 (fun y M3 => acc.length < sizeLine ∧ stay M3 ∧ lcL stay g tt te de0 r (acc ++ [y]) M3 R) S0
    | false => stay M2 ∧ lcL stay g tt te de0 r acc M2 R) S0)
def eLc (m : Bool) (vs : List Nat) (ti : TId) (g : TGd) (tt : TTd) (te : TEd) : TEd := fun de M R S => ti de M (fun xs stay M1 => lcL stay g tt te (wipeD de vs) xs [] M1 (fun acc M2 => newL m acc M2 R)) S
/-- a thing that the memory does not hold is changed -/
theorem World.poke {K : PySem.W.Frag} {al : List Addr} {G H : Hp} {M : Mem} {p : Addr} {o : HO} (w : World K G al H M) (hg : G p = none) (hn : p ∉ al) : World K G al (upd H p o) M := by
  refine ⟨w.len, w.nd, fun b u h => ?_, fun a h => ?_, fun i a mo h1 h2 => ?_, w.nt, w.tb⟩
  · rw [upd_ne (ne_of_none h hg)]; exact w.sub b u h
  · have ne : a ≠ p := fun z => hn (by rw [← z]; exact h)
    rw [upd_ne ne]; exact w.alive a h
  · have ne : a ≠ p := fun z => hn (z ▸ List.mem_of_getElem? h1)
    exact (w.obj i a mo h1 h2).ext (Same.refl _) (fun _ _ h => h) (fun z => z) fun u z => by rw [upd_ne ne]; exact z
/-- a thing made aside is taken in -/
theorem World.adopt {K : PySem.W.Frag} {al : List Addr} {G H : Hp} {M : Mem} {p : Addr} {o : HO} (w : World K G al H M) (hg : G p = none) (hn : p ∉ al) (hp : H p = some o) (ho : ∀ ps, o ≠ .tbl ps := by nofun) : World K (upd G p o) al H M ∧ Same G (upd G p o) := by
  have sG : Same G (upd G p o) := fun b u h => by rw [upd_ne (ne_of_none h hg)]; exact h
  refine ⟨⟨w.len, w.nd, fun b u h => ?_, w.alive, fun i a mo h1 h2 => ?_, upd_nt w.nt ho, w.tb⟩, sG⟩
  · by_cases e : b = p
    · subst e; rw [upd_same] at h; cases h; exact hp
    · rw [upd_ne e] at h; exact w.sub b u h
  · have ne : a ≠ p := fun z => hn (z ▸ List.mem_of_getElem? h1)
    exact (w.obj i a mo h1 h2).ext sG (fun _ _ h => h) (fun z => by rw [upd_ne ne]; exact z) fun u z => z
theorem World.adoptW {K : PySem.W.Frag} {al : List Addr} {G H : Hp} {M : Mem} {p : Addr} {mo : MO} (w : World K G al H M) (hn : p ∉ al) (hp : H p ≠ none) (r : MoRel K G (al ++ [p]) H p mo) (hm : ∀ P q, mo ≠ .tab P q := by nofun) : World K G (al ++ [p]) H (M ++ [mo]) := by
  have pre : ∀ (n : Nat) (a : Addr), al[n]? = some a → (al ++ [p])[n]? = some a := fun n a h => by
    rw [List.getElem?_append_left (List.getElem?_eq_some_iff.mp h).1]; exact h
  refine ⟨by simp [w.len], ?_, w.sub, fun a h => ?_, fun i a m h1 h2 => ?_, w.nt, app_tb w.tb hm⟩
  · rw [List.nodup_append]
    exact ⟨w.nd, by simp, fun a h b hb => by rw [List.mem_singleton] at hb; subst hb; exact fun z => hn (z ▸ h)⟩
  · rcases List.mem_append.mp h with h | h
    · exact w.alive a h
    · rw [List.mem_singleton] at h; subst h; exact hp
  · by_cases hi : i < al.length
    · rw [List.getElem?_append_left hi] at h1
      rw [List.getElem?_append_left (by rw [← w.len]; exact hi)] at h2
      exact (w.obj i a m h1 h2).ext (Same.refl _) pre (fun z => z) fun u z => z
    · have e1 : i = al.length := by
        have := (List.getElem?_eq_some_iff.mp h1).1
        simp at this; omega
      subst e1
      rw [List.getElem?_append_right (Nat.le_refl _)] at h1
      rw [List.getElem?_append_right (by rw [w.len]; exact Nat.le_refl _), w.len] at h2
      simp at h1 h2
      subst h1 h2
      exact r
/-- an object made aside since H0: what of the world since H0 -/
structure Side (K : PySem.W.Frag) (al al' : List Addr) (G G' H H' : Hp) (p : Addr) : Prop where
  ext : Ext al al' G G' H H'
  new : H p = none
  out : p ∉ al'
  cold : G' p = none
/-- no table, no code object -/
def Solid (o : HO) : Prop := (∀ ps, o ≠ .tbl ps) ∧ ∀ c q, o ≠ LamX.CodeO c q
theorem solid_lst {xs : List V} : Solid (.lst xs) := ⟨fun _ => nofun, fun c q z => by have z' : HO.lst xs = HO.ext _ := z; cases z'⟩
theorem solid_dK {xs : List (Key × V)} : Solid (.dK xs) := ⟨fun _ => nofun, fun c q z => by have z' : HO.dK xs = HO.ext _ := z; cases z'⟩
theorem Side.step {K : PySem.W.Frag} {al al1 al2 : List Addr} {G G1 G2 H H1 H2 : Hp} {p : Addr} {o : HO} (s : Side K al al1 G G1 H H1 p) (e : Ext al1 al2 G1 G2 H1 H2) (hp : H1 p = some o) (sub : Same G2 H2) (sol : Solid o) : Side K al al2 G G2 H H2 p ∧ H2 p = some o := by
  have h2 := e.frm p o hp s.out sol.1
  refine ⟨⟨s.ext.trans e, s.new, fun z => ?_, ?_⟩, h2⟩
  · rcases e.new p z with q | q
    · exact s.out q
    · exact q.not hp sol.1
  · cases q : G2 p with
    | none => rfl
    | some u =>
      rcases e.gnew p (by rw [q]; simp) with z | z | z | ⟨c, y, z⟩
      · exact absurd s.cold z
      · rcases e.new p z with q | q
        · exact absurd q s.out
        · exact (q.not hp sol.1).elim
      · exact (z.not hp sol.1).elim
      · have := sub _ _ z
        rw [h2] at this
        exact absurd (Option.some.inj this) (sol.2 c y)
theorem Side.poke {K : PySem.W.Frag} {al al1 : List Addr} {G G1 H H1 : Hp} {p : Addr} {o : HO} (s : Side K al al1 G G1 H H1 p) : Side K al al1 G G1 H (upd H1 p o) p :=
  ⟨⟨s.ext.pre, s.ext.new, s.ext.same, fun a u h n t => by rw [upd_ne (ne_of_none h s.new)]; exact s.ext.frm a u h n t, s.ext.gnew, fun a h z => by
    have ne : a ≠ p := fun e => h (.inl (by rw [e]; exact s.new))
    unfold Free at z
    rw [upd_ne ne] at z
    exact s.ext.thr a h z⟩, s.new, s.out, s.cold⟩
theorem Side.start {K : PySem.W.Frag} {al : List Addr} {G H : Hp} {M : Mem} {p : Addr} {o : HO} (w : World K G al H M) (hp : H p = none) : Side K al al G G H (upd H p o) p ∧ World K G al (upd H p o) M := by
  obtain ⟨w1, e1⟩ := w.aside (o := o) hp
  exact ⟨⟨e1, hp, fun z => w.alive p z hp, w.sub.free hp⟩, w1⟩
/-- the list made aside is told -/
theorem Side.list {K : PySem.W.Frag} {al al1 : List Addr} {G G1 H H1 : Hp} {M : Mem} {p : Addr} {ds : List D} {vs : List V} {m : Bool} {R : KD} {Q : VK} (s : Side K al al1 G G1 H H1 p) (w : World K G1 al1 H1 M) (hp : H1 p = some (.lst vs)) (r : RelDs K G1 al1 ds vs) (h : newL m ds M R) (hR : ToE K al G H R Q) : Q (.ref p) H1 := by
  cases m with
  | false =>
    obtain ⟨w2, sG⟩ := w.adopt s.cold s.out hp
    refine hR _ _ h al1 _ H1 _ ⟨s.ext.pre, s.ext.new, s.ext.same.trans sG, s.ext.frm, fun a ha => ?_, s.ext.thr⟩ w2 (.lst upd_same (r.mono sG fun _ _ h => h))
    by_cases e : a = p
    · subst e; exact .inr (.inr (.inl (.inl s.new)))
    · rw [upd_ne e] at ha
      rcases s.ext.gnew a ha with q | q | q | ⟨c, y, q⟩
      · exact .inl q
      · exact .inr (.inl q)
      · exact .inr (.inr (.inl q))
      · exact .inr (.inr (.inr ⟨c, y, (upd_ne e).trans q⟩))
  | true =>
    have pre : ∀ (n : Nat) (a : Addr), al1[n]? = some a → (al1 ++ [p])[n]? = some a := fun n a h => by
      rw [List.getElem?_append_left (List.getElem?_eq_some_iff.mp h).1]; exact h
    have w2 := w.adoptW (mo := .lst ds) s.out (by rw [hp]; simp) ⟨s.cold, vs, hp, r.mono (Same.refl _) pre⟩
    refine hR _ _ h _ _ H1 _ ⟨fun n a z => pre n a (s.ext.pre n a z), fun a z => ?_, s.ext.same, s.ext.frm, fun a z => ?_, s.ext.thr⟩ w2 (.ref ?_)
    · rcases List.mem_append.mp z with z | z
      · exact s.ext.new a z
      · rw [List.mem_singleton] at z; subst z; exact .inr (.inl s.new)
    · rcases s.ext.gnew a z with q | q | q
      · exact .inl q
      · exact .inr (.inl (List.mem_append_left _ q))
      · exact .inr (.inr q)
    · rw [← w.len, List.getElem?_append_right (Nat.le_refl _)]
      simp
/-- the comprehension's loop -/
theorem lc_goes {K : PySem.W.Frag} {J : It} {al al1 : List Addr} {G G1 H H1 : Hp} {M1 : Mem} {de : Lo} {σ : L2.St} {xs : List D} {stay : Mem → Prop} {g : TGd} {tt : TTd} {te : TEd} {R : List D → Mem → Prop} {Qd : Hp → Prop} {p : Addr}
    (wk : WalkD K al1 G1 xs stay J) (st : RelSt K G1 al1 de σ) (w : World K G1 al1 H1 M1) (hst : stay M1) (hp : H1 p = none) (h : lcL stay g tt te (wipeD de vs) xs [] M1 R)
    (hR : ∀ acc M', R acc M' → ∀ al' G' H' us, Side K al1 al' G1 G' H1 H' p → World K G' al' H' M' → H' p = some (.lst us) → RelDs K G' al' acc us → Qd H') :
    ∃ Wl : Nat → Nat → Hp → Prop, (∃ m, Wl 0 m (upd H1 p (.lst []))) ∧ ∀ i m H, Wl i m H →
      (J.stop i H ∧ Qd H) ∨ (J.go i H ∧ ∃ Nx : Hp → Prop, (∀ H', Nx H' → ∃ m', m' < m ∧ Wl (i + 1) m' H') ∧ ∀ x H', J.yld i H x H' → liftGw K vs g x (L2.wipe σ vs) H' fun σ2 H2 => L2.wipe σ2 vs = L2.wipe σ vs ∧ liftT K W0 tt σ2 H2 fun b H3 =>
        if b = true then liftE K W0 te σ2 H3 fun y H4 => ∃ acc, H4 p = some (.lst acc) ∧ acc.length < sizeLine ∧ Nx (upd H4 p (.lst (acc ++ [y]))) else Nx H3) := by
  obtain ⟨Gd, Y, wk, k1, k2⟩ := wk
  obtain ⟨s0, w0⟩ := Side.start (o := .lst []) w hp
  have ww : ∀ σ : L2.St, L2.wipe (L2.wipe σ vs) vs = L2.wipe σ vs := fun σ => by
    apply List.ext_getElem?
    intro i
    by_cases hi : i ∈ vs
    · have key : ∀ (τ : L2.St) (ws : List Nat), i ∈ ws → (L2.wipe τ ws)[i]? = if i < τ.length then some none else none := by
        intro τ ws
        induction ws with
        | nil => intro h; cases h
        | cons v ws ih =>
          intro hm
          unfold L2.wipe
          by_cases e : v = i
          · subst e
            by_cases hl : v < τ.length
            · rw [if_pos hl, List.getElem?_set_self (by rw [wipe_length]; exact hl)]
            · rw [if_neg hl, List.getElem?_eq_none (by simp [wipe_length]; omega)]
          · rw [List.getElem?_set_ne e]
            rcases List.mem_cons.mp hm with z | z
            · exact absurd z.symm e
            · exact ih z
      rw [key _ _ hi, key _ _ hi, wipe_length]
    · rw [wipe_out hi, wipe_out hi]
  refine lc_it wk (fun i H => ∃ al' G' M' acc us, Side K al1 al' G1 G' H1 H p ∧ World K G' al' H M' ∧ stay M' ∧ H p = some (.lst us) ∧ RelDs K G' al' acc us ∧ lcL stay g tt te (wipeD de vs) (xs.drop i) acc M' R) ⟨al1, G1, M1, [], [], s0, w0, hst, upd_same, .nil, by simpa using h⟩
    (fun i H _ ⟨al', G', M', acc, us, s, w', st', _⟩ => k1 al' G' H M' s.ext.pre s.ext.same w' st') (fun i x H H' hi ⟨al', G', M', acc, us, s, w', st', hpp, ra, q⟩ y => ?_) (fun H ⟨al', G', M', acc, us, s, w', st', hpp, ra, q⟩ => ?_)
  · have hx : xs[i]? = some xs[i] := List.getElem?_eq_getElem hi
    obtain ⟨G'', e3, w3, rx⟩ := k2 i _ al' G' H M' x H' hx s.ext.pre s.ext.same w' st' y
    rw [List.drop_eq_getElem_cons hi] at q
    obtain ⟨s3, hp3⟩ := s.step e3 hpp w3.sub solid_lst
    refine ⟨al', G'', M', wipeD de vs, _, _, ⟨w3, (st.wipe vs).ext s3.ext⟩, rx, q, fun de4 M4 q4 al4 G4 H4 σ4 e4 w4 r4 k4 => ⟨k4.trans (ww σ), ?_⟩⟩
    obtain ⟨s4, hp4⟩ := s3.step e4 hp3 w4.sub solid_lst
    refine liftT.mk ⟨w4, r4⟩ q4 (fun b M5 q5 al5 G5 H5 e5 w5 => ?_) (fun _ _ _ z => z.elim)
    obtain ⟨s5, hp5⟩ := s4.step e5 hp4 w5.sub solid_lst
    cases b with
    | false =>
      rw [if_neg Bool.false_ne_true]
      exact ⟨al5, G5, M5, acc, us, s5, w5, q5.1, hp5, ra.ext ((e3.trans e4).trans e5), q5.2⟩
    | true =>
      rw [if_pos rfl]
      refine liftE.mk ⟨w5, r4.ext e5⟩ q5 (fun z M6 q6 al6 G6 H6 v6 e6 w6 r6 => ?_) (fun _ _ _ z => z.elim)
      obtain ⟨s6, hp6⟩ := s5.step e6 hp5 w6.sub solid_lst
      have ra6 := ra.ext (((e3.trans e4).trans e5).trans e6)
      exact ⟨us, hp6, by rw [← ra6.length]; exact q6.1, al6, G6, M6, acc ++ [z], us ++ [v6], s6.poke, w6.poke s6.cold s6.out, q6.2.1, upd_same, ra6.append (.cons r6 .nil), q6.2.2⟩
  · rw [List.drop_length] at q
    exact hR _ _ q _ _ _ _ s w' hpp ra
end
end Dx
/-! Dx7: list comprehensions as values and as stores; pairs of stores; op=; equality of data; in. -/
namespace Dx
open PySem PySem.Spec L2
section
variable {X : Cx} {W : WX} {e a b c o tg iter elt : Expr} {es ifs : List Expr} {pos p apos cpos p2 : Pos} {ta tb tc te : TEd} {t : TAd}
abbrev cEnv (X : Cx) (scope : Scope) (cl : List (Str × Addr)) (C : Addr) : Env := compEnvC scope cl C X.env
/-- where a comprehension's own code runs -/
abbrev AllIn (X : Cx) (scope : Scope) (Pr : Cx → Prop) : Prop := ∀ (s : Shared) (H : Hp) (C : Addr) (cl : List (Str × Addr)) (fp : List Addr), Pr (X.blk s H scope (compEnvC scope cl C X.env) fp)
theorem lcD_of {ti : TId} {g : TGd} {tt : TTd} {te : TEd} {m : Bool} {vs : List Nat} : ∀ σ H Q, liftE X.K W (eLc m vs ti g tt te) σ H Q → tLc (liftI X.K W ti) (liftGw X.K vs g) (liftT X.K W0 tt) (liftE X.K W0 te) vs σ H Q :=
  fun σ H Q ⟨al, G, M, de, R, S, at_, ht, hR, hS⟩ => ⟨al, G, M, de, _, S, at_, ht, fun xs stay M1 q al1 G1 H1 J e1 w1 hst wk => fun Da hD =>
    lc_goes (al := al) (G := G) (H := H) wk (at_.st.ext e1) w1 hst hD q (fun acc M' ra al' G' H' us s w2 hp rr => s.list w2 hp rr ra (hR.ext e1)), hS⟩
theorem pd_lc (m : Bool) {scope : Scope} {own : List (Str × Nat)} {ti : TId} {g : TGd} {tt : TTd} (hc : X.calm = true) (hN : X.N.Nodup) (hi : PId X W tg iter ti) (ok : BlkOk X.N X.env.scope scope own)
    (hg : AllIn X scope fun Y => PGw Y (own.map (·.2)) tg g) (ht : AllIn X scope fun Y => PTsd Y ifs tt) (he : AllIn X scope fun Y => PEd Y W0 elt te) (hs : ∀ x, foldedSetIterable iter X.env x = pure x := by intro _; rfl) :
    PEd X W (.ListComp elt [⟨tg, iter, ifs, 0⟩] scope pos) (eLc m (own.map (·.2)) ti g tt te) := PE.imp (pe_lc hc hN hi ok hg ht he hs) lcD_of
theorem psd_setLc (m : Bool) (i : Nat) {y : Str} {py spos : Pos} {scope : Scope} {own : List (Str × Nat)} {ti : TId} {g : TGd} {tt : TTd} (hc : X.calm = true) (hN : X.N.Nodup) (hi : PId X W tg iter ti) (ok : BlkOk X.N X.env.scope scope own)
    (hg : AllIn X scope fun Y => PGw Y (own.map (·.2)) tg g) (ht : AllIn X scope fun Y => PTsd Y ifs tt) (he : AllIn X scope fun Y => PEd Y W0 elt te)
    (hy : X.N[i]? = some y := by rfl) (hyl : X.env.scope.names.lookup y = some .local := by rfl) (hsw : swapsWith (.ListComp elt [⟨tg, iter, ifs, 0⟩] scope pos) (some (.Name y py)) spos.line X.env = pure true := by rfl)
    (hs : ∀ x, foldedSetIterable iter X.env x = pure x := by intro _; rfl) :
    PSd X W (.Assign [.Name y py] (.ListComp elt [⟨tg, iter, ifs, 0⟩] scope pos) spos) (sSet i (eLc m (own.map (·.2)) ti g tt te)) :=
  PS.imp (ps_setLc hc hN hy hyl hsw hi ok hg ht he hs) fun D σ H ⟨al, G, M, de, N, R, S, at_, ht, hN, hR, hS⟩ =>
    lcD_of _ _ _ (liftE.mk at_ ht (fun x M1 h1 al1 G1 H1 v e1 w1 r1 => hN _ _ h1 _ _ _ _ e1 w1 ((at_.st.ext e1).set r1 i)) (hS.at_ at_.st))
/-- a, b = x, y -/
theorem psd_par (i j : Nat) {x y : Str} {px py pt : Pos} {kt k2 pt2} (hc : X.calm = true) (hN : X.N.Nodup) (ha : PAd X W [a, b] t) (hi : X.N[i]? = some x := by rfl) (hj : X.N[j]? = some y := by rfl) (hij : i ≠ j := by decide)
    (hx : X.env.scope.names.lookup x = some .local := by rfl) (hy : X.env.scope.names.lookup y = some .local := by rfl)
    (hw : swappedStores [.Tuple [.Name x px, .Name y py] kt pt] (.Tuple [a, b] k2 pt2) X.env = pure (some [x, y]) := by rfl)
    (hs : swapsWithSole [.Tuple [.Name x px, .Name y py] kt pt] (.Tuple [a, b] k2 pt2) pos.line X.env = pure false := by rfl) :
    PSd X W (.Assign [.Tuple [.Name x px, .Name y py] kt pt] (.Tuple [a, b] k2 pt2) pos) (sPar i j t) :=
  PS.imp (ps_par hc hN hi hj hij hx hy ha hw hs) fun D σ H ⟨al, G, M, de, N, R, S, at_, ht, hN, hR, hS⟩ => liftA.mk at_ ht (fun ds M1 ⟨d1, d2, e, q⟩ al1 G1 H1 vs e1 w1 r1 => by
    subst e
    obtain ⟨v, u, rfl, rv, ru⟩ := rel2 r1
    exact ⟨v, u, rfl, hN _ _ q _ _ _ _ e1 w1 (((at_.st.ext e1).set rv i).set ru j)⟩) (hS.at_ at_.st)
/-- name += e, ints -/
def sAug (i : Nat) (f : Int → Int → Int) (te : TEd) : TSd := fun E de M S => ∃ n, de[i]? = some (some (.int n)) ∧ te de M (fun y M1 => match y with | .int k => E.nx (de.set i (some (.int (f n k)))) M1 | _ => False) (SE S de)
theorem psd_augI {op : Operator} {f : Int → Int → Int} (ho : PIp X op (ipI f)) (i : Nat) {x : Str} {pos' : Pos} (hN : X.N.Nodup) (he : PEd X W e te) (hi : X.N[i]? = some x := by rfl) (hx : Loc X.env.scope x := by first | exact Or.inl rfl | exact Or.inr rfl)
    (hf : X.fn x = true ∨ X.env.scope.names.lookup x = some .local := by first | exact .inl rfl | exact .inr rfl | assumption) : PSd X W (.AugAssign (.Name x pos') op e pos) (sAug i f te) :=
  PS.imp (ps_aug hN hi hx he ho hf) fun D σ H ⟨al, G, M, de, N, R, S, at_, ⟨n, h1, ht⟩, hN, hR, hS⟩ => by
    obtain ⟨v, ev, rv⟩ := at_.st.at_ i _ h1
    refine ⟨v, ev, liftE.mk at_ ht (fun y M1 h1 al1 G1 H1 u e1 w1 r1 => ?_) (hS.at_ at_.st)⟩
    cases y <;> try exact h1.elim
    cases rv; cases r1
    exact ⟨_, _, rfl, rfl, hN _ _ h1 _ _ _ _ e1 w1 ((at_.st.ext e1).set (.int _) i)⟩
theorem psd_augAdd (i : Nat) {x : Str} {pos' : Pos} (hN : X.N.Nodup) (he : PEd X W e te) (hi : X.N[i]? = some x := by rfl) (hx : Loc X.env.scope x := by first | exact Or.inl rfl | exact Or.inr rfl)
    (hf : X.fn x = true ∨ X.env.scope.names.lookup x = some .local := by first | exact .inl rfl | exact .inr rfl | assumption) : PSd X W (.AugAssign (.Name x pos') .Add e pos) (sAug i (fun i j => i + j) te) := psd_augI ip_add i hN he hi hx hf

/-! ### data -/
mutual
/-- a frozen value as data -/
def pdOf : D → Option PyData
  | .non => some .none
  | .bl b => some (.bool b)
  | .int i => some (.int i)
  | .str s => some (.str s)
  | .tup xs => (pdAll xs).map .tuple
  | .lst xs => (pdAll xs).map .list
  | .kls xs => (pdAll xs).map .list
  | .obj _ _ => none
  | .ref _ => none
  | .adr _ => none
  | .ty _ => none
  | .exc _ _ _ => none
def pdAll : List D → Option (List PyData)
  | [] => some []
  | d :: ds => match pdOf d, pdAll ds with
    | some x, some xs => some (x :: xs)
    | _, _ => none
end
/-- the same, a list that may change read as it is -/
def pdM (M : Mem) (d : D) : Option PyData := match d with
  | .ref n => match M[n]? with
    | some (.lst xs) => (pdAll xs).map .list
    | _ => none
  | d => pdOf d
section
variable {K : PySem.W.Frag} {G H : Hp} {al : List Addr} {M : Mem}
mutual
theorem dpOf (w : World K G al H M) : ∀ {d : D} {v : V} {x : PyData}, RelD K G al d v → pdOf d = some x → Dp K H v x
  | .non, _, _, r, h => by cases r; cases h; exact .non
  | .bl _, _, _, r, h => by cases r; cases h; exact .bl _
  | .int _, _, _, r, h => by cases r; cases h; exact .int _
  | .str _, _, _, r, h => by cases r; cases h; exact .str _
  | .tup xs, _, _, r, h => by
    cases r with
    | tup hq rs =>
      obtain ⟨ys, e, rfl⟩ := Option.map_eq_some_iff.mp h
      exact .tup (SqT_same w.sub hq) (dpAll w rs e)
  | .lst xs, _, _, r, h => by
    cases r with
    | lst hq rs =>
      obtain ⟨ys, e, rfl⟩ := Option.map_eq_some_iff.mp h
      exact .lst (.inl (.inl (w.sub _ _ hq))) (dpAll w rs e)
  | .kls xs, _, _, r, h => by
    cases r with
    | kls hq rs =>
      obtain ⟨ys, e, rfl⟩ := Option.map_eq_some_iff.mp h
      exact .lst (w.sub.seq hq) (dpAll w rs e)
theorem dpAll (w : World K G al H M) : ∀ {ds : List D} {vs : List V} {xs : List PyData}, RelDs K G al ds vs → pdAll ds = some xs → DpAll K H vs xs
  | [], _, _, r, h => by cases r; cases h; exact .nil
  | d :: ds, _, _, r, h => by
    cases r with
    | cons r1 r2 =>
      unfold pdAll at h
      split at h
      · rename_i x xs h1 h2
        cases h
        exact .cons (dpOf w r1 h1) (dpAll w r2 h2)
      · cases h
end
theorem dpM (w : World K G al H M) {d : D} {v : V} {x : PyData} (r : RelD K G al d v) (h : pdM M d = some x) : Dp K H v x := by
  cases d <;> try exact dpOf w r h
  rename_i n
  simp only [pdM] at h
  split at h
  · rename_i xs e2
    obtain ⟨ys, e, rfl⟩ := Option.map_eq_some_iff.mp h
    obtain ⟨a, vs, rfl, _, _, hq, rv⟩ := w.refLst r e2
    exact .lst (.inl (.inl hq)) (dpAll w rv e)
  · cases h
end
/-- x == y, x != y -/
def oEqD (neg : Bool) : O2 := fun x y M R => ∃ d e, pdM M x = some d ∧ pdM M y = some e ∧ SeqAt.shaped d = true ∧ SeqAt.shaped e = true ∧ R (.bl (if neg then !PyData.eqv d e else PyData.eqv d e)) M
theorem oEqD_ok {K : PySem.W.Frag} : OpOk K (rEqD K) (oEqD false) := fun al G H M x y v u R Q w rx ry ⟨d, e, h1, h2, h3, h4, h5⟩ hR => ⟨d, e, dpM w rx h1, dpM w ry h2, h3, h4, hR.now h5 w (.bl _)⟩
theorem oNeD_ok {K : PySem.W.Frag} : OpOk K (rNeD K) (oEqD true) := fun al G H M x y v u R Q w rx ry ⟨d, e, h1, h2, h3, h4, h5⟩ hR => ⟨d, e, dpM w rx h1, dpM w ry h2, h3, h4, hR.now h5 w (.bl _)⟩
theorem pd_eqD (hu : X.A.units + 64 < cLine) (ha : PEd X W a ta) (hb : PEd X W b tb) (hm : behindInMarks .Eq b = false := by rfl) : PEd X W (.Compare a [.Eq] [b] pos) (eOp (oEqD false) ta tb) := pd_cmp (op_eqD hu) oEqD_ok ha hb hm
theorem pd_neD (hu : X.A.units + 64 < cLine) (ha : PEd X W a ta) (hb : PEd X W b tb) (hm : behindInMarks .NotEq b = false := by rfl) : PEd X W (.Compare a [.NotEq] [b] pos) (eOp (oEqD true) ta tb) := pd_cmp (op_neD hu) oNeD_ok ha hb hm
theorem pdt_eqD (hu : X.A.units + 64 < cLine) (ha : PEd X W a ta) (hb : PEd X W b tb) (hm : behindInMarks .Eq b = false := by rfl) : PTd X W (.Compare a [.Eq] [b] pos) (eB (eOp (oEqD false) ta tb)) := pdt_cmp (op_eqD hu) oEqD_ok ha hb hm
theorem pdt_neD (hu : X.A.units + 64 < cLine) (ha : PEd X W a ta) (hb : PEd X W b tb) (hm : behindInMarks .NotEq b = false := by rfl) : PTd X W (.Compare a [.NotEq] [b] pos) (eB (eOp (oEqD true) ta tb)) := pdt_cmp (op_neD hu) oNeD_ok ha hb hm
/-- x in xs, x not in xs, data -/
def oInD (neg : Bool) : O2 := fun x y M R => ∃ d ds, pdM M x = some d ∧ pdM M y = some (.list ds) ∧ SeqAt.shaped d = true ∧ SeqAt.shaped (.list ds) = true ∧ R (.bl (if neg then !(ds.any fun z => PyData.eqv z d) else ds.any fun z => PyData.eqv z d)) M
theorem oInD_ok {K : PySem.W.Frag} : OpOk K (rInD K) (oInD false) := fun al G H M x y v u R Q w rx ry ⟨d, e, h1, h2, h3, h4, h5⟩ hR => ⟨d, e, dpM w rx h1, dpM w ry h2, h3, h4, hR.now h5 w (.bl _)⟩
theorem oNotInD_ok {K : PySem.W.Frag} : OpOk K (rNotInD K) (oInD true) := fun al G H M x y v u R Q w rx ry ⟨d, e, h1, h2, h3, h4, h5⟩ hR => ⟨d, e, dpM w rx h1, dpM w ry h2, h3, h4, hR.now h5 w (.bl _)⟩
theorem pd_inD (hu : X.A.units + 65 < cLine) (ha : PEd X W a ta) (hb : PEd X W b tb) (hm : behindInMarks .In b = false := by rfl) : PEd X W (.Compare a [.In] [b] pos) (eOp (oInD false) ta tb) := pd_cmp (op_inD hu) oInD_ok ha hb hm
theorem pd_notInD (hu : X.A.units + 65 < cLine) (ha : PEd X W a ta) (hb : PEd X W b tb) (hm : behindInMarks .NotIn b = false := by rfl) : PEd X W (.Compare a [.NotIn] [b] pos) (eOp (oInD true) ta tb) := pd_cmp (op_notInD hu) oNotInD_ok ha hb hm
theorem pdt_inD (hu : X.A.units + 65 < cLine) (ha : PEd X W a ta) (hb : PEd X W b tb) (hm : behindInMarks .In b = false := by rfl) : PTd X W (.Compare a [.In] [b] pos) (eB (eOp (oInD false) ta tb)) := pdt_cmp (op_inD hu) oInD_ok ha hb hm
theorem pdt_notInD (hu : X.A.units + 65 < cLine) (ha : PEd X W a ta) (hb : PEd X W b tb) (hm : behindInMarks .NotIn b = false := by rfl) : PTd X W (.Compare a [.NotIn] [b] pos) (eB (eOp (oInD true) ta tb)) := pdt_cmp (op_notInD hu) oNotInD_ok ha hb hm
/-- x in a list or tuple of flat values (ints, texts, ..) -/
def fV : D → Option V
  | .non => some .non
  | .bl b => some (.bl b)
  | .int i => some (.int i)
  | .str s => some (.str s)
  | _ => none
def fVs : List D → Option (List V)
  | [] => some []
  | d :: ds => match fV d, fVs ds with
    | some x, some xs => some (x :: xs)
    | _, _ => none
theorem fV_rel {K : PySem.W.Frag} {G : Hp} {al : List Addr} {d : D} {v u : V} (r : RelD K G al d v) (h : fV d = some u) : v = u ∧ flatV v = true := by
  cases r <;> cases h <;> exact ⟨rfl, rfl⟩
theorem fVs_rel {K : PySem.W.Frag} {G : Hp} {al : List Addr} : ∀ {ds : List D} {vs us : List V}, RelDs K G al ds vs → fVs ds = some us → vs = us ∧ vs.all flatV = true
  | [], _, _, r, h => by cases r; cases h; exact ⟨rfl, rfl⟩
  | d :: ds, _, _, r, h => by
    cases r with
    | cons r1 r2 =>
      unfold fVs at h
      split at h
      · rename_i x xs h1 h2
        cases h
        obtain ⟨rfl, k1⟩ := fV_rel r1 h1
        obtain ⟨rfl, k2⟩ := fVs_rel r2 h2
        exact ⟨rfl, by rw [List.all_cons, k1, k2]; rfl⟩
      · cases h
def oInF (neg : Bool) : O2 := fun x y M R => ∃ ds v vs, seqOf M y = some ds ∧ fV x = some v ∧ fVs ds = some vs ∧ R (.bl (if neg then !inV v vs else inV v vs)) M
theorem oInF_ok {K : PySem.W.Frag} {neg : Bool} : OpOk K (rIn K neg) (oInF neg) := fun al G H M x y v u R Q w rx ry ⟨ds, z, vs, h1, h2, h3, h4⟩ hR => by
  obtain ⟨a, us, rfl, hq, rv⟩ := w.seq ry h1
  obtain ⟨rfl, k1⟩ := fV_rel rx h2
  obtain ⟨rfl, k2⟩ := fVs_rel rv h3
  exact ⟨a, us, rfl, hq, k1, k2, hR.now h4 w (.bl _)⟩
theorem pd_inF (ha : PEd X W a ta) (hb : PEd X W b tb) (hm : behindInMarks .In b = false := by rfl) : PEd X W (.Compare a [.In] [b] pos) (eOp (oInF false) ta tb) := pd_cmp op_in_seq oInF_ok ha hb hm
theorem pd_notInF (ha : PEd X W a ta) (hb : PEd X W b tb) (hm : behindInMarks .NotIn b = false := by rfl) : PEd X W (.Compare a [.NotIn] [b] pos) (eOp (oInF true) ta tb) := pd_cmp op_notIn_seq oInF_ok ha hb hm
theorem pdt_inF (ha : PEd X W a ta) (hb : PEd X W b tb) (hm : behindInMarks .In b = false := by rfl) : PTd X W (.Compare a [.In] [b] pos) (eB (eOp (oInF false) ta tb)) := pdt_cmp op_in_seq oInF_ok ha hb hm
theorem pdt_notInF (ha : PEd X W a ta) (hb : PEd X W b tb) (hm : behindInMarks .NotIn b = false := by rfl) : PTd X W (.Compare a [.NotIn] [b] pos) (eB (eOp (oInF true) ta tb)) := pdt_cmp op_notIn_seq oInF_ok ha hb hm
end

/-! ### data of a Lean type -/
/-- a Lean type whose values are told as frozen values -/
class Enc (α : Type) [DecidableEq α] [PySem.W.Datum α] where
  enc : α → D
  pd : ∀ a, pdOf (enc a) = some (PySem.W.Datum.toD a)
end Dx
/-! Dx8: sorted(..) of tuples told apart by a first int: of lists, of d.items(); sorted(dict of ints). -/
namespace Dx
open PySem PySem.Spec PyProof.Rows L2
section
variable {P : Program} {w : PySem.World} {A : Around} {E : Value → Shared → Prop} {s : Shared}
/-- sorted(x), whatever x is walked to -/
theorem sorted_any {x : Value} {Q : Value → Shared → Prop}
    (h : ∀ E' : Value → Shared → Prop, wpAny (model P w) A.in1 (collect x) (fun us s1 => ∃ ltv, SrtO.Swo ltv ∧ us.length ≤ sizeLine ∧
      (2 ≤ us.length → ∀ (h1 : Heap) (a : Addr), h1.get? a = some (seqObj "list" us.toArray 0) → (∀ b o, s1.heap.get? b = some o → b ≠ a ∧ h1.get? b = some o) → SrtO.SortableO P w A.in1.in1 { s1 with heap := h1 } a us ltv) ∧
      ∀ (h' : Heap) (d : Addr) (out : List Value), SrtO.Srtd ltv out → SrtO.Stb ltv out us → (∀ b o, s1.heap.get? b = some o → h'.get? b = some o) → s1.heap.objs.size ≤ d → (∃ n, h'.get? d = some (seqObj "list" out.toArray n)) → Q (.ref d) { s1 with heap := h' }) E' s) :
    wpAny (model P w) A (call (.builtin "sorted") [x]) Q E s := by
  refine Calls.call_function_entry kind_sorted plain_sorted entry_sorted (args_sorted1 _) (?_ : wpAny _ _ _ _ _ _)
  unfold Builtin.«sorted»
  refine wpAny_bind (m := checkCount "sorted" 1 1 _) (wpAny_pure (wpAny_bind (wpAny_mono (h _) (fun us s1 q => ?_) fun _ _ e => e)))
  obtain ⟨ltv, O, hz, hS, hQ⟩ := q
  refine wpAny_bind (wpAny_newList (?_ : _) hz)
  have hL : (s1.heap.push (seqObj "list" us.toArray 0)).get? s1.heap.objs.size = some (seqObj "list" us.toArray 0) := Heap.get?_push_size _ rfl
  refine wpAny_bind (wpAny_holding (wpAny_call_entry slot_list_sort ⟨_, hL, rfl⟩ entry_list_sort (SrtO.list_sort_ord (s := { s1 with heap := s1.heap.push (seqObj "list" us.toArray 0) }) O hL hz (fun h2 => hS h2 _ _ hL fun b o e => ⟨Nat.ne_of_lt (Heap.lt_size e), Heap.get?_push_of_some _ e⟩) fun out q1 q2 => ⟨_, rfl, ?_⟩) (args_list_sort _)))
  obtain ⟨n, hn⟩ := sortedHeap_at (vs := us) (out := out.toArray) hL
  refine wpAny_pure ⟨_, rfl, hQ _ _ out q1 q2 (fun b o e => ?_) (Nat.le_refl _) ⟨n, hn⟩⟩
  have hlt := Heap.lt_size e
  rw [sortedHeap_old (Nat.ne_of_lt hlt) (by rw [size_push']; exact Nat.lt_succ_of_lt hlt)]
  exact Heap.get?_push_of_some _ e

/-! ### tuples by their first int -/
def FstI (h : Heap) (v : Value) (k : Int) : Prop := ∃ a o t xs n, v = .ref a ∧ h.get? a = some o ∧ o.cls = .type "tuple" ∧ o.data = .seq xs n ∧ xs[0]? = some (Value.int k t)
theorem FstI.keeps {h h' : Heap} {v : Value} {k : Int} (p : FstI h v k) (q : ∀ b o, h.get? b = some o → o.cls = .type "tuple" → h'.get? b = some o) : FstI h' v k := by
  obtain ⟨a, o, t, xs, n, e, ho, hc, hd, hx⟩ := p
  exact ⟨a, o, t, xs, n, e, q a o ho hc, hc, hd, hx⟩
theorem FstI.uniq {h : Heap} {v : Value} {k j : Int} (p : FstI h v k) (q : FstI h v j) : k = j := by
  obtain ⟨a, o, t, xs, n, rfl, ho, hc, hd, hx⟩ := p
  obtain ⟨a', o', t', xs', n', e, ho', hc', hd', hx'⟩ := q
  cases e
  rw [ho] at ho'; cases ho'
  rw [hd] at hd'; cases hd'
  rw [hx] at hx'; cases hx'
  rfl
noncomputable def fstI (h : Heap) (v : Value) : Int := open Classical in if q : ∃ k, FstI h v k then q.choose else 0
theorem fstI_eq {h : Heap} {v : Value} {k : Int} (p : FstI h v k) : fstI h v = k := by
  have q : ∃ k, FstI h v k := ⟨k, p⟩
  unfold fstI
  rw [dif_pos q]
  exact q.choose_spec.uniq p
theorem swo_key {α : Type} (k : α → Int) : SrtO.Swo fun v u : α => decide (k v < k u) := by
  refine ⟨fun x y h => ?_, fun x y z h1 h2 => ?_⟩
  · have a := of_decide_eq_true h
    exact decide_eq_false (by omega)
  · have a := of_decide_eq_false h1
    have b := of_decide_eq_false h2
    exact decide_eq_false (by omega)
theorem kat_same {b : Bool} {Q : Bool → Shared → Prop} (h : Q false s) : ∀ (l : List Value) (i : Nat), PySem.W.KatLex P w A b false Q (l.zip l) i s
  | [], _ => PySem.W.kat_nil h
  | v :: l, i => PySem.W.kat_cons (SeqAt.EqAt.same v P w _ _ (PySem.W.kat_yes (kat_same h l (i + 1))))
theorem fst_cmp {vs : List Value} (hp : ∀ v ∈ vs, ∃ k, FstI s.heap v k) (hd : ∀ v ∈ vs, ∀ u ∈ vs, ∀ k, FstI s.heap v k → FstI s.heap u k → v = u) :
    SrtO.Cmp P w A s (tuples' true) (fun p => p.1 ∈ vs) (SrtO.lt2 fun v u => decide (fstI s.heap v < fstI s.heap u)) := by
  intro p q hm hm'
  obtain ⟨k, hk⟩ := hp _ hm
  obtain ⟨j, hj⟩ := hp _ hm'
  show wpAny (model P w) A (keyLt' (tuples' true) p.1 q.1) (fun r s' => s' = s ∧ r = decide (fstI s.heap p.1 < fstI s.heap q.1)) (fun _ _ => False) s
  rw [fstI_eq hk, fstI_eq hj]
  by_cases e : k = j
  · subst e
    have z := hd _ hm _ hm' k hk hj
    rw [← z]
    obtain ⟨a, o, t, xs, n, e1, ho, hc, hdd, hx⟩ := hk
    rw [e1]
    refine PySem.W.kat_lt ho hdd ho hdd ?_
    have e2 : decide (xs.size < xs.size) = false := decide_eq_false (Nat.lt_irrefl _)
    rw [e2]
    exact kat_same ⟨rfl, (decide_eq_false (Int.lt_irrefl _)).symm⟩ _ _
  · obtain ⟨a, o, t, xs, n, e1, ho, hc, hdd, hx⟩ := hk
    obtain ⟨a', o', t', xs', n', e1', ho', hc', hdd', hx'⟩ := hj
    rw [e1, e1']
    refine PySem.W.kat_lt ho hdd ho' hdd' ?_
    obtain ⟨r, hr⟩ : ∃ r, xs.toList = Value.int k t :: r := by
      rw [← Array.getElem?_toList] at hx
      cases hq : xs.toList with
      | nil => rw [hq] at hx; cases hx
      | cons y r => rw [hq] at hx; cases hx; exact ⟨r, rfl⟩
    obtain ⟨r', hr'⟩ : ∃ r, xs'.toList = Value.int j t' :: r := by
      rw [← Array.getElem?_toList] at hx'
      cases hq : xs'.toList with
      | nil => rw [hq] at hx'; cases hx'
      | cons y r => rw [hq] at hx'; cases hx'; exact ⟨r, rfl⟩
    rw [hr, hr']
    refine PySem.W.kat_cons (SeqAt.EqAt.int_int k t j t' P w _ _ (PySem.W.kat_go (fun e3 => absurd (by simpa using e3) e) fun _ => PySem.W.kat_no (oneLt_int ⟨rfl, rfl⟩)))
theorem fst_sortable {a : Addr} {vs : List Value} (h0 : 0 < vs.length) (hp : ∀ v ∈ vs, ∃ k, FstI s.heap v k) (hd : ∀ v ∈ vs, ∀ u ∈ vs, ∀ k, FstI s.heap v k → FstI s.heap u k → v = u) (ha : ∀ o, s.heap.get? a = some o → o.cls ≠ .type "tuple") :
    SrtO.SortableO P w A s a vs fun v u => decide (fstI s.heap v < fstI s.heap u) := by
  intro h' keep
  have kp : ∀ v ∈ vs, ∀ k, FstI s.heap v k → FstI h' v k := fun v hm k q => q.keeps fun b o e c => keep b o (fun z => ha o (z ▸ e) c) e
  have hp' : ∀ v ∈ vs, ∃ k, FstI h' v k := fun v hm => let ⟨k, q⟩ := hp v hm; ⟨k, kp v hm k q⟩
  have bk : ∀ v ∈ vs, ∀ k, FstI h' v k → FstI s.heap v k := fun v hm k q => by
    obtain ⟨j, r⟩ := hp v hm
    rw [q.uniq (kp v hm j r)]
    exact r
  have ef : ∀ v ∈ vs, fstI h' v = fstI s.heap v := fun v hm => by
    obtain ⟨k, q⟩ := hp v hm
    rw [fstI_eq q, fstI_eq (kp v hm k q)]
  obtain ⟨fs, h1, h2, h3⟩ : ∃ fs : List Value, PySem.W.KatTups h' vs fs ∧ fs.length = vs.length ∧ ∀ f ∈ fs, ∃ x t, f = Value.int x t := by
    clear ef bk kp keep hd h0
    induction vs with
    | nil => exact ⟨[], PySem.W.KatTups.nil, rfl, fun _ hm => by simp at hm⟩
    | cons v vs ih =>
      obtain ⟨fs, q1, q2, q3⟩ := ih (fun u hm => hp u (List.mem_cons_of_mem _ hm)) fun u hm => hp' u (List.mem_cons_of_mem _ hm)
      obtain ⟨k, b, o, t, xs, n, rfl, ho, hc, hdd, hx⟩ := hp' v List.mem_cons_self
      refine ⟨.int k t :: fs, PySem.W.KatTups.cons ho hc hdd hx q1, by rw [List.length_cons, List.length_cons, q2], fun f hm => ?_⟩
      rcases List.mem_cons.mp hm with rfl | hm
      · exact ⟨_, _, rfl⟩
      · exact q3 f hm
  refine ⟨tuples' true, fun Q E hq => ?_, fun p q hm hm' => ?_⟩
  · refine PySem.W.kat_kind (T := .type "int") h1 (by omega) (fun f hm => ?_) (by rfl) ?_
    · obtain ⟨x, t, rfl⟩ := h3 f hm
      exact PySem.W.Looks.now
    · exact hq
  · refine wpAny_mono (fst_cmp (s := { s with heap := h' }) hp' (fun v hv u hu k a b => hd v hv u hu k (bk v hv k a) (bk u hu k b)) p q hm hm') (fun r s' z => ⟨z.1, ?_⟩) fun _ _ z => z
    rw [z.2]
    show decide (fstI h' p.1 < fstI h' q.1) = decide (fstI s.heap p.1 < fstI s.heap q.1)
    rw [ef _ hm, ef _ hm']
/-- the items of a list of such tuples, sorted -/
theorem srt_lift {ps : List (V × D)} {us out : List Value} {key : D → Int} {h : Heap} (r : Vals (ps.map Prod.fst) us) (hk : ∀ (j : Nat) (p : V × D) (u : Value), ps[j]? = some p → us[j]? = some u → FstI h u (key p.2))
    (h1 : SrtO.Srtd (fun v u => decide (fstI h v < fstI h u)) out) (h2 : out.Perm us) : ∃ qs : List (V × D), qs.Perm ps ∧ Vals (qs.map Prod.fst) out ∧ qs.Pairwise (fun p q => key p.2 ≤ key q.2) := by
  have hl : ps.length = us.length := by simpa using r.length
  obtain ⟨zs, p1, p2⟩ := perm_lift Prod.snd h2 (ps.zip us) (List.map_snd_zip (by omega))
  have all : ∀ z ∈ zs, RelV z.1.1 z.2 ∧ FstI h z.2 (key z.1.2) := fun z hz => by
    obtain ⟨j, hj⟩ := List.mem_iff_getElem?.mp (p1.mem_iff.mp hz)
    obtain ⟨q1, q2⟩ := List.getElem?_zip_eq_some.mp hj
    have q3 : (ps.map Prod.fst)[j]? = some z.1.1 := by rw [List.getElem?_map, q1]; rfl
    obtain ⟨u, q4, q5⟩ := r.get q3
    rw [q2] at q4; cases q4
    exact ⟨q5, hk j _ _ q1 q2⟩
  refine ⟨zs.map Prod.fst, ?_, ?_, ?_⟩
  · have := p1.map Prod.fst
    rwa [List.map_fst_zip (by omega)] at this
  · rw [← p2, List.map_map]
    exact vals_maps (fun z => z.1.1) Prod.snd zs fun z hz => (all z hz).1
  · rw [← p2, SrtO.Srtd, List.pairwise_map] at h1
    rw [List.pairwise_map]
    refine List.Pairwise.imp_of_mem (fun {x y} hx hy h => ?_) h1
    rw [fstI_eq (all x hx).2, fstI_eq (all y hy).2] at h
    have := of_decide_eq_false h
    omega
end
section
variable {X : Cx}
/-- the first int of a tuple -/
def keyI : D → Int
  | .tup (.int k :: _) => k
  | _ => 0
def rSortedK (K : PySem.W.Frag) : List V → Hp → VK → Prop := fun vs H Q => ∃ (a : Addr) (ps : List (V × D)), vs = [V.ref a] ∧ SqL K H a (ps.map Prod.fst) ∧
  (∀ p ∈ ps, ∃ (t : Addr) (rest : List V), p.1 = V.ref t ∧ SqT K H t (.int (keyI p.2) :: rest)) ∧ (ps.map fun p => keyI p.2).Nodup ∧
  ∀ (qs : List (V × D)) (b : Addr), qs.Perm ps → qs.Pairwise (fun p q => keyI p.2 ≤ keyI q.2) → H b = none → Q (.ref b) (upd H b (.lst (qs.map Prod.fst)))
theorem fst_of {pins : List (Addr × Obj)} {σ : L2.St} {H : Hp} {s : Shared} {k : Int} {rest : List V} {t : Addr} (I : Inv X pins σ H s) (h : SqT X.K H t (.int k :: rest)) : FstI s.heap (.ref t) k := by
  obtain ⟨its, r, ⟨o, ho, hc, n, hd⟩, _⟩ := I.tuple h
  cases r with
  | cons r1 r2 =>
    obtain ⟨tk, rfl⟩ := r1
    exact ⟨t, o, tk, _, n, rfl, ho, hc, hd, by simp⟩
theorem cr_sortedK (hc : X.calm = true) : CallR X (.builtin "sorted") (rSortedK X.K) := by
  intro pins s σ H vs us Q I r h
  obtain ⟨a, ps, rfl, hs, hx, nd, q⟩ := h
  obtain ⟨its, rv, hl, hz⟩ := I.list hs
  rw [Vals.ref1 r]
  have hzl : its.length ≤ sizeLine := by rw [← rv.length]; exact hz
  have hk : ∀ (j : Nat) (p : V × D) (u : Value), ps[j]? = some p → its[j]? = some u → FstI s.heap u (keyI p.2) := fun j p u h1 h2 => by
    obtain ⟨t, rest, e, ht⟩ := hx p (List.mem_of_getElem? h1)
    have q3 : (ps.map Prod.fst)[j]? = some p.1 := by rw [List.getElem?_map, h1]; rfl
    obtain ⟨u', q4, q5⟩ := rv.get q3
    rw [h2] at q4; cases q4
    rw [e] at q5
    cases q5
    exact fst_of I ht
  have hlen : ps.length = its.length := by simpa using rv.length
  have at_ : ∀ v ∈ its, ∃ (j : Nat) (p : V × D), ps[j]? = some p ∧ its[j]? = some v := fun v hv => by
    obtain ⟨j, hj, e⟩ := List.mem_iff_getElem.mp hv
    exact ⟨j, ps[j]'(by omega), List.getElem?_eq_getElem _, by rw [← e]; exact List.getElem?_eq_getElem hj⟩
  have hp : ∀ v ∈ its, ∃ k, FstI s.heap v k := fun v hv => let ⟨j, p, h1, h2⟩ := at_ v hv; ⟨_, hk j p v h1 h2⟩
  have hd : ∀ v ∈ its, ∀ u ∈ its, ∀ k, FstI s.heap v k → FstI s.heap u k → v = u := fun v hv u hu k h1 h2 => by
    obtain ⟨i, p, a1, a2⟩ := at_ v hv
    obtain ⟨j, p', b1, b2⟩ := at_ u hu
    have e1 := h1.uniq (hk i p v a1 a2)
    have e2 := h2.uniq (hk j p' u b1 b2)
    have i1 : (ps.map fun p => keyI p.2)[i]? = some k := by rw [List.getElem?_map, a1, e1]; rfl
    have i2 : (ps.map fun p => keyI p.2)[j]? = some k := by rw [List.getElem?_map, b1, e2]; rfl
    have e3 : i = j := (List.getElem?_inj (List.getElem?_eq_some_iff.mp i1).1 nd).mp (i1.trans i2.symm)
    subst e3
    rw [a2] at b2; cases b2
    rfl
  refine sorted_any fun E' => collect_list hl.isList ⟨_, swo_key (fstI s.heap), hzl, fun h2 h1 b hb kk => ?_, fun h' d out q1 q2 k4 k5 k6 => ?_⟩ hzl
  · have old : ∀ b o, s.heap.get? b = some o → ((s.heap.push (seqObj "list" #[] 0)).update s.heap.objs.size (Obj.mapSeq (· ++ its.toArray))).get? b = some o := fun b o e => by
      rw [Heap.get?_update_ne _ _ _ _ (Nat.ne_of_lt (Heap.lt_size e))]
      exact Heap.get?_push_of_some _ e
    have kp : ∀ v ∈ its, ∀ k, FstI s.heap v k → FstI h1 v k := fun v _ k q => q.keeps fun b o e _ => (kk b o (old b o e)).2
    have bk : ∀ v ∈ its, ∀ k, FstI h1 v k → FstI s.heap v k := fun v hv k q => by
      obtain ⟨j, r⟩ := hp v hv
      rw [q.uniq (kp v hv j r)]
      exact r
    have z := fst_sortable (P := X.prog) (w := X.w) (A := X.A.in1.in1) (s := { s with heap := h1 }) (a := b) (vs := its) (by omega) (fun v hv => let ⟨k, q⟩ := hp v hv; ⟨k, kp v hv k q⟩) (fun v hv u hu k a1 a2 => hd v hv u hu k (bk v hv k a1) (bk u hu k a2)) fun o e => by
      have e' : some o = some (seqObj "list" its.toArray 0) := e.symm.trans hb
      cases e'
      intro c
      exact absurd (Value.type.inj c) (by decide)
    intro h'' keep
    obtain ⟨κ, z1, z2⟩ := z h'' keep
    refine ⟨κ, z1, fun p q hm hm' => wpAny_mono (z2 p q hm hm') (fun r s' zz => ⟨zz.1, ?_⟩) fun _ _ e => e⟩
    rw [zz.2]
    show decide (fstI h1 p.1 < fstI h1 q.1) = decide (fstI s.heap p.1 < fstI s.heap q.1)
    obtain ⟨k, f⟩ := hp _ hm
    obtain ⟨k', f'⟩ := hp _ hm'
    rw [fstI_eq f, fstI_eq f', fstI_eq (kp _ hm k f), fstI_eq (kp _ hm' k' f')]
  · obtain ⟨qs, p1, p2, p3⟩ := srt_lift rv hk q1 q2.perm
    obtain ⟨n, hn⟩ := k6
    have old : ∀ b o, s.heap.get? b = some o → h'.get? b = some o := fun b o e => k4 b o (by
      rw [Heap.get?_update_ne _ _ _ _ (Nat.ne_of_lt (Heap.lt_size e))]
      exact Heap.get?_push_of_some _ e)
    have hd5 : s.heap.objs.size ≤ d := Nat.le_trans (by rw [Heap.size_update, size_push']; exact Nat.le_succ _) k5
    refine ⟨.ref d, upd H d (.lst (qs.map Prod.fst)), I.laid (t' := s.toks) old hd5 ⟨?_, out, n, p2, hn⟩, rfl, q qs d p1 p3 (I.hok.fresh hd5)⟩
    rw [List.length_map, p1.length_eq, hlen]
    exact hzl
end
end Dx
/-! Dx9: sorted(d.items()), sorted(d); sorted as a rule of the layer. -/
namespace Dx
open PySem PySem.Spec PyProof.Rows L2
/-- as srt_lift, the items with anything beside them -/
theorem srt_lift2 {β : Type} {ps : List (V × β)} {us out : List Value} {key : β → Int} {h : Heap} (r : Vals (ps.map Prod.fst) us) (hk : ∀ (j : Nat) (p : V × β) (u : Value), ps[j]? = some p → us[j]? = some u → FstI h u (key p.2))
    (h1 : SrtO.Srtd (fun v u => decide (fstI h v < fstI h u)) out) (h2 : out.Perm us) : ∃ qs : List (V × β), qs.Perm ps ∧ Vals (qs.map Prod.fst) out ∧ qs.Pairwise (fun p q => key p.2 ≤ key q.2) := by
  have hl : ps.length = us.length := by simpa using r.length
  obtain ⟨zs, p1, p2⟩ := perm_lift Prod.snd h2 (ps.zip us) (List.map_snd_zip (by omega))
  have all : ∀ z ∈ zs, RelV z.1.1 z.2 ∧ FstI h z.2 (key z.1.2) := fun z hz => by
    obtain ⟨j, hj⟩ := List.mem_iff_getElem?.mp (p1.mem_iff.mp hz)
    obtain ⟨q1, q2⟩ := List.getElem?_zip_eq_some.mp hj
    have q3 : (ps.map Prod.fst)[j]? = some z.1.1 := by rw [List.getElem?_map, q1]; rfl
    obtain ⟨u, q4, q5⟩ := r.get q3
    rw [q2] at q4; cases q4
    exact ⟨q5, hk j _ _ q1 q2⟩
  refine ⟨zs.map Prod.fst, ?_, ?_, ?_⟩
  · have := p1.map Prod.fst
    rwa [List.map_fst_zip (by omega)] at this
  · rw [← p2, List.map_map]
    exact vals_maps (fun z => z.1.1) Prod.snd zs fun z hz => (all z hz).1
  · rw [← p2, SrtO.Srtd, List.pairwise_map] at h1
    rw [List.pairwise_map]
    refine List.Pairwise.imp_of_mem (fun {x y} hx hy h => ?_) h1
    rw [fstI_eq (all x hx).2, fstI_eq (all y hy).2] at h
    have := of_decide_eq_false h
    omega
/-- tuples laid and tracked -/
theorem tups_laid {X : Cx} {pins : List (Addr × Obj)} {σ : L2.St} {H : Hp} {s : Shared} {h' : Heap} {tk : Nat} {kvs : List (Key × V)} {vs : List (Key × Value)} {as : List Addr} {lo : Addr} (I : Inv X pins σ H s) (kv : KV kvs vs)
    (hk : ∀ b o, s.heap.get? b = some o → h'.get? b = some o) (hlo : s.heap.objs.size ≤ lo) (hl : as.length = vs.length) (hG : PySem.W.KdxG (mixKind X.prog X.w) vs lo h' as) :
    (∀ b o, H b = some o → LiI.putT H as kvs b = some o) ∧ (∀ t ∈ as, H t = none) ∧ as.Nodup ∧ Paired (fun (t : Addr) (q : Key × V) => LiI.putT H as kvs t = some (.tup [kV q.1, q.2])) as kvs ∧ (∀ b, b ∉ as → LiI.putT H as kvs b = H b) ∧ Inv X pins σ (LiI.putT H as kvs) { s with heap := h', toks := tk } := by
  have lk : kvs.length = vs.length := Paired.length kv
  have ge : ∀ t ∈ as, s.heap.objs.size ≤ t := fun t ht => Nat.le_trans hlo (Nat.le_of_lt (hG.above t ht))
  have new : ∀ t ∈ as, H t = none := fun t ht => I.hok.fresh (ge t ht)
  have nd : as.Nodup := hG.rise.imp fun h => Nat.ne_of_lt h
  have atP := LiI.putT_at as kvs H (by omega) nd
  have off : ∀ b, b ∉ as → LiI.putT H as kvs b = H b := fun b hb => LiI.putT_off as kvs H hb
  have kp : ∀ b o, H b = some o → LiI.putT H as kvs b = some o := fun b o e => (off b fun z => by rw [new b z] at e; cases e).trans e
  have low : ∀ b o, s.heap.get? b = some o → b ∉ as := fun b o e z => absurd (Heap.lt_size e) (Nat.not_lt.mpr (ge b z))
  refine ⟨kp, new, nd, atP, off, I.call' (ch := []) rfl ⟨fun b o q _ _ _ => hk b o q, fun b o q _ _ _ => ⟨o.slots, hk b o q⟩, fun b o q n _ => (off b (low b o q)).trans n, fun b o q _ => ⟨o, hk b o q⟩, fun b xs q => kp b _ q, fun b o u q => kp b _ q, fun b ps q => ⟨#[], by rw [kp b _ q]; simp⟩⟩ (fun b u q => ?_) I.bare fun b z => by simp at z⟩
  by_cases hb : b ∈ as
  · obtain ⟨j, pk, e1, e2, e3⟩ := LiI.paired_ix atP hb
    rw [e3] at q; cases q
    obtain ⟨key, k, x, f1, f2, f3⟩ := hG.pairs j b e1
    obtain ⟨qv, g1, g2, g3⟩ := LiI.paired_get kv e2
    rw [f1] at g1; cases g1
    have rk : RelV (kV pk.1) key := by rw [g2]; exact relV_key (show keyIs k key = true from f2)
    exact ⟨by show 2 ≤ sizeLine; decide, [key, x], .cons rk (.cons g3 .nil), ⟨_, f3, rfl, _, rfl⟩⟩
  · rw [off b hb] at q
    exact (I.hok b u q).stay (fun d v _ y => hk d v y) (fun d y => kp d _ y) fun d xs y => kp d _ y
def keyN : Key → Int
  | .inl i => i
  | .inr _ => 0
def rItemsS : V → Hp → VK → Prop := fun x H Q => ∃ (d : Addr) (kvs : List (Key × V)), x = .ref d ∧ H d = some (.dK kvs) ∧ (∀ kv ∈ kvs, ∃ i, kv.1 = .inl i) ∧ (kvs.map Prod.fst).Nodup ∧
  ∀ (H' : Hp) (b : Addr) (qs : List (Addr × (Key × V))), (∀ c o, H c = some o → H' c = some o) → H b = none → (∀ q ∈ qs, H q.1 = none) → (∀ q ∈ qs, q.1 ≠ b) → (∀ q ∈ qs, H' q.1 = some (.tup [kV q.2.1, q.2.2])) →
    (qs.map Prod.snd).Perm kvs → qs.Pairwise (fun p q => keyN p.2.1 ≤ keyN q.2.1) → (∀ c, c ≠ b → (∀ q ∈ qs, c ≠ q.1) → H' c = H c) → H' b = some (.lst (qs.map fun q => V.ref q.1)) → Q (.ref b) H'
def tItemsS (te : TE) : TE := fun σ H Q => te σ H fun x H1 => rItemsS x H1 Q
section
variable {X : Cx} {e : Expr} {te : TE} {p apos cpos pos : Pos}
/-- sorted(e.items()), the keys ints -/
theorem pe_itemsS (hc : X.calm = true) (he : PE X e te) (hg : Gl X "sorted") (hm : X.mg "sorted" = none) (hbase : attributeBase e "items" X.env (eval e X.env) = eval e X.env := by rfl) (hline : (apos.endLine == cpos.line) = true := by rfl)
    (hs : starEach [.Call (.Attribute e "items" apos) [] [] cpos] X.env = (false, eval (.Call (.Attribute e "items" apos) [] [] cpos) X.env) :: starEach [] X.env := by rfl) (hpl : (backTo pos (starEach [] X.env)).any (·.1) = false := by rfl) :
    PE X (.Call (.Name "sorted" p) [.Call (.Attribute e "items" apos) [] [] cpos] [] pos) (tItemsS te) := by
  refine ⟨fun pins s σ H Q I hq => ?_⟩
  refine wpAny_Call_Name_kw (ld_blt I hg hm (by decide +kernel : bootBuiltins "sorted" = some (.builtin "sorted")) (?_ : wpAny _ _ _ _ _ _))
  refine PyProof.Rows.callWith_builtin1 ?_ hs hpl
  rw [hs]
  show wpAny _ _ (spliced ((false, eval (.Call (.Attribute e "items" apos) [] [] cpos) X.env) :: backTo pos (starEach [] X.env))) _ _ s
  refine Calls.spliced_cons (wpAny_Call_method (T := "dict") (id := "dict.items") hbase rfl hline F.plainAttrs_dict F.slot_dict_items F.type_dict_items (thn (he.run pins s σ H _ I hq) fun u s1 ⟨x, H1, I1, rx, d, kvs, ex, hd, hik, hnd, q⟩ => ?_))
  subst ex
  obtain rfl : u = Value.ref d := rx
  obtain ⟨hz, hs0, vs, kv, hdo⟩ := I1.hok d _ hd
  obtain ⟨ep, hat⟩ := hdo.dictAt
  have lk : kvs.length = vs.length := Paired.length kv
  have I2 : Inv X pins σ H1 { s1 with heap := s1.heap.push { cls := .type "dict_items", data := .fields #[.ref d] } } := I1.kept (t' := s1.toks) fun b ob q => Heap.get?_push_of_some _ q
  refine ⟨hdo.typeIs, hdo.mapOf.noDict, ?_⟩
  show wpAny _ _ (callWith cpos (.builtin "dict.items") [.ref d] [] []) _ X.xe s1
  refine method_meetsIn F.slot_dict_items F.entry_dict_items rfl (PySem.evalArgs_none ⟨rfl, hdo.typeIs, F.args_dict_items_1 _, _, meets_dict_items (mixKind X.prog X.w) d hs0, ⟨vs, hdo⟩, Calls.spliced_nil ?_⟩)
  refine sorted_any fun E' => PySem.W.kdx_collect (knd := mixKind X.prog X.w) (kvs := vs) (ep := ep) (I1.ok.hd hc) ⟨_, Heap.get?_push_size _ rfl, rfl, rfl⟩ (hat.push _) (by omega) fun h' tk as hk hl hG => ?_
  obtain ⟨k1, k2, k3, k4, k5, J⟩ := tups_laid (tk := tk) I2 kv hk (Nat.le_refl _) hl hG
  have hla : as.length = kvs.length := by omega
  have hps : ((as.zip kvs).map fun z => (V.ref z.1, z)).map Prod.fst = as.map V.ref := by
    rw [List.map_map, show (Prod.fst ∘ fun z : Addr × (Key × V) => (V.ref z.1, z)) = (V.ref ∘ Prod.fst) from rfl, ← List.map_map, List.map_fst_zip (by omega)]
  have rv : Vals (((as.zip kvs).map fun z => (V.ref z.1, z)).map Prod.fst) (as.map Value.ref) := by rw [hps]; exact LiI.vals_refs as
  have tup : ∀ (j : Nat) (a : Addr) (kv : Key × V), as[j]? = some a → kvs[j]? = some kv → FstI h' (.ref a) (keyN kv.1) := fun j a kv' e1 e2 => by
    obtain ⟨key, k, x, f1, f2, f3⟩ := hG.pairs j a e1
    obtain ⟨qv, g1, g2, g3⟩ := LiI.paired_get kv e2
    rw [f1] at g1; cases g1
    have rk : RelV (kV kv'.1) key := by rw [g2]; exact relV_key (show keyIs k key = true from f2)
    obtain ⟨i, hi⟩ := hik kv' (List.mem_of_getElem? e2)
    rw [hi] at rk
    obtain ⟨t, rfl⟩ := (show ∃ t, key = Value.int i t from rk)
    rw [hi]
    exact ⟨a, _, t, _, _, rfl, f3, rfl, rfl, rfl⟩
  have hkk : ∀ (j : Nat) (p : V × (Addr × (Key × V))) (u : Value), ((as.zip kvs).map fun z => (V.ref z.1, z))[j]? = some p → (as.map Value.ref)[j]? = some u → FstI h' u (keyN p.2.2.1) := fun j p u h1 h2 => by
    rw [List.getElem?_map] at h1 h2
    obtain ⟨z, z1, rfl⟩ := Option.map_eq_some_iff.mp h1
    obtain ⟨a, a1, rfl⟩ := Option.map_eq_some_iff.mp h2
    obtain ⟨q1, q2⟩ := List.getElem?_zip_eq_some.mp z1
    rw [a1] at q1; cases q1
    exact tup j _ _ a1 q2
  have at_ : ∀ v ∈ as.map Value.ref, ∃ (j : Nat) (a : Addr) (kv : Key × V), v = .ref a ∧ as[j]? = some a ∧ kvs[j]? = some kv := fun v hv => by
    obtain ⟨a, ha, rfl⟩ := List.mem_map.mp hv
    obtain ⟨j, hj, e⟩ := List.mem_iff_getElem.mp ha
    exact ⟨j, a, kvs[j]'(by omega), rfl, by rw [← e]; exact List.getElem?_eq_getElem hj, List.getElem?_eq_getElem _⟩
  have hp : ∀ v ∈ as.map Value.ref, ∃ k, FstI h' v k := fun v hv => let ⟨j, a, kv, e, h1, h2⟩ := at_ v hv; ⟨_, e ▸ tup j a kv h1 h2⟩
  have hdd : ∀ v ∈ as.map Value.ref, ∀ u ∈ as.map Value.ref, ∀ k, FstI h' v k → FstI h' u k → v = u := fun v hv u hu k h1 h2 => by
    obtain ⟨i, a, kv1, rfl, a1, a2⟩ := at_ v hv
    obtain ⟨j, b, kv2, rfl, b1, b2⟩ := at_ u hu
    have e1 := h1.uniq (tup i a kv1 a1 a2)
    have e2 := h2.uniq (tup j b kv2 b1 b2)
    obtain ⟨x, hx⟩ := hik kv1 (List.mem_of_getElem? a2)
    obtain ⟨y, hy⟩ := hik kv2 (List.mem_of_getElem? b2)
    rw [hx] at e1; rw [hy] at e2
    have exy : x = y := e1.symm.trans e2
    have i1 : (kvs.map Prod.fst)[i]? = some (Sum.inl x) := by rw [List.getElem?_map, a2, ← hx]; rfl
    have i2 : (kvs.map Prod.fst)[j]? = some (Sum.inl x) := by rw [List.getElem?_map, b2, exy, ← hy]; rfl
    have e3 : i = j := (List.getElem?_inj (List.getElem?_eq_some_iff.mp i1).1 hnd).mp (i1.trans i2.symm)
    subst e3
    rw [a1] at b1; cases b1
    rfl
  refine ⟨_, swo_key (fstI h'), by rw [List.length_map]; omega, fun h2 h1 b hb kk => ?_, fun h'' b out q1 q2 k4' k5' k6 => ?_⟩
  · have kp : ∀ v ∈ as.map Value.ref, ∀ k, FstI h' v k → FstI h1 v k := fun v _ k q => q.keeps fun b o e _ => (kk b o e).2
    have bk : ∀ v ∈ as.map Value.ref, ∀ k, FstI h1 v k → FstI h' v k := fun v hv k q => by
      obtain ⟨j, r⟩ := hp v hv
      rw [q.uniq (kp v hv j r)]
      exact r
    have z := fst_sortable (P := X.prog) (w := X.w) (A := X.A.in1.in1) (s := { s1 with heap := h1, toks := tk }) (a := b) (vs := as.map Value.ref) (by omega) (fun v hv => let ⟨k, q⟩ := hp v hv; ⟨k, kp v hv k q⟩) (fun v hv u hu k a1 a2 => hdd v hv u hu k (bk v hv k a1) (bk u hu k a2)) fun o e => by
      have e' : some o = some (seqObj "list" (as.map Value.ref).toArray 0) := e.symm.trans hb
      cases e'
      intro c
      exact absurd (Value.type.inj c) (by decide)
    intro h3 keep
    obtain ⟨κ, z1, z2⟩ := z h3 keep
    refine ⟨κ, z1, fun p q hm hm' => wpAny_mono (z2 p q hm hm') (fun r s' zz => ⟨zz.1, ?_⟩) fun _ _ e => e⟩
    rw [zz.2]
    show decide (fstI h1 p.1 < fstI h1 q.1) = decide (fstI h' p.1 < fstI h' q.1)
    obtain ⟨k, f⟩ := hp _ hm
    obtain ⟨k', f'⟩ := hp _ hm'
    rw [fstI_eq f, fstI_eq f', fstI_eq (kp _ hm k f), fstI_eq (kp _ hm' k' f')]
  · obtain ⟨qs, p1, p2, p3⟩ := srt_lift2 (key := fun z : Addr × (Key × V) => keyN z.2.1) rv hkk q1 q2.perm
    obtain ⟨n, hn⟩ := k6
    have mem : ∀ z ∈ qs.map Prod.snd, z ∈ as.zip kvs := fun z hz => by
      obtain ⟨y, hy, rfl⟩ := List.mem_map.mp hz
      obtain ⟨x, hx, rfl⟩ := List.mem_map.mp (p1.mem_iff.mp hy)
      exact hx
    have form : qs.map Prod.fst = (qs.map Prod.snd).map fun z => V.ref z.1 := by
      rw [List.map_map]
      refine List.map_congr_left fun y hy => ?_
      obtain ⟨x, hx, rfl⟩ := List.mem_map.mp (p1.mem_iff.mp hy)
      rfl
    have asn : ∀ z ∈ as.zip kvs, z.1 ∈ as := fun z hz => (List.of_mem_zip hz).1
    have lenq : qs.length = as.length := by rw [p1.length_eq, List.length_map, List.length_zip]; omega
    have hb2 : LiI.putT H1 as kvs b = none := J.hok.fresh k5'
    have hb1 : H1 b = none := by
      cases q : H1 b with
      | none => rfl
      | some o => rw [k1 b o q] at hb2; cases hb2
    have J2 := J.laid (a := b) (o := .lst (qs.map Prod.fst)) (t' := tk) k4' k5' ⟨by rw [List.length_map, lenq]; omega, out, n, p2, hn⟩
    have nb : ∀ z ∈ qs.map Prod.snd, z.1 ≠ b := fun z hz e => by
      obtain ⟨j, pk, _, _, e3⟩ := LiI.paired_ix k4 (asn z (mem z hz))
      rw [e, hb2] at e3; cases e3
    refine ⟨.ref b, _, J2, rfl, q _ b (qs.map Prod.snd) (fun c o e => ?_) hb1 (fun z hz => k2 _ (asn z (mem z hz))) nb (fun z hz => ?_) ?_ ?_ (fun c h1 h2 => ?_) ?_⟩
    · have ne : c ≠ b := fun z => by rw [z, hb1] at e; cases e
      rw [upd_ne ne]
      exact k1 c o e
    · rw [upd_ne (nb z hz)]
      obtain ⟨j, hj⟩ := List.mem_iff_getElem?.mp (mem z hz)
      obtain ⟨g1, g2⟩ := List.getElem?_zip_eq_some.mp hj
      obtain ⟨y, f1, f2⟩ := LiI.paired_get k4 g1
      rw [g2] at f1; cases f1
      exact f2
    · have e1 : (((as.zip kvs).map fun z => (V.ref z.1, z)).map Prod.snd).map Prod.snd = kvs := by
        rw [List.map_map, List.map_map]
        show (as.zip kvs).map Prod.snd = kvs
        exact List.map_snd_zip (by omega)
      have := (p1.map Prod.snd).map Prod.snd
      rwa [e1] at this
    · rw [List.pairwise_map]
      exact p3
    · rw [upd_ne h1, k5 c fun z => ?_]
      have : c ∈ (qs.map Prod.snd).map Prod.fst := by
        have e1 : (((as.zip kvs).map fun z => (V.ref z.1, z)).map Prod.snd).map Prod.fst = as := by
          rw [List.map_map, List.map_map]
          show (as.zip kvs).map Prod.fst = as
          exact List.map_fst_zip (by omega)
        have := (p1.map Prod.snd).map Prod.fst
        rw [e1] at this
        exact this.mem_iff.mpr z
      obtain ⟨y, hy, rfl⟩ := List.mem_map.mp this
      exact h2 y hy rfl
    · rw [upd_same, form]
/-- sorted(d), the keys ints -/
def rSortedDI : List V → Hp → VK → Prop := fun xs H Q => ∃ (a : Addr) (kvs : List (Key × V)) (ns : List Int), xs = [.ref a] ∧ Rd H a (.dK kvs) ∧ kvs.map Prod.fst = ns.map Sum.inl ∧
  ∀ (ns' : List Int) (p : Addr), ns'.Perm ns → ns'.Pairwise (· ≤ ·) → H p = none → Q (.ref p) (upd H p (.lst (ns'.map V.int)))
theorem cr_sortedDI (hc : X.calm = true) : CallR X (.builtin "sorted") rSortedDI := by
  intro pins s σ H xs us Q I r q
  obtain ⟨a, kvs, ns, ex, hd, hns, q⟩ := q
  subst ex
  obtain ⟨u, eu, rx⟩ := vals1 r
  subst eu
  cases rx
  obtain ⟨z, lo, vs, rel, dd⟩ := dk_rd I.hok hd
  obtain ⟨ep, hat⟩ := dd.dictAt
  have hlv : vs.length = ns.length := by
    have h1 := congrArg List.length hns
    rw [List.length_map, List.length_map] at h1
    rw [← rel.length, h1]
  refine sorted_any fun E' => PySem.W.kdu_collect (PySem.W.kdl_dict (knd := mixKind X.prog X.w) (kvs := vs) (ep := ep) lo) (I.ok.hd hc) hat (by rw [← rel.length]; exact z) fun h' tk acc hk hacc => ?_
  have hv : Vals (vs.map fun p => kV p.1) acc.toList := keys_at (by rw [Array.length_toList]; exact hacc.1) fun j v e => hacc.2 j v (by rw [← Array.getElem?_toList]; exact e)
  have ek : (vs.map fun p => kV p.1) = ns.map V.int := by
    have e1 := congrArg (List.map kV) rel.keys
    have e2 := congrArg (List.map kV) hns
    rw [List.map_map, List.map_map] at e1 e2
    exact e1.symm.trans e2
  rw [ek] at hv
  have hI := hv.ints
  have hlen : acc.toList.length = ns.length := by rw [← hv.length, List.length_map]
  have hzl : acc.toList.length ≤ sizeLine := by rw [hlen, ← hlv, ← rel.length]; exact z
  refine ⟨SrtO.ltIv, SrtO.swo_int, hzl, fun h2 h1 b _ _ => SrtO.ints_sortable hI h2, fun h2 d out q1 q2 k4 k5 k6 => ?_⟩
  obtain ⟨g1, g2, g3⟩ := SrtO.ints_out hI q1 q2
  obtain ⟨n, hn⟩ := k6
  have J : Inv X pins σ H { s with heap := h', toks := tk } := I.kept (t' := tk) hk
  refine ⟨.ref d, upd H d (.lst ((out.map SrtO.iv).map V.int)), J.laid (t' := tk) k4 k5 ⟨?_, out, n, vals_of_ints g1, hn⟩, rfl, q _ d g2 g3 (J.hok.fresh k5)⟩
  rw [List.length_map, g2.length_eq, ← hlen]
  exact hzl
end
end Dx
/-! Dx10: sorted over data; dicts: locked walks, comprehensions, displays, get. -/
namespace Dx
open PySem PySem.Spec L2
section
variable {K : PySem.W.Frag} {G H H' : Hp} {al : List Addr} {M : Mem}
/-- new things that never change are taken in -/
theorem World.grow (w : World K G al H M) (ts : List Addr) (hn : ∀ t ∈ ts, H t = none) (hk : ∀ c o, H c = some o → H' c = some o) (htb : ∀ t ∈ ts, ∀ ps, H' t ≠ some (.tbl ps)) :
    World K (fun c => if c ∈ ts then H' c else G c) al H' M ∧ Ext al al G (fun c => if c ∈ ts then H' c else G c) H H' := by
  have gn : ∀ t ∈ ts, G t = none := fun t ht => w.sub.free (hn t ht)
  have sG : Same G (fun c => if c ∈ ts then H' c else G c) := fun b u h => by
    by_cases hb : b ∈ ts
    · rw [gn b hb] at h; cases h
    · show (if b ∈ ts then H' b else G b) = some u
      rw [if_neg hb]; exact h
  refine ⟨⟨w.len, w.nd, fun b u h => ?_, fun a h => ?_, fun i a mo h1 h2 => ?_, fun a ps h => ?_, w.tb⟩, ⟨fun _ _ h => h, fun _ h => .inl h, sG, fun a o h _ _ => hk a o h, fun a h => ?_, fun a h z => h (by
    cases q : H a with
    | none => exact .inl q
    | some o =>
      have y := hk a o q
      rcases z with z | ⟨ps, z⟩
      · rw [z] at y; cases y
      · rw [z] at y; cases y; exact .inr ⟨ps, q⟩)⟩⟩
  · have h : (if b ∈ ts then H' b else G b) = some u := h
    by_cases hb : b ∈ ts
    · rw [if_pos hb] at h; exact h
    · rw [if_neg hb] at h; exact hk b u (w.sub b u h)
  · obtain ⟨o, ho⟩ := Option.ne_none_iff_exists'.mp (w.alive a h)
    rw [hk a o ho]; simp
  · have ha : a ∉ ts := fun z => w.alive a (List.mem_of_getElem? h1) (hn a z)
    exact (w.obj i a mo h1 h2).ext sG (fun _ _ h => h) (fun z => by show (if a ∈ ts then H' a else G a) = none; rw [if_neg ha]; exact z) fun o z => hk a o z
  · have h : (if a ∈ ts then H' a else G a) = some (.tbl ps) := h
    by_cases hb : a ∈ ts
    · rw [if_pos hb] at h; exact htb a hb ps h
    · rw [if_neg hb] at h; exact w.nt a ps h
  · have h : (if a ∈ ts then H' a else G a) ≠ none := h
    by_cases hb : a ∈ ts
    · exact .inr (.inr (.inl (.inl (hn a hb))))
    · rw [if_neg hb] at h; exact .inl h
end
section
variable {X : Cx} {W : WX} {e a b c o tg iter : Expr} {es ifs : List Expr} {pos p apos cpos p2 tpos : Pos} {ta tb tc te td : TEd} {t : TAd}
theorem zip_rel {K : PySem.W.Frag} {G : Hp} {al : List Addr} : ∀ {ds : List D} {vs : List V}, RelDs K G al ds vs → ∀ p ∈ vs.zip ds, RelD K G al p.2 p.1
  | _, _, .nil, p, h => by simp at h
  | _, _, .cons r t, p, h => by
    rw [List.zip_cons_cons] at h
    rcases List.mem_cons.mp h with rfl | h
    · exact r
    · exact zip_rel t p h
theorem rel_zip {K : PySem.W.Frag} {G : Hp} {al : List Addr} : ∀ {qs : List (V × D)}, (∀ p ∈ qs, RelD K G al p.2 p.1) → RelDs K G al (qs.map Prod.snd) (qs.map Prod.fst)
  | [], _ => .nil
  | q :: qs, h => .cons (h q List.mem_cons_self) (rel_zip fun p hp => h p (List.mem_cons_of_mem _ hp))
/-- sorted(tuples told apart by a first int) -/
def oSortK (m : Bool) : OA := fun xs M R => ∃ x ds, xs = [x] ∧ lstOf M x = some ds ∧ (∀ d ∈ ds, ∃ k r, d = .tup (.int k :: r)) ∧ (ds.map keyI).Nodup ∧ ∀ es : List D, es.Perm ds → es.Pairwise (fun p q => keyI p ≤ keyI q) → newL m es M R
theorem oSortK_ok {K : PySem.W.Frag} {m : Bool} : CallOk K (rSortedK K) (oSortK m) := fun al G H M xs vs R Q w r ⟨x, ds, e, h1, h2, h3, h4⟩ hR => by
  subst e
  obtain ⟨v, rfl, rx⟩ := rel1 r
  obtain ⟨a, us, rfl, hq, rv⟩ := w.lst rx h1
  have hl := rv.length
  refine ⟨a, us.zip ds, rfl, by rw [List.map_fst_zip (by omega)]; exact hq, fun p hp => ?_, ?_, fun qs b p1 p2 hb => ?_⟩
  · have rp := zip_rel rv p hp
    obtain ⟨k, r, e⟩ := h2 p.2 (List.of_mem_zip hp).2
    obtain ⟨pv, pd⟩ := p
    dsimp only at e rp ⊢
    subst e
    cases rp with
    | tup hs rs =>
      cases rs with
      | cons r1 r2 =>
        cases r1
        exact ⟨_, _, rfl, SqT_same w.sub hs⟩
  · have : (us.zip ds).map (fun p => keyI p.2) = ds.map keyI := by
      rw [show (fun p : V × D => keyI p.2) = keyI ∘ Prod.snd from rfl, ← List.map_map, List.map_snd_zip (by omega)]
    rw [this]; exact h3
  · have e1 := p1.map Prod.snd
    rw [List.map_snd_zip (by omega)] at e1
    exact newL_to w (rel_zip fun p hp => zip_rel rv p (p1.mem_iff.mp hp)) (h4 _ e1 (List.pairwise_map.mpr p2)) hR b hb
theorem pd_sortK (m : Bool) (hc : X.calm = true) (hg : Gl X "sorted") (hm : X.mg "sorted" = none) (ha : PAd X W [e] t) (hs : starEach [e] X.env = (false, eval e X.env) :: starEach [] X.env := by rfl) : PEd X W (.Call (.Name "sorted" p) [e] [] pos) (eCB (oSortK m) t) := pd_callB (cr_sortedK hc) oSortK_ok hg hm (by decide +kernel) ha (hs := hs)
/-- sorted(d), int keys -/
def oSortDI (m : Bool) : OA := fun xs M R => ∃ x kvs ns, xs = [x] ∧ dicOf M x = some kvs ∧ kvs.map Prod.fst = ns.map Sum.inl ∧ ∀ ns' : List Int, ns'.Perm ns → ns'.Pairwise (· ≤ ·) → newL m (ns'.map D.int) M R
theorem oSortDI_ok {K : PySem.W.Frag} {m : Bool} : CallOk K rSortedDI (oSortDI m) := fun al G H M xs vs R Q w r ⟨x, kvs, ns, e, h1, h2, h3⟩ hR => by
  subst e
  obtain ⟨v, rfl, rx⟩ := rel1 r
  obtain ⟨a, us, rfl, hq, rv⟩ := w.dic rx h1
  exact ⟨a, us, ns, rfl, .inl hq, by rw [← h2]; exact rv.keys.symm, fun ns' b p1 p2 hb => newL_to w (RelDs.of_ints ns') (h3 ns' p1 p2) hR b hb⟩
theorem pd_sortDI (m : Bool) (hc : X.calm = true) (hg : Gl X "sorted") (hm : X.mg "sorted" = none) (ha : PAd X W [e] t) (hs : starEach [e] X.env = (false, eval e X.env) :: starEach [] X.env := by rfl) : PEd X W (.Call (.Name "sorted" p) [e] [] pos) (eCB (oSortDI m) t) := pd_callB (cr_sortedDI hc) oSortDI_ok hg hm (by decide +kernel) ha (hs := hs)
/-- sorted(d.items()), int keys -/
def eItemsS (m : Bool) (td : TEd) : TEd := fun de M R S => td de M (fun x M1 => ∃ kvs, dicOf M1 x = some kvs ∧ (∀ kv ∈ kvs, ∃ i, kv.1 = .inl i) ∧ (kvs.map Prod.fst).Nodup ∧
  ∀ ks : List (Key × D), ks.Perm kvs → ks.Pairwise (fun p q => keyN p.1 ≤ keyN q.1) → newL m (ks.map fun kv => .tup [kD kv.1, kv.2]) M1 R) S
theorem RelKs.mem {K : PySem.W.Frag} {G : Hp} {al : List Addr} : ∀ {ds : List (Key × D)} {vs : List (Key × V)}, RelKs K G al ds vs → ∀ p ∈ vs.zip ds, p.2.1 = p.1.1 ∧ RelD K G al p.2.2 p.1.2
  | _, _, .nil, p, h => by simp at h
  | _, _, .cons r t, p, h => by
    rw [List.zip_cons_cons] at h
    rcases List.mem_cons.mp h with rfl | h
    · exact ⟨rfl, r⟩
    · exact RelKs.mem t p h
theorem pd_itemsS (m : Bool) (hc : X.calm = true) (he : PEd X W e td) (hg : Gl X "sorted") (hm : X.mg "sorted" = none) (hbase : attributeBase e "items" X.env (eval e X.env) = eval e X.env := by rfl) (hline : (apos.endLine == cpos.line) = true := by rfl)
    (hs : starEach [.Call (.Attribute e "items" apos) [] [] cpos] X.env = (false, eval (.Call (.Attribute e "items" apos) [] [] cpos) X.env) :: starEach [] X.env := by rfl) (hpl : (backTo pos (starEach [] X.env)).any (·.1) = false := by rfl) :
    PEd X W (.Call (.Name "sorted" p) [.Call (.Attribute e "items" apos) [] [] cpos] [] pos) (eItemsS m td) := PE.imp (pe_itemsS hc he hg hm hbase hline hs hpl) fun σ H Q ⟨al, G, M, de, R, S, at_, ht, hR, hS⟩ =>
  liftE.mk at_ ht (fun x M1 ⟨kvs, h1, h2, h3, h4⟩ al1 G1 H1 v e1 w1 r1 => by
    obtain ⟨a, us, rfl, hq, rv⟩ := w1.dic r1 h1
    refine ⟨a, us, rfl, hq, fun kv hkv => ?_, by rw [← rv.keys]; exact h3, fun H' b qs k1 k2 k3 k4 k5 k6 k7 k8 k9 => ?_⟩
    · have : kv.1 ∈ us.map Prod.fst := List.mem_map_of_mem hkv
      rw [← rv.keys] at this
      obtain ⟨kd, hkd, e⟩ := List.mem_map.mp this
      obtain ⟨i, hi⟩ := h2 kd hkd
      exact ⟨i, by rw [← e, hi]⟩
    · have hts : ∀ t ∈ qs.map Prod.fst, H1 t = none := fun t ht => by
        obtain ⟨q, hq, rfl⟩ := List.mem_map.mp ht
        exact k3 q hq
      obtain ⟨w2, e2⟩ := w1.grow (H' := H') (qs.map Prod.fst) hts k1 fun t ht ps => by
        obtain ⟨q, hq, rfl⟩ := List.mem_map.mp ht
        rw [k5 q hq]; nofun
      have bts : b ∉ qs.map Prod.fst := fun z => by
        obtain ⟨q, hq, e⟩ := List.mem_map.mp z
        exact k4 q hq e
      have hl : us.length = kvs.length := rv.length.symm
      obtain ⟨zs, p1, p2⟩ := perm_lift Prod.fst k6 (us.zip kvs) (List.map_fst_zip (by omega))
      have hzk : (zs.map Prod.snd).Perm kvs := by
        have := p1.map Prod.snd
        rwa [List.map_snd_zip (by omega)] at this
      have mz : ∀ z ∈ zs, z.2.1 = z.1.1 ∧ RelD X.K G1 al1 z.2.2 z.1.2 := fun z hz => rv.mem z (p1.mem_iff.mp hz)
      have srt : (zs.map Prod.snd).Pairwise (fun p q => keyN p.1 ≤ keyN q.1) := by
        have k7' : (qs.map Prod.snd).Pairwise (fun p q : Key × V => keyN p.1 ≤ keyN q.1) := List.pairwise_map.mpr k7
        rw [← p2, List.pairwise_map] at k7'
        rw [List.pairwise_map]
        refine List.Pairwise.imp_of_mem (fun {x y} hx hy h => ?_) k7'
        rw [(mz x hx).1, (mz y hy).1]; exact h
      have rel : RelDs X.K (fun c => if c ∈ qs.map Prod.fst then H' c else G1 c) al1 ((zs.map Prod.snd).map fun kv => D.tup [kD kv.1, kv.2]) (qs.map fun q => V.ref q.1) := by
        have lz : zs.length = qs.length := by
          have := congrArg List.length p2
          simpa using this
        have key : ∀ (zs : List ((Key × V) × (Key × D))) (qs' : List (Addr × (Key × V))), zs.map Prod.fst = qs'.map Prod.snd → (∀ z ∈ zs, z.2.1 = z.1.1 ∧ RelD X.K G1 al1 z.2.2 z.1.2) → (∀ q ∈ qs', q ∈ qs) →
            RelDs X.K (fun c => if c ∈ qs.map Prod.fst then H' c else G1 c) al1 ((zs.map Prod.snd).map fun kv => D.tup [kD kv.1, kv.2]) (qs'.map fun q => V.ref q.1) := by
          intro zs
          induction zs with
          | nil => intro qs' e _ _; cases qs' with
            | nil => exact .nil
            | cons q r => cases e
          | cons z zs ih => intro qs' e hz hq'; cases qs' with
            | nil => cases e
            | cons q r =>
              rw [List.map_cons, List.map_cons] at e
              injection e with e3 e4
              refine .cons ?_ (ih r e4 (fun z hz' => hz z (List.mem_cons_of_mem _ hz')) fun q hq2 => hq' q (List.mem_cons_of_mem _ hq2))
              have mq := hq' q List.mem_cons_self
              obtain ⟨y1, y2⟩ := hz z List.mem_cons_self
              refine .tup (vs := [kV q.2.1, q.2.2]) (SqT.of ?_) ?_
              · show (if q.1 ∈ qs.map Prod.fst then H' q.1 else G1 q.1) = _
                rw [if_pos (List.mem_map_of_mem mq)]
                exact k5 q mq
              · rw [← e3]
                refine .cons ?_ (.cons (y2.ext e2) .nil)
                rw [y1]
                exact kD_rel _
        exact key zs qs p2 mz fun q h => h
      have sd : Side X.K al1 al1 G1 (fun c => if c ∈ qs.map Prod.fst then H' c else G1 c) H1 H' b := ⟨e2, k2, fun z => w1.alive b z k2, by
        show (if b ∈ qs.map Prod.fst then H' b else G1 b) = none
        rw [if_neg bts]
        exact w1.sub.free k2⟩
      exact sd.list w2 k9 rel (h4 _ hzk srt) (hR.ext e1)) hS

/-! ### a dict is not written while it is walked -/
def sLock (n : Lo → Mem → Nat) (t : TSd) : TSd := fun E de M S => ∃ kvs, M[n de M]? = some (.dic kvs) ∧ ∀ o, t ⟨fun de' M' => M'[n de M]? = some (.lck o kvs) ∧ E.nx de' (M'.set (n de M) (.dic kvs)), fun d M' => M'[n de M]? = some (.lck o kvs) ∧ E.rt d (M'.set (n de M) (.dic kvs))⟩ de (M.set (n de M) (.lck o kvs)) S
def eLock (n : Lo → Mem → Nat) (t : TEd) : TEd := fun de M R S => ∃ kvs, M[n de M]? = some (.dic kvs) ∧ ∀ o, t de (M.set (n de M) (.lck o kvs)) (fun d M' => M'[n de M]? = some (.lck o kvs) ∧ R d (M'.set (n de M) (.dic kvs))) S
theorem lock_in {K : PySem.W.Frag} {al : List Addr} {G H : Hp} {M : Mem} {n : Nat} {kvs : List (Key × D)} (w : World K G al H M) (h : M[n]? = some (.dic kvs)) :
    ∃ a vs, al[n]? = some a ∧ H a = some (.dK vs) ∧ RelKs K G al kvs vs ∧ ∀ od, World K G al (upd H a (.frz od (.dK vs))) (M.set n (.lck (.frz od (.dK vs)) kvs)) ∧ Ext al al G G H (upd H a (.frz od (.dK vs))) := by
  obtain ⟨a, ha, hg, vs, h1, h2⟩ := w.at_ h
  exact ⟨a, vs, ha, h1, h2, fun od => w.store ha hg ⟨hg, upd_same, od, vs, rfl, h2⟩⟩
theorem lock_out {K : PySem.W.Frag} {al al' : List Addr} {G G' H H' : Hp} {M' : Mem} {n : Nat} {a : Addr} {od : Obj} {kvs : List (Key × D)} {vs : List (Key × V)} (ha : al[n]? = some a) (rv : RelKs K G al kvs vs) (e : Ext al al' G G' H H') (w : World K G' al' H' M') (h : M'[n]? = some (.lck (.frz od (.dK vs)) kvs)) :
    H' a = some (.frz od (.dK vs)) ∧ World K G' al' (upd H' a (.dK vs)) (M'.set n (.dic kvs)) ∧ Ext al' al' G' G' H' (upd H' a (.dK vs)) := by
  obtain ⟨a', ha', hg, h1, _⟩ := w.at_ h
  rw [e.pre n a ha] at ha'
  cases ha'
  obtain ⟨w2, e2⟩ := w.store (o := .dK vs) (mo := .dic kvs) (e.pre n a ha) hg ⟨hg, vs, upd_same, rv.ext e⟩
  exact ⟨h1, w2, e2⟩
theorem psd_lock (n : Lo → Mem → Nat) {st : Stmt} {t : TSd} (h : PSd X W st t) : PSd X W st (sLock n t) := PS.imp (ps_lock h) fun D σ H ⟨al, G, M, de, N, R, S, at_, ⟨kvs, h1, ht⟩, hN, hR, hS⟩ => by
  obtain ⟨a, vs, ha, hd, rv, hl⟩ := lock_in at_.w h1
  refine ⟨a, _, hd, True.intro, fun od => ?_⟩
  obtain ⟨w1, e1⟩ := hl od
  refine liftS.mk (at_.ext e1 w1) (ht (.frz od (.dK vs))) (fun de' M' ⟨q1, q2⟩ al' G' H' σ' e2 w2 s2 => ?_) (fun d M' ⟨q1, q2⟩ al' G' H' v e2 w2 r2 => ?_) (hS.ext e1)
  · obtain ⟨k1, w3, e3⟩ := lock_out ha rv (e1.trans e2) w2 q1
    exact ⟨k1, hN _ _ q2 _ _ _ _ ((e1.trans e2).trans e3) w3 (s2.ext e3)⟩
  · obtain ⟨k1, w3, e3⟩ := lock_out ha rv (e1.trans e2) w2 q1
    exact ⟨k1, hR _ _ q2 _ _ _ _ ((e1.trans e2).trans e3) w3 (r2.ext e3)⟩
theorem pd_lock (n : Lo → Mem → Nat) {t : TEd} (h : PEd X W e t) : PEd X W e (eLock n t) := PE.imp (pe_lock h) fun σ H Q ⟨al, G, M, de, R, S, at_, ⟨kvs, h1, ht⟩, hR, hS⟩ => by
  obtain ⟨a, vs, ha, hd, rv, hl⟩ := lock_in at_.w h1
  refine ⟨a, _, hd, True.intro, fun od => ?_⟩
  obtain ⟨w1, e1⟩ := hl od
  refine liftE.mk (at_.ext e1 w1) (ht (.frz od (.dK vs))) (fun d M' ⟨q1, q2⟩ al' G' H' v e2 w2 r2 => ?_) (hS.ext e1)
  obtain ⟨k1, w3, e3⟩ := lock_out ha rv (e1.trans e2) w2 q1
  exact ⟨k1, hR _ _ q2 _ _ _ _ ((e1.trans e2).trans e3) w3 (r2.ext e3)⟩
/-- for k, v in d.items() -/
def itemsD (kvs : List (Key × D)) : List D := kvs.map fun kv => .tup [kD kv.1, kv.2]
theorem RelKs.get {K : PySem.W.Frag} {G : Hp} {al : List Addr} : ∀ {ds : List (Key × D)} {vs : List (Key × V)} {i : Nat} {kd : Key × D}, RelKs K G al ds vs → ds[i]? = some kd → ∃ v, vs[i]? = some (kd.1, v) ∧ RelD K G al kd.2 v
  | _, _, _, _, .nil, h => by simp at h
  | _, _, 0, _, .cons r _, h => by simp at h; subst h; exact ⟨_, rfl, r⟩
  | _, _, i + 1, _, .cons _ t, h => by simpa using RelKs.get (i := i) t (by simpa using h)
theorem lck_at {K : PySem.W.Frag} {al al' : List Addr} {G' H' : Hp} {M' : Mem} {n : Nat} {a : Addr} {o : HO} {kvs : List (Key × D)} (ha : al[n]? = some a) (pre : ∀ (n : Nat) (a : Addr), al[n]? = some a → al'[n]? = some a) (w : World K G' al' H' M') (h : M'[n]? = some (.lck o kvs)) :
    H' a = some o ∧ ∃ od vs, o = .frz od (.dK vs) ∧ RelKs K G' al' kvs vs := by
  obtain ⟨a', ha', hg, h1, h2⟩ := w.at_ h
  rw [pre n a ha] at ha'
  cases ha'
  exact ⟨h1, h2⟩
theorem walkD_items {K : PySem.W.Frag} {al : List Addr} {G : Hp} {a : Addr} {n : Nat} {od : Obj} {kvs : List (Key × D)} {vs : List (Key × V)} (ha : al[n]? = some a) (r : RelKs K G al kvs vs) : WalkD K al G (itemsD kvs) (fun M' => M'[n]? = some (.lck (.frz od (.dK vs)) kvs)) (Iti a od vs) := by
  have hl := r.length
  refine ⟨fun H => H a = some (.frz od (.dK vs)), fun i H x H' => ∃ T k v, vs[i]? = some (k, v) ∧ x = .ref T ∧ H T = none ∧ H' = upd H T (.tup [kV k, v]), ⟨fun i H hi q => ⟨q, by simpa [itemsD, hl] using hi⟩, fun H q => ⟨q, by simp [itemsD, hl]⟩, fun i H x H' hi _ y => y⟩, fun al' G' H' M' pre sG w st => (lck_at ha pre w st).1, fun i d al' G' H' M' x' H'' hd pre sG w st y => ?_⟩
  obtain ⟨T, k, v, h1, rfl, hT, rfl⟩ := y
  obtain ⟨kd, hk, rfl⟩ : ∃ kd, kvs[i]? = some kd ∧ D.tup [kD kd.1, kd.2] = d := by
    rw [itemsD, List.getElem?_map] at hd
    exact Option.map_eq_some_iff.mp hd
  obtain ⟨u, hu, ru⟩ := (r.mono sG pre).get hk
  rw [h1] at hu; cases hu
  exact pair_new w hT (kD_rel _) ru
def iItemsD (td : TEd) : TId := fun de M R S => td de M (fun x M1 => ∃ n o kvs, x = .ref n ∧ M1[n]? = some (.lck o kvs) ∧ R (itemsD kvs) (fun M' => M'[n]? = some (.lck o kvs)) M1) S
theorem pid_items {elts : List Expr} {kk : Nat} (he : PEd X W e td) (hbase : attributeBase e "items" X.env (eval e X.env) = eval e X.env := by rfl) (hline : (apos.endLine == cpos.line) = true := by rfl) :
    PId X W (.Tuple elts kk tpos) (.Call (.Attribute e "items" apos) [] [] cpos) (iItemsD td) := PI.imp (pi_items he hbase hline) fun σ H Q ⟨al, G, M, de, R, S, at_, ht, hR, hS⟩ =>
  liftE.mk at_ ht (fun x M1 ⟨n, o, kvs, e, h1, h2⟩ al1 G1 H1 v e1 w1 r1 => by
    subst e
    cases r1 with
    | ref ha =>
      obtain ⟨k1, od, vs, rfl, rv⟩ := lck_at ha (fun _ _ h => h) w1 h1
      exact ⟨_, od, vs, rfl, k1, hR _ _ _ h2 _ _ _ _ e1 w1 h1 (walkD_items ha rv)⟩) hS
/-- for k in d -/
theorem walkD_keys {K : PySem.W.Frag} {al : List Addr} {G : Hp} {a : Addr} {n : Nat} {od : Obj} {kvs : List (Key × D)} {vs : List (Key × V)} (ha : al[n]? = some a) (r : RelKs K G al kvs vs) : WalkD K al G (kvs.map fun kv => kD kv.1) (fun M' => M'[n]? = some (.lck (.frz od (.dK vs)) kvs)) (Itk a od vs) := by
  have hl := r.length
  refine ⟨fun H => H a = some (.frz od (.dK vs)), fun i H x H' => H' = H ∧ ∃ k v, vs[i]? = some (k, v) ∧ x = kV k, ⟨fun i H hi q => ⟨q, by simpa [hl] using hi⟩, fun H q => ⟨q, by simp [hl]⟩, fun i H x H' hi _ y => y⟩, fun al' G' H' M' pre sG w st => (lck_at ha pre w st).1, fun i d al' G' H' M' x' H'' hd pre sG w st y => ?_⟩
  obtain ⟨rfl, k, v, h1, rfl⟩ := y
  obtain ⟨kd, hk, rfl⟩ : ∃ kd, kvs[i]? = some kd ∧ kD kd.1 = d := by
    rw [List.getElem?_map] at hd
    exact Option.map_eq_some_iff.mp hd
  obtain ⟨u, hu, ru⟩ := (r.mono sG pre).get hk
  rw [h1] at hu; cases hu
  exact ⟨G', Ext.refl _ _ _, w, kD_rel _⟩
def iKeysD (td : TEd) : TId := fun de M R S => td de M (fun x M1 => ∃ n o kvs, x = .ref n ∧ M1[n]? = some (.lck o kvs) ∧ R (kvs.map fun kv => kD kv.1) (fun M' => M'[n]? = some (.lck o kvs)) M1) S
theorem pid_keys (he : PEd X W e td) : PId X W tg e (iKeysD td) := PI.imp (pi_keys he) fun σ H Q ⟨al, G, M, de, R, S, at_, ht, hR, hS⟩ =>
  liftE.mk at_ ht (fun x M1 ⟨n, o, kvs, e, h1, h2⟩ al1 G1 H1 v e1 w1 r1 => by
    subst e
    cases r1 with
    | ref ha =>
      obtain ⟨k1, od, vs, rfl, rv⟩ := lck_at ha (fun _ _ h => h) w1 h1
      exact ⟨_, od, rfl, .inl ⟨vs, k1, hR _ _ _ h2 _ _ _ _ e1 w1 h1 (walkD_keys ha rv)⟩⟩) hS
/-- for v in d.values() -/
theorem walkD_vals {K : PySem.W.Frag} {al : List Addr} {G : Hp} {a : Addr} {n : Nat} {od : Obj} {kvs : List (Key × D)} {vs : List (Key × V)} (ha : al[n]? = some a) (r : RelKs K G al kvs vs) : WalkD K al G (kvs.map Prod.snd) (fun M' => M'[n]? = some (.lck (.frz od (.dK vs)) kvs)) (Itd a od vs) := by
  have hl := r.length
  refine ⟨fun H => H a = some (.frz od (.dK vs)), fun i H x H' => H' = H ∧ ∃ k, vs[i]? = some (k, x), ⟨fun i H hi q => ⟨q, by simpa [hl] using hi⟩, fun H q => ⟨q, by simp [hl]⟩, fun i H x H' hi _ y => y⟩, fun al' G' H' M' pre sG w st => (lck_at ha pre w st).1, fun i d al' G' H' M' x' H'' hd pre sG w st y => ?_⟩
  obtain ⟨rfl, k, h1⟩ := y
  obtain ⟨kd, hk, rfl⟩ : ∃ kd, kvs[i]? = some kd ∧ kd.2 = d := by
    rw [List.getElem?_map] at hd
    exact Option.map_eq_some_iff.mp hd
  obtain ⟨u, hu, ru⟩ := (r.mono sG pre).get hk
  rw [h1] at hu; cases hu
  exact ⟨G', Ext.refl _ _ _, w, ru⟩
def iValsD (td : TEd) : TId := fun de M R S => td de M (fun x M1 => ∃ n o kvs, x = .ref n ∧ M1[n]? = some (.lck o kvs) ∧ R (kvs.map Prod.snd) (fun M' => M'[n]? = some (.lck o kvs)) M1) S
theorem pid_values (he : PEd X W e td) (hbase : attributeBase e "values" X.env (eval e X.env) = eval e X.env := by rfl) (hline : (apos.endLine == cpos.line) = true := by rfl) : PId X W tg (.Call (.Attribute e "values" apos) [] [] cpos) (iValsD td) := PI.imp (pi_values he hbase hline) fun σ H Q ⟨al, G, M, de, R, S, at_, ht, hR, hS⟩ =>
  liftE.mk at_ ht (fun x M1 ⟨n, o, kvs, e, h1, h2⟩ al1 G1 H1 v e1 w1 r1 => by
    subst e
    cases r1 with
    | ref ha =>
      obtain ⟨k1, od, vs, rfl, rv⟩ := lck_at ha (fun _ _ h => h) w1 h1
      exact ⟨_, od, vs, rfl, k1, hR _ _ _ h2 _ _ _ _ e1 w1 h1 (walkD_vals ha rv)⟩) hS

/-! ### new dicts, dict comprehensions -/
def eDNew : TEd := fun _ M R _ => R (.ref M.length) (M ++ [.dic []])
theorem pd_dnew : PEd X W (.Dict [] [] pos) eDNew := PE.imp pe_dnewK fun σ H Q ⟨al, G, M, de, R, S, at_, ht, hR, hS⟩ => newD_to at_.w .nil ht hR
/-- {k: v}, one pair; the key and value are read while the new dict is made -/
def eDOne (ta tb : TEd) : TEd := fun de M R S => ta de M (fun x M1 => tb de M1 (fun y M2 => ∃ k, keyD x = some k ∧ R (.ref M2.length) (M2 ++ [.dic [(k, y)]])) S) S
def dcL (stay : Mem → Prop) (g : TGd) (tt : TTd) (tk tv : TEd) (de0 : Lo) : List D → List (Key × D) → Mem → (List (Key × D) → Mem → Prop) → Prop
  | [], acc, M, R => R acc M
  | x :: r, acc, M, R => g x de0 M (fun de1 M1 => tt de1 M1 (fun b M2 => match b with
    | true => tk de1 M2 (fun y M3 => tv de1 M3 (fun z M4 => ∃ k, keyD y = some k ∧ acc.length < sizeLine ∧ stay M4 ∧ dcL stay g tt tk tv de0 r (putKD acc k z) M4 R) S0) S0
    | false => stay M2 ∧ dcL stay g tt tk tv de0 r acc M2 R) S0)
def eDc (vs : List Nat) (ti : TId) (g : TGd) (tt : TTd) (tk tv : TEd) : TEd := fun de M R S => ti de M (fun xs stay M1 => dcL stay g tt tk tv (wipeD de vs) xs [] M1 (fun acc M2 => R (.ref M2.length) (M2 ++ [.dic acc]))) S
theorem Side.dict {K : PySem.W.Frag} {al al1 : List Addr} {G G1 H H1 : Hp} {M : Mem} {p : Addr} {ds : List (Key × D)} {vs : List (Key × V)} {R : KD} {Q : VK} (s : Side K al al1 G G1 H H1 p) (w : World K G1 al1 H1 M) (hp : H1 p = some (.dK vs)) (r : RelKs K G1 al1 ds vs) (h : R (.ref M.length) (M ++ [.dic ds])) (hR : ToE K al G H R Q) : Q (.ref p) H1 := by
  have pre : ∀ (n : Nat) (a : Addr), al1[n]? = some a → (al1 ++ [p])[n]? = some a := fun n a h => by
    rw [List.getElem?_append_left (List.getElem?_eq_some_iff.mp h).1]; exact h
  have w2 := w.adoptW (mo := .dic ds) s.out (by rw [hp]; simp) ⟨s.cold, vs, hp, r.mono (Same.refl _) pre⟩
  refine hR _ _ h _ _ H1 _ ⟨fun n a z => pre n a (s.ext.pre n a z), fun a z => ?_, s.ext.same, s.ext.frm, fun a z => ?_, s.ext.thr⟩ w2 (.ref ?_)
  · rcases List.mem_append.mp z with z | z
    · exact s.ext.new a z
    · rw [List.mem_singleton] at z; subst z; exact .inr (.inl s.new)
  · rcases s.ext.gnew a z with q | q | q
    · exact .inl q
    · exact .inr (.inl (List.mem_append_left _ q))
    · exact .inr (.inr q)
  · rw [← w.len, List.getElem?_append_right (Nat.le_refl _)]
    simp
/-- wiped twice -/
theorem wipe_wipe (σ : L2.St) (vs : List Nat) : L2.wipe (L2.wipe σ vs) vs = L2.wipe σ vs := by
  apply List.ext_getElem?
  intro i
  by_cases hi : i ∈ vs
  · have key : ∀ (τ : L2.St) (ws : List Nat), i ∈ ws → (L2.wipe τ ws)[i]? = if i < τ.length then some none else none := by
      intro τ ws
      induction ws with
      | nil => intro h; cases h
      | cons v ws ih =>
        intro hm
        unfold L2.wipe
        by_cases e : v = i
        · subst e
          by_cases hl : v < τ.length
          · rw [if_pos hl, List.getElem?_set_self (by rw [wipe_length]; exact hl)]
          · rw [if_neg hl, List.getElem?_eq_none (by simp [wipe_length]; omega)]
        · rw [List.getElem?_set_ne e]
          rcases List.mem_cons.mp hm with z | z
          · exact absurd z.symm e
          · exact ih z
    rw [key _ _ hi, key _ _ hi, wipe_length]
  · rw [wipe_out hi, wipe_out hi]
theorem dc_goes {K : PySem.W.Frag} {J : It} {al1 : List Addr} {G1 H1 : Hp} {M1 : Mem} {de : Lo} {σ : L2.St} {xs : List D} {stay : Mem → Prop} {vs : List Nat} {g : TGd} {tt : TTd} {tk tv : TEd} {R : List (Key × D) → Mem → Prop} {Qd : Hp → Prop} {p : Addr}
    (wk : WalkD K al1 G1 xs stay J) (st : RelSt K G1 al1 de σ) (w : World K G1 al1 H1 M1) (hst : stay M1) (hp : H1 p = none) (h : dcL stay g tt tk tv (wipeD de vs) xs [] M1 R)
    (hR : ∀ acc M', R acc M' → ∀ al' G' H' us, Side K al1 al' G1 G' H1 H' p → World K G' al' H' M' → H' p = some (.dK us) → RelKs K G' al' acc us → Qd H') :
    ∃ Wl : Nat → Nat → Hp → Prop, (∃ m, Wl 0 m (upd H1 p (.dK []))) ∧ ∀ i m H, Wl i m H →
      (J.stop i H ∧ Qd H) ∨ (J.go i H ∧ ∃ Nx : Hp → Prop, (∀ H', Nx H' → ∃ m', m' < m ∧ Wl (i + 1) m' H') ∧ ∀ x H', J.yld i H x H' → liftGw K vs g x (L2.wipe σ vs) H' fun σ2 H2 => L2.wipe σ2 vs = L2.wipe σ vs ∧ liftT K W0 tt σ2 H2 fun b H3 =>
        if b = true then liftE K W0 tk σ2 H3 fun y H4 => liftE K W0 tv σ2 H4 fun z H5 => ∃ kvs k, y = kV k ∧ H5 p = some (.dK kvs) ∧ kvs.length < sizeLine ∧ Nx (upd H5 p (.dK (putK kvs k z))) else Nx H3) := by
  obtain ⟨Gd, Y, wk, k1, k2⟩ := wk
  obtain ⟨s0, w0⟩ := Side.start (o := .dK []) w hp
  refine ⟨fun i m H => m = xs.length - i ∧ i ≤ xs.length ∧ ∃ al' G' M' acc us, Side K al1 al' G1 G' H1 H p ∧ World K G' al' H M' ∧ stay M' ∧ H p = some (.dK us) ∧ RelKs K G' al' acc us ∧ dcL stay g tt tk tv (wipeD de vs) (xs.drop i) acc M' R, ⟨xs.length, by simp, Nat.zero_le _, al1, G1, M1, [], [], s0, w0, hst, upd_same, .nil, by simpa using h⟩, ?_⟩
  rintro i m H ⟨rfl, hi, al', G', M', acc, us, s, w', st', hpp, ra, q⟩
  have gd := k1 al' G' H M' s.ext.pre s.ext.same w' st'
  by_cases hlt : i < xs.length
  · refine .inr ⟨wk.goes i H hlt gd, _, fun H' z => ⟨xs.length - (i + 1), by omega, rfl, hlt, z⟩, fun x H' y => ?_⟩
    have hx : xs[i]? = some xs[i] := List.getElem?_eq_getElem hlt
    obtain ⟨G'', e3, w3, rx⟩ := k2 i _ al' G' H M' x H' hx s.ext.pre s.ext.same w' st' (wk.yields i H x H' hlt gd y)
    rw [List.drop_eq_getElem_cons hlt] at q
    obtain ⟨s3, hp3⟩ := s.step e3 hpp w3.sub solid_dK
    refine ⟨al', G'', M', wipeD de vs, _, _, ⟨w3, (st.wipe vs).ext s3.ext⟩, rx, q, fun de4 M4 q4 al4 G4 H4 σ4 e4 w4 r4 k4 => ⟨k4.trans (wipe_wipe σ vs), ?_⟩⟩
    obtain ⟨s4, hp4⟩ := s3.step e4 hp3 w4.sub solid_dK
    refine liftT.mk ⟨w4, r4⟩ q4 (fun b M5 q5 al5 G5 H5 e5 w5 => ?_) (fun _ _ _ z => z.elim)
    obtain ⟨s5, hp5⟩ := s4.step e5 hp4 w5.sub solid_dK
    cases b with
    | false =>
      rw [if_neg Bool.false_ne_true]
      exact ⟨al5, G5, M5, acc, us, s5, w5, q5.1, hp5, ra.ext ((e3.trans e4).trans e5), q5.2⟩
    | true =>
      rw [if_pos rfl]
      refine liftE.mk ⟨w5, r4.ext e5⟩ q5 (fun y M6 q6 al6 G6 H6 v6 e6 w6 r6 => ?_) (fun _ _ _ z => z.elim)
      obtain ⟨s6, hp6⟩ := s5.step e6 hp5 w6.sub solid_dK
      refine liftE.mk ⟨w6, (r4.ext e5).ext e6⟩ q6 (fun z M7 ⟨k, hk, hz, hs7, q7⟩ al7 G7 H7 v7 e7 w7 r7 => ?_) (fun _ _ _ z => z.elim)
      obtain ⟨s7, hp7⟩ := s6.step e7 hp6 w7.sub solid_dK
      have ra7 := ra.ext ((((e3.trans e4).trans e5).trans e6).trans e7)
      exact ⟨us, k, keyD_rel r6 hk, hp7, by rw [← ra7.length]; exact hz, al7, G7, M7, putKD acc k z, putK us k v7, s7.poke, w7.poke s7.cold s7.out, hs7, upd_same, ra7.put r7, q7⟩
  · have e : i = xs.length := by omega
    subst e
    rw [List.drop_length] at q
    exact .inl ⟨wk.stops H gd, hR _ _ q _ _ _ _ s w' hpp ra⟩
theorem pd_dc {kx vx : Expr} {scope : Scope} {own : List (Str × Nat)} {ti : TId} {g : TGd} {tt : TTd} {tk tv : TEd} (hc : X.calm = true) (hN : X.N.Nodup) (hi : PId X W tg iter ti) (ok : BlkOk X.N X.env.scope scope own)
    (hg : AllIn X scope fun Y => PGw Y (own.map (·.2)) tg g) (ht : AllIn X scope fun Y => PTsd Y ifs tt) (hk : AllIn X scope fun Y => PEd Y W0 kx tk) (he : AllIn X scope fun Y => PEd Y W0 vx tv) (hs : ∀ x, foldedSetIterable iter X.env x = pure x := by intro _; rfl) :
    PEd X W (.DictComp kx vx [⟨tg, iter, ifs, 0⟩] scope pos) (eDc (own.map (·.2)) ti g tt tk tv) := PE.imp (pe_dc hc hN hi ok hg ht hk he hs) fun σ H Q ⟨al, G, M, de, R, S, at_, ht, hR, hS⟩ =>
  ⟨al, G, M, de, _, S, at_, ht, fun xs stay M1 q al1 G1 H1 J e1 w1 hst wk => fun Da hD =>
    dc_goes wk (at_.st.ext e1) w1 hst hD q (fun acc M' ra al' G' H' us s w2 hp rr => s.dict w2 hp rr ra (hR.ext e1)), hS⟩
/-- d.get(k), d.get(k, x) -/
def oGet2 : D → D → D → Mem → KD → Prop := fun x y z M R => ∃ kvs k, dicOf M x = some kvs ∧ keyD y = some k ∧ R ((valD kvs k).getD z) M
def eGet2 (td ty tx : TEd) : TEd := fun de M R S => td de M (fun x M1 => (∃ kvs, dicOf M1 x = some kvs) ∧ ty de M1 (fun y M2 => tx de M2 (fun z M3 => oGet2 x y z M3 R) S) S) S
theorem pd_get2 {f : Expr} {ty tx : TEd} (hu : X.A.units + 1 < cLine) (ho : PEd X W o td) (he : PEd X W e ty) (hf : PEd X W f tx) (m : M2 X o "get" apos e f cpos) : PEd X W (.Call (.Attribute o "get" apos) [e, f] [] cpos) (eGet2 td ty tx) :=
  PE.imp (pe_dget2 hu ho he hf m) fun σ H Q ⟨al, G, M, de, R, S, at_, ht, hR, hS⟩ => liftE.mk at_ ht (fun x M1 ⟨⟨kvs0, h0⟩, h1⟩ al1 G1 H1 v e1 w1 r1 => by
    obtain ⟨a0, us0, ev, hq0, _⟩ := w1.dic r1 h0
    subst ev
    refine ⟨a0, rfl, .inl ⟨us0, .inl hq0⟩, liftE.mk (at_.ext e1 w1) h1 (fun y M2 h2 al2 G2 H2 u e2 w2 r2 => liftE.mk (at_.ext (e1.trans e2) w2) h2 (fun z M3 ⟨kvs, k, h3, h4, h5⟩ al3 G3 H3 z' e3 w3 r3 => ?_) (hS.ext (e1.trans e2))) (hS.ext e1)⟩
    obtain ⟨a, o, ea, g, hh⟩ := dget_rel w3 ((r1.ext e2).ext e3) (r2.ext e3) h3 h4
    cases ea
    refine ⟨o, g, ?_⟩
    rcases hh with ⟨z1, rfl⟩ | ⟨d', zz, z1, rfl, z3⟩
    · rw [z1] at h5
      exact (hR.ext ((e1.trans e2).trans e3)).now h5 w3 r3
    · rw [z1] at h5
      exact (hR.ext ((e1.trans e2).trans e3)).now h5 w3 z3) hS
end
end Dx
/-! Dx11: exceptions: raise, own __init__, try/except, isinstance and fields of what is caught, try/finally. -/
namespace PySem.W
open PySem PySem.Spec PySem.Calls PyProof.Rows
section
variable {prog : Program} {w : World} {A : Around} {E : Value → Shared → Prop} {s : Shared} {K : Frag} {x D : Addr} {ox : Obj} {od : Option Obj}
/-- e.__class__, an exception with or without a dict -/
theorem dx_classE {Q : Option Value → Shared → Prop} (Cc : L2.ExcC K D) (X : K.In s.heap) (I : InstAt s.heap x ox D od) (h : Q (some (.ref D)) { s with toks := s.toks + 1 }) : wpAny (model prog w) A (getAttr? (.ref x) "__class__") Q E s := by
  have hf : findObj K D od "__class__" = some (.bind (.builtin "getset_descriptor.__get__") (.builtin "object.__class__")) := by
    obtain ⟨cd, hc, _⟩ := any_some Cc.hd
    unfold findObj
    rw [hc, Option.bind_some, Cc.ha, Option.bind_some]
    simp [Cc.hn, Cc.ht]
  obtain ⟨hp, g, d, t, os⟩ := s
  have l0 := I.type (M := model prog w)
  have l1 := looks_findIn (M := model prog w) X Cc.hg
  have l2 := looks_findIn (M := model prog w) X Cc.hk
  have l3 := looks_find (M := model prog w) X I hf
  have sub : Looks (model prog w) hp (isInstance (.ref x) (.type "BaseException")) true := l0.andThen (looks_subIn X Cc.hs)
  have y0 : (false && onTheHeap (Value.builtin "BaseException.__getattribute__")) = false := rfl
  have y2 : (Value.builtin "BaseException.__getattribute__" == Value.builtin "object.__getattribute__") = false := by decide +kernel
  have y1 : (onTheHeap (Value.ref D) && Value.builtin "BaseException.__getattribute__" == Value.builtin "object.__getattribute__") = false := by rw [y2]; rfl
  unfold getAttr? getAttrBy? getAttrBy
  refine wpAny_bind (wpAny_mkText (wpAny_bind (wpAny_attempt (wpAny_holding (wpAny_bind (l0.at (wpAny_bind (l1.at (?_ : _)))))))))
  show wpAny _ _ (if (onTheHeap (Value.ref D) && Value.builtin "BaseException.__getattribute__" == Value.builtin "object.__getattribute__") = true then _ else _) _ _ (_ : Shared)
  rw [y1, if_neg Bool.false_ne_true]
  unfold getAttrByItsOwn hookBefore
  refine wpAny_bind (?_ : _)
  rw [if_pos (show onTheHeap (Value.ref D) = true from rfl)]
  refine l2.at (wpAny_bind (wpAny_attempt (wpAny_holding (?_ : _))))
  unfold callGetattribute
  rw [y0, if_neg Bool.false_ne_true]
  unfold boundAndCalled
  rw [PySem.F.excAttr_ValueError.ga.bind (.ref x)]
  refine wpAny_bind (wpAny_pure (?_ : _))
  show wpAny _ _ (call (.builtin "BaseException.__getattribute__") [.ref x, .str "__class__" t]) _ _ (_ : Shared)
  refine wpAny_call (codeAny_call_builtin PySem.F.excAttr_ValueError.ga.plain PySem.F.entry_bexc_ga (@check_slot (model prog w) _ _ ⟨hp, g, d, t + 1, os⟩ "BaseException.__getattribute__" "BaseException" "__getattribute__" (.ref x) [.str "__class__" t] [] _ (by decide +kernel) (by decide +kernel) sub (PySem.F.args_bexc_ga (.ref x) (.str "__class__" t)) ?_))
  unfold Builtin.«object.__getattribute__»
  refine wpAny_bind (wpAny_of_eq (a := ((Value.ref x : Value), [Value.str "__class__" t])) (by first | rfl | (simp only [slotArgs]; rfl)) (wpAny_bind (wpAny_pure (wpAny_bind (l0.at (wpAny_bind (l3.at (?_ : _))))))))
  show wpAny _ _ (holding [Value.builtin "object.__class__"] (call (.builtin "getset_descriptor.__get__") [.builtin "object.__class__", .ref x, .ref D]) >>= ret) _ _ (_ : Shared)
  refine wpAny_bind (wpAny_holding (wpAny_call (class_get (s := ⟨hp, g, d, t + 1, os⟩) (ox := ox) (od := od) X I Cc.hm (wpAny_pure (?_ : _)))))
  show wpAny _ _ (handedOut (.ref D)) _ _ (_ : Shared)
  rw [handedOut_of (v := .ref D) rfl]
  first
    | exact wpAny_pure (wpAny_pure h)
    | exact wpAny_pure h
    | exact wpAny_pure (wpAny_bind (wpAny_pure (wpAny_pure h)))
theorem dx_kitE (Cc : L2.ExcC K D) : KitX K (.ref x) (.ref D) (fun h => InstAt h x ox D od) where
  ty := fun _ _ _ I => I.type
  it := fun _ _ X _ => by
    obtain ⟨cdD, hcD, _⟩ := any_some Cc.hd
    unfold clsIn at hcD
    split at hcD
    · rename_i c' d' cd' sl' ho
      exact fun A' Q' E' s' k q => by
        unfold isType loadHead
        exact wpAny_bind (wpAny_loadPart (k _ _ (X _ _ ho)) (wpAny_pure q))
    · cases hcD
  ne := fun h tp dd its n sl X htp => by
    obtain ⟨cdD, hcD, _⟩ := any_some Cc.hd
    refine Bool.eq_false_iff.mpr fun q => absurd (Value.ref.inj (beq_iff_eq.mp q)) fun e => ?_
    subst e
    unfold clsIn at hcD
    split at hcD
    · rename_i c' d' cd' sl' ho
      cases (X _ _ ho).symm.trans htp
    · cases hcD
  ca := fun X I k => dx_classE Cc X I k
end
end PySem.W
namespace Dx
open PySem PySem.Spec PyProof.Rows L2
section
variable {X : Cx} {W : WX} {e a b c o : Expr} {es : List Expr} {pos p apos cpos p2 p1 : Pos} {ta tb tc te td : TEd} {t : TAd}
/-! ### raise -/
abbrev TXd := Lo → Mem → SD → SD → Prop
def liftX (K : PySem.W.Frag) (W : WX) (t : TXd) : L2.St → Hp → XK → Prop := fun σ H Q => ∃ al G M de R S, At K al G H M de σ ∧ t de M R S ∧ ToX K al G H R Q ∧ ToX K al G H S (fun c d H' => W c d σ H')
abbrev PXd (X : Cx) (W : WX) (e : Expr) (t : TXd) : Prop := PMk X e (liftX X.K W t)
def sRaise (t : TXd) : TSd := fun E de M S => t de M (fun c fs M' => S c fs de M') (fun c fs M' => S c fs de M')
theorem psd_raise {t : TXd} (hc : X.calm = true) (tk : Takes X W) (he : PXd X W e t) : PSd X W (.Raise (some e) none pos) (sRaise t) := PS.imp (ps_raise hc tk he) fun D σ H ⟨al, G, M, de, N, R, S, at_, ht, hN, hR, hS⟩ =>
  ⟨al, G, M, de, _, _, at_, ht, hS.at_ at_.st, hS.at_ at_.st⟩
/-- C('text'), C without an __init__ of its own -/
def xOwn (c : Str) : TXd := fun _ M R _ => R c [] M
/-- what is asked of such a class -/
structure XOk (X : Cx) (c : Str) : Prop where
  mg : X.mg c = some (.ref (He.ga X.K c))
  ex : PySem.W.excIn X.K (He.ga X.K c) He.veBase "ValueError.__new__" = true
  kp : PySem.W.keepIn X.K (.ref (He.ga X.K c)) = true
  ra : Raises X (.ref (He.ga X.K c))
theorem pxd_own {x m : Str} {j : Nat} (T : XOk X x) (hg : Gl X x) (hdb : (x == ("__debug__" : Str)) = false := by decide) : PXd X W (.Call (.Name x p) [.Constant (.str m) j p2] [] pos) (xOwn x) := by
  intro pins s σ H Q I ⟨al, G, M, de, R, S, at_, h, hR, hS⟩
  exact pmk_own PySem.F.excBase_ValueError T.ex T.mg T.kp T.ra hg hdb pins s σ H Q I (hR _ _ _ h _ _ _ _ (Ext.refl _ _ _) at_.w rfl)
/-! ### an __init__ that names its base's __init__, then stores one field -/
/-- Base.__init__(self, ..), Base of the program itself -/
theorem pe_baseinit {x : Str} {L : Addr} {mc : Value} {ta : TA} {pl : Sem Bool} (hg : Gl X x) (hm : X.mg x = some (.ref L)) (cr : ClX.CRead X.K L mc) (cv : PySem.W.findCls X.K (.ref L) mc "__init__" = some (.val (.builtin "ValueError.__init__"))) (ha : PA X (e :: es) ta)
    (hc : eval (.Call (.Attribute (.Name x p1) "__init__" p2) (e :: es) [] pos) X.env = (do
      let ov ← eval (.Name x p1) X.env
      standAt p2.atName
      let (f, first) ← holding [ov] (getMethod ov "__init__" pl)
      callWith pos f first (backTo pos (starEach (e :: es) X.env)) (backToKw pos (keywordEach [] X.env))) := by rfl)
    (hdb : (x == ("__debug__" : Str)) = false := by decide) (he : starEach (e :: es) X.env = (false, eval e X.env) :: starEach es X.env := by rfl) (hpl : (backTo pos (starEach es X.env)).any (·.1) = false := by rfl) :
    PE X (.Call (.Attribute (.Name x p1) "__init__" p2) (e :: es) [] pos) (tVeI X.K ta) := by
  refine ⟨fun pins s σ H Q I h => PySem.W.methodCall_KW (ld_glob I hg hm (PySem.W.method_cls I.kIn cr.ga (PySem.W.cls_value I.kIn cr.rd cv (by decide +kernel) ?_)) hdb) hc⟩
  show wpAny _ _ (callWith pos (Value.builtin "ValueError.__init__") [] (backTo pos (starEach (e :: es) X.env)) []) _ _ _
  refine PyProof.Rows.callWith_method1 (thn (ha.run pos pins _ σ H _ (I.tok _) h) fun us s1 ⟨vs, H1, I1, r1, a, C, ws, ev, hl, T, ea, q⟩ => ?_) he hpl
  subst ev
  cases r1 with
  | @cons _ u0 _ ur ra rw' =>
    obtain rfl : u0 = Value.ref a := ra
    exact oinit_ok T I1 ea (by rw [← Paired.length rw', sizeLine_eq]; omega) fun s' J => ⟨.non, H1, J, rfl, q⟩
/-- such an __init__(self, y) -/
def spXi (K : PySem.W.Frag) (C : Addr) (f : Str) : Sp := fun vs H Q _ => ∃ (a : Addr) (v : V), vs = [.ref a, v] ∧ OexC K C ∧ PySem.W.findIn K (.ref C) f = some none ∧ H a = some (exo a C none) ∧
  ∀ dx, H dx = none → dx ≠ a → Q .non (upd (upd H dx (exd dx [(f, v)])) a (exo a C (some dx)))
/-- its body's reading -/
def tXi (K : PySem.W.Frag) (f m : Str) : TS := tSeq (tDrop (tVeI K (tCons (tVar 0) (tCons (tC (.str m)) tNil)))) (tOst K f (tVar 0) (tVar 1))
theorem pure_xi {K : PySem.W.Frag} {C : Addr} {f m : Str} {vs : List V} {H : Hp} {Q : VK} {E : XK} (h : spXi K C f vs H Q E) : tXi K f m { nx := fun _ H' => Q .non H', rt := Q } (start ["self", "row"] vs) H := by
  obtain ⟨a, v, rfl, T, hno, ha, hq⟩ := h
  exact ⟨_, rfl, a, C, [V.str m], rfl, by show 1 ≤ 1000; omega, T, ha, _, rfl, _, rfl, a, C, rfl, T, hno, .inl ⟨ha, fun dx h1 h2 => hq dx h1 h2⟩⟩
/-! ### C(e), C with such an __init__ -/
def xInit (c f : Str) (te : TEd) : TXd := fun de M R S => te de M (fun d M1 => R c [(f, d)] M1) S
/-- what is asked of such a class -/
structure XiOk (X : Cx) (c f : Str) (fI : Addr) : Prop where
  mg : X.mg c = some (.ref (He.ga X.K c))
  ox : OexC X.K (He.ga X.K c)
  ini : PySem.W.findIn X.K (.ref (He.ga X.K c)) "__init__" = some (some (.ref fI))
  fn : PySem.W.typeIn X.K (.ref fI) = some (.type "function")
  no : PySem.W.findIn X.K (.ref (He.ga X.K c)) f = some none
theorem pxd_init {CX : CXT} {x f : Str} {fI : Addr} {k : Nat} {fd : FuncData} {ps : List Str} (T : XiOk X x f fI) (F1 : FnOk X.prog X.w X.K X.mg X.base CX k fI fd ps (spXi X.K (He.ga X.K x) f)) (hr : Room (k + 1) X.A) (hb : Binds X.K fd ps []) (hx : Passes CX X (fun _ _ _ => False)) (hg : Gl X x)
    (ha : PEd X W e te) (hdb : (x == ("__debug__" : Str)) = false := by decide) (he : starEach [e] X.env = (false, eval e X.env) :: starEach [] X.env := by rfl) (hpl : (backTo pos (starEach [] X.env)).any (·.1) = false := by rfl) :
    PXd X W (.Call (.Name x p) [e] [] pos) (xInit x f te) := by
  intro pins s σ H Q I ⟨al, G, M, de, R, S, at_, h, hR, hS⟩
  refine pmk_oex (dvs := []) T.ox T.ini T.fn F1 hr hb .nil hx hg T.mg (pa_cons ha pa_nil he) hdb he hpl pins s σ H Q I ?_
  refine liftE.mk at_ h (fun d M1 q al1 G1 H1 v e1 w1 r1 => ⟨by show 1 ≤ 1000; omega, fun a hna => ?_⟩) hS
  refine ⟨a, v, rfl, T.ox, T.no, upd_same, fun dx hdx hne => ⟨rfl, dx, [(f, v)], upd_same, by rw [upd_ne hne, upd_same], ?_, ?_⟩⟩
  · rw [upd_ne hne] at hdx; exact hdx
  · have hd1 : H1 dx = none := by rw [upd_ne hne] at hdx; exact hdx
    have e2 : upd (del (upd (upd (upd H1 a (exo a (He.ga X.K x) none)) dx (exd dx [(f, v)])) a (exo a (He.ga X.K x) (some dx))) a) dx (.xd [(f, v)]) = upd H1 dx (.xd [(f, v)]) := by
      funext b
      by_cases h1 : b = dx
      · rw [h1, upd_same, upd_same]
      · rw [upd_ne h1, upd_ne h1]
        by_cases h2 : b = a
        · rw [h2, del_same, hna]
        · rw [del_ne h2, upd_ne h2, upd_ne h1, upd_ne h2]
    rw [e2]
    obtain ⟨w2, e3⟩ := w1.cold (o := .xd [(f, v)]) hd1
    exact hR _ _ _ q _ _ _ _ (e1.trans e3) w2 ⟨[(f, v)], upd_same, .cons (r1.ext e3) .nil⟩
/-! ### try: .. except C as n: .. -/
theorem XRel.ext {K : PySem.W.Frag} {G G' H H' : Hp} {al al' : List Addr} {fs : List (Str × D)} {d : Option Addr} (x : XRel K G al H fs d) (e : Ext al al' G G' H H') : XRel K G' al' H' fs d := by
  cases d with
  | none => exact x
  | some d =>
    obtain ⟨vs, h2, h3⟩ := x
    exact ⟨vs, e.same _ _ h2, h3.ext e⟩
theorem XRel.rel {K : PySem.W.Frag} {G H : Hp} {al : List Addr} {fs : List (Str × D)} {d : Option Addr} (x : XRel K G al H fs d) (a : Addr) : RelD K G al (.exc a d fs) (.ref a) := by
  cases d with
  | none =>
    obtain rfl : fs = [] := x
    exact .exc0 a
  | some d =>
    obtain ⟨vs, h2, h3⟩ := x
    exact .exc h2 h3
theorem XRel.dict {K : PySem.W.Frag} {G H : Hp} {al : List Addr} {fs : List (Str × D)} {d : Option Addr} (x : XRel K G al H fs d) (e : d = none) : fs = [] := by
  subst e
  exact x
/-- sub: is the class named so one of those that are caught -/
def sTryAs (sub : Str → Option Bool) (i : Nat) (tb : TSd) (ts : Addr → Option Addr → Str → TSd) : TSd := fun E de M S => tb E de M (fun cls fs de' M' => ∃ b, sub cls = some b ∧
  (b = true → ∀ a d, (d = none → fs = []) → ts a d cls ⟨fun de2 M2 => E.nx (de2.set i none) M2, E.rt⟩ (de'.set i (some (.exc a d fs))) M' (fun _ _ _ _ => False)) ∧ (b = false → S cls fs de' M'))
theorem RelSt.unset {K : PySem.W.Frag} {G : Hp} {al : List Addr} {de : Lo} {σ : L2.St} (r : RelSt K G al de σ) (i : Nat) : RelSt K G al (de.set i none) (σ.set i none) := ⟨by simp [r.len], fun j d h => by
  by_cases e : j = i
  · subst e
    by_cases hl : j < de.length
    · rw [List.getElem?_set_self hl] at h; cases h
    · rw [List.getElem?_eq_none (by simpa using hl)] at h; cases h
  · rw [List.getElem?_set_ne (Ne.symm e)] at h ⊢
    exact r.at_ j d h⟩
theorem psd_tryAs {x n : Str} {c : Value} (i : Nat) {body suite : List Stmt} {b₀ : Stmt} {np pos' : Pos} {sub : Str → Option Bool} {tb : TSd} {ts : Addr → Option Addr → Str → TSd}
    (hs : X.stack = X.env :: X.outer) (hf : X.env.frame = some X.env.locals) (hN : X.N.Nodup) (hc : Names X x c) (tk : Takes X W) (hsub : ∀ k b, sub k = some b → PySem.W.exmOne X.K (.ref (He.ga X.K k)) c = some b)
    (hb : ∀ (Wb : WX) (pn : List (Addr × Obj)) (xe : Value → Shared → Prop), Takes (X.tr pn xe) Wb → PassesOwn (model X.prog X.w) X.A X.env xe → PSsd (X.tr pn xe) Wb body tb)
    (hsu : ∀ (a : Addr) (oe : Obj) (k : Str) (d : Option Addr) (pn : List (Addr × Obj)), Zc (.ref (He.ga X.K k)) d oe → (∃ vs, oe.data = .fields vs) → PSsd (X.suite a ((a, oe) :: pn)) W0 (b₀ :: suite) (ts a d k))
    (hi : X.N[i]? = some n := by rfl) (hln : X.env.kindOf n = some .local := by rfl) :
    PSd X W (.Try body [.ExceptHandler (some (.Name x np)) (some n) (b₀ :: suite) pos'] [] [] pos) (sTryAs sub i tb ts) := by
  refine PS.imp (ps_try_as (tb := fun Wb => liftS X.K Wb tb) (ts := fun a cls d D σ H => ∃ k, cls = .ref (He.ga X.K k) ∧ liftS X.K W0 (ts a d k) D σ H) hs hf hN hi hln hc tk (fun Wb pn xe t p => hb Wb pn xe t p) (fun a oe cls d pn hz hv => ⟨fun pins s σ H D I ⟨k, e, h⟩ => ?_⟩)) fun D σ H ⟨al, G, M, de, N, R, S, at_, ht, hN, hR, hS⟩ => ?_
  · subst e
    exact (hsu a oe k d pn hz hv).run pins s σ H D I h
  · refine liftS.mk at_ ht hN hR fun k fs de' M' ⟨b, h1, h2, h3⟩ al' G' H' d σ' e1 w1 s1 x1 => ⟨b, hsub k b h1, fun hb a ha => ⟨k, rfl, ?_⟩, fun hb => hS _ _ _ _ (h3 hb) _ _ _ _ _ e1 w1 s1 x1⟩
    exact liftS.mk ⟨w1, s1.set (x1.rel a) i⟩ (h2 hb a d x1.dict) (fun de2 M2 q al2 G2 H2 σ2 e2 w2 s2 => hN _ _ q _ _ _ _ (e1.trans e2) w2 (s2.unset i)) (fun v M2 q al2 G2 H2 v2 e2 w2 r2 => hR _ _ q _ _ _ _ (e1.trans e2) w2 r2) ToSX.no
/-! ### what is asked of a caught exception -/
/-- isinstance(e, c) -/
def eIsE (K : PySem.W.Frag) (cls : Value) (t : TAd) : TEd := fun de M R S => t de M (fun xs M1 => ∃ a d fs y cv b, xs = [.exc a d fs, y] ∧ ((∃ q, y = .adr q ∧ cv = .ref q) ∨ ∃ n, y = .ty n ∧ cv = .type n) ∧ PySem.W.kitOne K cls cv = some b ∧ R (.bl b) M1) S
def rIsE2 (K : PySem.W.Frag) (D a : Addr) (d : Option Addr) : List V → Hp → VK → Prop := fun xs H Q => ∃ (c : V) (cv : Value) (b : Bool), xs = [.ref a, c] ∧ (∀ u, RelV c u → u = cv) ∧ (d = none ∨ ∃ dd vs, d = some dd ∧ H dd = some (.xd vs)) ∧ PySem.W.kitOne K (.ref D) cv = some b ∧ Q (.bl b) H
theorem call_isE2 {X : Cx} {a D : Addr} {d : Option Addr} {oe : Obj} {pn : List (Addr × Obj)} (C : ExcC X.K D) (hz : Zc (.ref D) d oe) (hf : ∃ vs, oe.data = .fields vs) : CallR (X.suite a ((a, oe) :: pn)) (.builtin "isinstance") (rIsE2 X.K D a d) := by
  intro pins s σ H xs us Q I r h
  obtain ⟨c, cv, b, rfl, hcv, hd, e, q⟩ := h
  cases r with
  | cons rx rr =>
    cases rr with
    | cons rt rr =>
      cases rr
      cases rx
      have ec := hcv _ rt
      subst ec
      obtain ⟨hget, _⟩ := I.pin (a, oe) (List.mem_append.mpr (.inl List.mem_cons_self))
      obtain ⟨vs, hv⟩ := hf
      have J : ∃ od, PySem.W.InstAt s.heap a oe D od := by
        rcases hd with rfl | ⟨dd, vs2, rfl, hdd⟩
        · obtain ⟨oc, odd, oda, osl⟩ := oe
          obtain ⟨h1, h2⟩ := hz
          dsimp only at h1 h2 hv
          subst h1 h2 hv
          exact ⟨none, hget, rfl, rfl, trivial⟩
        · obtain ⟨mA, hns, hr⟩ := (show ObjOk X.prog X.w H s.heap dd (.xd vs2) from I.hok dd _ hdd)
          obtain ⟨od, ho, hl⟩ := lookIn_ns hns
          exact ⟨some od, hget, hz.1, by unfold PySem.W.notCls; rw [hv] <;> rfl, by rw [hz.2]; exact ho⟩
      obtain ⟨od, J⟩ := J
      exact PySem.W.kia_one (PySem.W.dx_kitE C) I.kIn J e (fun z => nomatch z) fun tk => ⟨.bl b, H, I.kept (t' := tk) fun _ _ z => z, rfl, q⟩
theorem pd_isE {a' D : Addr} {d : Option Addr} {oe : Obj} {pn : List (Addr × Obj)} (C : ExcC X.K D) (hz : Zc (.ref D) d oe) (hf : ∃ vs, oe.data = .fields vs) (hg : Gl (X.suite a' ((a', oe) :: pn)) "isinstance") (hm : X.mg "isinstance" = none)
    (ha : PAd (X.suite a' ((a', oe) :: pn)) W0 [a, b] t) (hs : starEach [a, b] X.env = (false, eval a X.env) :: starEach [b] X.env := by rfl) (hpl : (backTo pos (starEach [b] X.env)).any (·.1) = false := by rfl) :
    PEd (X.suite a' ((a', oe) :: pn)) W0 (.Call (.Name "isinstance" p) [a, b] [] pos) (fun de M R S => t de M (fun xs M1 => ∃ fs y cv b, xs = [.exc a' d fs, y] ∧ ((∃ q, y = .adr q ∧ cv = .ref q) ∨ ∃ n, y = .ty n ∧ cv = .type n) ∧ PySem.W.kitOne X.K (.ref D) cv = some b ∧ R (.bl b) M1) S) :=
  PE.imp (pe_callB (call_isE2 C hz hf) hg hm (by decide +kernel) ha (he := hs) (hpl := hpl)) fun σ H Q ⟨al, G, M, de, R, S, at_, ht, hR, hS⟩ => liftA.mk at_ ht (fun xs M1 ⟨fs, y, cv, b, e, h1, h2, h3⟩ al1 G1 H1 vs e1 w1 r1 => by
    subst e
    obtain ⟨v, u, rfl, rv, ru⟩ := rel2 r1
    have hd : d = none ∨ ∃ dd vs, d = some dd ∧ H1 dd = some (.xd vs) := by
      cases rv with
      | exc0 => exact .inl rfl
      | exc hg _ => exact .inr ⟨_, _, rfl, w1.sub _ _ hg⟩
    have ev : v = .ref a' := by cases rv <;> rfl
    subst ev
    refine ⟨u, cv, b, rfl, fun z hz' => ?_, hd, h2, (hR.ext e1).now h3 w1 (.bl b)⟩
    rcases h1 with ⟨q, rfl, rfl⟩ | ⟨n, rfl, rfl⟩
    · cases ru; exact hz'
    · cases ru; exact hz') hS
/-- e.f -/
theorem pd_xf {a' C : Addr} {d : Option Addr} {oe : Obj} {pn : List (Addr × Obj)} {n : Str} (T : XfC X.K C) (hno : PySem.W.findIn X.K (.ref C) n = some none) (hz : Zc (.ref C) d oe) (hf : ∃ vs, oe.data = .fields vs) (he : PEd (X.suite a' ((a', oe) :: pn)) W0 e te)
    (hb : attributeBase e n X.env (eval e X.env) = eval e X.env := by rfl) :
    PEd (X.suite a' ((a', oe) :: pn)) W0 (.Attribute e n pos) (fun de M R S => te de M (fun x M1 => ∃ dd fs v, x = .exc a' d fs ∧ d = some dd ∧ fs.lookup n = some v ∧ R v M1) S) :=
  PE.imp (pe_xf T hno hz hf he hb) fun σ H Q ⟨al, G, M, de, R, S, at_, ht, hR, hS⟩ => liftE.mk at_ ht (fun x M1 ⟨dd, fs, v, e, e2, h1, h2⟩ al1 G1 H1 u e1 w1 r1 => by
    subst e e2
    cases r1 with
    | exc hg rf =>
      obtain ⟨z, hz1, rz⟩ := rf.look h1
      exact ⟨rfl, rfl, dd, _, z, rfl, w1.sub _ _ hg, hz1, (hR.ext e1).now h2 w1 rz⟩) hS
/-! ### try: .. finally: .. -/
def tFinS (tb : WX → TS) (tf tfs : TS) (Wout : WX) : TS := fun D σ H => tb (wFin tfs Wout) { nx := fun σ1 H1 => tf D σ1 H1, rt := fun _ _ => False } σ H
theorem ps_finS {body : List Stmt} {f₀ : Stmt} {fs : List Stmt} {tb : WX → TS} {tf tfs : TS} {Wout : WX} (hs : X.stack = X.env :: X.outer) (hf : X.env.frame = some X.env.locals) (hex : X.ex = []) (tk : Takes X Wout)
    (hb : ∀ (Wb : WX) (pn : List (Addr × Obj)) (xe : Value → Shared → Prop), Takes (X.tr pn xe) Wb → PassesOwn (model X.prog X.w) X.A X.env xe → PSs (X.tr pn xe) body (tb Wb))
    (hfin : PSs X.nox (f₀ :: fs) tf) (hsu : ∀ (a : Addr) (pn : List (Addr × Obj)), PSs (X.suite a pn) (f₀ :: fs) tfs) : PS X (.Try body [] [] (f₀ :: fs) pos) (tFinS tb tf tfs Wout) := by
  refine ⟨fun pins s σ H D I h => wpAny_Try_finally ?_⟩
  refine wpAny_mono ((hb (wFin tfs Wout) (X.pn ++ pins) (fun x s₁ => wpAny (model X.prog X.w) X.A (noteFrame x X.env) (fun _ s₂ => FinallyRaised X.prog X.w X.A X.xe X.env (f₀ :: fs) (SP X pins D) x s₂) (FinallyRaised X.prog X.w X.A X.xe X.env (f₀ :: fs) (SP X pins D)) s₁)
    (fun u s' xx => fin_exc hs hf hex I.ok tk hsu xx) PassesOwn.looking).run [] s σ H _ (I.toTry _) h) (fun g s1 z => ?_) (fun x s1 hx => hx)
  cases g with
  | next =>
    obtain ⟨σ1, H1, I1, q1⟩ := z
    refine wpAny_execs_nil ?_
    refine wpAny_mono (hfin.run pins s1 σ1 H1 D ((I1.ofTry I.ok).wish _) q1) (fun g s2 q => ?_) fun _ _ z => False.elim z
    have q' := q.unwish
    cases g <;> exact q'
  | ret u => obtain ⟨_, _, _, _, _, q⟩ := z; exact False.elim q
  | brk => obtain ⟨_, _, _, q⟩ := z; exact False.elim q
  | cont => obtain ⟨_, _, _, q⟩ := z; exact False.elim q
def sFin (tb tf : TSd) : TSd := fun E de M S => tb ⟨fun de1 M1 => tf E de1 M1 (fun _ _ _ _ => False), fun _ _ => False⟩ de M (fun cls fs de' M' => tf ⟨fun de2 M2 => S cls fs de2 M2, fun _ _ => False⟩ de' M' (fun _ _ _ _ => False))
theorem psd_fin {body : List Stmt} {f₀ : Stmt} {fs : List Stmt} {tb tf : TSd} (hs : X.stack = X.env :: X.outer) (hf : X.env.frame = some X.env.locals) (hex : X.ex = []) (tk : Takes X W)
    (hb : ∀ (Wb : WX) (pn : List (Addr × Obj)) (xe : Value → Shared → Prop), Takes (X.tr pn xe) Wb → PassesOwn (model X.prog X.w) X.A X.env xe → PSsd (X.tr pn xe) Wb body tb)
    (hfin : PSsd X.nox W0 (f₀ :: fs) tf) (hsu : ∀ (a : Addr) (pn : List (Addr × Obj)), PSsd (X.suite a pn) W0 (f₀ :: fs) tf) : PSd X W (.Try body [] [] (f₀ :: fs) pos) (sFin tb tf) := by
  refine PS.imp (ps_finS (tb := fun Wb => liftS X.K Wb tb) (tf := liftS X.K W0 tf) (tfs := liftS X.K W0 tf) hs hf hex tk (fun Wb pn xe t p => hb Wb pn xe t p) hfin hsu) fun D σ H ⟨al, G, M, de, N, R, S, at_, ht, hN, hR, hS⟩ => ?_
  refine liftS.mk at_ ht (fun de1 M1 q al1 G1 H1 σ1 e1 w1 s1 => liftS.mk ⟨w1, s1⟩ q (hN.ext e1) (hR.ext e1) ToSX.no) (fun _ _ z => z.elim) fun k fs' de' M' q al1 G1 H1 d σ1 e1 w1 s1 x1 => ?_
  exact liftS.mk ⟨w1, s1⟩ q (fun de2 M2 q2 al2 G2 H2 σ2 e2 w2 s2 => hS _ _ _ _ q2 _ _ _ _ _ (e1.trans e2) w2 s2 (x1.ext e2)) (fun _ _ z => z.elim) ToSX.no
end
end Dx
/-! Dx12: a def that calls what it is handed within try, handed a lambda. -/
namespace Dx
open PySem PySem.Spec PyProof.Rows L2
def TTold (K : PySem.W.Frag) (L : Addr) (len i : Nat) (ts : Addr → Option Addr → Str → TSd) : (XK → Hp → VK → Prop) → Hp → VK → Prop := fun tl H Q =>
  tl (fun cls d H' => ∃ b, PySem.W.exmOne K cls (.ref L) = some b ∧ (b = true → ∀ (a : Addr) (σ : L2.St), H' a = none → σ.length = len → ∃ k, cls = .ref (He.ga K k) ∧ liftS K W0 (ts a d k) { nx := fun _ H2 => Q .non H2, rt := Q } (σ.set i (some (.ref a))) H') ∧ (b = false → False)) H Q
section
variable {X : Cx} {W : WX}
theorem start_len (Ng : List Str) (vs : List V) (h : vs.length ≤ Ng.length) : (L2.start Ng vs).length = Ng.length := by
  unfold L2.start
  simp
  omega
theorem told_gives {Ng : List Str} {x a lx e q : Str} {sg : Scope} {g L : Addr} {cdg : Value} {i : Nat} {p1 p2 p3 p4 p7 p8 : Pos} {b₀ : Stmt} {suite : List Stmt} {ts : Addr → Option Addr → Str → TSd}
    (hge : sg.names.lookup lx = some .globalImplicit) (hme : X.mg lx = some (.ref L)) (hde : (lx == ("__debug__" : Str)) = false) (h0 : ∀ f : Addr, (L2.start Ng [V.ref f])[0]? = some (some (V.ref f))) (hNg : Ng.Nodup) (hi : Ng[i]? = some e) (hle : sg.names.lookup e = some .local)
    (hsu : ∀ (s : Shared) (H : Hp) (a : Addr) (oe : Obj) (k : Str) (d : Option Addr) (pn : List (Addr × Obj)), Zc (.ref (He.ga X.K k)) d oe → (∃ vs, oe.data = .fields vs) →
      PSsd ((cxOf C8.CX0 X.prog X.w X.K X.mg X.base Ng x sg g cdg X.A X.stack s H C8.E0).nox.suite a ((a, oe) :: pn)) W0 (b₀ :: suite) (ts a d k)) :
    LamX.GivesTo X Ng x sg g cdg [.Try [.Return (some (.Call (.Name a p1) [] [] p2)) p3] [.ExceptHandler (some (.Name lx p4)) (some e) (b₀ :: suite) p7] [] [] p8] a q (TTold X.K L Ng.length i ts) := by
  intro f c' s H Q tl act hc h
  have hgl : Gl (cxOf C8.CX0 X.prog X.w X.K X.mg X.base Ng x sg g cdg X.A X.stack s H C8.E0).nox lx := hge
  refine ⟨_, pss_one (ps_try_as (X := (cxOf C8.CX0 X.prog X.w X.K X.mg X.base Ng x sg g cdg X.A X.stack s H C8.E0).nox) (c := .ref L) (i := i)
      (tb := fun Wb D σ H => ∃ Ech : XK, (∀ cls d σ' H', σ'.length = Ng.length → Ech cls d H' → Wb cls d σ' H') ∧ σ.length = Ng.length ∧ σ[0]? = some (some (.ref f)) ∧ H c' = some (LamX.CodeO c' q) ∧ tl Ech H D.rt)
      (ts := fun a cls d D σ H => ∃ k, cls = .ref (He.ga X.K k) ∧ liftS X.K W0 (ts a d k) D σ H)
      rfl rfl hNg hi hle ⟨hgl, hde, .inl hme⟩ LamX.takes0 (fun Wb pn xe tk _ => ?_) (fun a oe cls d pn hz hv => ⟨fun pins s' σ H' D I ⟨k, ek, hk⟩ => ?_⟩)), ?_⟩
  · refine ⟨fun pins s' σ H' D I h' => ?_⟩
    obtain ⟨Ech, hW, hlen, h1, h2, h3⟩ := h'
    have tk2 : Takes ((cxOf C8.CX0 X.prog X.w X.K X.mg X.base Ng x sg g cdg X.A X.stack s H C8.E0).tr pn xe) (fun cls d σ' H' => σ'.length = Ng.length → Wb cls d σ' H') := fun u s2 ⟨a, B, sI, pins', σ', H', cls, d, e1, I1, e2, e3, e4, e5, e6, e7, e8⟩ => tk u s2 ⟨a, B, sI, pins', σ', H', cls, d, e1, I1, e2, e3, e4, e5, e6, e7, e8 I1.len⟩
    have hp := act (fun cls d σ' H' => σ'.length = Ng.length → Wb cls d σ' H') pn xe Ech p1 p2 tk2 (fun cls d σ' H' z hl => hW cls d σ' H' hl z)
    exact (pss_one (ps_ret (pos := p3) hp)).run pins s' σ H' D I ⟨h1, h2, h3⟩
  · subst ek
    exact (hsu s H a oe k d pn hz hv).run pins s' σ H' D I hk
  · refine ⟨_, fun cls d σ' H' hl ⟨b, e1, e2, e3⟩ => ⟨b, e1, fun hb a ha => ?_, fun hb => e3 hb⟩, start_len Ng _ (by have := (List.getElem?_eq_some_iff.mp hi).1; simp; omega), h0 f, hc, h⟩
    obtain ⟨k, ek, hk⟩ := e2 hb a σ' ha hl
    exact ⟨k, ek, hk⟩
/-- told(lambda: body) -/
def eTold (P : Addr) (q : Str) (len i : Nat) (sub : Str → Option Bool) (ts : Addr → Option Addr → Str → TSd) (te : TEd) : TEd := fun de M R _ => M[0]? = some (.tab P q) ∧ te de M R (fun cls fs M1 => sub cls = some true ∧
  ∀ a d, (d = none → fs = []) → ts a d cls ⟨fun _ M2 => R .non M2, R⟩ ((List.replicate len none).set i (some (.exc a d fs))) M1 (fun _ _ _ _ => False))
/-- behind the lambda's making -/
theorem World.lam {K : PySem.W.Frag} {al : List Addr} {G H H1 : Hp} {M : Mem} {P : Addr} {q : Str} (w : World K G al H M) (h0 : M[0]? = some (.tab P q)) (e : LamX.ExtN H H1) (t : LamX.Tabs [(P, q)] H1) : ∃ G1, World K G1 al H1 M ∧ Ext al al G G1 H H1 := by
  obtain ⟨ps1, t1, t2, t3⟩ := t (P, q) List.mem_cons_self
  have aP : ∃ a, al[0]? = some a ∧ a = P := by
    obtain ⟨a, ha, e0, _⟩ := w.at_ h0
    exact ⟨a, ha, e0⟩
  obtain ⟨_, aP, rfl⟩ := aP
  have notTab : ∀ (i : Nat) (a : Addr) (mo : MO), al[i]? = some a → M[i]? = some mo → i ≠ 0 → ∃ o, H a = some o ∧ (∀ ps, o ≠ .tbl ps) ∧ H1 a = some o := fun i a mo h1 h2 hi => by
    have r := w.obj i a mo h1 h2
    have fin : ∀ o, H a = some o → (∀ ps, o ≠ .tbl ps) → ∃ o, H a = some o ∧ (∀ ps, o ≠ .tbl ps) ∧ H1 a = some o := fun o z n => ⟨o, z, n, e a o z n⟩
    cases mo with
    | lst ds => obtain ⟨_, vs, z, _⟩ := r; exact fin _ z (by nofun)
    | dic ds => obtain ⟨_, vs, z, _⟩ := r; exact fin _ z (by nofun)
    | ins c ds => obtain ⟨_, dx, vs, z, _⟩ := r; exact fin _ z (by nofun)
    | lck o ds => obtain ⟨_, z, od, vs, rfl, _⟩ := r; exact fin _ z (by nofun)
    | tab P' q' => exact absurd (w.tb i P' q' h2) hi
  have nt1 : ∀ a u, G a = some u → H1 a = some u := fun a u h => e a u (w.sub a u h) fun ps z => w.nt a ps (by rw [h, z])
  have alive1 : ∀ a, H a ≠ none → a ∈ al → H1 a ≠ none := fun a h ha => by
    obtain ⟨i, hi, e1⟩ := List.mem_iff_getElem.mp ha
    have e2 : al[i]? = some a := by rw [← e1]; exact List.getElem?_eq_getElem hi
    by_cases hi0 : i = 0
    · subst hi0
      rw [aP] at e2; cases e2
      rw [t1]; simp
    · obtain ⟨o, _, _, z⟩ := notTab i a (M[i]'(by rw [← w.len]; exact hi)) e2 (List.getElem?_eq_getElem _) hi0
      rw [z]; simp
  let G1 : Hp := fun b => open Classical in if (∃ c q, H1 b = some (LamX.CodeO c q)) ∧ b ∉ al then H1 b else G b
  have sG : Same G G1 := fun b u h => by
    by_cases z : (∃ c q, H1 b = some (LamX.CodeO c q)) ∧ b ∉ al
    · show (open Classical in if (∃ c q, H1 b = some (LamX.CodeO c q)) ∧ b ∉ al then H1 b else G b) = some u
      rw [if_pos z]; exact nt1 b u h
    · show (open Classical in if (∃ c q, H1 b = some (LamX.CodeO c q)) ∧ b ∉ al then H1 b else G b) = some u
      rw [if_neg z]; exact h
  have gAl : ∀ a ∈ al, G a = none → G1 a = none := fun a ha h => by
    show (open Classical in if (∃ c q, H1 a = some (LamX.CodeO c q)) ∧ a ∉ al then H1 a else G a) = none
    rw [if_neg (fun z => z.2 ha)]; exact h
  have tO : ∀ (o : HO), o ≠ .tbl #[] ∨ True := fun _ => .inr trivial
  refine ⟨G1, ⟨w.len, w.nd, fun b u h => ?_, fun a h => alive1 a (w.alive a h) h, fun i a mo h1 h2 => ?_, fun a ps h => ?_, w.tb⟩, ⟨fun _ _ h => h, fun _ h => .inl h, sG, fun a o h _ n => e a o h n, fun a h => ?_, fun a h => ?_⟩⟩
  · have h : (open Classical in if (∃ c q, H1 b = some (LamX.CodeO c q)) ∧ b ∉ al then H1 b else G b) = some u := h
    by_cases z : (∃ c q, H1 b = some (LamX.CodeO c q)) ∧ b ∉ al
    · rw [if_pos z] at h; exact h
    · rw [if_neg z] at h; exact nt1 b u h
  · by_cases hi : i = 0
    · subst hi
      rw [h0] at h2; cases h2
      rw [aP] at h1; cases h1
      obtain ⟨_, g, ps, _, _, _⟩ := w.obj 0 _ _ aP h0
      refine ⟨rfl, gAl _ (List.mem_of_getElem? aP) g, ps1, t1, t2, fun pos cv hc => ?_⟩
      obtain ⟨c, e1, e2⟩ := t3 pos cv hc
      refine ⟨c, e1, ?_⟩
      have hcal : c ∉ al := fun hca => by
        obtain ⟨j, hj, ej⟩ := List.mem_iff_getElem.mp hca
        have ej2 : al[j]? = some c := by rw [← ej]; exact List.getElem?_eq_getElem hj
        by_cases hj0 : j = 0
        · subst hj0
          rw [aP] at ej2; cases ej2
          rw [t1] at e2
          have z : HO.tbl ps1 = HO.ext _ := Option.some.inj e2
          cases z
        · have hM : M[j]? = some (M[j]'(by rw [← w.len]; exact hj)) := List.getElem?_eq_getElem _
          have r := w.obj j c _ ej2 hM
          have no : ∀ o, H c = some o → (∀ ps, o ≠ .tbl ps) → o = LamX.CodeO c q := fun o z n => Option.some.inj ((e c o z n).symm.trans e2)
          generalize M[j]'(by rw [← w.len]; exact hj) = mo at r hM
          cases mo with
          | lst ds => obtain ⟨_, vs, z, _⟩ := r; have y : HO.lst vs = HO.ext _ := no _ z (by nofun); cases y
          | dic ds => obtain ⟨_, vs, z, _⟩ := r; have y : HO.dK vs = HO.ext _ := no _ z (by nofun); cases y
          | ins c' ds => obtain ⟨_, dx, vs, z, _⟩ := r; have y : HO.ins _ dx vs = HO.ext _ := no _ z (by nofun); cases y
          | lck o ds => obtain ⟨_, z, od, vs, rfl, _⟩ := r; have y : HO.frz od (.dK vs) = HO.ext _ := no _ z (by nofun); cases y
          | tab P' q' => exact hj0 (w.tb j P' q' hM)
      show (open Classical in if (∃ c_1 q, H1 c = some (LamX.CodeO c_1 q)) ∧ c ∉ al then H1 c else G c) = some _
      rw [if_pos ⟨⟨c, q, e2⟩, hcal⟩]; exact e2
    · obtain ⟨o, z1, z2, z3⟩ := notTab i a mo h1 h2 hi
      exact (w.obj i a mo h1 h2).ext sG (fun _ _ h => h) (gAl a (List.mem_of_getElem? h1)) fun o' z => by rw [z1] at z; cases z; exact z3
  · have h : (open Classical in if (∃ c q, H1 a = some (LamX.CodeO c q)) ∧ a ∉ al then H1 a else G a) = some (.tbl ps) := h
    by_cases z : (∃ c q, H1 a = some (LamX.CodeO c q)) ∧ a ∉ al
    · rw [if_pos z] at h
      obtain ⟨⟨c, q', y⟩, _⟩ := z
      rw [h] at y
      have y2 : HO.tbl ps = HO.ext _ := Option.some.inj y
      cases y2
    · rw [if_neg z] at h; exact w.nt a ps h
  · have h : (open Classical in if (∃ c q, H1 a = some (LamX.CodeO c q)) ∧ a ∉ al then H1 a else G a) ≠ none := h
    by_cases z : (∃ c q, H1 a = some (LamX.CodeO c q)) ∧ a ∉ al
    · obtain ⟨⟨c, q', y⟩, z2⟩ := z
      refine .inr (.inr (.inr ⟨c, q', ?_⟩))
      show (open Classical in if (∃ c q, H1 a = some (LamX.CodeO c q)) ∧ a ∉ al then H1 a else G a) = some _
      rw [if_pos ⟨⟨c, q', y⟩, z2⟩]; exact y
    · rw [if_neg z] at h; exact .inl h
  · cases q : H a with
    | none => exact absurd (.inl q) h
    | some o =>
      have ht : ∀ ps, o ≠ .tbl ps := fun ps z => h (.inr ⟨ps, by rw [q, z]⟩)
      exact fun z => z.not (e a o q ht) ht
theorem pd_told {x a lx e q : Str} {g c P L : Addr} {k : Nat} {pg : Arguments} {sg : Scope} {dV kV doc pm cdv ct oc : Value} {an od : Option Addr} {osl : Array (Option Value)} {Ng : List Str} {params : Arguments} {body : Expr} {scope : Scope} {te : TEd} {p lpos pos : Pos} {i : Nat} {p1 p2 p3 p4 p7 p8 : Pos} {b₀ : Stmt} {suite : List Stmt} {ts : Addr → Option Addr → Str → TSd} {sub : Str → Option Bool}
    (hg : Gl X x) (hm : X.mg x = some (.ref g)) (hk : PySem.W.keepIn X.K (.ref g) = true)
    (lk : X.K.lookup g = some ⟨oc, od, .func (PySem.W.fnOf x x pg [.Try [.Return (some (.Call (.Name a p1) [] [] p2)) p3] [.ExceptHandler (some (.Name lx p4)) (some e) (b₀ :: suite) p7] [] [] p8] sg dV kV doc pm an cdv ct), osl⟩)
    (hcg : PySem.W.codeIn X.K cdv x = true) (hb : L2.Binds X.K (PySem.W.fnOf x x pg [.Try [.Return (some (.Call (.Name a p1) [] [] p2)) p3] [.ExceptHandler (some (.Name lx p4)) (some e) (b₀ :: suite) p7] [] [] p8] sg dV kV doc pm an cdv ct) [a] []) (Sg : FnScope Ng [a] sg) (hNg : Ng[0]? = some a) (hva : Vis sg a)
    (hge : sg.names.lookup lx = some .globalImplicit) (hme : X.mg lx = some (.ref L)) (hde : (lx == ("__debug__" : Str)) = false) (hNd : Ng.Nodup) (hi : Ng[i]? = some e) (hle : sg.names.lookup e = some .local)
    (hsu : ∀ (s : Shared) (H : Hp) (a : Addr) (oe : Obj) (k : Str) (d : Option Addr) (pn : List (Addr × Obj)), Zc (.ref (He.ga X.K k)) d oe → (∃ vs, oe.data = .fields vs) →
      PSsd ((cxOf C8.CX0 X.prog X.w X.K X.mg X.base Ng x sg g cdv X.A X.stack s H C8.E0).nox.suite a ((a, oe) :: pn)) W0 (b₀ :: suite) (ts a d k))
    (hsub : ∀ k b, sub k = some b → PySem.W.exmOne X.K (.ref (He.ga X.K k)) (.ref L) = some b)
    (TB : LamX.TabB X.base X.mg c P) (hcode : X.env.code = .ref c) (hr : Room (k + 2) X.A) (Ls : LamX.LamS X.env.scope scope) (hdef : defaultsOf params X.env = ([], []))
    (hbind : ∀ (q : Str) (cl : List (Str × Addr)) (pm cv ctv : Value), bindArgs (PySem.W.kla_fn "<lambda>" q params body scope cl pm cv ctv) ⟨[], []⟩ = pure [])
    (hbody : ∀ (A : Around) (outer : List Env) (s : Shared) (H : Hp) (E : XK) (f c' : Addr), Room k (A.deeper (LamX.lamEnv X scope s.heap.objs.size f c')) → PEd (LamX.lamCx X A outer s H E scope f c') (fun c d _ H' => E c d H') body te)
    (hq : q = X.env.qual ++ "<lambda>") (h0 : ∀ f : Addr, (L2.start Ng [V.ref f])[0]? = some (some (V.ref f)) := by intro _; rfl)
    (hdb : (x == ("__debug__" : Str)) = false := by decide) (hd : (a == ("__debug__" : Str)) = false := by decide) (hcd : (a == ("__classdict__" : Str)) = false := by decide) :
    PEd X W (.Call (.Name x p) [.Lambda params body scope lpos] [] pos) (eTold P q Ng.length i sub ts te) := by
  subst hq
  refine PE.imp (LamX.pe_lamcall (T := [(P, X.env.qual ++ "<lambda>")]) (t := fun E => liftE X.K (fun c d _ H' => E c d H') te) hg hm hk lk hcg hb Sg hNg hva (told_gives (L := L) hge hme hde h0 hNd hi hle hsu) TB hcode List.mem_cons_self (fun p hp _ => by rw [List.mem_singleton.mp hp]) hr Ls hdef hbind hbody hdb hd hcd) fun σ H Q ⟨al, G, M, de, R, S, at_, ⟨h1, h2⟩, hR, hS⟩ => ?_
  refine ⟨fun p hp => ?_, fun H1 e1 t1 => ?_⟩
  · rw [List.mem_singleton.mp hp]
    obtain ⟨a', ha, ea, _, ps, k1, k2, k3⟩ := at_.w.at_ h1
    subst ea
    exact ⟨ps, k1, k2, fun pos cv hc => let ⟨c, e1, e2⟩ := k3 pos cv hc; ⟨c, e1, at_.w.sub _ _ e2⟩⟩
  · obtain ⟨G1, w1, x1⟩ := at_.w.lam h1 e1 t1
    unfold TTold
    refine liftE.mk (at_.ext x1 w1) h2 (hR.ext x1) fun k fs M1 ⟨y1, y2⟩ al2 G2 H2 d x2 w2 xr => ⟨true, hsub k true y1, fun _ a σ' ha hl => ⟨k, rfl, ?_⟩, fun z => nomatch z⟩
    have rs : RelSt X.K G2 al2 (List.replicate Ng.length none) σ' := ⟨by simp [hl], fun j d hd => by
      rw [List.getElem?_replicate] at hd
      split at hd <;> simp at hd⟩
    exact liftS.mk ⟨w2, rs.set (xr.rel a) i⟩ (y2 a d xr.dict) (fun de3 M3 q3 al3 G3 H3 σ3 e3 w3 s3 => hR _ _ q3 _ _ _ _ ((x1.trans x2).trans e3) w3 .non) (fun v M3 q3 al3 G3 H3 v3 e3 w3 r3 => hR _ _ q3 _ _ _ _ ((x1.trans x2).trans e3) w3 r3) ToSX.no
end
end Dx
/-! Dx13: comprehensions of any form: what they gather in, one clause or two, items of a dict as whole tuples. -/
namespace Dx
open PySem PySem.Spec PyProof.Rows L2
/-! ### iterators that may lean on tuples told -/
structure TurnH (P : Program) (w : PySem.World) (K : PySem.W.Frag) (tg : Expr) (J : It) (fp : List Addr) (it : Addr) (tn : Nat → Hp → Heap → Prop) : Prop where
  mem : it ∈ fp
  obj : ∀ i H h, tn i H h → ∀ b ∈ fp, ∃ o, h.get? b = some o ∧ ∀ v, o.data ≠ .cell v
  keep : ∀ i H h H' h', tn i H h → (∀ b ∈ fp, ∀ o, h.get? b = some o → h'.get? b = some o) → (∀ b xs, H b = some (.tup xs) → H' b = some (.tup xs) ∧ ∃ o, h'.get? b = some o) → tn i H' h'
  item : ∀ (X : Cx), X.prog = P → X.w = w → X.K = K → X.calm = true → ∀ (i : Nat) (pins : List (Addr × Obj)) (s : Shared) (σ : L2.St) (H : Hp) (E : Value → Shared → Prop), Inv X pins σ H s → (∀ b ∈ fp, FpOk X pins H b) → tn i H s.heap → J.go i H →
    wpAny (model P w) X.A (pyNext (.ref it)) (fun r s1 => ∃ u, r = some u ∧
      wpAny (model P w) X.A (letOwnedTupleGo tg (.ref it) u) (fun _ s2 => ∃ x H', Inv X pins σ H' s2 ∧ RelV x u ∧ J.yld i H x H' ∧ tn (i + 1) H' s2.heap ∧ ∀ b ∈ fp, H' b = none) E s1) E s
  done : ∀ (X : Cx), X.prog = P → X.w = w → X.K = K → X.calm = true → ∀ (i : Nat) (pins : List (Addr × Obj)) (s : Shared) (σ : L2.St) (H : Hp) (E : Value → Shared → Prop), Inv X pins σ H s → (∀ b ∈ fp, FpOk X pins H b) → tn i H s.heap → J.stop i H →
    wpAny (model P w) X.A (pyNext (.ref it)) (fun r s1 => r = none ∧ Inv X pins σ H s1) E s
  self : ∀ (A : Around) (i : Nat) (H : Hp) (s : Shared) (Q : Value → Shared → Prop) (E : Value → Shared → Prop), tn i H s.heap → Q (.ref it) s → wpAny (model P w) A (pyIter (.ref it)) Q E s
theorem TurnH.of {P : Program} {w : PySem.World} {K : PySem.W.Frag} {tg : Expr} {J : It} {fp : List Addr} {it : Addr} {tn : Nat → Heap → Prop} (T : Turn P w K tg J fp it tn) : TurnH P w K tg J fp it (fun i _ h => tn i h) where
  mem := T.mem
  obj := fun i _ h => T.obj i h
  keep := fun i _ h _ h' st k _ => T.keep i h h' st k
  item := T.item
  done := T.done
  self := fun A i _ s Q E => T.self A i s Q E
def PIEx (X : Cx) (pins : List (Addr × Obj)) (σ : L2.St) (tg : Expr) (R : It → Hp → Prop) (itv : Value) (s2 : Shared) : Prop :=
  ∃ (it : Addr) (fp : List Addr) (tn : Nat → Hp → Heap → Prop) (J : It) (H' : Hp), itv = .ref it ∧ Inv X pins σ H' s2 ∧ TurnH X.prog X.w X.K tg J fp it tn ∧ tn 0 H' s2.heap ∧ (∀ b ∈ fp, FpOk X pins H' b) ∧ R J H'
structure PIx (X : Cx) (tg iter : Expr) (wi : TI) : Prop where
  run : ∀ (pins : List (Addr × Obj)) (s : Shared) (σ : L2.St) (H : Hp) (R : It → Hp → Prop), Inv X pins σ H s → wi σ H R →
    wpAny (model X.prog X.w) X.A (eval iter X.env) (fun v s1 => wpAny (model X.prog X.w) X.A (pyIter v) (PIEx X pins σ tg R) X.xe s1) X.xe s
theorem PIx.of {X : Cx} {tg iter : Expr} {wi : TI} (h : PI X tg iter wi) : PIx X tg iter wi := ⟨fun pins s σ H R I q => thn (h.run pins s σ H R I q) fun v s1 z => thn z fun itv s2 ⟨it, fp, tn, J, H', e, I2, T, st, f, r⟩ => ⟨it, fp, _, J, H', e, I2, TurnH.of T, st, f, r⟩⟩
theorem PIx.imp {X : Cx} {tg iter : Expr} {t u : TI} (h : PIx X tg iter t) (i : ∀ σ H Q, u σ H Q → t σ H Q) : PIx X tg iter u := ⟨fun pins s σ H R I q => h.run pins s σ H R I (i σ H R q)⟩

/-! ### one clause's loop -/
def turnOf (e : Expr) (k : Nat) (it acc : Value) (env : Env) (tg : Expr) (ip : Pos) (ifs : List Expr) (act : Sem Fin → Sem Fin) : Sem Fin := do
  standAt ip
  match ← pyNext it with
  | none => pure (.done .next)
  | some v =>
    letOwnedTupleGo tg it v
    assign tg env v
    let mut ok := true
    for c in ifs do
      if ok then ok ← isTrue c env (eval c env)
    if ok then act (again (.compLoop e k it acc env)) else again (.compLoop e k it acc env)
abbrev TM := L2.St → Hp → (Hp → Prop) → Prop
structure PMm (X : Cx) (act : Sem Fin → Sem Fin) (vs : List Nat) (tm : TM) : Prop where
  run : ∀ (pins : List (Addr × Obj)) (s : Shared) (σ : L2.St) (H : Hp) (N : Hp → Prop) (k : Sem Fin) (Q : Fin → Shared → Prop), Inv X pins σ H s → tm σ H N → (∀ s' H', Inv X pins (wipe σ vs) H' s' → N H' → wpAny (model X.prog X.w) X.A k Q (fun _ _ => False) s') → wpAny (model X.prog X.w) X.A (act k) Q (fun _ _ => False) s
theorem PMm.imp {X : Cx} {act : Sem Fin → Sem Fin} {vs : List Nat} {t u : TM} (h : PMm X act vs t) (i : ∀ σ H N, u σ H N → t σ H N) : PMm X act vs u := ⟨fun pins s σ H N k Q I q => h.run pins s σ H N k Q I (i σ H N q)⟩
def KeepT (H H' : Hp) : Prop := ∀ b xs, H b = some (.tup xs) → H' b = some (.tup xs)
def LoopR (g : TG) (tt : TT) (tm : TM) (vs : List Nat) (J : It) (σ0 : L2.St) (H0 : Hp) (Fin : Hp → Prop) : Prop :=
  ∃ W : Nat → Nat → Hp → Prop, (∃ m, W 0 m H0) ∧ ∀ i m H, W i m H → (J.stop i H ∧ Fin H) ∨ (J.go i H ∧ ∀ x H', J.yld i H x H' → ∃ Nx : Hp → Prop, (∀ H'', Nx H'' → KeepT H' H'' ∧ ∃ m', m' < m ∧ W (i + 1) m' H'') ∧
    g x σ0 H' fun σ2 H2 => wipe σ2 vs = wipe σ0 vs ∧ tt σ2 H2 fun b H3 => if b = true then tm σ2 H3 Nx else Nx H3)
theorem loop_run {Xb : Cx} (hc : Xb.calm = true) (hxe : Xb.xe = fun _ _ => False) {e tg : Expr} {k : Nat} {ip : Pos} {ifs : List Expr} {it : Addr} {acc : Value} {act : Sem Fin → Sem Fin} {vs : List Nat} {g : TG} {tt : TT} {tm : TM} {J : It} {fp : List Addr} {tn : Nat → Hp → Heap → Prop} {pins : List (Addr × Obj)} {σ0 : L2.St} {H0 : Hp} {s0 : Shared} {Fin : Hp → Prop}
    (hturn : compTurn e k (.ref it) acc Xb.env = turnOf e k (.ref it) acc Xb.env tg ip ifs act) (hund : Xb.A.under (Code.compLoop e k (.ref it) acc Xb.env) = Xb.A)
    (hden : (model Xb.prog Xb.w).den (Code.compLoop e k (.ref it) acc Xb.env) = (compTurn e k (.ref it) acc Xb.env).onRaise (fun x => do noteFrame x Xb.env; theTreesLotGoes x)) (T : TurnH Xb.prog Xb.w Xb.K tg J fp it tn) (pg : PG Xb tg g) (pt : PTs Xb ifs tt) (pm : PMm Xb act vs tm) (hσ : wipe σ0 vs = σ0)
    (I0 : Inv Xb pins σ0 H0 s0) (st0 : tn 0 H0 s0.heap) (f0 : ∀ b ∈ fp, FpOk Xb pins H0 b) (h : LoopR g tt tm vs J σ0 H0 Fin) :
    codeAny (model Xb.prog Xb.w) Xb.A (.compLoop e k (.ref it) acc Xb.env) (fun r s' => match r with | .ok _ => ∃ H', Inv Xb pins σ0 H' s' ∧ Fin H' | .error _ => False) s0 := by
  obtain ⟨W, ⟨m0, w0⟩, turn⟩ := h
  refine codeAny_loop rfl (fun n s' => ∃ i H', Inv Xb pins σ0 H' s' ∧ tn i H' s'.heap ∧ (∀ b ∈ fp, H' b = none) ∧ W i n H') (fun n s5 ⟨i, H5, I5, st5, n5, w5⟩ => ?_) m0 ⟨0, H0, I0, st0, fun b hb => (f0 b hb).1, w0⟩
  have stat : ∀ {H' : Hp}, (∀ b ∈ fp, H' b = none) → ∀ b ∈ fp, FpOk Xb pins H' b := fun {H'} hn b hb => ⟨hn b hb, (f0 b hb).2⟩
  rw [hund, hden]
  refine wpAny_noted (wpAny_mono (?_ : wpAny _ _ _ _ (fun _ _ => False) _) (fun _ _ q => q) fun _ _ z => z.elim)
  rw [hturn]
  unfold turnOf
  rcases turn i n H5 w5 with ⟨stop, fin⟩ | ⟨go, step⟩
  · refine wpAny_bind (wpAny_standAt (wpAny_bind (thnF (T.done Xb rfl rfl rfl hc i pins s5 σ0 H5 (fun _ _ => False) I5 (stat n5) st5 stop) fun r s6 ⟨hr, I6⟩ => ?_)))
    subst hr
    exact wpAny_pure ⟨H5, I6, fin⟩
  · refine wpAny_bind (wpAny_standAt (wpAny_bind (thnF (T.item Xb rfl rfl rfl hc i pins s5 σ0 H5 (fun _ _ => False) I5 (stat n5) st5 go) fun r s6 ⟨u, hr, h6⟩ => ?_)))
    subst hr
    refine wpAny_bind (thnF h6 fun _ s7 ⟨x, H7, I7, r7, y7, st7, n7⟩ => ?_)
    obtain ⟨Nx, hNx, hg⟩ := step x H7 y7
    have I7' := I7.pinned (stat n7) (T.obj _ _ _ st7)
    have z1 := pg.run _ s7 σ0 H7 x u _ I7' r7 hg
    rw [hxe] at z1
    refine wpAny_bind (thnF z1 fun _ s8 ⟨σ8, H8, I8, hw8, q8⟩ => ?_)
    have z2 := pt.run _ s8 σ8 H8 _ I8 q8
    rw [hxe] at z2
    refine wpAny_bind (thnF z2 fun b s9 ⟨H9, I9, q9⟩ => ?_)
    have fin : ∀ {s' : Shared} {H' : Hp}, Inv Xb (pins ++ pinsAt fp s7.heap) (wipe σ8 vs) H' s' → Nx H' → ∃ m, m < n ∧ ∃ i H', Inv Xb pins σ0 H' s' ∧ tn i H' s'.heap ∧ (∀ b ∈ fp, H' b = none) ∧ W i m H' := fun {s' H'} I' nx => by
      obtain ⟨kt, m', hm, w'⟩ := hNx H' nx
      have pin' : ∀ b ∈ fp, ∀ o, s7.heap.get? b = some o → s'.heap.get? b = some o ∧ H' b = none := fun b hb o e =>
        let z := I'.pin (b, o) (List.mem_append_right _ (List.mem_append_right _ (mem_pinsAt hb e)))
        ⟨z.1, z.2.1⟩
      rw [hw8, hσ] at I'
      refine ⟨m', hm, i + 1, H', I'.unpinned, T.keep _ _ _ _ _ st7 (fun b hb o e => (pin' b hb o e).1) (fun b xs e => ⟨kt b xs e, ?_⟩), fun b hb => ?_, w'⟩
      · obtain ⟨_, _, _, o, ho, _⟩ := I'.hok b _ (kt b xs e)
        exact ⟨o, ho⟩
      · obtain ⟨o, e, _⟩ := T.obj _ _ _ st7 b hb
        exact (pin' b hb o e).2
    cases b with
    | false =>
      simp only [Bool.false_eq_true, if_false] at q9 ⊢
      exact wpAny_pure ⟨rfl, fin (I9.weak (wipe_length _ _) fun j v e => (wipe_some e).1) q9⟩
    | true =>
      simp only [if_true] at q9 ⊢
      exact pm.run _ s9 σ8 H9 Nx _ _ I9 q9 fun s10 H10 I10 nx => wpAny_pure ⟨rfl, fin I10 nx⟩
/-! ### the whole comprehension -/
/-- what is to be seen of a comprehension's text, its first clause, the thing it gathers in -/
structure CompE (X : Cx) (e : Expr) (tg iter : Expr) (ifs : List Expr) (act : Value → Env → Sem Fin → Sem Fin) (newAcc : Sem Value) (ob : Obj) (o0 : Addr → HO) : Prop where
  cl : ∃ gs, clausesOf e = ⟨tg, iter, ifs, 0⟩ :: gs
  turn : ∀ it acc env, compTurn e 0 it acc env = turnOf e 0 it acc env tg iter.pos ifs (act acc env)
  und : ∀ (A : Around) it acc env, A.under (Code.compLoop e 0 it acc env) = A
  den : ∀ it acc env, (model X.prog X.w).den (Code.compLoop e 0 it acc env) = (compTurn e 0 it acc env).onRaise (fun x => do noteFrame x env; theTreesLotGoes x)
  start : ∀ (A : Around) (it acc : Value) (env : Env) (R : Result → Shared → Prop) (s : Shared), codeAny (model X.prog X.w) A (.compLoop e 0 it acc env) R s →
    wpAny (model X.prog X.w) A (pyIter it) (fun it' s' => codeAny (model X.prog X.w) A (.compLoop e 0 it' acc env) R s') (notedBy (model X.prog X.w) A env fun x s' => R (.error x) s') s →
    codeAny (model X.prog X.w) A (.compStart e 0 it acc env) R s
  new : ∀ (A : Around) (E : Value → Shared → Prop) (s : Shared) (Q : Value → Shared → Prop), Q (.ref s.heap.objs.size) { s with heap := s.heap.push ob } → wpAny (model X.prog X.w) A newAcc Q E s
  ok : ∀ (pins : List (Addr × Obj)) (σ : L2.St) (H : Hp) (s : Shared), Inv X pins σ H s → ObjOk X.prog X.w (upd H s.heap.objs.size (o0 s.heap.objs.size)) (s.heap.push ob) s.heap.objs.size (o0 s.heap.objs.size)
section
variable {X : Cx}
theorem comp_core {pins : List (Addr × Obj)} {s : Shared} {σ : L2.St} {H : Hp} {Q : VK} {e tg iter : Expr} {ifs : List Expr} {act : Value → Env → Sem Fin → Sem Fin} {newAcc : Sem Value} {ob : Obj} {o0 : Addr → HO} {scope : Scope} {own : List (Str × Nat)} {pos' : Pos} {wi : TI} {g : TG} {tt : TT} {tm : Addr → TM} {use : Option (Value → Sem Unit)} {Qf : Value → Shared → Prop}
    (ce : CompE X e tg iter ifs act newAcc ob o0) (hc : X.calm = true) (hN : X.N.Nodup) (I : Inv X pins σ H s) (hi : PIx X tg iter wi) (ok : BlkOk X.N X.env.scope scope own)
    (hg : AllIn X scope fun Y => PG Y tg g) (ht : AllIn X scope fun Y => PTs Y ifs tt) (hm : AllIn X scope fun Y => ∀ D, PMm Y (act (.ref D) Y.env) (own.map (·.2)) (tm D)) (hs : ∀ x, foldedSetIterable iter X.env x = pure x)
    (h : wi σ H fun J H1 => ∀ D, H1 D = none → LoopR g tt (tm D) (own.map (·.2)) J (wipe σ (own.map (·.2))) (upd H1 D (o0 D)) fun H' => Q (.ref D) H')
    (hRR : ∀ D C s' m H', Inv X pins σ H' s' → Q (.ref D) H' → s'.heap.Ns C m → FpOk X pins H' C → compPost (model X.prog X.w) X.A X.xe use Qf (.ref D) C (.ok .next) s') :
    wpAny (model X.prog X.w) X.A (comprehension e scope X.env pos' newAcc false (eval iter X.env) use) Qf X.xe s := by
  have hfree : ∀ y ∈ scope.names, y.2 = .free → ∃ c, X.env.cells.lookup y.1 = some c := fun y hy e => (ok.free y hy e).elim (fun k => I.ok.has _ (.inl k)) fun k => I.ok.has _ (.inr k)
  obtain ⟨gs, hcl⟩ := ce.cl
  refine wpAny_comprehension_free (use := use) hcl hs (closure_ok hfree) ok.kind (fun y hy e => by rw [ok.uniq y hy, e]) (thn (hi.run pins s σ H _ I h) fun xv s1 hx => thn hx fun itv s2 ⟨it, fp, tn, J, H2, e2, I2, T, st2, f2, q⟩ => ?_)
  subst e2
  refine ce.new X.A _ s2 _ (newEnv_comp (?_ : _))
  generalize hD : s2.heap.objs.size = D
  have hDn : H2 D = none := I2.hok.fresh (Nat.le_of_eq hD)
  have q := q D hDn
  generalize hs3 : ({ s2 with heap := s2.heap.push ob } : Shared) = s3
  have h3 : s3.heap = s2.heap.push ob := by rw [← hs3]
  have I3 : Inv X pins σ (upd H2 D (o0 D)) s3 := by
    rw [← hs3, ← hD]
    exact I2.laid (t' := s2.toks) (fun b o e => Heap.get?_push_of_some _ e) (Nat.le_refl _) (ce.ok pins σ H2 s2 I2)
  have sz : ∀ b ∈ fp, b < s2.heap.objs.size := fun b hb => let ⟨o, e, _⟩ := T.obj _ _ _ st2 b hb; Heap.lt_size e
  have f3 : ∀ b ∈ fp, FpOk X pins (upd H2 D (o0 D)) b ∧ b < s3.heap.objs.size := fun b hb => by
    have hlt := sz b hb
    refine ⟨⟨?_, (f2 b hb).2⟩, by rw [h3, Heap.size_push]; exact Nat.lt_succ_of_lt hlt⟩
    rw [upd_ne (by rw [← hD]; exact Nat.ne_of_lt hlt)]
    exact (f2 b hb).1
  have tk : ∀ b xs, H2 b = some (.tup xs) → upd H2 D (o0 D) b = some (.tup xs) := fun b xs z => by rw [upd_ne (ne_of_none z hDn)]; exact z
  have th : ∀ {h' : Heap}, (∀ b o, s2.heap.get? b = some o → h'.get? b = some o) → ∀ b xs, H2 b = some (.tup xs) → upd H2 D (o0 D) b = some (.tup xs) ∧ ∃ o, h'.get? b = some o := fun {h'} k b xs z => by
    obtain ⟨_, _, _, o, ho, _⟩ := I2.hok b _ z
    exact ⟨tk b xs z, o, k b o ho⟩
  have k23 : ∀ b o, s2.heap.get? b = some o → s3.heap.get? b = some o := fun b o e => by rw [h3]; exact Heap.get?_push_of_some _ e
  have I4 := block_start I3 ok hN f3
  have pg := hg s3 (upd H2 D (o0 D)) s3.heap.objs.size (cellsFrom (s3.heap.objs.size + 1) scope.names (cloFrom X.env.cells scope.names [])) fp
  have pt := ht s3 (upd H2 D (o0 D)) s3.heap.objs.size (cellsFrom (s3.heap.objs.size + 1) scope.names (cloFrom X.env.cells scope.names [])) fp
  have pm := hm s3 (upd H2 D (o0 D)) s3.heap.objs.size (cellsFrom (s3.heap.objs.size + 1) scope.names (cloFrom X.env.cells scope.names [])) fp D
  show codeAny _ _ (.compStart e 0 (.ref it) (.ref D) (compEnvC scope (cellsFrom (s3.heap.objs.size + 1) scope.names (cloFrom X.env.cells scope.names [])) s3.heap.objs.size X.env)) (compPost (model X.prog X.w) X.A X.xe use Qf (.ref D) s3.heap.objs.size) { s3 with heap := pushCells (s3.heap.push { cls := .type "dict", data := .dict #[] }) scope.names }
  generalize hce : compEnvC scope (cellsFrom (s3.heap.objs.size + 1) scope.names (cloFrom X.env.cells scope.names [])) s3.heap.objs.size X.env = cenv at I4 pg pt pm ⊢
  have cL : cenv.locals = s3.heap.objs.size := by subst hce; rfl
  have k34 : ∀ b o, s3.heap.get? b = some o → (pushCells (s3.heap.push { cls := .type "dict", data := .dict #[] }) scope.names).get? b = some o := fun b o e => pushCells_keeps _ _ _ _ (Heap.get?_push_of_some _ e)
  have st4 : tn 0 (upd H2 D (o0 D)) (pushCells (s3.heap.push { cls := .type "dict", data := .dict #[] }) scope.names) := T.keep _ _ _ _ _ st2 (fun b _ o e => k34 b o (k23 b o e)) (th fun b o e => k34 b o (k23 b o e))
  have f4 : ∀ b ∈ fp, FpOk (X.blk s3 (upd H2 D (o0 D)) scope cenv fp) [] (upd H2 D (o0 D)) b := fun b hb => ⟨(f3 b hb).1.1, (I4.ok.exf b hb).1, I4.ok.exfs b hb, .inl hb, fun x c e => (I4.ok.exf b hb).2 x c e, fun p hp => absurd (show p ∈ ([] : List (Addr × Obj)) ++ [] from hp) (by simp)⟩
  have run := loop_run (Xb := X.blk s3 (upd H2 D (o0 D)) scope cenv fp) hc rfl (ce.turn _ _ _) (ce.und _ _ _ _) (ce.den _ _ _) T pg pt pm (wipe_wipe σ _) I4 st4 f4 q
  have loop : codeAny (model X.prog X.w) X.A (.compLoop e 0 (.ref it) (.ref D) cenv) (compPost (model X.prog X.w) X.A X.xe use Qf (.ref D) s3.heap.objs.size) { s3 with heap := pushCells (s3.heap.push { cls := .type "dict", data := .dict #[] }) scope.names } := by
    refine codeAny_mono run fun r s6 hr => ?_
    cases r with
    | error x => exact hr.elim
    | ok fl =>
      obtain ⟨H6, I6, qq⟩ := hr
      have I7 : Inv X pins σ H6 s6 := I3.call' (ch := fp) I6.os I6.base I6.hok I6.bare fun b hb => ⟨(f3 b hb).1.2.2.2.1, (f3 b hb).1.2.1, (f3 b hb).1.2.2.2.2.1, (f3 b hb).1.2.2.2.2.2⟩
      have nC : H6 s3.heap.objs.size = none := by
        have z : H6 cenv.locals = none := I6.free
        rw [cL] at z
        exact z
      obtain ⟨m, hn, _⟩ := I6.loc
      have hn : s6.heap.Ns cenv.locals m := hn
      rw [cL] at hn
      have fin := hRR D s3.heap.objs.size s6 m H6 I7 qq hn (I3.fpOk (Nat.le_refl _) nC)
      cases use <;> exact fin
  exact ce.start _ _ _ _ _ _ loop (T.self X.A 0 _ _ _ _ st4 loop)
end
end Dx
/-! Dx14: what comprehensions gather in: lists, dicts, sets of ints; one clause or two; over (slots, memory). -/
namespace Dx
open PySem PySem.Spec PyProof.Rows L2
theorem World.no_tup {K : PySem.W.Frag} {al : List Addr} {G H : Hp} {M : Mem} {a : Addr} (w : World K G al H M) (h : a ∈ al) (xs : List V) : H a ≠ some (.tup xs) := by
  obtain ⟨i, hi, e⟩ := List.mem_iff_getElem.mp h
  have e2 : al[i]? = some a := by rw [← e]; exact List.getElem?_eq_getElem hi
  have hM : M[i]? = some (M[i]'(by rw [← w.len]; exact hi)) := List.getElem?_eq_getElem _
  have r := w.obj i a _ e2 hM
  generalize M[i]'(by rw [← w.len]; exact hi) = mo at r
  cases mo with
  | lst ds => obtain ⟨_, vs, z, _⟩ := r; rw [z]; nofun
  | dic ds => obtain ⟨_, vs, z, _⟩ := r; rw [z]; nofun
  | ins c ds => obtain ⟨_, dx, vs, z, _⟩ := r; rw [z]; nofun
  | lck o ds => obtain ⟨_, z, od, vs, rfl, _⟩ := r; rw [z]; nofun
  | tab P q => obtain ⟨_, _, ps, z, _⟩ := r; rw [z]; nofun
theorem Ext.keepT {K : PySem.W.Frag} {al al' : List Addr} {G G' H H' : Hp} {M : Mem} (e : Ext al al' G G' H H') (w : World K G al H M) : KeepT H H' := fun b xs h => e.frm b _ h (fun z => w.no_tup z xs h) (by nofun)
theorem KeepT.trans {H H1 H2 : Hp} (a : KeepT H H1) (b : KeepT H1 H2) : KeepT H H2 := fun c xs h => b c xs (a c xs h)
theorem KeepT.poke {H : Hp} {p : Addr} {o o' : HO} (hp : H p = some o) (n : ∀ xs, o ≠ .tup xs) : KeepT H (upd H p o') := fun c xs h => by
  have ne : c ≠ p := fun z => by rw [z, hp] at h; exact n xs (Option.some.inj h)
  rw [upd_ne ne]; exact h

/-! ### what is gathered in -/
/-- A: what the gathered thing is told as -/
structure Acc (A : Type) where
  rel : PySem.W.Frag → Hp → List Addr → Addr → A → HO → Prop
  ext : ∀ {K G G' H H' al al' p acc o}, rel K G al p acc o → Ext al al' G G' H H' → rel K G' al' p acc o
  sol : ∀ {K G al p acc o}, rel K G al p acc o → Solid o ∧ ∀ xs, o ≠ .tup xs
abbrev EmD (A : Type) := Lo → A → Mem → (A → Mem → Prop) → Prop
/-- where the thing gathered stands aside at p -/
structure AtP {A : Type} (a : Acc A) (K : PySem.W.Frag) (al0 : List Addr) (G0 H0 : Hp) (p : Addr) (al : List Addr) (G H : Hp) (M : Mem) (acc : A) : Prop where
  sd : Side K al0 al G0 G H0 H p
  w : World K G al H M
  at_ : ∃ o, H p = some o ∧ a.rel K G al p acc o
theorem AtP.step {A : Type} {a : Acc A} {K : PySem.W.Frag} {al0 al al' : List Addr} {G0 H0 G H G' H' : Hp} {p : Addr} {M M' : Mem} {acc : A} (x : AtP a K al0 G0 H0 p al G H M acc) (e : Ext al al' G G' H H') (w : World K G' al' H' M') : AtP a K al0 G0 H0 p al' G' H' M' acc := by
  obtain ⟨o, h1, h2⟩ := x.at_
  obtain ⟨s2, h3⟩ := x.sd.step e h1 w.sub (a.sol h2).1
  exact ⟨s2, w, o, h3, a.ext h2 e⟩
abbrev Pre (al al' : List Addr) : Prop := ∀ (n : Nat) (a : Addr), al[n]? = some a → al'[n]? = some a
theorem RelSt.grow {K : PySem.W.Frag} {G G' : Hp} {al al' : List Addr} {de : Lo} {σ : L2.St} (r : RelSt K G al de σ) (p : Pre al al') (s : Same G G') : RelSt K G' al' de σ := ⟨r.len, fun i d h => let ⟨v, h1, h2⟩ := r.at_ i d h; ⟨v, h1, h2.mono s p⟩⟩
/-- an emission's reading -/
def EmOk {A : Type} (a : Acc A) (K : PySem.W.Frag) (tm : Addr → TM) (em : EmD A) : Prop :=
  ∀ (al0 : List Addr) (G0 H0 : Hp) (p : Addr) (al : List Addr) (G H : Hp) (M : Mem) (de : Lo) (σ : L2.St) (acc : A) (R : A → Mem → Prop) (N : Hp → Prop), AtP a K al0 G0 H0 p al G H M acc → RelSt K G al de σ → em de acc M R →
    (∀ acc' M', R acc' M' → ∀ al' G' H', Pre al al' → Same G G' → AtP a K al0 G0 H0 p al' G' H' M' acc' → KeepT H H' → N H') → tm p σ H N
def cpL {A : Type} (stay : Mem → Prop) (g : TGd) (tt : TTd) (em : EmD A) (de0 : Lo) : List D → A → Mem → (A → Mem → Prop) → Prop
  | [], acc, M, R => R acc M
  | x :: r, acc, M, R => g x de0 M (fun de1 M1 => tt de1 M1 (fun b M2 => match b with
    | true => em de1 acc M2 (fun acc' M3 => stay M3 ∧ cpL stay g tt em de0 r acc' M3 R)
    | false => stay M2 ∧ cpL stay g tt em de0 r acc M2 R) S0)
theorem cp_goes {A : Type} {a : Acc A} {K : PySem.W.Frag} {J : It} {xs : List D} {stay : Mem → Prop} {g : TGd} {tt : TTd} {em : EmD A} {tm : Addr → TM} {vs : List Nat} {de : Lo} {σ : L2.St} {p : Addr} {al0 alb : List Addr} {G0 H0 Gb Hb : Hp} {Mb : Mem} {acc0 : A} {R : A → Mem → Prop} {Fin : Hp → Prop}
    (wk : WalkD K alb Gb xs stay J) (st : RelSt K Gb alb de σ) (x0 : AtP a K al0 G0 H0 p alb Gb Hb Mb acc0) (hst : stay Mb) (he : EmOk a K tm em) (h : cpL stay g tt em (wipeD de vs) xs acc0 Mb R)
    (hR : ∀ acc M', R acc M' → ∀ al' G' H', Pre alb al' → Same Gb G' → AtP a K al0 G0 H0 p al' G' H' M' acc → KeepT Hb H' → Fin H') :
    LoopR (liftGw K vs g) (liftT K W0 tt) (tm p) vs J (wipe σ vs) Hb Fin := by
  obtain ⟨Gd, Y, wk, k1, k2⟩ := wk
  refine ⟨fun i m H => m = xs.length - i ∧ i ≤ xs.length ∧ ∃ al' G' M' acc, Pre alb al' ∧ Same Gb G' ∧ AtP a K al0 G0 H0 p al' G' H M' acc ∧ stay M' ∧ KeepT Hb H ∧ cpL stay g tt em (wipeD de vs) (xs.drop i) acc M' R,
    ⟨xs.length, by simp, Nat.zero_le _, alb, Gb, Mb, acc0, fun _ _ h => h, Same.refl _, x0, hst, fun _ _ h => h, by simpa using h⟩, ?_⟩
  rintro i m H ⟨rfl, hi, al', G', M', acc, pre, sm, x, st', kt, q⟩
  have gd := k1 al' G' H M' pre sm x.w st'
  by_cases hlt : i < xs.length
  · refine .inr ⟨wk.goes i H hlt gd, fun xv H' y => ?_⟩
    have hx : xs[i]? = some xs[i] := List.getElem?_eq_getElem hlt
    obtain ⟨G'', e3, w3, rx⟩ := k2 i _ al' G' H M' xv H' hx pre sm x.w st' (wk.yields i H xv H' hlt gd y)
    rw [List.drop_eq_getElem_cons hlt] at q
    have x3 := x.step e3 w3
    refine ⟨fun H'' => KeepT H' H'' ∧ ∃ al4 G4 M4 acc4, Pre alb al4 ∧ Same Gb G4 ∧ AtP a K al0 G0 H0 p al4 G4 H'' M4 acc4 ∧ stay M4 ∧ KeepT Hb H'' ∧ cpL stay g tt em (wipeD de vs) (xs.drop (i + 1)) acc4 M4 R,
      fun H'' ⟨z1, z2⟩ => ⟨z1, xs.length - (i + 1), by omega, rfl, hlt, z2⟩, al', G'', M', wipeD de vs, _, _, ⟨w3, (st.grow pre (sm.trans e3.same)).wipe vs⟩, rx, q, fun de4 M4 q4 al4 G4 H4 σ4 e4 w4 r4 k4 => ⟨k4, ?_⟩⟩
    have x4 := x3.step e4 w4
    refine liftT.mk ⟨w4, r4⟩ q4 (fun b M5 q5 al5 G5 H5 e5 w5 => ?_) (fun _ _ _ z => z.elim)
    have x5 := x4.step e5 w5
    have kt5 : KeepT H' H5 := (e4.keepT w3).trans (e5.keepT w4)
    have ktb : KeepT Hb H5 := (kt.trans (e3.keepT x.w)).trans kt5
    have pre5 : Pre alb al5 := fun n b z => e5.pre n b (e4.pre n b (pre n b z))
    have sm5 : Same Gb G5 := ((sm.trans e3.same).trans e4.same).trans e5.same
    cases b with
    | false =>
      rw [if_neg Bool.false_ne_true]
      exact ⟨kt5, al5, G5, M5, acc, pre5, sm5, x5, q5.1, ktb, q5.2⟩
    | true =>
      rw [if_pos rfl]
      exact he _ _ _ _ _ _ _ _ _ _ _ _ _ x5 (r4.ext e5) q5 fun acc' M6 ⟨q6, q7⟩ al6 G6 H6 p6 s6 x6 kt6 => ⟨kt5.trans kt6, al6, G6, M6, acc', fun n b z => p6 n b (pre5 n b z), sm5.trans s6, x6, q6, ktb.trans kt6, q7⟩
  · have e : i = xs.length := by omega
    subst e
    rw [List.drop_length] at q
    exact .inl ⟨wk.stops H gd, hR _ _ q _ _ _ pre sm x kt⟩
/-! ### a second clause -/
def em2 {A : Type} (ti : TId) (g : TGd) (tt : TTd) (em : EmD A) (vs1 : List Nat) : EmD A := fun de acc M R => ti de M (fun xs stay M1 => cpL stay g tt em (wipeD de vs1) xs acc M1 R) S0
def tm2 (K : PySem.W.Frag) (ti : TId) (g : TGd) (tt : TTd) (tm : Addr → TM) (vs1 : List Nat) : Addr → TM := fun p σ H N => liftI K W0 ti σ H fun J1 H4 => LoopR (liftGw K vs1 g) (liftT K W0 tt) (tm p) vs1 J1 (wipe σ vs1) H4 N
theorem em2_ok {A : Type} {a : Acc A} {K : PySem.W.Frag} {ti : TId} {g : TGd} {tt : TTd} {em : EmD A} {tm : Addr → TM} {vs1 : List Nat} (he : EmOk a K tm em) : EmOk a K (tm2 K ti g tt tm vs1) (em2 ti g tt em vs1) := fun al0 G0 H0 p al G H M de σ acc R N x st h hN =>
  ⟨al, G, M, de, _, _, ⟨x.w, st⟩, h, fun xs stay M1 q al1 G1 H1 J e1 w1 hst wk => cp_goes wk (st.ext e1) (x.step e1 w1) hst he q fun acc' M' r al' G' H' pre sm x' kt => hN acc' M' r al' G' H' (fun n b z => pre n b (e1.pre n b z)) (e1.same.trans sm) x' ((e1.keepT x.w).trans kt), fun _ _ _ z => z.elim⟩
/-! ### lists, dicts, sets of ints -/
def accL : Acc (List D) where
  rel K G al _ acc o := ∃ us, o = .lst us ∧ RelDs K G al acc us
  ext := fun ⟨us, e, r⟩ x => ⟨us, e, r.ext x⟩
  sol := fun ⟨us, e, _⟩ => by subst e; exact ⟨solid_lst, by nofun⟩
def emApp (te : TEd) : EmD (List D) := fun de acc M R => te de M (fun y M1 => acc.length < sizeLine ∧ R (acc ++ [y]) M1) S0
def tmApp (te : TE) : Addr → TM := fun p σ H N => te σ H fun y H4 => ∃ acc, H4 p = some (.lst acc) ∧ acc.length < sizeLine ∧ N (upd H4 p (.lst (acc ++ [y])))
theorem emApp_ok {K : PySem.W.Frag} {te : TEd} : EmOk accL K (tmApp (liftE K W0 te)) (emApp te) := fun al0 G0 H0 p al G H M de σ acc R N x st h hN =>
  liftE.mk ⟨x.w, st⟩ h (fun y M1 ⟨hz, q⟩ al1 G1 H1 v e1 w1 r1 => by
    have x1 := x.step e1 w1
    obtain ⟨o, ho, us, rfl, ru⟩ := x1.at_
    exact ⟨us, ho, by rw [← ru.length]; exact hz, hN _ _ q al1 G1 _ e1.pre e1.same ⟨x1.sd.poke, w1.poke x1.sd.cold x1.sd.out, _, upd_same, _, rfl, ru.append (.cons r1 .nil)⟩ ((e1.keepT x.w).trans (KeepT.poke ho (by nofun)))⟩) (fun _ _ _ z => z.elim)
def accD : Acc (List (Key × D)) where
  rel K G al _ acc o := ∃ us, o = .dK us ∧ RelKs K G al acc us
  ext := fun ⟨us, e, r⟩ x => ⟨us, e, r.ext x⟩
  sol := fun ⟨us, e, _⟩ => by subst e; exact ⟨solid_dK, by nofun⟩
def emPut (tk tv : TEd) : EmD (List (Key × D)) := fun de acc M R => tk de M (fun y M1 => tv de M1 (fun z M2 => ∃ k, keyD y = some k ∧ acc.length < sizeLine ∧ R (putKD acc k z) M2) S0) S0
def tmPut (tk tv : TE) : Addr → TM := fun p σ H N => tk σ H fun y H4 => tv σ H4 fun z H5 => ∃ kvs k, y = kV k ∧ H5 p = some (.dK kvs) ∧ kvs.length < sizeLine ∧ N (upd H5 p (.dK (putK kvs k z)))
theorem emPut_ok {K : PySem.W.Frag} {tk tv : TEd} : EmOk accD K (tmPut (liftE K W0 tk) (liftE K W0 tv)) (emPut tk tv) := fun al0 G0 H0 p al G H M de σ acc R N x st h hN =>
  liftE.mk ⟨x.w, st⟩ h (fun y M1 q1 al1 G1 H1 v e1 w1 r1 => liftE.mk ⟨w1, st.ext e1⟩ q1 (fun z M2 ⟨k, hk, hz, q⟩ al2 G2 H2 u e2 w2 r2 => by
    have x2 := (x.step e1 w1).step e2 w2
    obtain ⟨o, ho, us, rfl, ru⟩ := x2.at_
    exact ⟨us, k, keyD_rel r1 hk, ho, by rw [← ru.length]; exact hz, hN _ _ q al2 G2 _ (e1.trans e2).pre (e1.trans e2).same ⟨x2.sd.poke, w2.poke x2.sd.cold x2.sd.out, _, upd_same, _, rfl, ru.put r2⟩ (((e1.trans e2).keepT x.w).trans (KeepT.poke ho (by nofun)))⟩) (fun _ _ _ z => z.elim)) (fun _ _ _ z => z.elim)
/-- no set is a code object -/
theorem solid_set {w : PySem.World} {a : Addr} {S : Int → Bool} {n : Nat} : Solid (SetO w a S n) := by
  refine ⟨fun _ z => ?_, fun c q z => ?_⟩
  · have z' : HO.ext _ = HO.tbl _ := z
    cases z'
  · have z' : HO.ext _ = HO.ext _ := z
    have e := HO.ext.inj z'
    let oc : Obj := { cls := .none, data := .fields #[.none, .str q 0] }
    let hp : Heap := ⟨(List.replicate (c + 1) oc).toArray, {}⟩
    have g : ∀ b, b < c + 1 → hp.get? b = some oc := fun b hb => by
      show (match hp.objs[b]? with | some ⟨_, _, .freed, _⟩ => none | o => o) = some oc
      have : hp.objs[b]? = some oc := by simp [hp, hb]
      rw [this]
    have g2 : ∀ b, ¬ b < c + 1 → hp.get? b = none := fun b hb => by
      show (match hp.objs[b]? with | some ⟨_, _, .freed, _⟩ => none | o => o) = none
      have hb' : c + 1 ≤ b := Nat.le_of_not_lt hb
      have : hp.objs[b]? = none := Array.getElem?_eq_none (by simpa [hp] using hb')
      rw [this]
    have t : (fun h : Heap => SetR w h a S n) hp := by
      rw [e]
      exact ⟨oc, #[.none, .str q 0], 0, g c (Nat.lt_succ_self c), rfl, rfl⟩
    obtain ⟨o, es, ep, t, ho, _, hd, _⟩ := t
    by_cases ha : a < c + 1
    · rw [g a ha] at ho; cases ho; cases hd
    · rw [g2 a ha] at ho; cases ho
def accS (w : PySem.World) : Acc (List Int) where
  rel _ _ _ p acc o := ∃ n, o = SetO w p (fun k => decide (k ∈ acc)) n ∧ n ≤ acc.length
  ext := fun ⟨n, e, h⟩ _ => ⟨n, e, h⟩
  sol := fun ⟨n, e, _⟩ => by
    subst e
    refine ⟨solid_set, fun xs z => ?_⟩
    have z' : HO.ext _ = HO.tup _ := z
    cases z'
def emAdd (te : TEd) : EmD (List Int) := fun de acc M R => te de M (fun y M1 => match y with | .int k => acc.length + 1 < scanBound ∧ R (acc ++ [k]) M1 | _ => False) S0
def tmAdd (w : PySem.World) (te : TE) : Addr → TM := fun p σ H N => te σ H fun y H4 => ∃ (k : Int) (S : Int → Bool) (n : Nat), y = .int k ∧ H4 p = some (SetO w p S n) ∧ n + 1 < scanBound ∧ N (upd H4 p (SetO w p (fun j => S j || decide (j = k)) (if S k = true then n else n + 1)))
theorem emAdd_ok {K : PySem.W.Frag} {w : PySem.World} {te : TEd} : EmOk (accS w) K (tmAdd w (liftE K W0 te)) (emAdd te) := fun al0 G0 H0 p al G H M de σ acc R N x st h hN =>
  liftE.mk ⟨x.w, st⟩ h (fun y M1 q al1 G1 H1 v e1 w1 r1 => by
    cases y <;> try exact q.elim
    rename_i k
    obtain ⟨hz, q⟩ := q
    cases r1
    have x1 := x.step e1 w1
    obtain ⟨o, ho, n, rfl, hn⟩ := x1.at_
    have e : (fun j => decide (j ∈ acc) || decide (j = k)) = fun j => decide (j ∈ acc ++ [k]) := by
      funext j
      rw [← Bool.decide_or]
      exact decide_eq_decide.mpr (by simp)
    refine ⟨k, _, n, rfl, ho, by omega, ?_⟩
    rw [e]
    refine hN _ _ q al1 G1 _ e1.pre e1.same ⟨x1.sd.poke, w1.poke x1.sd.cold x1.sd.out, _, upd_same, _, rfl, ?_⟩ ((e1.keepT x.w).trans (KeepT.poke ho fun xs z => ?_))
    · rw [List.length_append, List.length_singleton]
      split <;> omega
    · have z' : HO.ext _ = HO.tup _ := z
      cases z') (fun _ _ _ z => z.elim)
end Dx
/-! Dx15: comprehensions as expressions: [..], {k: v ..}, {..}, one clause or two. -/
namespace Dx
open PySem PySem.Spec PyProof.Rows L2
/-! ### the acts -/
def actApp (elt : Expr) (acc : Value) (env : Env) (k : Sem Fin) : Sem Fin := (do let _ ← call (.builtin "list.append") [acc, ← eval elt env] : Sem Unit) >>= fun _ => k
def actAdd (elt : Expr) (acc : Value) (env : Env) (k : Sem Fin) : Sem Fin := (do let v ← eval elt env; standAt elt.pos; let _ ← call (.builtin "set.add") [acc, v] : Sem Unit) >>= fun _ => k
def actPut (kx v : Expr) (acc : Value) (env : Env) (k : Sem Fin) : Sem Fin := (do
  let kv ← eval kx env
  let vv ← holding [kv] (eval v env)
  match acc with
  | .ref d => do
    standAt { kx.pos with endLine := v.pos.endLine, endCol := v.pos.endCol }
    holding [kv, vv] (dictSet d kv vv)
  | _ => unsupported "internal:dictcomp" : Sem Unit) >>= fun _ => k
def actIn (e : Expr) (i1 : Expr) (acc : Value) (env : Env) (k : Sem Fin) : Sem Fin := do
  let x ← eval i1 env
  standAt i1.pos
  let x ← foldedSetIterable i1 env x
  let _ ← runOwn (.compStart e 1 (← holding [x] (pyIter x)) acc env) env
  k
section
variable {Y : Cx}
theorem noX {α : Type} {t : Sem α} {Q : α → Shared → Prop} {s : Shared} {M : Model} {A : Around} (hxe : Y.xe = fun _ _ => False) (h : wpAny M A t Q Y.xe s) : wpAny M A t Q (fun _ _ => False) s := by rw [hxe] at h; exact h
theorem wk_inv {pins : List (Addr × Obj)} {σ : L2.St} {H : Hp} {s : Shared} (I : Inv Y pins σ H s) (vs : List Nat) : Inv Y pins (wipe σ vs) H s := I.weak (wipe_length _ _) fun j v e => (wipe_some e).1
theorem pm_app {elt : Expr} {te : TE} {D : Addr} (vs : List Nat) (hxe : Y.xe = fun _ _ => False) (he : PE Y elt te) : PMm Y (actApp elt (.ref D) Y.env) vs (tmApp te D) := ⟨fun pins s σ H N k Q I h fin => by
  unfold actApp
  refine wpAny_bind (wpAny_bind (thnF (noX hxe (he.run pins s σ H _ I h)) fun v s1 ⟨y, H1, I1, r1, acc, hD, hz, n⟩ => ?_))
  exact wpAny_bind (app_ok I1 hD hz r1 fun s2 I2 => wpAny_pure (fin _ _ (wk_inv I2 vs) n))⟩
theorem pm_put {k v : Expr} {tk tv : TE} {D : Addr} (vs : List Nat) (hxe : Y.xe = fun _ _ => False) (hk : PE Y k tk) (hv : PE Y v tv) : PMm Y (actPut k v (.ref D) Y.env) vs (tmPut tk tv D) := ⟨fun pins s σ H N k Q I h fin => by
  unfold actPut
  refine wpAny_bind (wpAny_bind (thnF (noX hxe (hk.run pins s σ H _ I h)) fun u s1 ⟨y, H1, I1, r1, h1⟩ => wpAny_bind (wpAny_holding (thnF (noX hxe (hv.run pins s1 σ H1 _ I1 h1)) fun u2 s2 ⟨z, H2, I2, r2, kvs, kk, ek, hD, hz, n⟩ => ?_))))
  subst ek
  exact wpAny_bind (wpAny_standAt (wpAny_holding (d_dictSet I2 hD hz r1 r2 fun s3 I3 => fin _ _ (wk_inv I3 vs) n)))⟩
theorem pm_add {elt : Expr} {te : TE} {D : Addr} (vs : List Nat) (hxe : Y.xe = fun _ _ => False) (he : PE Y elt te) : PMm Y (actAdd elt (.ref D) Y.env) vs (tmAdd Y.w te D) := ⟨fun pins s σ H N kk Q I h fin => by
  unfold actAdd
  refine wpAny_bind (wpAny_bind (thnF (noX hxe (he.run pins s σ H _ I h)) fun v s1 ⟨y, H1, I1, r1, k, S, n, ey, hD, hz, nx⟩ => wpAny_bind (wpAny_standAt (wpAny_bind ?_))))
  have z := mt_sadd (X := Y) pins s1 σ H1 (.ref D) [y] (.ref D) [v] (fun _ H2 => N H2) I1 rfl (.cons r1 .nil) ⟨D, k, S, n, rfl, by rw [ey], hD, hz, nx⟩
  exact thnF (noX hxe z) fun w2 s2 ⟨_, H2, I2, _, n2⟩ => wpAny_pure (fin _ _ (wk_inv I2 vs) n2)⟩
/-- the second clause's loop, as the first one's act -/
def tmI (wi : TI) (g : TG) (tt : TT) (tm : Addr → TM) (vs1 : List Nat) : Addr → TM := fun p σ H N => wi σ H fun J1 H4 => LoopR g tt (tm p) vs1 J1 (wipe σ vs1) H4 N
theorem pm_in {e tg1 i1 : Expr} {ifs1 : List Expr} {act : Value → Env → Sem Fin → Sem Fin} {D : Addr} {wi : TI} {g : TG} {tt : TT} {tm : Addr → TM} {vs vs1 : List Nat} (hc : Y.calm = true) (hxe : Y.xe = fun _ _ => False) (hv : ∀ i ∈ vs1, i ∈ vs)
    (hturn : ∀ it acc env, compTurn e 1 it acc env = turnOf e 1 it acc env tg1 i1.pos ifs1 (act acc env)) (hund : ∀ (A : Around) it acc env, A.under (Code.compLoop e 1 it acc env) = A)
    (hden : ∀ it acc env, (model Y.prog Y.w).den (Code.compLoop e 1 it acc env) = (compTurn e 1 it acc env).onRaise (fun x => do noteFrame x env; theTreesLotGoes x))
    (hstart : ∀ (A : Around) (it acc : Value) (env : Env) (R : Result → Shared → Prop) (s : Shared), codeAny (model Y.prog Y.w) A (.compLoop e 1 it acc env) R s →
      wpAny (model Y.prog Y.w) A (pyIter it) (fun it' s' => codeAny (model Y.prog Y.w) A (.compLoop e 1 it' acc env) R s') (notedBy (model Y.prog Y.w) A env fun x s' => R (.error x) s') s → codeAny (model Y.prog Y.w) A (.compStart e 1 it acc env) R s)
    (hs1 : ∀ env x, foldedSetIterable i1 env x = pure x) (hi : PIx Y tg1 i1 wi) (pg : PG Y tg1 g) (pt : PTs Y ifs1 tt) (pm : PMm Y (act (.ref D) Y.env) vs1 (tm D)) : PMm Y (actIn e i1 (.ref D) Y.env) vs (tmI wi g tt tm vs1 D) := ⟨fun pins s σ H N kk Q I h kfin => by
  unfold actIn
  refine wpAny_bind (thnF (noX hxe (hi.run pins s σ H _ I h)) fun x s1 hx => wpAny_bind (wpAny_standAt (wpAny_bind (wpAny_of_eq (hs1 _ x) (wpAny_bind (wpAny_holding (thnF (noX hxe hx) fun itv s2 ⟨it, fp, tn, J, H2, e2, I2, T, st2, f2, q⟩ => ?_)))))))
  subst e2
  refine wpAny_bind (wpAny_runOwn ?_)
  rw [Around.mark_none]
  have run := loop_run (Xb := Y) hc hxe (hturn _ _ _) (hund _ _ _ _) (hden _ _ _) T pg pt pm (wipe_wipe σ _) (wk_inv I2 vs1) st2 f2 q
  refine codeAny_mono (hstart _ _ _ _ _ _ run (T.self Y.A 0 H2 _ _ _ st2 run)) fun r s3 hr => ?_
  cases r with
  | error x => exact hr.elim
  | ok fl =>
    obtain ⟨H3, I3, n3⟩ := hr
    have fin := kfin s3 H3 (I3.weak (by rw [wipe_length, wipe_length]) (fun j v e => by
      obtain ⟨e1, e2⟩ := wipe_some e
      rw [wipe_out fun z => e2 (hv j z)]
      exact e1)) n3
    first
      | exact fin
      | exact wpAny_pure fin
      | exact wpAny_bind (wpAny_pure fin)⟩
end
/-! ### the texts -/
section
variable {X : Cx}
theorem start_gen {e : Expr} {k : Nat} {M : Model} {A : Around} {it acc : Value} {env : Env} {R : Result → Shared → Prop} {s : Shared} {ip : Pos} (hu : A.under (Code.compStart e k it acc env) = A) (hd : M.den (Code.compStart e k it acc env) = (compStart e k it acc env).onRaise (fun x => do noteFrame x env; standAt theWindowsPlace))
    (hcl : ∃ tg iter ifs, (clausesOf e)[k]? = some ⟨tg, iter, ifs, 0⟩) (hq : (Code.compLoop e k it acc env).quiet = true ∧ ∀ it', (Code.compLoop e k it' acc env).quiet = true)
    (h0 : codeAny M A (.compLoop e k it acc env) R s) (h : wpAny M A (pyIter it) (fun it' s' => codeAny M A (.compLoop e k it' acc env) R s') (notedBy M A env fun x s' => R (.error x) s') s) : codeAny M A (.compStart e k it acc env) R s := by
  obtain ⟨tg, iter, ifs, hcl⟩ := hcl
  refine codeAny_of_tree ?_
  rw [hu, hd]
  refine wpAny_notedAt ?_
  unfold compStart
  rw [hcl]
  show wpAny _ _ (ask >>= _) _ _ s
  refine wpAny_bind (wpAny_askSetting (wpAny_ite ?_))
  split
  · first
      | exact wpAny_bind (wpAny_pure (wpAny_pure (And.intro hq.1 h0)))
      | exact wpAny_pure (And.intro hq.1 h0)
  · first
      | exact wpAny_bind (wpAny_rule (wpAny_bind (wpAny_standAt (wpAny_bind (wpAny_mono h (fun it' s' h' => wpAny_pure (And.intro (hq.2 _) h')) fun _ _ x => x)))))
      | (refine wpAny_bind (wpAny_rule ?_); show wpAny _ _ (standAt iter.pos >>= _) _ _ s; exact wpAny_bind (wpAny_standAt (wpAny_bind (wpAny_mono h (fun it' s' h' => wpAny_pure (And.intro (hq.2 _) h')) fun _ _ x => x))))
variable {elt kx vx tg iter tg1 iter1 : Expr} {ifs ifs1 : List Expr} {scope : Scope} {pos : Pos}
theorem list_new {A : Around} {E : Value → Shared → Prop} {s : Shared} {Q : Value → Shared → Prop} {P : Program} {w : PySem.World} (h : Q (.ref s.heap.objs.size) { s with heap := s.heap.push { cls := .type "list", data := .seq ([] : List Value).toArray } }) : wpAny (model P w) A (newList []) Q E s := wpAny_newObj_type h (by show 0 ≤ sizeLine; decide)
theorem ce_list1 : CompE X (.ListComp elt [⟨tg, iter, ifs, 0⟩] scope pos) tg iter ifs (actApp elt) (newList []) { cls := .type "list", data := .seq ([] : List Value).toArray } (fun _ => .lst []) :=
  ⟨⟨_, rfl⟩, fun _ _ _ => by rfl, fun _ _ _ _ => rfl, fun _ _ _ => rfl, fun A it acc env R s h0 h => start_gen (ip := pos) rfl rfl ⟨_, _, _, rfl⟩ ⟨rfl, fun _ => rfl⟩ h0 h, fun A E s Q h => list_new h, fun pins σ H s I => ⟨Nat.zero_le _, [], 0, .nil, Heap.get?_push_size _ rfl⟩⟩
theorem ce_list2 : CompE X (.ListComp elt [⟨tg, iter, ifs, 0⟩, ⟨tg1, iter1, ifs1, 0⟩] scope pos) tg iter ifs (actIn (.ListComp elt [⟨tg, iter, ifs, 0⟩, ⟨tg1, iter1, ifs1, 0⟩] scope pos) iter1) (newList []) { cls := .type "list", data := .seq ([] : List Value).toArray } (fun _ => .lst []) :=
  ⟨⟨_, rfl⟩, fun _ _ _ => by rfl, fun _ _ _ _ => rfl, fun _ _ _ => rfl, fun A it acc env R s h0 h => start_gen (ip := pos) rfl rfl ⟨_, _, _, rfl⟩ ⟨rfl, fun _ => rfl⟩ h0 h, fun A E s Q h => list_new h, fun pins σ H s I => ⟨Nat.zero_le _, [], 0, .nil, Heap.get?_push_size _ rfl⟩⟩
theorem ce_dict1 : CompE X (.DictComp kx vx [⟨tg, iter, ifs, 0⟩] scope pos) tg iter ifs (actPut kx vx) newDict { cls := .type "dict", data := .dict #[] } (fun _ => .dK []) :=
  ⟨⟨_, rfl⟩, fun _ _ _ => by rfl, fun _ _ _ _ => rfl, fun _ _ _ => rfl, fun A it acc env R s h0 h => start_gen (ip := pos) rfl rfl ⟨_, _, _, rfl⟩ ⟨rfl, fun _ => rfl⟩ h0 h, fun A E s Q h => wpAny_newObj_type h, fun pins σ H s I => dk_empty s.heap I.big⟩
theorem ce_dict2 : CompE X (.DictComp kx vx [⟨tg, iter, ifs, 0⟩, ⟨tg1, iter1, ifs1, 0⟩] scope pos) tg iter ifs (actIn (.DictComp kx vx [⟨tg, iter, ifs, 0⟩, ⟨tg1, iter1, ifs1, 0⟩] scope pos) iter1) newDict { cls := .type "dict", data := .dict #[] } (fun _ => .dK []) :=
  ⟨⟨_, rfl⟩, fun _ _ _ => by rfl, fun _ _ _ _ => rfl, fun _ _ _ => rfl, fun A it acc env R s h0 h => start_gen (ip := pos) rfl rfl ⟨_, _, _, rfl⟩ ⟨rfl, fun _ => rfl⟩ h0 h, fun A E s Q h => wpAny_newObj_type h, fun pins σ H s I => dk_empty s.heap I.big⟩
abbrev setObj (w : PySem.World) : Obj := { cls := .type "set", dict := none, data := .set #[] 0 (.fresh 0 0 (!w.params.followText "set-order")) }
theorem set_ok {P : Program} {H : Hp} {s : Shared} {w : PySem.World} : ObjOk P w (upd H s.heap.objs.size (SetO w s.heap.objs.size (fun _ => false) 0)) (s.heap.push (setObj w)) s.heap.objs.size (SetO w s.heap.objs.size (fun _ => false) 0) := by
  refine setO_new ?_
  have := setR_new_at (w := w) (h := s.heap.push (setObj w)) (a := s.heap.objs.size) (ns := []) (Heap.get?_push_size _ rfl)
  have e : (fun j : Int => decide (j ∈ ([] : List Int).take 0)) = fun _ => false := by funext j; simp
  rwa [e] at this
theorem ce_set1 : CompE X (.SetComp elt [⟨tg, iter, ifs, 0⟩] scope pos) tg iter ifs (actAdd elt) (newSet (.type "set")) (setObj X.w) (fun p => SetO X.w p (fun _ => false) 0) :=
  ⟨⟨_, rfl⟩, fun _ _ _ => by rfl, fun _ _ _ _ => rfl, fun _ _ _ => rfl, fun A it acc env R s h0 h => start_gen (ip := pos) rfl rfl ⟨_, _, _, rfl⟩ ⟨rfl, fun _ => rfl⟩ h0 h, fun A E s Q h => PpSet.newSet_ok h, fun pins σ H s I => set_ok⟩
theorem ce_set2 : CompE X (.SetComp elt [⟨tg, iter, ifs, 0⟩, ⟨tg1, iter1, ifs1, 0⟩] scope pos) tg iter ifs (actIn (.SetComp elt [⟨tg, iter, ifs, 0⟩, ⟨tg1, iter1, ifs1, 0⟩] scope pos) iter1) (newSet (.type "set")) (setObj X.w) (fun p => SetO X.w p (fun _ => false) 0) :=
  ⟨⟨_, rfl⟩, fun _ _ _ => by rfl, fun _ _ _ _ => rfl, fun _ _ _ => rfl, fun A it acc env R s h0 h => start_gen (ip := pos) rfl rfl ⟨_, _, _, rfl⟩ ⟨rfl, fun _ => rfl⟩ h0 h, fun A E s Q h => PpSet.newSet_ok h, fun pins σ H s I => set_ok⟩
end
end Dx
/-! Dx16: comprehensions over (slots, memory); sorted of a set of ints; d.items() told as whole tuples. -/
namespace Dx
open PySem PySem.Spec PyProof.Rows L2
section
variable {X : Cx} {W : WX}
/-- as a value -/
theorem pe_comp {e tg iter : Expr} {ifs : List Expr} {act : Value → Env → Sem Fin → Sem Fin} {newAcc : Sem Value} {ob : Obj} {o0 : Addr → HO} {scope : Scope} {own : List (Str × Nat)} {pos' : Pos} {wi : TI} {g : TG} {tt : TT} {tm : Addr → TM}
    (ce : CompE X e tg iter ifs act newAcc ob o0) (hev : eval e X.env = comprehension e scope X.env pos' newAcc false (eval iter X.env) none) (hc : X.calm = true) (hN : X.N.Nodup) (hi : PIx X tg iter wi) (ok : BlkOk X.N X.env.scope scope own)
    (hg : AllIn X scope fun Y => PG Y tg g) (ht : AllIn X scope fun Y => PTs Y ifs tt) (hm : AllIn X scope fun Y => ∀ D, PMm Y (act (.ref D) Y.env) (own.map (·.2)) (tm D)) (hs : ∀ x, foldedSetIterable iter X.env x = pure x) :
    PE X e (fun σ H Q => wi σ H fun J H1 => ∀ D, H1 D = none → LoopR g tt (tm D) (own.map (·.2)) J (wipe σ (own.map (·.2))) (upd H1 D (o0 D)) fun H' => Q (.ref D) H') := ⟨fun pins s σ H Q I h => by
  rw [hev]
  refine comp_core ce hc hN I hi ok hg ht hm hs h fun D C s' m H' I' q hn f => ⟨m, hn, fun h'' sb => ?_⟩
  obtain ⟨f0, f1, f2, f3, f4, f5⟩ := f
  exact ⟨.ref D, H', I'.turned (t' := s'.toks) (fun b o hb e => (sb.2 b hb).trans e) f0 f1 f3 f4 f5, rfl, q⟩⟩
/-- y = .., on one line, y a local -/
theorem ps_setComp {i : Nat} {y : Str} {py spos : Pos} {e tg iter : Expr} {ifs : List Expr} {act : Value → Env → Sem Fin → Sem Fin} {newAcc : Sem Value} {ob : Obj} {o0 : Addr → HO} {scope : Scope} {own : List (Str × Nat)} {pos' : Pos} {wi : TI} {g : TG} {tt : TT} {tm : Addr → TM}
    (ce : CompE X e tg iter ifs act newAcc ob o0) (hus : evalThenUse e X.env (assign (.Name y py) X.env) = (do let _ ← comprehension e scope X.env pos' newAcc false (eval iter X.env) (some (assign (.Name y py) X.env)))) (hsw : swapsWith e (some (.Name y py)) spos.line X.env = pure true)
    (hc : X.calm = true) (hN : X.N.Nodup) (hy : X.N[i]? = some y) (hyl : X.env.scope.names.lookup y = some .local) (hi : PIx X tg iter wi) (ok : BlkOk X.N X.env.scope scope own)
    (hg : AllIn X scope fun Y => PG Y tg g) (ht : AllIn X scope fun Y => PTs Y ifs tt) (hm : AllIn X scope fun Y => ∀ D, PMm Y (act (.ref D) Y.env) (own.map (·.2)) (tm D)) (hs : ∀ x, foldedSetIterable iter X.env x = pure x) :
    PS X (.Assign [.Name y py] e spos) (tAsg (fun σ H Q => wi σ H fun J H1 => ∀ D, H1 D = none → LoopR g tt (tm D) (own.map (·.2)) J (wipe σ (own.map (·.2))) (upd H1 D (o0 D)) fun H' => Q (.ref D) H') (gName i)) := ⟨fun pins s σ H D I h => by
  rw [exec_Assign_Name_used _ _ _ _ hsw, hus]
  refine wpAny_bind (wpAny_standAt (wpAny_bind (wpAny_bind (thn (comp_core (Qf := fun _ s' => SP X pins D .next s') (Q := fun x H1 => gName i x σ H1 D.nx) ce hc hN I hi ok hg ht hm hs h fun L C s' m H' I' q hn f => ?_) fun _ s' hq => wpAny_pure (wpAny_pure hq)))))
  show wpAny _ _ (assign (.Name y py) X.env (.ref L)) _ _ (_ : Shared)
  refine wpAny_assign_Name (store_ok2 (v := V.ref L) I' hN hy (.inl hyl) rfl (fun s2 I2 ⟨a, sb, ha⟩ => ?_) (.inr hyl))
  obtain ⟨f0, f1, f2, f3, f4, f5⟩ := f
  have haC : C ≠ a := ha.elim (fun z => by rw [z]; exact f1) fun z e => f4 y a z e.symm
  exact ⟨m, hn.sameBut sb haC, fun h3 sb3 => ⟨_, H', I2.turned (t' := s2.toks) (fun b o hb e => (sb3.2 b hb).trans e) f0 f1 f3 f4 f5, q⟩⟩⟩

/-! ### over (slots, memory) -/
abbrev PIxd (X : Cx) (W : WX) (tg iter : Expr) (t : TId) : Prop := PIx X tg iter (liftI X.K W t)
theorem PIxd.of {tg iter : Expr} {t : TId} (h : PId X W tg iter t) : PIxd X W tg iter t := PIx.of h
def FinOk {A : Type} (a : Acc A) (K : PySem.W.Frag) (fin : A → Mem → KD → Prop) : Prop := ∀ (al0 : List Addr) (G0 H0 : Hp) (p : Addr) (al : List Addr) (G H : Hp) (M : Mem) (acc : A) (R : KD) (Q : VK), AtP a K al0 G0 H0 p al G H M acc → fin acc M R → ToE K al0 G0 H0 R Q → Q (.ref p) H
def eComp {A : Type} (vs : List Nat) (ti : TId) (g : TGd) (tt : TTd) (em : EmD A) (acc0 : A) (fin : A → Mem → KD → Prop) : TEd := fun de M R S => ti de M (fun xs stay M1 => cpL stay g tt em (wipeD de vs) xs acc0 M1 (fun acc M2 => fin acc M2 R)) S
theorem comp_lift {A : Type} {a : Acc A} {vs : List Nat} {ti : TId} {g : TGd} {tt : TTd} {em : EmD A} {tm : Addr → TM} {acc0 : A} {fin : A → Mem → KD → Prop} {o0 : Addr → HO} (he : EmOk a X.K tm em) (hf : FinOk a X.K fin) (h0 : ∀ K G al p, a.rel K G al p acc0 (o0 p)) :
    ∀ σ H Q, liftE X.K W (eComp vs ti g tt em acc0 fin) σ H Q → liftI X.K W ti σ H fun J H1 => ∀ D, H1 D = none → LoopR (liftGw X.K vs g) (liftT X.K W0 tt) (tm D) vs J (wipe σ vs) (upd H1 D (o0 D)) fun H' => Q (.ref D) H' :=
  fun σ H Q ⟨al, G, M, de, R, S, at_, ht, hR, hS⟩ => ⟨al, G, M, de, _, S, at_, ht, fun xs stay M1 q al1 G1 H1 J e1 w1 hst wk => fun D hD => by
    obtain ⟨s0, w0⟩ := Side.start (o := o0 D) w1 hD
    exact cp_goes wk (at_.st.ext e1) ⟨s0, w0, _, upd_same, h0 _ _ _ _⟩ hst he q fun acc M' r al' G' H' pre sm x kt => hf _ _ _ _ _ _ _ _ _ _ _ x r (hR.ext e1), hS⟩
theorem finL {K : PySem.W.Frag} (m : Bool) : FinOk accL K (fun acc M R => newL m acc M R) := fun al0 G0 H0 p al G H M acc R Q x h hR => by
  obtain ⟨o, ho, us, rfl, ru⟩ := x.at_
  exact x.sd.list x.w ho ru h hR
theorem finD {K : PySem.W.Frag} : FinOk accD K (fun acc M R => R (.ref M.length) (M ++ [.dic acc])) := fun al0 G0 H0 p al G H M acc R Q x h hR => by
  obtain ⟨o, ho, us, rfl, ru⟩ := x.at_
  exact x.sd.dict x.w ho ru h hR
section
variable {elt kx vx tg iter tg1 iter1 : Expr} {ifs ifs1 : List Expr} {scope : Scope} {pos : Pos} {own : List (Str × Nat)} {ti ti1 : TId} {g g1 : TGd} {tt tt1 : TTd} {te tk tv : TEd} {vs1 : List Nat}
theorem pd_lcx (m : Bool) (hc : X.calm = true) (hN : X.N.Nodup) (hi : PIxd X W tg iter ti) (ok : BlkOk X.N X.env.scope scope own) (hg : AllIn X scope fun Y => PGw Y (own.map (·.2)) tg g) (ht : AllIn X scope fun Y => PTsd Y ifs tt) (he : AllIn X scope fun Y => PEd Y W0 elt te)
    (hs : ∀ x, foldedSetIterable iter X.env x = pure x := by intro _; rfl) : PEd X W (.ListComp elt [⟨tg, iter, ifs, 0⟩] scope pos) (eComp (own.map (·.2)) ti g tt (emApp te) [] (fun acc M R => newL m acc M R)) :=
  PE.imp (pe_comp ce_list1 rfl hc hN hi ok hg ht (fun s H C cl fp D => pm_app _ rfl (he s H C cl fp)) hs) (comp_lift emApp_ok (finL m) fun _ _ _ _ => ⟨[], rfl, .nil⟩)
theorem pd_lc2 (m : Bool) (hc : X.calm = true) (hN : X.N.Nodup) (hi : PIxd X W tg iter ti) (ok : BlkOk X.N X.env.scope scope own) (hv : ∀ i ∈ vs1, i ∈ own.map (·.2)) (hg : AllIn X scope fun Y => PGw Y (own.map (·.2)) tg g) (ht : AllIn X scope fun Y => PTsd Y ifs tt)
    (hi1 : AllIn X scope fun Y => PIxd Y W0 tg1 iter1 ti1) (hg1 : AllIn X scope fun Y => PGw Y vs1 tg1 g1) (ht1 : AllIn X scope fun Y => PTsd Y ifs1 tt1) (he : AllIn X scope fun Y => PEd Y W0 elt te)
    (hs : ∀ x, foldedSetIterable iter X.env x = pure x := by intro _; rfl) (hs1 : ∀ env x, foldedSetIterable iter1 env x = pure x := by intro _ _; rfl) :
    PEd X W (.ListComp elt [⟨tg, iter, ifs, 0⟩, ⟨tg1, iter1, ifs1, 0⟩] scope pos) (eComp (own.map (·.2)) ti g tt (em2 ti1 g1 tt1 (emApp te) vs1) [] (fun acc M R => newL m acc M R)) :=
  PE.imp (pe_comp (tm := tmI (liftI X.K W0 ti1) (liftGw X.K vs1 g1) (liftT X.K W0 tt1) (tmApp (liftE X.K W0 te)) vs1) ce_list2 rfl hc hN hi ok hg ht (fun s H C cl fp D => pm_in hc rfl hv (fun _ _ _ => by rfl) (fun _ _ _ _ => rfl) (fun _ _ _ => rfl)
    (fun A it acc env R s h0 h => start_gen (ip := pos) rfl rfl ⟨_, _, _, rfl⟩ ⟨rfl, fun _ => rfl⟩ h0 h) hs1 (hi1 s H C cl fp) (hg1 s H C cl fp) (ht1 s H C cl fp) (pm_app _ rfl (he s H C cl fp))) hs) (comp_lift (em2_ok emApp_ok) (finL m) fun _ _ _ _ => ⟨[], rfl, .nil⟩)
theorem pd_dc1 (hc : X.calm = true) (hN : X.N.Nodup) (hi : PIxd X W tg iter ti) (ok : BlkOk X.N X.env.scope scope own) (hg : AllIn X scope fun Y => PGw Y (own.map (·.2)) tg g) (ht : AllIn X scope fun Y => PTsd Y ifs tt) (hk : AllIn X scope fun Y => PEd Y W0 kx tk) (he : AllIn X scope fun Y => PEd Y W0 vx tv)
    (hs : ∀ x, foldedSetIterable iter X.env x = pure x := by intro _; rfl) : PEd X W (.DictComp kx vx [⟨tg, iter, ifs, 0⟩] scope pos) (eComp (own.map (·.2)) ti g tt (emPut tk tv) [] (fun acc M R => R (.ref M.length) (M ++ [.dic acc]))) :=
  PE.imp (pe_comp ce_dict1 rfl hc hN hi ok hg ht (fun s H C cl fp D => pm_put _ rfl (hk s H C cl fp) (he s H C cl fp)) hs) (comp_lift emPut_ok finD fun _ _ _ _ => ⟨[], rfl, .nil⟩)
theorem pd_dc2 (hc : X.calm = true) (hN : X.N.Nodup) (hi : PIxd X W tg iter ti) (ok : BlkOk X.N X.env.scope scope own) (hv : ∀ i ∈ vs1, i ∈ own.map (·.2)) (hg : AllIn X scope fun Y => PGw Y (own.map (·.2)) tg g) (ht : AllIn X scope fun Y => PTsd Y ifs tt)
    (hi1 : AllIn X scope fun Y => PIxd Y W0 tg1 iter1 ti1) (hg1 : AllIn X scope fun Y => PGw Y vs1 tg1 g1) (ht1 : AllIn X scope fun Y => PTsd Y ifs1 tt1) (hk : AllIn X scope fun Y => PEd Y W0 kx tk) (he : AllIn X scope fun Y => PEd Y W0 vx tv)
    (hs : ∀ x, foldedSetIterable iter X.env x = pure x := by intro _; rfl) (hs1 : ∀ env x, foldedSetIterable iter1 env x = pure x := by intro _ _; rfl) :
    PEd X W (.DictComp kx vx [⟨tg, iter, ifs, 0⟩, ⟨tg1, iter1, ifs1, 0⟩] scope pos) (eComp (own.map (·.2)) ti g tt (em2 ti1 g1 tt1 (emPut tk tv) vs1) [] (fun acc M R => R (.ref M.length) (M ++ [.dic acc]))) :=
  PE.imp (pe_comp (tm := tmI (liftI X.K W0 ti1) (liftGw X.K vs1 g1) (liftT X.K W0 tt1) (tmPut (liftE X.K W0 tk) (liftE X.K W0 tv)) vs1) ce_dict2 rfl hc hN hi ok hg ht (fun s H C cl fp D => pm_in hc rfl hv (fun _ _ _ => by rfl) (fun _ _ _ _ => rfl) (fun _ _ _ => rfl)
    (fun A it acc env R s h0 h => start_gen (ip := pos) rfl rfl ⟨_, _, _, rfl⟩ ⟨rfl, fun _ => rfl⟩ h0 h) hs1 (hi1 s H C cl fp) (hg1 s H C cl fp) (ht1 s H C cl fp) (pm_put _ rfl (hk s H C cl fp) (he s H C cl fp))) hs) (comp_lift (em2_ok emPut_ok) finD fun _ _ _ _ => ⟨[], rfl, .nil⟩)
/-! stored in a local -/
theorem set_lift {i : Nat} {te : TEd} {t : TE} (hl : ∀ σ H Q, liftE X.K W te σ H Q → t σ H Q) : ∀ D σ H, liftS X.K W (sSet i te) D σ H → tAsg t (gName i) D σ H := fun D σ H ⟨al, G, M, de, N, R, S, at_, ht, hN, hR, hS⟩ =>
  hl _ _ _ (liftE.mk at_ ht (fun x M1 h1 al1 G1 H1 v e1 w1 r1 => hN _ _ h1 _ _ _ _ e1 w1 ((at_.st.ext e1).set r1 i)) (hS.at_ at_.st))
variable {y : Str} {py spos : Pos}
theorem psd_setLcx (m : Bool) (i : Nat) (hc : X.calm = true) (hN : X.N.Nodup) (hi : PIxd X W tg iter ti) (ok : BlkOk X.N X.env.scope scope own) (hg : AllIn X scope fun Y => PGw Y (own.map (·.2)) tg g) (ht : AllIn X scope fun Y => PTsd Y ifs tt) (he : AllIn X scope fun Y => PEd Y W0 elt te)
    (hy : X.N[i]? = some y := by rfl) (hyl : X.env.scope.names.lookup y = some .local := by rfl) (hsw : swapsWith (.ListComp elt [⟨tg, iter, ifs, 0⟩] scope pos) (some (.Name y py)) spos.line X.env = pure true := by rfl) (hs : ∀ x, foldedSetIterable iter X.env x = pure x := by intro _; rfl) :
    PSd X W (.Assign [.Name y py] (.ListComp elt [⟨tg, iter, ifs, 0⟩] scope pos) spos) (sSet i (eComp (own.map (·.2)) ti g tt (emApp te) [] (fun acc M R => newL m acc M R))) :=
  PS.imp (ps_setComp ce_list1 rfl hsw hc hN hy hyl hi ok hg ht (fun s H C cl fp D => pm_app _ rfl (he s H C cl fp)) hs) (set_lift (comp_lift emApp_ok (finL m) fun _ _ _ _ => ⟨[], rfl, .nil⟩))
theorem psd_setLc2 (m : Bool) (i : Nat) (hc : X.calm = true) (hN : X.N.Nodup) (hi : PIxd X W tg iter ti) (ok : BlkOk X.N X.env.scope scope own) (hv : ∀ i ∈ vs1, i ∈ own.map (·.2)) (hg : AllIn X scope fun Y => PGw Y (own.map (·.2)) tg g) (ht : AllIn X scope fun Y => PTsd Y ifs tt)
    (hi1 : AllIn X scope fun Y => PIxd Y W0 tg1 iter1 ti1) (hg1 : AllIn X scope fun Y => PGw Y vs1 tg1 g1) (ht1 : AllIn X scope fun Y => PTsd Y ifs1 tt1) (he : AllIn X scope fun Y => PEd Y W0 elt te)
    (hy : X.N[i]? = some y := by rfl) (hyl : X.env.scope.names.lookup y = some .local := by rfl) (hsw : swapsWith (.ListComp elt [⟨tg, iter, ifs, 0⟩, ⟨tg1, iter1, ifs1, 0⟩] scope pos) (some (.Name y py)) spos.line X.env = pure true := by rfl) (hs : ∀ x, foldedSetIterable iter X.env x = pure x := by intro _; rfl) (hs1 : ∀ env x, foldedSetIterable iter1 env x = pure x := by intro _ _; rfl) :
    PSd X W (.Assign [.Name y py] (.ListComp elt [⟨tg, iter, ifs, 0⟩, ⟨tg1, iter1, ifs1, 0⟩] scope pos) spos) (sSet i (eComp (own.map (·.2)) ti g tt (em2 ti1 g1 tt1 (emApp te) vs1) [] (fun acc M R => newL m acc M R))) :=
  PS.imp (ps_setComp (tm := tmI (liftI X.K W0 ti1) (liftGw X.K vs1 g1) (liftT X.K W0 tt1) (tmApp (liftE X.K W0 te)) vs1) ce_list2 rfl hsw hc hN hy hyl hi ok hg ht (fun s H C cl fp D => pm_in hc rfl hv (fun _ _ _ => by rfl) (fun _ _ _ _ => rfl) (fun _ _ _ => rfl)
    (fun A it acc env R s h0 h => start_gen (ip := pos) rfl rfl ⟨_, _, _, rfl⟩ ⟨rfl, fun _ => rfl⟩ h0 h) hs1 (hi1 s H C cl fp) (hg1 s H C cl fp) (ht1 s H C cl fp) (pm_app _ rfl (he s H C cl fp))) hs) (set_lift (comp_lift (em2_ok emApp_ok) (finL m) fun _ _ _ _ => ⟨[], rfl, .nil⟩))
theorem psd_setDc1 (i : Nat) (hc : X.calm = true) (hN : X.N.Nodup) (hi : PIxd X W tg iter ti) (ok : BlkOk X.N X.env.scope scope own) (hg : AllIn X scope fun Y => PGw Y (own.map (·.2)) tg g) (ht : AllIn X scope fun Y => PTsd Y ifs tt) (hk : AllIn X scope fun Y => PEd Y W0 kx tk) (he : AllIn X scope fun Y => PEd Y W0 vx tv)
    (hy : X.N[i]? = some y := by rfl) (hyl : X.env.scope.names.lookup y = some .local := by rfl) (hsw : swapsWith (.DictComp kx vx [⟨tg, iter, ifs, 0⟩] scope pos) (some (.Name y py)) spos.line X.env = pure true := by rfl) (hs : ∀ x, foldedSetIterable iter X.env x = pure x := by intro _; rfl) :
    PSd X W (.Assign [.Name y py] (.DictComp kx vx [⟨tg, iter, ifs, 0⟩] scope pos) spos) (sSet i (eComp (own.map (·.2)) ti g tt (emPut tk tv) [] (fun acc M R => R (.ref M.length) (M ++ [.dic acc])))) :=
  PS.imp (ps_setComp ce_dict1 rfl hsw hc hN hy hyl hi ok hg ht (fun s H C cl fp D => pm_put _ rfl (hk s H C cl fp) (he s H C cl fp)) hs) (set_lift (comp_lift emPut_ok finD fun _ _ _ _ => ⟨[], rfl, .nil⟩))
theorem psd_setDc2 (i : Nat) (hc : X.calm = true) (hN : X.N.Nodup) (hi : PIxd X W tg iter ti) (ok : BlkOk X.N X.env.scope scope own) (hv : ∀ i ∈ vs1, i ∈ own.map (·.2)) (hg : AllIn X scope fun Y => PGw Y (own.map (·.2)) tg g) (ht : AllIn X scope fun Y => PTsd Y ifs tt)
    (hi1 : AllIn X scope fun Y => PIxd Y W0 tg1 iter1 ti1) (hg1 : AllIn X scope fun Y => PGw Y vs1 tg1 g1) (ht1 : AllIn X scope fun Y => PTsd Y ifs1 tt1) (hk : AllIn X scope fun Y => PEd Y W0 kx tk) (he : AllIn X scope fun Y => PEd Y W0 vx tv)
    (hy : X.N[i]? = some y := by rfl) (hyl : X.env.scope.names.lookup y = some .local := by rfl) (hsw : swapsWith (.DictComp kx vx [⟨tg, iter, ifs, 0⟩, ⟨tg1, iter1, ifs1, 0⟩] scope pos) (some (.Name y py)) spos.line X.env = pure true := by rfl) (hs : ∀ x, foldedSetIterable iter X.env x = pure x := by intro _; rfl) (hs1 : ∀ env x, foldedSetIterable iter1 env x = pure x := by intro _ _; rfl) :
    PSd X W (.Assign [.Name y py] (.DictComp kx vx [⟨tg, iter, ifs, 0⟩, ⟨tg1, iter1, ifs1, 0⟩] scope pos) spos) (sSet i (eComp (own.map (·.2)) ti g tt (em2 ti1 g1 tt1 (emPut tk tv) vs1) [] (fun acc M R => R (.ref M.length) (M ++ [.dic acc])))) :=
  PS.imp (ps_setComp (tm := tmI (liftI X.K W0 ti1) (liftGw X.K vs1 g1) (liftT X.K W0 tt1) (tmPut (liftE X.K W0 tk) (liftE X.K W0 tv)) vs1) ce_dict2 rfl hsw hc hN hy hyl hi ok hg ht (fun s H C cl fp D => pm_in hc rfl hv (fun _ _ _ => by rfl) (fun _ _ _ _ => rfl) (fun _ _ _ => rfl)
    (fun A it acc env R s h0 h => start_gen (ip := pos) rfl rfl ⟨_, _, _, rfl⟩ ⟨rfl, fun _ => rfl⟩ h0 h) hs1 (hi1 s H C cl fp) (hg1 s H C cl fp) (ht1 s H C cl fp) (pm_put _ rfl (hk s H C cl fp) (he s H C cl fp))) hs) (set_lift (comp_lift (em2_ok emPut_ok) finD fun _ _ _ _ => ⟨[], rfl, .nil⟩))
end
end
end Dx
/-! Dx17: d.items() told as whole tuples; sorted(a set of ints); d.update, l.count, l.index. -/
namespace Dx
open PySem PySem.Spec PyProof.Rows L2
/-! ### for p in d.items() -/
/-- where such an iterator stands: what it handed out first is still told -/
def ItN (d : Addr) (n ep : Nat) (it : Addr) (i : Nat) (H : Hp) (h : Heap) : Prop :=
  (i = 0 ∧ ∃ ok ov, IsItemIter h it d 0 n ep ok ov) ∨ ∃ ok ov a f xs, PySem.W.KdxIt h it d i n ep ok ov a f ∧ H a = some (.tup xs) ∧ (∃ oa, h.get? a = some oa) ∧ a ≠ it
theorem ItN.at_ {d it : Addr} {n ep i : Nat} {H : Hp} {h : Heap} (x : ItN d n ep it i H h) : ∃ vs, h.get? it = some { cls := .type "dict_itemiterator", dict := none, data := .fields vs, slots := #[] } := by
  rcases x with ⟨_, ok, ov, e⟩ | ⟨ok, ov, a, f, xs, e, _⟩
  · exact ⟨_, e⟩
  · exact ⟨_, e⟩
section
variable {P : Program} {w : PySem.World} {K : PySem.W.Frag} {d : Addr} {o : Obj} {es : Array DictEntry} {ep : Nat} {x : Str} {p : Pos}
theorem turn_itemsN {kvs : List (Key × V)} (it : Addr) (hod : o.data = .dict es ep) : TurnH P w K (.Name x p) (Iti d o kvs) [it] it (fun i H h => ItN d kvs.length ep it i H h) where
  mem := by simp
  obj := fun i H h st b hb => by
    have e : b = it := by simpa using hb
    subst e
    obtain ⟨vs, e⟩ := st.at_
    exact ⟨_, e, fun v z => nomatch z⟩
  keep := fun i H h H' h' st k t => by
    rcases st with ⟨e0, ok, ov, e⟩ | ⟨ok, ov, a, f, xs, e, ha, hh, ne⟩
    · exact .inl ⟨e0, ok, ov, k it (by simp) _ e⟩
    · exact .inr ⟨ok, ov, a, f, xs, k it (by simp) _ e, (t a xs ha).1, (t a xs ha).2, ne⟩
  item := by
    intro X hP hw hK hc i pins s σ H E I hf st hg
    subst hP hw hK
    obtain ⟨hd, hi⟩ := hg
    obtain ⟨hs, hgd, hx, es', ep', vs, hdt, hsz, kv, hm⟩ := I.frzK hd
    obtain ⟨rfl, rfl⟩ := dict_ep hod hdt
    obtain ⟨⟨k, v⟩, hkv⟩ : ∃ p, kvs[i]? = some p := ⟨kvs[i], List.getElem?_eq_getElem hi⟩
    obtain ⟨u, hu, ru⟩ := kv_get kv hkv
    have hl : kvs.length = vs.length := Paired.length kv
    have fin : ∀ (key : Value) (h' : Heap), (mixKind X.prog X.w).is k key = true → h'.get? s.heap.objs.size = some { cls := .type "tuple", data := .seq #[key, u] } → (∀ b o, b ≠ it → s.heap.get? b = some o → h'.get? b = some o) →
        ItN d kvs.length ep' it (i + 1) (upd H s.heap.objs.size (.tup [kV k, v])) h' →
        ∃ uu, (some (Value.ref s.heap.objs.size)) = some uu ∧ wpAny (model X.prog X.w) X.A (letOwnedTupleGo (.Name x p) (.ref it) uu) (fun _ s2 => ∃ x H', Inv X pins σ H' s2 ∧ RelV x uu ∧ (Iti d o kvs).yld i H x H' ∧ ItN d kvs.length ep' it (i + 1) H' s2.heap ∧ ∀ b ∈ [it], H' b = none) E { s with heap := h' } := fun key h' hkey hT hk stn => by
      have new : ObjOk X.prog X.w (upd H s.heap.objs.size (.tup [kV k, v])) h' s.heap.objs.size (.tup [kV k, v]) :=
        ⟨by show 2 ≤ sizeLine; decide, [key, u], .cons (relV_key (show keyIs k key = true from hkey)) (.cons ru .nil), ⟨_, hT, rfl, _, rfl⟩⟩
      have I1 : Inv X pins σ (upd H s.heap.objs.size (.tup [kV k, v])) { s with heap := h' } := I.turnedNew (t' := s.toks) (ch := [it]) (fun b ob hb e => hk b ob (by simpa using hb) e) hf (Nat.le_refl _) new
      refine ⟨_, rfl, wpAny_pure ⟨.ref s.heap.objs.size, _, I1, rfl, ⟨_, k, v, hkv, rfl, I.hok.fresh (Nat.le_refl _), rfl⟩, stn, fun b hb => ?_⟩⟩
      have e : b = it := by simpa using hb
      obtain ⟨vs', e'⟩ := st.at_
      rw [e, upd_ne (Nat.ne_of_lt (Heap.lt_size e'))]
      exact (hf it (by simp)).1
    rcases st with ⟨rfl, ok, ov, he⟩ | ⟨ok, ov, a, f, xs, he, ha, ⟨oa, hoa⟩, ne⟩
    · rw [hl] at he
      refine wpAny_pyNext_items_item he hm hu fun key h' hkey ho hT hz hk => fin key h' hkey hT hk (.inr ⟨key, u, s.heap.objs.size, false, [kV k, v], ?_, upd_same, ⟨_, hT⟩, Nat.ne_of_gt (Heap.lt_size he)⟩)
      rw [hl]; exact ho
    · rw [hl] at he
      refine PySem.W.kdx_next_out he hoa ne hm hu fun key h' hkey ho hT hz hk => fin key h' hkey hT hk (.inr ⟨ok, ov, a, true, xs, ?_, ?_, ⟨oa, hk a oa ne hoa⟩, ne⟩)
      · rw [hl]; exact ho
      · rw [upd_ne (Nat.ne_of_lt (Heap.lt_size hoa))]; exact ha
  done := by
    intro X hP hw hK hc i pins s σ H E I hf st hg
    subst hP hw hK
    obtain ⟨hd, hi⟩ := hg
    obtain ⟨f0, f1, f2, f3, f4, f5⟩ := hf it (by simp)
    obtain ⟨hs, hgd, hx, es', ep', vs, hdt, hsz, kv, hm⟩ := I.frzK hd
    obtain ⟨rfl, rfl⟩ := dict_ep hod hdt
    have hl : kvs.length = vs.length := Paired.length kv
    rcases st with ⟨rfl, ok, ov, he⟩ | ⟨ok, ov, a, f, xs, he, ha, hh, ne⟩
    · rw [hl] at he
      exact wpAny_pyNext_items_end (I.ok.hd hc) he hm (List.getElem?_eq_none (by omega)) fun h' eb => ⟨rfl, I.turned (t' := s.toks) (fun b ob hb e => eb b ob hb e) f0 f1 f3 f4 f5⟩
    · rw [hl] at he
      exact PySem.W.kdx_end_out (I.ok.hd hc) he hm (List.getElem?_eq_none (by omega)) fun h' eb => ⟨rfl, I.turned (t' := s.toks) (fun b ob hb e => eb b ob hb e) f0 f1 f3 f4 f5⟩
  self := fun A i H s Q E st h => by
    obtain ⟨vs, e⟩ := st.at_
    have hT : s.TypeIs (.ref it) "dict_itemiterator" := ⟨_, e, rfl⟩
    refine wpAny_pyIter_slot hT PySem.F.slot_dict_itemiterator_iter (wpAny_call_entry PySem.F.slot_dict_itemiterator_iter hT PySem.W.kcp_entry (?_ : wpAny _ _ _ _ _ _) (PySem.F.args_dict_itemiterator_iter_1 _))
    exact wpAny_pure ⟨_, rfl, "dict_itemiterator", _, hT, PySem.F.slot_dict_itemiterator_next.lookup, h⟩
end
section
variable {X : Cx} {W : WX} {e : Expr} {td : TE} {apos cpos : Pos} {x : Str} {tp : Pos}
theorem pix_itemsN (he : PE X e td) (hbase : attributeBase e "items" X.env (eval e X.env) = eval e X.env := by rfl) (hline : (apos.endLine == cpos.line) = true := by rfl) : PIx X (.Name x tp) (.Call (.Attribute e "items" apos) [] [] cpos) (iItems td) := by
  refine ⟨fun pins s σ H R I h => ?_⟩
  refine wpAny_Call_method (T := "dict") (id := "dict.items") hbase rfl hline F.plainAttrs_dict F.slot_dict_items F.type_dict_items (thn (he.run pins s σ H _ I h) fun u s1 ⟨x, H1, I1, rx, d, o, kvs, ex, hd, q⟩ => ?_)
  subst ex
  obtain rfl : u = Value.ref d := rx
  obtain ⟨hs, hgd, hx, es, ep, vs, hdt, hsz, kv, hm⟩ := I1.frzK hd
  have hl : kvs.length = vs.length := Paired.length kv
  refine ⟨hm.dictOf.typeIs, hm.dictOf.mapOf.noDict, ?_⟩
  have I2 : Inv X pins σ H1 { s1 with heap := s1.heap.push { cls := .type "dict_items", data := .fields #[.ref d] } } := I1.kept (t' := s1.toks) fun b ob q => Heap.get?_push_of_some _ q
  show wpAny _ _ (callWith cpos (.builtin "dict.items") [.ref d] [] []) _ X.xe s1
  refine method_meetsIn F.slot_dict_items F.entry_dict_items rfl (PySem.evalArgs_none ⟨rfl, hm.dictOf.typeIs, F.args_dict_items_1 _, _, meets_dict_items (mixKind X.prog X.w) d hs, ⟨vs, hm.dictOf⟩, ?_⟩)
  refine wpAny_pyIter_items (d := d) (knd := mixKind X.prog X.w) ⟨_, Heap.get?_push_size _ rfl, rfl, rfl⟩ (hm.push _) ?_
  generalize hs2 : ({ s1 with heap := s1.heap.push { cls := .type "dict_items", data := .fields #[.ref d] } } : Shared) = s2 at I2
  have z : s2.heap = s1.heap.push { cls := .type "dict_items", data := .fields #[.ref d] } := by rw [← hs2]
  have k : ∀ b ob, s2.heap.get? b = some ob → (s2.heap.push { cls := .type "dict_itemiterator", data := .fields #[.none, .bool false, .ref d, .int 0 0, .int vs.length 0, .int ep 0, .none, .none] }).get? b = some ob := fun b ob q => Heap.get?_push_of_some _ q
  have I3 := I2.kept (t' := s2.toks) k
  have nh : H1 s2.heap.objs.size = none := I2.hok.fresh (Nat.le_refl _)
  exact ⟨s2.heap.objs.size, [s2.heap.objs.size], _, _, H1, rfl, I3, turn_itemsN _ hdt, .inl ⟨rfl, .none, .none, by rw [hl]; exact Heap.get?_push_size _ rfl⟩, fun b hb => by
    have e : b = s2.heap.objs.size := by simpa using hb
    rw [e]
    exact I2.fpOk (Nat.le_refl _) nh, q⟩
end
section
variable {X : Cx} {W : WX} {e a b c o : Expr} {es : List Expr} {pos p apos cpos : Pos} {x : Str} {tp : Pos} {ta tb td te : TEd} {t : TAd}
theorem pixd_itemsN (he : PEd X W e td) (hbase : attributeBase e "items" X.env (eval e X.env) = eval e X.env := by rfl) (hline : (apos.endLine == cpos.line) = true := by rfl) :
    PIxd X W (.Name x tp) (.Call (.Attribute e "items" apos) [] [] cpos) (iItemsD td) := PIx.imp (pix_itemsN he hbase hline) fun σ H Q ⟨al, G, M, de, R, S, at_, ht, hR, hS⟩ =>
  liftE.mk at_ ht (fun x M1 ⟨n, o, kvs, e, h1, h2⟩ al1 G1 H1 v e1 w1 r1 => by
    subst e
    cases r1 with
    | ref ha =>
      obtain ⟨k1, od, vs, rfl, rv⟩ := lck_at ha (fun _ _ h => h) w1 h1
      exact ⟨_, od, vs, rfl, k1, hR _ _ _ h2 _ _ _ _ e1 w1 h1 (walkD_items ha rv)⟩) hS
/-! ### sorted(a set of ints) -/
def rSortedSA (w : PySem.World) : List V → Hp → VK → Prop := fun vs H Q => ∃ (a : Addr) (S : Int → Bool) (n : Nat), vs = [V.ref a] ∧ H a = some (SetO w a S n) ∧
  ∀ (ns : List Int) (p : Addr), ns.Pairwise (· < ·) → (∀ k : Int, k ∈ ns ↔ S k = true) → H p = none → Q (.ref p) (upd H p (.lst (ns.map V.int)))
theorem cr_sortedSA (hc : X.calm = true) : CallR X (.builtin "sorted") (rSortedSA X.w) := by
  intro pins s σ H vs us Q I r h
  obtain ⟨a, S, n, rfl, ha, q⟩ := h
  obtain ⟨o, es, ep, t, ho, hex, hd, g, nd, hm, hb, hf, hn, hr, hl⟩ := setO_get I ha
  rw [Vals.ref1 r]
  refine sorted_any fun E' => collect_set (A := X.A.in1) (I.ok.hd hc) ⟨o, ho, hex.1, hd⟩ hf hb hr hl fun s1 us k1 hz g1 o1 pm => ?_
  have hI : IntsAre us (us.map Builtin.Re.reRawOf) := ints_of us fun v hv => by
    obtain ⟨e, he, q⟩ := List.mem_map.mp (pm.mem_iff.mp hv)
    obtain ⟨k, tk, h1, _⟩ := g e he
    exact ⟨k, tk, by rw [← q]; exact h1⟩
  have pk : (us.map Builtin.Re.reRawOf).Perm (es.toList.map keyOf) := by
    have q := pm.map Builtin.Re.reRawOf
    rw [List.map_map] at q
    exact q
  have hul : us.length ≤ sizeLine := by
    rw [pm.length_eq, List.length_map, Array.length_toList]
    exact fits_of_scanBound hb
  refine ⟨SrtO.ltIv, SrtO.swo_int, hul, fun h2 h1 b _ _ => SrtO.ints_sortable hI h2, fun h2 d out q1 q2 k4 k5 k6 => ?_⟩
  obtain ⟨g1', g2, g3⟩ := SrtO.ints_out hI q1 q2
  obtain ⟨c, hcc⟩ := k6
  have J : Inv X pins σ H s1 := by
    have z := I.call (g' := s1.gens) (t' := s1.toks) (d' := s1.drawn) (h' := s1.heap) (ch := []) (Un.kept k1) (I.hok.kept k1) (by rw [g1]; exact I.bare) (fun _ z => nomatch z)
    have e : s1 = { s with heap := s1.heap, gens := s1.gens, drawn := s1.drawn, toks := s1.toks } := by
      cases s1
      cases s
      cases o1
      rfl
    rw [e]; exact z
  have pn := g2.trans pk
  refine ⟨.ref d, upd H d (.lst ((out.map SrtO.iv).map V.int)), J.laid (t' := s1.toks) k4 k5 ⟨?_, out, c, vals_of_ints g1', hcc⟩, rfl, q _ d (lt_of_le_nodup _ g3 (pn.nodup_iff.mpr nd)) (fun k => by rw [pn.mem_iff, ← hm k]) (J.hok.fresh k5)⟩
  rw [List.length_map, g2.length_eq, List.length_map]
  exact hul
section
variable {elt tg iter tg1 iter1 : Expr} {ifs ifs1 : List Expr} {scope : Scope} {own : List (Str × Nat)} {ti ti1 : TId} {g g1 : TGd} {tt tt1 : TTd} {vs1 : List Nat}
/-- the set, sorted -/
def finS (m : Bool) : List Int → Mem → KD → Prop := fun acc M R => ∀ ns : List Int, ns.Pairwise (· < ·) → (∀ k : Int, k ∈ ns ↔ k ∈ acc) → newL m (ns.map D.int) M R
theorem fin_sorted {K : PySem.W.Frag} {w : PySem.World} {m : Bool} {al0 al : List Addr} {G0 H0 G H : Hp} {p : Addr} {M : Mem} {acc : List Int} {R : KD} {Q : VK} (x : AtP (accS w) K al0 G0 H0 p al G H M acc) (h : finS m acc M R) (hR : ToE K al0 G0 H0 R Q) : rSortedSA w [.ref p] H Q := by
  obtain ⟨o, ho, n, rfl, hn⟩ := x.at_
  exact ⟨p, _, n, rfl, ho, fun ns q h1 h2 hq => newL_to x.w (RelDs.of_ints ns) (h ns h1 fun k => by rw [h2 k]; simp) (hR.ext x.sd.ext) q hq⟩
theorem sortSc_lift {em : EmD (List Int)} {tm : Addr → TM} {m : Bool} {vs : List Nat} (he : EmOk (accS X.w) X.K tm em) : ∀ σ H Q, liftE X.K W (eComp vs ti g tt em [] (finS m)) σ H Q →
    tCB (rSortedSA X.w) (tCons (fun σ H Q => liftI X.K W ti σ H fun J H1 => ∀ D, H1 D = none → LoopR (liftGw X.K vs g) (liftT X.K W0 tt) (tm D) vs J (wipe σ vs) (upd H1 D (SetO X.w D (fun _ => false) 0)) fun H' => Q (.ref D) H') tNil) σ H Q :=
  fun σ H Q ⟨al, G, M, de, R, S, at_, ht, hR, hS⟩ => ⟨al, G, M, de, _, S, at_, ht, fun xs stay M1 q al1 G1 H1 J e1 w1 hst wk => fun D hD => by
    obtain ⟨s0, w0⟩ := Side.start (o := SetO X.w D (fun _ => false) 0) w1 hD
    have x0 : AtP (accS X.w) X.K al1 G1 H1 D al1 G1 (upd H1 D (SetO X.w D (fun _ => false) 0)) M1 [] := ⟨s0, w0, _, upd_same, 0, by simp, Nat.zero_le _⟩
    exact cp_goes wk (at_.st.ext e1) x0 hst he q fun acc M' r al' G' H' pre sm x kt => fin_sorted x r (hR.ext e1), hS⟩
/-- sorted({elt for ..}), ints -/
theorem pd_sortSc1 (m : Bool) (hc : X.calm = true) (hN : X.N.Nodup) (hi : PIxd X W tg iter ti) (ok : BlkOk X.N X.env.scope scope own) (hg : AllIn X scope fun Y => PGw Y (own.map (·.2)) tg g) (ht : AllIn X scope fun Y => PTsd Y ifs tt) (he : AllIn X scope fun Y => PEd Y W0 elt te)
    (hgl : Gl X "sorted") (hm : X.mg "sorted" = none) (hs : ∀ x, foldedSetIterable iter X.env x = pure x := by intro _; rfl) {spos : Pos}
    (hst : starEach [.SetComp elt [⟨tg, iter, ifs, 0⟩] scope pos] X.env = (false, eval (.SetComp elt [⟨tg, iter, ifs, 0⟩] scope pos) X.env) :: starEach [] X.env := by rfl) :
    PEd X W (.Call (.Name "sorted" p) [.SetComp elt [⟨tg, iter, ifs, 0⟩] scope pos] [] spos) (eComp (own.map (·.2)) ti g tt (emAdd te) [] (finS m)) :=
  PE.imp (pe_callB (cr_sortedSA hc) hgl hm (by decide +kernel) (pa_cons (pe_comp ce_set1 rfl hc hN hi ok hg ht (fun s H C cl fp D => pm_add _ rfl (he s H C cl fp)) hs) pa_nil hst) (he := hst)) (sortSc_lift emAdd_ok)
theorem pd_sortSc2 (m : Bool) (hc : X.calm = true) (hN : X.N.Nodup) (hi : PIxd X W tg iter ti) (ok : BlkOk X.N X.env.scope scope own) (hv : ∀ i ∈ vs1, i ∈ own.map (·.2)) (hg : AllIn X scope fun Y => PGw Y (own.map (·.2)) tg g) (ht : AllIn X scope fun Y => PTsd Y ifs tt)
    (hi1 : AllIn X scope fun Y => PIxd Y W0 tg1 iter1 ti1) (hg1 : AllIn X scope fun Y => PGw Y vs1 tg1 g1) (ht1 : AllIn X scope fun Y => PTsd Y ifs1 tt1) (he : AllIn X scope fun Y => PEd Y W0 elt te) (hgl : Gl X "sorted") (hm : X.mg "sorted" = none)
    (hs : ∀ x, foldedSetIterable iter X.env x = pure x := by intro _; rfl) (hs1 : ∀ env x, foldedSetIterable iter1 env x = pure x := by intro _ _; rfl) {spos : Pos}
    (hst : starEach [.SetComp elt [⟨tg, iter, ifs, 0⟩, ⟨tg1, iter1, ifs1, 0⟩] scope pos] X.env = (false, eval (.SetComp elt [⟨tg, iter, ifs, 0⟩, ⟨tg1, iter1, ifs1, 0⟩] scope pos) X.env) :: starEach [] X.env := by rfl) :
    PEd X W (.Call (.Name "sorted" p) [.SetComp elt [⟨tg, iter, ifs, 0⟩, ⟨tg1, iter1, ifs1, 0⟩] scope pos] [] spos) (eComp (own.map (·.2)) ti g tt (em2 ti1 g1 tt1 (emAdd te) vs1) [] (finS m)) :=
  PE.imp (pe_callB (cr_sortedSA hc) hgl hm (by decide +kernel) (pa_cons (pe_comp (tm := tmI (liftI X.K W0 ti1) (liftGw X.K vs1 g1) (liftT X.K W0 tt1) (tmAdd X.w (liftE X.K W0 te)) vs1) ce_set2 rfl hc hN hi ok hg ht (fun s H C cl fp D => pm_in hc rfl hv (fun _ _ _ => by rfl) (fun _ _ _ _ => rfl) (fun _ _ _ => rfl)
    (fun A it acc env R s h0 h => start_gen (ip := pos) rfl rfl ⟨_, _, _, rfl⟩ ⟨rfl, fun _ => rfl⟩ h0 h) hs1 (hi1 s H C cl fp) (hg1 s H C cl fp) (ht1 s H C cl fp) (pm_add _ rfl (he s H C cl fp))) hs) pa_nil hst) (he := hst)) (sortSc_lift (em2_ok emAdd_ok))
end
/-! ### d.update(d2), l.count(x), l.index(x) -/
def rUpd : V → List V → Hp → VK → Prop := fun x xs H Q => ∃ (a b : Addr) (kvs more : List (Key × V)), x = .ref a ∧ xs = [.ref b] ∧ a ≠ b ∧ H a = some (.dK kvs) ∧ H b = some (.dK more) ∧ kvs.length + more.length ≤ sizeLine ∧ Q .non (upd H a (.dK (mergeK kvs more)))
theorem mt_upd : MtR X "dict.update" rUpd := by
  intro pins s σ H x xs v us Q I rx rxs h
  obtain ⟨a, b, kvs, more, rfl, rfl, ne, ha, hb, hz, q⟩ := h
  cases rx
  obtain ⟨u, rfl, ru⟩ := rxs.one
  obtain rfl : u = Value.ref b := ru
  obtain ⟨z1, lo1, vs, kv, d1⟩ := dk_of I.hok ha
  obtain ⟨z2, lo2, ws, kw, d2⟩ := dk_of I.hok hb
  refine call_meetsIn PySem.F.slot_dict_update d1.typeIs PySem.F.entry_dict_update (PySem.F.args_dict_update_2 _ _) (meets_dict_update (mixKind X.prog X.w) a b ne lo2) ⟨vs, ws, d1, d2, by rw [← kv.length, ← kw.length]; exact hz, fun h' hd' _ hs => ⟨.non, _, ?_, rfl, q⟩⟩
  have hl := length_mergeK more kvs
  exact d_write I (by rw [ha]; exact True.intro) hs (let ⟨q, _, _, hq, _⟩ := hd'; ⟨q, hq⟩) (dk_new (by omega) lo1 (kw.merge kv) hd')
def oUpd : OM := fun x xs M R => ∃ n m kvs more, x = .ref n ∧ xs = [.ref m] ∧ n ≠ m ∧ M[n]? = some (.dic kvs) ∧ M[m]? = some (.dic more) ∧ kvs.length + more.length ≤ sizeLine ∧ R .non (M.set n (.dic (mergeD kvs more)))
theorem oUpd_ok {K : PySem.W.Frag} : MtOk K rUpd oUpd := fun al G H M x xs v vs R Q w rx rxs ⟨n, m, kvs, more, e1, e2, ne, h1, h2, h3, h4⟩ hR => by
  subst e1 e2
  obtain ⟨a, us, rfl, ha, hg, hH, ru⟩ := w.refDic rx h1
  obtain ⟨u, rfl, ry⟩ := rel1 rxs
  obtain ⟨b, ws, rfl, hb, hg2, hH2, rw2⟩ := w.refDic ry h2
  obtain ⟨w1, e1⟩ := w.store (o := .dK (mergeK us ws)) (mo := .dic (mergeD kvs more)) ha hg ⟨hg, _, upd_same, rw2.merge ru⟩
  exact ⟨a, b, us, ws, rfl, rfl, fun z => ne (getElem?_inj_nodup w.nd (z ▸ ha) hb), hH, hH2, by rw [← ru.length, ← rw2.length]; exact h3, hR _ _ h4 _ _ _ _ e1 w1 .non⟩
theorem pd_upd (ho : PEd X W o ta) (ha : PAd X W [e] t) (hbase : attributeBase o "update" X.env (eval o X.env) = eval o X.env := by rfl)
    (hfew : ((backTo cpos (starEach [e] X.env)).all (fun x => !x.1) && (backToKw cpos (keywordEach [] X.env)).all (fun x => x.1.isSome)
      && decide (([e] : List Expr).length + ([] : List Keyword).length + (if ([] : List Keyword).isEmpty then 0 else 1) < 30)) = true := by rfl)
    (hline : (apos.endLine == cpos.line) = true := by rfl) (hs : starEach [e] X.env = (false, eval e X.env) :: starEach [] X.env := by rfl) : PEd X W (.Call (.Attribute o "update" apos) [e] [] cpos) (eBM "dict" oUpd ta t) :=
  pd_bm PySem.F.plainAttrs_dict PySem.F.slot_dict_update PySem.F.type_dict_update mt_upd oUpd_ok ho ha hbase hfew hline hs
def rCntF (K : PySem.W.Frag) : V → List V → Hp → VK → Prop := fun x xs H Q => ∃ (p : Addr) (ys : List V) (y : V), x = .ref p ∧ xs = [y] ∧ SqL K H p ys ∧ flatV y = true ∧ ys.all flatV = true ∧ Q (.int (ys.countP fun z => eqV z y : Nat)) H
theorem cnt_flat {y : V} : ∀ {ys : List V} {us : List Value}, Vals ys us → ys.all flatV = true → us.countP (eqU y) = ys.countP fun z => eqV z y
  | _, _, .nil, _ => rfl
  | z :: ys, u :: us, .cons r t, f => by
    rw [List.all_cons, Bool.and_eq_true] at f
    rw [List.countP_cons, List.countP_cons, cnt_flat t f.2, eqU_of r f.1]
theorem mt_cntF : MtR X "list.count" (rCntF X.K) := by
  intro pins s σ H x xs v us Q I rx rxs h
  obtain ⟨p, ys, y, rfl, rfl, hs, fy, fs, q⟩ := h
  cases rx
  obtain ⟨u, rfl, ru⟩ := rxs.one
  obtain ⟨its, rv, ⟨⟨cls, dd, data, sl⟩, n, ho, hcl, hdn, hd⟩, hlen⟩ := I.list hs
  simp only at hcl hd
  subst hcl hd
  refine call_meets PySem.F.slot_list_count ⟨_, ho, rfl⟩ PySem.F.entry_list_count (PySem.F.args_list_count_2 _ _) (SeqAt.list_countAt p its.toArray n dd sl u (eqU y)) ⟨ho, fun w' hw => mem_eqAt ru fy rv fs w' (by simpa using hw), ?_⟩
  exact ⟨.int (ys.countP fun z => eqV z y : Nat), H, I.tok _, ⟨s.toks, by rw [show its.toArray.toList.countP (eqU y) = ys.countP fun z => eqV z y from cnt_flat rv fs]⟩, q⟩
def oCntF : OM := fun x xs M R => ∃ ds y v vs, xs = [y] ∧ lstOf M x = some ds ∧ fV y = some v ∧ fVs ds = some vs ∧ R (.int (vs.countP fun z => eqV z v : Nat)) M
theorem oCntF_ok {K : PySem.W.Frag} : MtOk K (rCntF K) oCntF := fun al G H M x xs v vs R Q w rx rxs ⟨ds, y, z, zs, e1, h1, h2, h3, h4⟩ hR => by
  subst e1
  obtain ⟨a, us, rfl, hq, rv⟩ := w.lst rx h1
  obtain ⟨u, rfl, ry⟩ := rel1 rxs
  obtain ⟨rfl, k1⟩ := fV_rel ry h2
  obtain ⟨rfl, k2⟩ := fVs_rel rv h3
  exact ⟨a, us, u, rfl, rfl, hq, k1, k2, hR.now h4 w (.int _)⟩
theorem pd_cntF (ho : PEd X W o ta) (ha : PAd X W [e] t) (hbase : attributeBase o "count" X.env (eval o X.env) = eval o X.env := by rfl)
    (hfew : ((backTo cpos (starEach [e] X.env)).all (fun x => !x.1) && (backToKw cpos (keywordEach [] X.env)).all (fun x => x.1.isSome)
      && decide (([e] : List Expr).length + ([] : List Keyword).length + (if ([] : List Keyword).isEmpty then 0 else 1) < 30)) = true := by rfl)
    (hline : (apos.endLine == cpos.line) = true := by rfl) (hs : starEach [e] X.env = (false, eval e X.env) :: starEach [] X.env := by rfl) : PEd X W (.Call (.Attribute o "count" apos) [e] [] cpos) (eBM "list" oCntF ta t) :=
  pd_bm PySem.F.plainAttrs_list PySem.F.slot_list_count PySem.F.type_list_count mt_cntF oCntF_ok ho ha hbase hfew hline hs
def oIdxF : OM := fun x xs M R => ∃ ds y v vs j z, xs = [y] ∧ lstOf M x = some ds ∧ fV y = some v ∧ fVs ds = some vs ∧ vs[j]? = some z ∧ eqV z v = true ∧ (∀ (m : Nat) (z' : V), m < j → vs[m]? = some z' → eqV z' v = false) ∧ R (.int (j : Nat)) M
theorem oIdxF_ok {K : PySem.W.Frag} : MtOk K (rIndex K) oIdxF := fun al G H M x xs v vs R Q w rx rxs ⟨ds, y, z, zs, j, zz, e1, h1, h2, h3, h4, h5, h6, h7⟩ hR => by
  subst e1
  obtain ⟨a, us, rfl, hq, rv⟩ := w.lst rx h1
  obtain ⟨u, rfl, ry⟩ := rel1 rxs
  obtain ⟨rfl, k1⟩ := fV_rel ry h2
  obtain ⟨rfl, k2⟩ := fVs_rel rv h3
  exact ⟨a, us, u, j, zz, rfl, rfl, hq, k1, k2, h4, h5, h6, hR.now h7 w (.int _)⟩
theorem pd_idxF (ho : PEd X W o ta) (ha : PAd X W [e] t) (hbase : attributeBase o "index" X.env (eval o X.env) = eval o X.env := by rfl)
    (hfew : ((backTo cpos (starEach [e] X.env)).all (fun x => !x.1) && (backToKw cpos (keywordEach [] X.env)).all (fun x => x.1.isSome)
      && decide (([e] : List Expr).length + ([] : List Keyword).length + (if ([] : List Keyword).isEmpty then 0 else 1) < 30)) = true := by rfl)
    (hline : (apos.endLine == cpos.line) = true := by rfl) (hs : starEach [e] X.env = (false, eval e X.env) :: starEach [] X.env := by rfl) : PEd X W (.Call (.Attribute o "index" apos) [e] [] cpos) (eBM "list" oIdxF ta t) :=
  pd_bm PySem.F.plainAttrs_list PySem.F.slot_list_index PySem.F.type_list_index mt_index oIdxF_ok ho ha hbase hfew hline hs
end
end Dx
/-! Dx18: one rule for several kinds of values; isinstance by names; a def's reading as its promise. -/
namespace Dx
open PySem PySem.Spec PyProof.Rows L2
section
variable {X : Cx} {W : WX} {e a b c o : Expr} {es : List Expr} {pos p apos cpos p2 p1 : Pos} {ta tb tc te td : TEd} {t : TAd}
/-! ### several kinds at once -/
def oOr (o1 o2 : O2) : O2 := fun x y M R => o1 x y M R ∨ o2 x y M R
def cOr (o1 o2 : OA) : OA := fun xs M R => o1 xs M R ∨ o2 xs M R
def lOr (o1 o2 : OSl) : OSl := fun x l u M R => o1 x l u M R ∨ o2 x l u M R
theorem opR_or {f : Value → Value → Sem Value} {r1 r2 : R2} (h1 : OpR X f r1) (h2 : OpR X f r2) : OpR X f (fun x y H Q => r1 x y H Q ∨ r2 x y H Q) := fun pins s σ H x y v u Q I rx ry h =>
  h.elim (h1 pins s σ H x y v u Q I rx ry) (h2 pins s σ H x y v u Q I rx ry)
theorem callR_or {f : Value} {r1 r2 : List V → Hp → VK → Prop} (h1 : CallR X f r1) (h2 : CallR X f r2) : CallR X f (fun xs H Q => r1 xs H Q ∨ r2 xs H Q) := fun pins s σ H xs us Q I r h =>
  h.elim (h1 pins s σ H xs us Q I r) (h2 pins s σ H xs us Q I r)
theorem opOk_or {K : PySem.W.Frag} {r1 r2 : R2} {o1 o2 : O2} (h1 : OpOk K r1 o1) (h2 : OpOk K r2 o2) : OpOk K (fun x y H Q => r1 x y H Q ∨ r2 x y H Q) (oOr o1 o2) := fun al G H M x y v u R Q w rx ry h hR =>
  h.elim (fun h => .inl (h1 al G H M x y v u R Q w rx ry h hR)) (fun h => .inr (h2 al G H M x y v u R Q w rx ry h hR))
theorem callOk_or {K : PySem.W.Frag} {r1 r2 : List V → Hp → VK → Prop} {o1 o2 : OA} (h1 : CallOk K r1 o1) (h2 : CallOk K r2 o2) : CallOk K (fun xs H Q => r1 xs H Q ∨ r2 xs H Q) (cOr o1 o2) := fun al G H M xs vs R Q w r h hR =>
  h.elim (fun h => .inl (h1 al G H M xs vs R Q w r h hR)) (fun h => .inr (h2 al G H M xs vs R Q w r h hR))
theorem slOk_or {K : PySem.W.Frag} {r1 r2 : V → Option Int → Option Int → Hp → VK → Prop} {o1 o2 : OSl} (h1 : SlOk K r1 o1) (h2 : SlOk K r2 o2) : SlOk K (fun x l u H Q => r1 x l u H Q ∨ r2 x l u H Q) (lOr o1 o2) := fun al G H M x l u v R Q w rx h hR =>
  h.elim (fun h => .inl (h1 al G H M x l u v R Q w rx h hR)) (fun h => .inr (h2 al G H M x l u v R Q w rx h hR))
abbrev oAddX (m : Bool) : O2 := oOr oAdd (oOr (oCat m) (oOr oCatT oCatS))
abbrev oMulX (m : Bool) : O2 := oOr oMul (oRep m)
abbrev oLenX : OA := cOr oLen (cOr oLenD oLenS)
abbrev oSlX (m : Bool) : OSl := lOr (oSlL m) oSlT
abbrev oInX (n : Bool) : O2 := oOr (oInF n) (oInD n)
theorem pd_addX (m : Bool) (ha : PEd X W a ta) (hb : PEd X W b tb) : PEd X W (.BinOp a .Add b pos) (eOp (oAddX m) ta tb) :=
  pd_op (opR_or op_add (opR_or op_cat (opR_or op_catT op_add_str))) (opOk_or (oI0_ok fun _ _ _ _ => .int _) (opOk_or oCat_ok (opOk_or oCatT_ok oCatS_ok))) ha hb
theorem pd_mulX (m : Bool) (ha : PEd X W a ta) (hb : PEd X W b tb) : PEd X W (.BinOp a .Mult b pos) (eOp (oMulX m) ta tb) :=
  pd_op (opR_or op_mul op_rep) (opOk_or (oI_ok fun _ _ _ _ => .int _) oRep_ok) ha hb
theorem pd_lenX (hg : Gl X "len") (hm : X.mg "len" = none) (ha : PAd X W [e] t) (hs : starEach [e] X.env = (false, eval e X.env) :: starEach [] X.env := by rfl) : PEd X W (.Call (.Name "len" p) [e] [] pos) (eCB oLenX t) :=
  pd_callB (callR_or call_len_seq (callR_or call_lenD call_len_str)) (callOk_or oLen_ok (callOk_or oLenD_ok oLenS_ok)) hg hm boot_len ha (hs := hs)
theorem pd_slX (m : Bool) {lo hi : Option Expr} {tl th : TOd} (he : PEd X W e ta) (hl : POd X W lo tl) (hu : POd X W hi th) : PEd X W (.Subscript e (.Slice lo hi none p2) pos) (eSl (oSlX m) ta tl th) := pd_slice (sl_list.or sl_tup) (slOk_or oSlL_ok oSlT_ok) he hl hu
theorem pd_inX (hu : X.A.units + 65 < cLine) (ha : PEd X W a ta) (hb : PEd X W b tb) (hm : behindInMarks .In b = false := by rfl) : PEd X W (.Compare a [.In] [b] pos) (eOp (oInX false) ta tb) := pd_cmp (opR_or op_in_seq (op_inD hu)) (opOk_or oInF_ok oInD_ok) ha hb hm
theorem pd_notInX (hu : X.A.units + 65 < cLine) (ha : PEd X W a ta) (hb : PEd X W b tb) (hm : behindInMarks .NotIn b = false := by rfl) : PEd X W (.Compare a [.NotIn] [b] pos) (eOp (oInX true) ta tb) := pd_cmp (opR_or op_notIn_seq (op_notInD hu)) (opOk_or oInF_ok oNotInD_ok) ha hb hm
theorem pdt_inX (hu : X.A.units + 65 < cLine) (ha : PEd X W a ta) (hb : PEd X W b tb) (hm : behindInMarks .In b = false := by rfl) : PTd X W (.Compare a [.In] [b] pos) (eB (eOp (oInX false) ta tb)) := pdt_cmp (opR_or op_in_seq (op_inD hu)) (opOk_or oInF_ok oInD_ok) ha hb hm
theorem pdt_notInX (hu : X.A.units + 65 < cLine) (ha : PEd X W a ta) (hb : PEd X W b tb) (hm : behindInMarks .NotIn b = false := by rfl) : PTd X W (.Compare a [.NotIn] [b] pos) (eB (eOp (oInX true) ta tb)) := pdt_cmp (opR_or op_notIn_seq (op_notInD hu)) (opOk_or oInF_ok oNotInD_ok) ha hb hm
/-! ### isinstance(e, C), e caught, by names -/
def eIsN (i : Nat) (a : Addr) (d : Option Addr) (sb : Option Bool) : TEd := fun de M R _ => ∃ fs k, de[i]? = some (some (.exc a d fs)) ∧ sb = some k ∧ R (.bl k) M
theorem pd_isN2 {a' : Addr} {cls : Str} {d : Option Addr} {oe : Obj} {pn : List (Addr × Obj)} {i : Nat} {y : D} {cv : Value} {sb : Option Bool} (C : ExcC X.K (He.ga X.K cls)) (hz : Zc (.ref (He.ga X.K cls)) d oe) (hf : ∃ vs, oe.data = .fields vs) (hg : Gl (X.suite a' ((a', oe) :: pn)) "isinstance") (hm : X.mg "isinstance" = none)
    (hy : (∃ q, y = .adr q ∧ cv = .ref q) ∨ ∃ n, y = .ty n ∧ cv = .type n) (hk : ∀ k, sb = some k → PySem.W.kitOne X.K (.ref (He.ga X.K cls)) cv = some k)
    (he : PEd (X.suite a' ((a', oe) :: pn)) W0 a (eVar i)) (hb : PEd (X.suite a' ((a', oe) :: pn)) W0 b (eC y)) (hs : starEach [a, b] X.env = (false, eval a X.env) :: starEach [b] X.env := by rfl) (hs2 : starEach [b] X.env = (false, eval b X.env) :: starEach [] X.env := by rfl) (hpl : (backTo pos (starEach [b] X.env)).any (·.1) = false := by rfl) :
    PEd (X.suite a' ((a', oe) :: pn)) W0 (.Call (.Name "isinstance" p) [a, b] [] pos) (eIsN i a' d sb) :=
  PE.imp (pd_isE C hz hf hg hm (pda_cons he (pda_cons hb pda_nil hs2) hs) hs hpl) fun σ H Q ⟨al, G, M, de, R, S, at_, ⟨fs, k, h1, h2, h3⟩, hR, hS⟩ =>
    ⟨al, G, M, de, R, S, at_, ⟨_, h1, fs, y, cv, k, rfl, hy, hk k h2, h3⟩, hR, hS⟩
end
/-! ### a def's own reading as its promise -/
def startD (N : List Str) (ds : List D) : Lo := ds.map some ++ List.replicate (N.length - ds.length) none
/-- what the body's reading makes of arguments -/
def ptOf (N : List Str) (n : Nat) (t : TSd) : FD := fun ds M R S => ds.length = n ∧ t ⟨fun _ M' => R .non M', R⟩ (startD N ds) M (fun c fs _ M' => S c fs M')
section
variable {P : Program} {w : PySem.World} {K : PySem.W.Frag} {mg : Str → Option Value} {base : Heap} {x qual : Str} {params : Arguments} {body : List Stmt} {scope : Scope} {dvs : List V} {kws : List (Str × V)} {f : Addr} {fd : FuncData}
theorem startD_rel {G : Hp} {al : List Addr} {N : List Str} {ds : List D} {vs : List V} (r : RelDs K G al ds vs) : RelSt K G al (startD N ds) (L2.start N vs) := by
  have hl := r.length
  refine ⟨by unfold startD L2.start; simp [hl], fun i d h => ?_⟩
  unfold startD at h
  by_cases hi : i < ds.length
  · rw [List.getElem?_append_left (by simpa using hi), List.getElem?_map] at h
    cases e : ds[i]? with
    | none => rw [e] at h; cases h
    | some d' =>
      rw [e] at h
      cases h
      obtain ⟨v, hv, rv⟩ := r.get e
      refine ⟨v, ?_, rv⟩
      unfold L2.start
      rw [List.getElem?_append_left (by rw [List.length_map, ← hl]; exact hi), List.getElem?_map, hv]; rfl
  · rw [List.getElem?_append_right (by simpa using hi), List.getElem?_replicate] at h
    split at h <;> cases h
theorem pt_run {N : List Str} {n : Nat} {t : TSd} {vs : List V} {H : Hp} {Q : VK} {E : XK} (h : spD K n (ptOf N n t) vs H Q E) : liftS K (fun c d _ H' => E c d H') t { nx := fun _ H' => Q .non H', rt := Q } (L2.start N vs) H := by
  obtain ⟨_, al, G, M, ds, R, S, w, r, ⟨_, h⟩, hR, hS⟩ := h
  exact liftS.mk ⟨w, startD_rel r⟩ h (fun de' M' q al' G' H' σ' e1 w1 r1 => hR _ _ q _ _ _ _ e1 w1 .non) hR (fun c fs de' M' q al' G' H' xd σ' e1 w1 r1 x1 => hS _ _ _ q _ _ _ _ e1 w1 x1)
/-- the def's body, walked wherever the def is called -/
abbrev Walked (P : Program) (w : PySem.World) (K : PySem.W.Frag) (mg : Str → Option Value) (base : Heap) (k : Nat) (N : List Str) (qual : Str) (scope : Scope) (f : Addr) (cdv : Value) (body : List Stmt) (t : TSd) : Prop :=
  ∀ (A : Around) (outer : List Env) (s : Shared) (H : Hp) (E : XK), Room k (A.deeper (envOfC qual scope s.heap.objs.size f cdv)) →
    PSsd (cxOf (L2.CX P w) P w K mg base N qual scope f cdv A outer s H E) (fun c d _ H' => E c d H') body t
theorem FunAt.of {N ps : List Str} {k n : Nat} {t : TSd} {dd : List D} (F : FunD K x qual params body scope dvs kws f fd) (S : FnScope N ps scope) (hn : ps.length = n) (hb : ∃ ds, Vals dvs ds ∧ L2.Binds K fd ps ds) (hd : ∀ G al, RelDs K G al dd dvs)
    (h : ∀ cdv, Walked P w K mg base k N qual scope f cdv body t) : FunAt P w K mg base (k + 1) f n dd (ptOf N n t) := by
  obtain ⟨ds, hv, hb⟩ := hb
  exact ⟨fd, ps, dvs, ds, F.ok S (fun vs H Q E q => by rw [hn]; exact q.1) (fun cdv A outer s H vs Q E hr q => ⟨_, h cdv A outer s H E hr, pt_run q⟩), hv, hb, hd⟩
/-- no defaults -/
theorem FunAt.of0 {N ps : List Str} {k n : Nat} {t : TSd} (F : FunD K x qual params body scope [] kws f fd) (S : FnScope N ps scope) (hn : ps.length = n)
    (hb : ∀ (kV doc pm : Value) (an : Option Addr) (cdv ct : Value) (us : List Value), us.length = ps.length → bindArgs (PySem.W.fnOf x qual params body scope .none kV doc pm an cdv ct) ⟨us, []⟩ = pure (ps.zip us))
    (h : ∀ cdv, Walked P w K mg base k N qual scope f cdv body t) : FunAt P w K mg base (k + 1) f n [] (ptOf N n t) :=
  FunAt.of F S hn ⟨[], .nil, F.bindsN hb⟩ (fun _ _ => .nil) h
/-- the def whose code object is known -/
theorem FunAt.ofC {N ps : List Str} {k n : Nat} {t : TSd} {p : Str × Option Str} (F : FunD K x qual params body scope [] kws (He.fAd K p) fd) (S : FnScope N ps scope) (hn : ps.length = n)
    (hb : ∀ (kV doc pm : Value) (an : Option Addr) (cdv ct : Value) (us : List Value), us.length = ps.length → bindArgs (PySem.W.fnOf x qual params body scope .none kV doc pm an cdv ct) ⟨us, []⟩ = pure (ps.zip us))
    (h : Walked P w K mg base k N qual scope (He.fAd K p) (.ref (He.codeOf K p)) body t) : FunAt P w K mg base (k + 1) (He.fAd K p) n [] (ptOf N n t) := by
  have hB := F.bindsN hb
  obtain ⟨oc, od, dV, kV, doc, pm, an, cdv, ct, osl, rfl, lk, hcd, _, _⟩ := F.ex
  obtain ⟨c, hc⟩ := He.codeIn_ref hcd
  subst hc
  have ec : He.codeOf K p = c := He.codeOf_eq lk rfl
  rw [ec] at h
  exact ⟨_, ps, [], [], L2.fn_of lk hcd S (fun vs H Q E q => by rw [hn]; exact q.1) (fun A outer s H vs Q E hr q => ⟨_, h A outer s H E hr, pt_run q⟩), .nil, hB, fun _ _ => .nil⟩
/-- what a walk asks -/
theorem wk_takes {N : List Str} {cdv : Value} {A : Around} {outer : List Env} {s : Shared} {H : Hp} {E : XK} : Takes (cxOf (L2.CX P w) P w K mg base N qual scope f cdv A outer s H E) (fun c d _ H' => E c d H') := takes_of rfl rfl rfl rfl
theorem wk_passes {N : List Str} {cdv : Value} {A : Around} {outer : List Env} {s : Shared} {H : Hp} {E : XK} : PassesOwn (model P w) (cxOf (L2.CX P w) P w K mg base N qual scope f cdv A outer s H E).A (cxOf (L2.CX P w) P w K mg base N qual scope f cdv A outer s H E).env (cxOf (L2.CX P w) P w K mg base N qual scope f cdv A outer s H E).xe := passes_of rfl
end
end Dx
/-! Dx19: what a walk asks of the program's exception classes, told by Bools of the frame; locks by slots; the suite of a told. -/
namespace Dx
open PySem PySem.Spec PyProof.Rows L2
/-- the changing object a slot names -/
def slotRef (i : Nat) : Lo → Mem → Nat := fun de _ => match de[i]? with
  | some (some (.ref n)) => n
  | _ => 0
/-- only where p is -/
def sWhen (p : Prop) (t : TSd) : TSd := fun E de M S => p ∧ t E de M S
theorem pssd_when {X : Cx} {W : WX} {l : List Stmt} {p : Prop} {t : TSd} (h : p → PSsd X W l t) : PSsd X W l (sWhen p t) := ⟨fun pins s σ H D I ⟨al, G, M, de, N, R, S, at_, ⟨hp, ht⟩, hN, hR, hS⟩ => (h hp).run pins s σ H D I ⟨al, G, M, de, N, R, S, at_, ht, hN, hR, hS⟩⟩
/-- e.n of what was caught -/
def eXf (i : Nat) (a : Addr) (d : Option Addr) (n : Str) : TEd := fun de M R S => eVar i de M (fun x M1 => ∃ dd fs v, x = .exc a d fs ∧ d = some dd ∧ fs.lookup n = some v ∧ R v M1) S
theorem pd_xf2 {X : Cx} {e : Expr} {pos : Pos} {i : Nat} {a' C : Addr} {d : Option Addr} {oe : Obj} {pn : List (Addr × Obj)} {n : Str} (T : XfC X.K C) (hno : PySem.W.findIn X.K (.ref C) n = some none) (hz : Zc (.ref C) d oe) (hf : ∃ vs, oe.data = .fields vs) (he : PEd (X.suite a' ((a', oe) :: pn)) W0 e (eVar i))
    (hb : attributeBase e n X.env (eval e X.env) = eval e X.env := by rfl) : PEd (X.suite a' ((a', oe) :: pn)) W0 (.Attribute e n pos) (eXf i a' d n) := pd_xf T hno hz hf he hb
/-- a class without an __init__ of its own -/
structure XoF (K : PySem.W.Frag) (c : Str) : Prop where
  ex : PySem.W.excIn K (He.ga K c) He.veBase "ValueError.__new__" = true
  kp : PySem.W.keepIn K (.ref (He.ga K c)) = true
  sub : PySem.W.subIn K (.ref (He.ga K c)) (.type "BaseException") = some true
  ty : PySem.W.typeIn K (.ref (He.ga K c)) = some (.type "type")
theorem XoF.of {K : PySem.W.Frag} {c : Str} (h : (He.Fa.exc c).ok K = true) : XoF K c := let ⟨h1, h2, h3, h4⟩ := He.exc_ok h; ⟨h1, h2, h3, h4⟩
theorem XoF.ok {X : Cx} {c : Str} (h : XoF X.K c) (gm : X.mg c = some (.ref (He.ga X.K c))) : XOk X c := ⟨gm, h.ex, h.kp, raises_own h.sub h.ty⟩
/-- a class whose __init__ stores one field -/
structure XiF (P : Program) (w : PySem.World) (K : PySem.W.Frag) (mg : Str → Option Value) (base : Heap) (c f : Str) : Prop where
  ox : OexC K (He.ga K c)
  ini : PySem.W.findIn K (.ref (He.ga K c)) "__init__" = some (some (.ref (He.ma K (He.ga K c) "__init__")))
  fn : PySem.W.typeIn K (.ref (He.ma K (He.ga K c) "__init__")) = some (.type "function")
  no : PySem.W.findIn K (.ref (He.ga K c)) f = some none
  run : ∃ (fd : FuncData) (ps : List Str), FnOk P w K mg base L2.CX0 1 (He.ma K (He.ga K c) "__init__") fd ps (spXi K (He.ga K c) f) ∧ Binds K fd ps []
theorem xi_raise {X : Cx} {W : WX} {c f : Str} {e : Expr} {p pos : Pos} {te : TEd} {j : Nat} (xi : XiF X.prog X.w X.K X.mg X.base c f) (gm : X.mg c = some (.ref (He.ga X.K c))) (hr : Room j X.A) (h2 : 2 ≤ j) (hg : Gl X c) (ha : PEd X W e te)
    (hdb : (c == ("__debug__" : Str)) = false := by decide) (he : starEach [e] X.env = (false, eval e X.env) :: starEach [] X.env := by rfl) (hpl : (backTo pos (starEach [] X.env)).any (·.1) = false := by rfl) : PXd X W (.Call (.Name c p) [e] [] pos) (xInit c f te) := by
  obtain ⟨fd, ps, h1, hb⟩ := xi.run
  exact pxd_init ⟨gm, xi.ox, xi.ini, xi.fn, xi.no⟩ h1 (hr.mono h2) hb L2.pass0 hg ha hdb he hpl
/-! ### by Bools of the frame -/
def oexB (K : PySem.W.Frag) (C : Addr) : Bool := (match K.lookup C with
  | some ⟨.type "type", _, .cls cd, sl⟩ => (match cd.mro, sl.toList with
    | .ref C' :: bm, [_, _, _, _, some (.builtin n), _] => C' == C && (n == "ValueError.__new__" && (!cd.hasDel && (cd.hasDict && PySem.HandSPX.refsVE bm)))
    | _, _ => false)
  | _ => false) && (decide (PySem.W.findIn K (.ref C) "__setattr__" = some (some (.builtin "object.__setattr__"))) && (decide (PySem.W.subIn K (.ref C) (.type "BaseException") = some true) && (decide (PySem.W.typeIn K (.ref C) = some (.type "type")) && PySem.W.keepIn K (.ref C))))
def excB (K : PySem.W.Frag) (D : Addr) : Bool := decide (PySem.W.findIn K (.ref D) "__getattribute__" = some (some (.builtin "BaseException.__getattribute__"))) && (decide (PySem.W.findIn K (.ref D) "__getattr__" = some none) && (decide (PySem.W.subIn K (.ref D) (.type "BaseException") = some true) &&
  (PySem.W.hasDictIn K D && (decide (PySem.W.findIn K (.ref D) "__class__" = some (some (.builtin "object.__class__"))) && (decide (PySem.W.specialIn K (.builtin "object.__class__") "__get__" = some (some (.builtin "getset_descriptor.__get__"))) && (decide (PySem.W.takesIn K (.builtin "object.__class__") = some true) && decide (PySem.W.mroIn K D (.type "object") = some true)))))))
theorem oexB_ok {K : PySem.W.Frag} {C : Addr} (h : oexB K C = true) : OexC K C := by
  unfold oexB at h
  obtain ⟨h0, h⟩ := He.ba h
  obtain ⟨h1, h⟩ := He.ba h
  obtain ⟨h2, h⟩ := He.ba h
  obtain ⟨h3, h4⟩ := He.ba h
  refine ⟨?_, of_decide_eq_true h1, of_decide_eq_true h2, of_decide_eq_true h3, h4⟩
  cases e : K.lookup C with
  | none => rw [e] at h0; cases h0
  | some o =>
    rw [e] at h0
    split at h0
    · rename_i dd cd sl ho
      cases ho
      split at h0
      · rename_i C' bm k0 k1 k2 k3 n k5 hm hs
        obtain ⟨e1, h0⟩ := He.ba h0
        obtain ⟨e2, h0⟩ := He.ba h0
        obtain ⟨e3, h0⟩ := He.ba h0
        obtain ⟨e4, e5⟩ := He.ba h0
        obtain ⟨nm, bs, mro, ns, qn, hd, sn, sub, ab, col, del⟩ := cd
        dsimp only at hm e3 e4
        have e1 := beq_iff_eq.mp e1
        have e2 := beq_iff_eq.mp e2
        subst e1 e2 hm e4
        have e3 : del = false := by cases del <;> first | rfl | cases e3
        subst e3
        have z : sl = #[k0, k1, k2, k3, some (.builtin "ValueError.__new__"), k5] := by
          rw [← Array.toArray_toList (xs := sl), hs]
        subst z
        exact ⟨nm, qn, ns, bs, bm, sn, sub, ab, col, dd, k0, k1, k2, k3, k5, rfl, e5⟩
      · cases h0
    · cases h0
theorem excB_ok {K : PySem.W.Frag} {D : Addr} (h : excB K D = true) : ExcC K D := by
  unfold excB at h
  simp only [Bool.and_eq_true, decide_eq_true_eq] at h
  obtain ⟨h1, h2, h3, h4, h5, h6, h7, h8⟩ := h
  exact ⟨h1, h2, h3, h4, h5, h6, h7, h8⟩
/-- C.x of a class itself -/
def crdB (K : PySem.W.Frag) (C : Addr) : Bool := PySem.W.readsIn K C (.type "type") && decide (PySem.W.specialIn K (.ref C) "__getattribute__" = some (some (.builtin "type.__getattribute__")))
theorem crdB_ok {K : PySem.W.Frag} {C : Addr} (h : crdB K C = true) : ClX.CRead K C (.type "type") := let ⟨h1, h2⟩ := He.ba h; ⟨h1, of_decide_eq_true h2⟩
/-- the exception classes: xs all of them, is: who is whose, fld: the field of those with an __init__, top: the one they all are -/
def exsB (xs : List Str) (is : Str → Str → Bool) (fld : List (Str × Str)) (K : PySem.W.Frag) : Bool :=
  (xs.all fun k => excB K (He.ga K k) && (xfB K (He.ga K k) && ((xs.all fun n => decide (PySem.W.kitOne K (.ref (He.ga K k)) (.ref (He.ga K n)) = some (is k n)) && decide (PySem.W.exmOne K (.ref (He.ga K k)) (.ref (He.ga K n)) = some (is k n))) &&
    decide (PySem.W.kitOne K (.ref (He.ga K k)) (.type "ValueError") = some true)))) &&
  (fld.all fun p => (xs.all fun k => decide (PySem.W.findIn K (.ref (He.ga K k)) p.2 = some none)) && (oexB K (He.ga K p.1) && (decide (PySem.W.findIn K (.ref (He.ga K p.1)) "__init__" = some (some (.ref (He.ma K (He.ga K p.1) "__init__")))) && decide (PySem.W.typeIn K (.ref (He.ma K (He.ga K p.1) "__init__")) = some (.type "function")))))
structure ExsOk (xs : List Str) (is : Str → Str → Bool) (fld : List (Str × Str)) (K : PySem.W.Frag) : Prop where
  exc : ∀ k ∈ xs, ExcC K (He.ga K k)
  xf : ∀ k ∈ xs, XfC K (He.ga K k)
  kit : ∀ k ∈ xs, ∀ n ∈ xs, PySem.W.kitOne K (.ref (He.ga K k)) (.ref (He.ga K n)) = some (is k n)
  exm : ∀ k ∈ xs, ∀ n ∈ xs, PySem.W.exmOne K (.ref (He.ga K k)) (.ref (He.ga K n)) = some (is k n)
  kitv : ∀ k ∈ xs, PySem.W.kitOne K (.ref (He.ga K k)) (.type "ValueError") = some true
  no : ∀ p ∈ fld, ∀ k ∈ xs, PySem.W.findIn K (.ref (He.ga K k)) p.2 = some none
  ox : ∀ p ∈ fld, OexC K (He.ga K p.1)
  ini : ∀ p ∈ fld, PySem.W.findIn K (.ref (He.ga K p.1)) "__init__" = some (some (.ref (He.ma K (He.ga K p.1) "__init__")))
  fn : ∀ p ∈ fld, PySem.W.typeIn K (.ref (He.ma K (He.ga K p.1) "__init__")) = some (.type "function")
theorem exsB_ok {xs : List Str} {is : Str → Str → Bool} {fld : List (Str × Str)} {K : PySem.W.Frag} (h : exsB xs is fld K = true) : ExsOk xs is fld K := by
  unfold exsB at h
  simp only [Bool.and_eq_true, List.all_eq_true, decide_eq_true_eq] at h
  obtain ⟨h1, h2⟩ := h
  exact ⟨fun k hk => excB_ok (h1 k hk).1, fun k hk => xfB_ok (h1 k hk).2.1, fun k hk n hn => ((h1 k hk).2.2.1 n hn).1, fun k hk n hn => ((h1 k hk).2.2.1 n hn).2, fun k hk => (h1 k hk).2.2.2, fun p hp k hk => (h2 p hp).1 k hk,
    fun p hp => oexB_ok (h2 p hp).2.1, fun p hp => (h2 p hp).2.2.1, fun p hp => (h2 p hp).2.2.2⟩
/-! ### the suite of a told; an __init__ of the usual form -/
def tSuite (s : Stmt) : List Stmt := match L2.defBody s with
  | [.Try _ [.ExceptHandler _ _ b _] _ _ _] => b
  | _ => []
theorem wk_init {P : Program} {w : PySem.World} {K : PySem.W.Frag} {mg : Str → Option Value} {base : Heap} {c f m : Str} {fd : FuncData} {qual : Str} {st : Stmt}
    (F : FunD K "__init__" qual (L2.defArgs st) (L2.defBody st) (L2.defScope st) [] [] (He.ma K (He.ga K c) "__init__") fd) (S : FnScope ["self", "row"] ["self", "row"] (L2.defScope st))
    (hb : ∀ (kV doc pm : Value) (an : Option Addr) (cdv ct : Value) (us : List Value), us.length = 2 → bindArgs (PySem.W.fnOf "__init__" qual (L2.defArgs st) (L2.defBody st) (L2.defScope st) .none kV doc pm an cdv ct) ⟨us, []⟩ = pure ((["self", "row"] : List Str).zip us))
    (h : ∀ cdv (A : Around) (outer : List Env) (s : Shared) (H : Hp) (E : XK), PSs (cxOf L2.CX0 P w K mg base ["self", "row"] qual (L2.defScope st) (He.ma K (He.ga K c) "__init__") cdv A outer s H E) (L2.defBody st) (tXi K f m))
    (ox : OexC K (He.ga K c)) (ini : PySem.W.findIn K (.ref (He.ga K c)) "__init__" = some (some (.ref (He.ma K (He.ga K c) "__init__")))) (fn : PySem.W.typeIn K (.ref (He.ma K (He.ga K c) "__init__")) = some (.type "function")) (no : PySem.W.findIn K (.ref (He.ga K c)) f = some none) :
    XiF P w K mg base c f :=
  ⟨ox, ini, fn, no, fd, ["self", "row"], F.ok S (fun vs H Q E ⟨a, v, e, _⟩ => by subst e; rfl) (fun cdv A outer s H vs Q E hr q => ⟨_, h cdv A outer s H E, pure_xi (E := E) q⟩), F.bindsN hb⟩
theorem un65 {k : Nat} {A : Around} (r : Room k A) : A.units + 65 < cLine := by have := r.un; omega
theorem un1 {k : Nat} {A : Around} (r : Room k A) : A.units + 1 < cLine := by have := r.un; omega
theorem un80 {k : Nat} {A : Around} (r : Room k A) : A.units + 80 < cLine := by have := r.un; omega
theorem wl_takes {X : Cx} {A : Around} {outer : List Env} {s : Shared} {H : Hp} {E : XK} {scope : Scope} {f c' : Addr} : Takes (LamX.lamCx X A outer s H E scope f c') (fun c d _ H' => E c d H') := takes_of rfl rfl rfl rfl
end Dx
/-! Dx20: the law's def at the head's heap. -/
namespace Dx
open PySem PySem.Spec PyProof.Rows L2
theorem cvi_ok' {K : PySem.W.Frag} {L : Addr} (h : (match PySem.W.findCls K (.ref L) (.type "type") "__init__" with
  | some (.val (.builtin n)) => n == "ValueError.__init__"
  | _ => false) = true) : PySem.W.findCls K (.ref L) (.type "type") "__init__" = some (.val (.builtin "ValueError.__init__")) := by
  split at h
  · rename_i n e
    rw [e, beq_iff_eq.mp h]
  · cases h
section
variable {P : Program} {w : PySem.World} {K : PySem.W.Frag} {mg : Str → Option Value} {base : Heap} {x qual : Str} {params : Arguments} {body : List Stmt} {scope : Scope} {f : Addr} {fd : FuncData}
/-- a def of which nothing is asked -/
theorem FunAt.none {ps : List Str} {k n : Nat} {kws : List (Str × V)} (F : FunD K x qual params body scope [] kws f fd) (hb : ∀ (kV doc pm : Value) (an : Option Addr) (cdv ct : Value) (us : List Value), us.length = ps.length → bindArgs (PySem.W.fnOf x qual params body scope .none kV doc pm an cdv ct) ⟨us, []⟩ = pure (ps.zip us)) :
    FunAt P w K mg base k f n [] (fun _ _ _ _ => False) :=
  ⟨fd, ps, [], [], ⟨fun vs H Q E ⟨_, _, _, _, _, _, _, _, _, h, _⟩ => h.elim, fun _ _ _ _ _ _ _ _ _ _ _ _ _ ⟨_, _, _, _, _, _, _, _, _, h, _⟩ => h.elim⟩, .nil, F.bindsN hb, fun _ _ => .nil⟩
/-- the world at the law's call: its list, its empty table -/
theorem law_world {H : Hp} {a P0 : Addr} {q : Str} {us : List V} (hP : H P0 = some (.tbl #[])) (hS : SqL K H a us) : ∃ G, World K G [P0] H [.tab P0 q] ∧ SqL K G a us := by
  let G : Hp := fun b => if b = a then (match H a with
    | some (.tbl _) => Option.none
    | o => o) else Option.none
  have gs : Same G H := fun b o h => by
    by_cases e : b = a
    · have h : (if b = a then (match H a with
        | some (.tbl _) => Option.none
        | o => o) else Option.none) = some o := h
      rw [if_pos e] at h
      rw [e]
      cases q : H a with
      | none => rw [q] at h; cases h
      | some z => rw [q] at h; cases z <;> first | exact h | cases h
    · have h : (if b = a then (match H a with
        | some (.tbl _) => Option.none
        | o => o) else Option.none) = some o := h
      rw [if_neg e] at h; cases h
  have gt : ∀ b ps, G b ≠ some (.tbl ps) := fun b ps h => by
    have z := gs _ _ h
    have h : (if b = a then (match H a with
        | some (.tbl _) => Option.none
        | o => o) else Option.none) = some (.tbl ps) := h
    by_cases e : b = a
    · rw [if_pos e] at h
      subst e
      rw [z] at h
      cases h
    · rw [if_neg e] at h; cases h
  have g0 : G P0 = Option.none := by
    cases e : G P0 with
    | none => rfl
    | some o =>
      have z := gs _ _ e
      rw [hP] at z
      cases z
      exact absurd e (gt _ _)
  refine ⟨G, ⟨rfl, by simp, gs, fun b hb => ?_, fun i b mo h1 h2 => ?_, gt, fun i P q h => ?_⟩, ?_⟩
  · rw [List.mem_singleton.mp hb, hP]; simp
  · cases i with
    | zero =>
      cases h1; cases h2
      obtain ⟨ps, e1, e2, e3⟩ := LamX.TabS.nil (q := q) hP
      rw [hP] at e1
      cases e1
      exact ⟨rfl, g0, #[], hP, True.intro, fun pos cv hc => by
        have z : codeAmong pos [] = some cv := hc
        simp [codeAmong] at z⟩
    | succ i => cases h1
  · cases i with
    | zero => rfl
    | succ i => cases h
  · have ga : ∀ o, H a = some o → (∀ ps, o ≠ .tbl ps) → G a = some o := fun o h n => by
      show (if a = a then (match H a with
        | some (.tbl _) => Option.none
        | o => o) else Option.none) = some o
      rw [if_pos rfl, h]
      cases o <;> first | rfl | exact absurd rfl (n _)
    rcases hS with (h | ⟨o, h⟩) | h
    · exact .inl (.inl (ga _ h (by nofun)))
    · exact .inl (.inr ⟨o, ga _ h (by nofun)⟩)
    · exact .inr h
/-- what is asked of the law's promise -/
theorem law_sp {Pt : FD} {H : Hp} {a P0 : Addr} {q : Str} {ns : List Int} (hP : H P0 = some (.tbl #[])) (hS : SqL K H a (ns.map V.int))
    (h : Pt [.kls (ns.map D.int)] [.tab P0 q] (fun d _ => d = .bl true) (fun _ _ _ => False)) : spD K 1 Pt [.ref a] H (fun v _ => v = .bl true) (fun _ _ _ => False) := by
  obtain ⟨G, w1, s1⟩ := law_world (q := q) hP hS
  exact ⟨rfl, [P0], G, _, _, _, _, w1, .cons (.kls s1 (RelDs.of_ints ns)) .nil, h, fun d M' e al' G' H' v _ _ r => by subst e; cases r; rfl, fun _ _ _ z => z.elim⟩
/-- the def whose code object is known, its record told -/
theorem fnOk_ofC {N ps : List Str} {k n : Nat} {t : TSd} {p : Str × Option Str} {kws : List (Str × V)} (F : FunD K x qual params body scope [] kws (He.fAd K p) fd) (S : FnScope N ps scope) (hn : ps.length = n)
    (h : Walked P w K mg base k N qual scope (He.fAd K p) (.ref (He.codeOf K p)) body t) : FnOk P w K mg base (L2.CX P w) (k + 1) (He.fAd K p) fd ps (spD K n (ptOf N n t)) := by
  obtain ⟨oc, od, dV, kV, doc, pm, an, cdv, ct, osl, rfl, lk, hcd, _, _⟩ := F.ex
  obtain ⟨c, hc⟩ := He.codeIn_ref hcd
  subst hc
  have ec : He.codeOf K p = c := He.codeOf_eq lk rfl
  rw [ec] at h
  exact L2.fn_of lk hcd S (fun vs H Q E q => by rw [hn]; exact q.1) (fun A outer s H vs Q E hr q => ⟨_, h A outer s H E hr, pt_run q⟩)
theorem law_at {l : PySem.W.OpenLaw} {k n : Nat} {p : Str × Option Str} {h : Heap} {Pt : FD} {q x : Str} {fa : List He.Fa} {fn : List He.DefD} {ts : List He.Tab} {ex : PySem.W.Frag → Bool} {kws : List (Str × V)} {nm qual : Str}
    (c : He.SaysX fa fn ts [p] ex w h K) (KX : K.In h) (F : FunD K nm qual params body scope [] kws (He.fAd K p) fd)
    (hb : ∀ (kV doc pm : Value) (an : Option Addr) (cdv ct : Value) (us : List Value), us.length = 1 → bindArgs (PySem.W.fnOf nm qual params body scope .none kV doc pm an cdv ct) ⟨us, []⟩ = pure (([x] : List Str).zip us))
    (hsp : ∀ ns : List Int, ns.length ≤ n → (∀ z ∈ ns, Builtin.Int.intBits z ≤ 1048576) → Pt [.kls (ns.map D.int)] [.tab (He.cT K p).2 q] (fun d _ => d = .bl true) (fun _ _ _ => False))
    (hF : ∀ base : Heap, K.In base → base.Ns mainGlobals mg → LamX.TabB base mg (He.cT K p).1 (He.cT K p).2 → FnOk l.prog w K mg base (L2.CX l.prog w) k (He.fAd K p) fd [x] (spD K 1 Pt)) :
    LamX.LawAtS l w K (L2.CX l.prog w) k n x mg (He.fAd K p) h := by
  refine ⟨fd, [He.cT K p], spD K 1 Pt, fun p' hp => ?_, fun p' hp => ?_, fun p' hp => ?_, fun s u => ?_, fun H a ns hl hbits hH hS => ?_, fun base b1 b2 b3 => ?_⟩
  · rw [List.mem_singleton.mp hp]; exact c.empty p List.mem_cons_self
  · rw [List.mem_singleton.mp hp]; exact c.out p List.mem_cons_self
  · rw [List.mem_singleton.mp hp]; exact PySem.W.codeHd_of_K KX (c.hd p List.mem_cons_self)
  · exact F.bindsA (ps := [x]) hb s [u] rfl
  · exact law_sp (hH _ List.mem_cons_self) hS (hsp ns hl hbits)
  · exact hF base b1 b2 (b3 _ List.mem_cons_self)
end
/-! ### the head's hook, the statics in the frame -/
open He in
/-- what the names reach, and the statics -/
def frC (n : Nat) (g : Addr → Option Obj) : PySem.W.Frag := frT g (asD g n ++ [cStatics])
open He in
def obsC (n : Nat) (fa : List Fa) (fn : List DefD) (tf : List Defn) (ex : PySem.W.Frag → Bool) (g : Addr → Option Obj) : AlX :=
  (obsT fa fn [] (frC n g), (fun K => ex K && tabsB g tf K) (frC n g))
open He in
theorem saysC {n : Nat} {fa : List Fa} {fn : List DefD} {tf : List Defn} {ex : PySem.W.Frag → Bool} {w : PySem.World} {h : Heap} (e : obsC n fa fn tf ex h.get? = valX fn [] w) : SaysX fa fn [] tf ex w h (frC n h.get?) := by
  have z1 := congrArg Prod.fst e
  have z2 : (ex (frC n h.get?) && tabsB h.get? tf (frC n h.get?)) = true := congrArg Prod.snd e
  rw [Bool.and_eq_true] at z2
  have z3 := z2.2
  unfold tabsB at z3
  rw [List.all_eq_true] at z3
  have at_ : ∀ p ∈ tf, PySem.W.codeHdIn (frC n h.get?) (cT (frC n h.get?) p).1 (cT (frC n h.get?) p).2 = true ∧ ∃ o, h.get? (cT (frC n h.get?) p).2 = some o ∧ emptyTab o = true := by
    intro p hp
    have y := z3 p hp
    rw [Bool.and_eq_true] at y
    refine ⟨y.1, ?_⟩
    have y2 := y.2
    split at y2
    · exact ⟨_, by assumption, y2⟩
    · cases y2
  refine ⟨z1, z2.1, fun p hp => (at_ p hp).1, fun p hp => ?_, fun p hp => ?_⟩
  · obtain ⟨_, _, y1, y2⟩ := at_ p hp
    exact frT_none y1 y2
  · obtain ⟨_, _, y1, y2⟩ := at_ p hp
    rw [y1]
    exact congrArg some (emptyTab_eq y2)
open He in
def hookC (n : Nat) (fa : List Fa) (fn : List DefD) (tf : List Defn) (ex : PySem.W.Frag → Bool) : PySem.W.Hook where
  α := AlX
  obs := fun s => obsC n fa fn tf ex s.heap.get?
  val := fun w => valX fn [] w
  says := fun w h => ∃ K : PySem.W.Frag, K.In h ∧ SaysX fa fn [] tf ex w h K
  of := fun _ _ e => ⟨_, frT_in, saysC e⟩
  keeps := fun _ _ _ ⟨K, i, c⟩ kp => ⟨K, i.keeps kp, { t := c.t, more := c.more, hd := c.hd, out := c.out, empty := fun p hp => kp _ _ (c.empty p hp) }⟩
theorem obsC_eq {n : Nat} {fa : List He.Fa} {fn : List He.DefD} {tf : List He.Defn} {ex : PySem.W.Frag → Bool} {g : Addr → Option Obj} {s : Shared} (h : ∀ a, g a = s.heap.get? a) : obsC n fa fn tf ex g = (hookC n fa fn tf ex).obs s := by
  have e : g = s.heap.get? := funext h
  subst e
  rfl
end Dx
/-! Dx21: the readings reckoned: equations for simp; loops by what they keep. -/
namespace Dx
open PySem PySem.Spec PyProof.Rows L2
section
variable {de : Lo} {M : Mem} {R : KD} {S : SD} {E : EndsD} {SS' : SS} {ta tb tc : TEd} {tt tu : TTd} {t : TAd} {i : Nat}
@[simp] theorem q_var : eVar i de M R S = ∃ d, de[i]? = some (some d) ∧ R d M := rfl
@[simp] theorem q_c {d : D} : eC d de M R S = R d M := rfl
@[simp] theorem q_op {o : O2} : eOp o ta tb de M R S = ta de M (fun x M1 => tb de M1 (fun y M2 => o x y M2 R) S) S := rfl
@[simp] theorem q_i0 {g : Int → Int → D} {a b : Int} : oI0 g (.int a) (.int b) M R = R (g a b) M := rfl
@[simp] theorem q_i {C : Int → Int → Prop} {g : Int → Int → D} {a b : Int} : oI C g (.int a) (.int b) M R = (C a b ∧ R (g a b) M) := rfl
@[simp] theorem q_or {o1 o2 : O2} {x y : D} : oOr o1 o2 x y M R = (o1 x y M R ∨ o2 x y M R) := rfl
@[simp] theorem q_cor {o1 o2 : OA} {xs : List D} : cOr o1 o2 xs M R = (o1 xs M R ∨ o2 xs M R) := rfl
@[simp] theorem q_lor {o1 o2 : OSl} {x : D} {l u : Option Int} : lOr o1 o2 x l u M R = (o1 x l u M R ∨ o2 x l u M R) := rfl
@[simp] theorem q_neg : eNeg ta de M R S = ta de M (fun x M1 => ∃ k, x = .int k ∧ R (.int (-k)) M1) S := by
  unfold eNeg
  congr 1
  funext x M1
  cases x <;> simp
@[simp] theorem q_b {Rb : Bool → Mem → Prop} : eB ta de M Rb S = ta de M (fun x M1 => ∃ k, x = .bl k ∧ Rb k M1) S := by
  unfold eB
  congr 1
  funext x M1
  cases x <;> simp
theorem br {p q : Prop} {b : Bool} : (match b with
    | true => p
    | false => q) = ((b = true → p) ∧ (b = false → q)) := by cases b <;> simp
@[simp] theorem q_and {Rb : Bool → Mem → Prop} : eAnd tt tu de M Rb S = tt de M (fun c M1 => (c = true → tu de M1 Rb S) ∧ (c = false → Rb false M1)) S := by
  unfold eAnd
  congr 1
  funext c M1
  cases c <;> simp
@[simp] theorem q_orb {Rb : Bool → Mem → Prop} : eOr tt tu de M Rb S = tt de M (fun c M1 => (c = true → Rb true M1) ∧ (c = false → tu de M1 Rb S)) S := by
  unfold eOr
  congr 1
  funext c M1
  cases c <;> simp
@[simp] theorem q_not {Rb : Bool → Mem → Prop} : eNot tt de M Rb S = tt de M (fun c M1 => Rb (!c) M1) S := rfl
@[simp] theorem q_if : eIf tt ta tb de M R S = tt de M (fun c M1 => (c = true → ta de M1 R S) ∧ (c = false → tb de M1 R S)) S := by
  unfold eIf
  congr 1
  funext c M1
  cases c <;> simp
@[simp] theorem q_nil {Ra : List D → Mem → Prop} : aNil de M Ra S = Ra [] M := rfl
@[simp] theorem q_cons {Ra : List D → Mem → Prop} : aCons ta t de M Ra S = ta de M (fun x M1 => t de M1 (fun xs M2 => Ra (x :: xs) M2) S) S := rfl
@[simp] theorem q_tup : eTup t de M R S = t de M (fun xs M1 => xs.length ≤ sizeLine ∧ R (.tup xs) M1) S := rfl
@[simp] theorem q_lst {m : Bool} : eLst m t de M R S = t de M (fun xs M1 => xs.length ≤ sizeLine ∧ newL m xs M1 R) S := rfl
@[simp] theorem q_newF {xs : List D} : newL false xs M R = R (.lst xs) M := rfl
@[simp] theorem q_newT {xs : List D} : newL true xs M R = R (.ref M.length) (M ++ [.lst xs]) := rfl
@[simp] theorem q_cb {o : OA} : eCB o t de M R S = t de M (fun xs M1 => o xs M1 R) S := rfl
@[simp] theorem q_bm {T : String} {o : OM} : eBM T o ta t de M R S = ta de M (fun x M1 => tyD T M1 x ∧ t de M1 (fun xs M2 => o x xs M2 R) S) S := rfl
@[simp] theorem q_sl {o : OSl} {tl th : TOd} : eSl o ta tl th de M R S = ta de M (fun x M1 => tl de M1 (fun l M2 => th de M2 (fun u M3 => o x l u M3 R) S) S) S := rfl
@[simp] theorem q_np {Ro : Option Int → Mem → Prop} : noPart de M Ro S = Ro none M := rfl
@[simp] theorem q_sp {Ro : Option Int → Mem → Prop} : somePart ta de M Ro S = ta de M (fun x M1 => ∃ k, x = .int k ∧ Ro (some k) M1) S := by
  unfold somePart
  congr 1
  funext x M1
  cases x <;> simp
@[simp] theorem q_call {n : Nat} {dd : List D} {Pt : FD} : eCall n dd Pt t de M R S = t de M (fun ds M1 => ds.length + dd.length = n ∧ Pt (ds ++ dd) M1 R S) S := rfl
@[simp] theorem q_intI {a : Int} : oInt [.int a] M R = R (.int a) M := rfl
@[simp] theorem q_intB {b : Bool} : oInt [.bl b] M R = R (.int (if b then 1 else 0)) M := rfl
/-! statements -/
@[simp] theorem q_next : sNext E de M SS' = E.nx de M := rfl
@[simp] theorem q_seq {t u : TSd} : sSeq t u E de M SS' = t ⟨fun de1 M1 => u E de1 M1 SS', E.rt⟩ de M SS' := rfl
@[simp] theorem q_drop : sDrop ta E de M SS' = ta de M (fun _ M1 => E.nx de M1) (SE SS' de) := rfl
@[simp] theorem q_ret : sRet ta E de M SS' = ta de M E.rt (SE SS' de) := rfl
@[simp] theorem q_retN : sRetN E de M SS' = E.rt .non M := rfl
@[simp] theorem q_sif {t u : TSd} : sIf tt t u E de M SS' = tt de M (fun b M1 => (b = true → t E de M1 SS') ∧ (b = false → u E de M1 SS')) (SE SS' de) := by
  unfold sIf
  congr 1
  funext b M1
  cases b <;> simp
@[simp] theorem q_set : sSet i ta E de M SS' = ta de M (fun x M1 => E.nx (de.set i (some x)) M1) (SE SS' de) := rfl
@[simp] theorem q_par {j : Nat} : sPar i j t E de M SS' = t de M (fun ds M1 => ∃ x y, ds = [x, y] ∧ E.nx ((de.set i (some x)).set j (some y)) M1) (SE SS' de) := rfl
@[simp] theorem q_asg {g : TGd} : sAsg ta g E de M SS' = ta de M (fun x M1 => g x de M1 E.nx) (SE SS' de) := rfl
@[simp] theorem q_raise {t : TXd} : sRaise t E de M SS' = t de M (fun c fs M' => SS' c fs de M') (fun c fs M' => SS' c fs de M') := rfl
@[simp] theorem q_xown {c : Str} {Rx : SD} : xOwn c de M Rx S = Rx c [] M := rfl
@[simp] theorem q_xinit {c f : Str} {Rx : SD} : xInit c f ta de M Rx S = ta de M (fun d M1 => Rx c [(f, d)] M1) S := rfl
variable {N : Lo → Mem → Prop} {d : D}
@[simp] theorem q_dname : dName i d de M N = N (de.set i (some d)) M := rfl
@[simp] theorem q_dtup {n : Nat} {gs : TGsd} : dTup n gs d de M N = ∃ xs, d = .tup xs ∧ xs.length = n ∧ gs xs de M N := rfl
@[simp] theorem q_dnil : dNil [] de M N = N de M := by simp [dNil]
@[simp] theorem q_dcons {g : TGd} {gs : TGsd} {ds : List D} : dCons g gs (d :: ds) de M N = g d de M (fun de1 M1 => gs ds de1 M1 N) := by
  unfold dCons
  apply propext
  constructor
  · rintro ⟨d', r, e, h⟩; cases e; exact h
  · intro h; exact ⟨d, ds, rfl, h⟩
@[simp] theorem q_tyes {Rb : Bool → Mem → Prop} : tYesD de M Rb S = Rb true M := rfl
@[simp] theorem q_dsub {o : OSet} : dSub o ta tb d de M N = ta de M (fun x M1 => tb de M1 (fun i M2 => o x i d M2 (N de)) (fun _ _ _ => False)) (fun _ _ _ => False) := rfl
@[simp] theorem q_for {ti : TId} {g : TGd} {body : TSd} : sFor ti g body E de M SS' = ti de M (fun xs stay M1 => forL stay g body xs E de M1 SS') (SE SS' de) := rfl
end
/-! ### lists, told and changing -/
def lstAt (M : Mem) (n : Nat) : Option (List D) := match M[n]? with
  | some (.lst xs) => some xs
  | _ => none
theorem lstAt_of {M : Mem} {n : Nat} {xs : List D} (h : M[n]? = some (.lst xs)) : lstAt M n = some xs := by unfold lstAt; rw [h]
theorem lstAt_iff {M : Mem} {n : Nat} {xs : List D} : lstAt M n = some xs ↔ M[n]? = some (.lst xs) := by
  unfold lstAt
  constructor
  · intro h
    split at h
    · rename_i e; cases h; exact e
    · cases h
  · intro h; rw [h]
@[simp] theorem lstAt_set {M : Mem} {n : Nat} {xs : List D} (h : n < M.length) : lstAt (M.set n (.lst xs)) n = some xs := lstAt_of (List.getElem?_set_self h)
theorem lstAt_set_ne {M : Mem} {n m : Nat} {mo : MO} (h : n ≠ m) : lstAt (M.set m mo) n = lstAt M n := by unfold lstAt; rw [List.getElem?_set_ne (Ne.symm h)]
theorem lstAt_app {M N : Mem} {n : Nat} (h : n < M.length) : lstAt (M ++ N) n = lstAt M n := by unfold lstAt; rw [List.getElem?_append_left h]
section
variable {M : Mem} {R : KD} {xs : List D} {n : Nat}
@[simp] theorem seq_lst : seqOf M (.lst xs) = some xs := rfl
@[simp] theorem seq_kls : seqOf M (.kls xs) = some xs := rfl
@[simp] theorem seq_tup : seqOf M (.tup xs) = some xs := rfl
@[simp] theorem seq_ref : seqOf M (.ref n) = lstAt M n := rfl
@[simp] theorem seq_int {k : Int} : seqOf M (.int k) = none := rfl
@[simp] theorem lst_lst : lstOf M (.lst xs) = some xs := rfl
@[simp] theorem lst_kls : lstOf M (.kls xs) = some xs := rfl
@[simp] theorem lst_tup : lstOf M (.tup xs) = none := rfl
@[simp] theorem lst_ref : lstOf M (.ref n) = lstAt M n := rfl
@[simp] theorem lst_int {k : Int} : lstOf M (.int k) = none := rfl
@[simp] theorem own_lst : ownOf M (.lst xs) = some xs := rfl
@[simp] theorem own_ref : ownOf M (.ref n) = lstAt M n := rfl
@[simp] theorem own_int {k : Int} : ownOf M (.int k) = none := rfl
@[simp] theorem own_tup : ownOf M (.tup xs) = none := rfl
@[simp] theorem dic_int {k : Int} : dicOf M (.int k) = none := rfl
@[simp] theorem dic_lst : dicOf M (.lst xs) = none := rfl
@[simp] theorem dic_kls : dicOf M (.kls xs) = none := rfl
@[simp] theorem dic_tup : dicOf M (.tup xs) = none := rfl
@[simp] theorem q_ix {x : D} {k : Int} : oIx x (.int k) M R = ∃ d, ((seqOf M x).bind fun xs => atI xs k) = some d ∧ R d M := by
  unfold oIx
  apply propext
  constructor
  · rintro ⟨xs, i, d, h1, h2, h3, h4⟩
    cases h2
    exact ⟨d, by rw [h1]; exact h3, h4⟩
  · rintro ⟨d, h1, h2⟩
    cases h : seqOf M x with
    | none => rw [h] at h1; cases h1
    | some xs => rw [h] at h1; exact ⟨xs, k, d, rfl, rfl, h1, h2⟩
theorem atI_nat (j : Nat) : atI xs (j : Int) = xs[j]? := by
  unfold atI ixN
  by_cases h : j < xs.length
  · simp [h]
  · have : xs.length ≤ j := by omega
    simp [h, this]
@[simp] theorem atI_0 : atI xs 0 = xs[0]? := atI_nat 0
@[simp] theorem atI_1 : atI xs 1 = xs[1]? := atI_nat 1
@[simp] theorem atI_2 : atI xs 2 = xs[2]? := atI_nat 2
@[simp] theorem atI_3 : atI xs 3 = xs[3]? := atI_nat 3
theorem atI_of {k : Int} {d : D} (h0 : 0 ≤ k) (h : xs[k.toNat]? = some d) : atI xs k = some d := by
  have e : k = (k.toNat : Int) := by omega
  rw [e, atI_nat, h]
theorem ixN_of {l : Nat} {k : Int} (h0 : 0 ≤ k) (h : k < l) : ixN l k = some k.toNat := by
  unfold ixN
  simp [h0, h]
@[simp] theorem q_setL {k : Int} {d : D} {N : Mem → Prop} : oSetL (.ref n) (.int k) d M N = ∃ xs j, lstAt M n = some xs ∧ ixN xs.length k = some j ∧ N (M.set n (.lst (xs.set j d))) := by
  unfold oSetL
  apply propext
  constructor
  · rintro ⟨n', xs, k', j, h1, h2, h3, h4, h5⟩
    cases h1; cases h2
    exact ⟨xs, j, lstAt_of h3, h4, h5⟩
  · rintro ⟨xs, j, h1, h2, h3⟩
    exact ⟨n, xs, k, j, rfl, rfl, lstAt_iff.mp h1, h2, h3⟩
@[simp] theorem q_len {x : D} : oLen [x] M R = ∃ ys, seqOf M x = some ys ∧ R (.int ys.length) M := by
  unfold oLen
  apply propext
  constructor
  · rintro ⟨x', ys, h1, h2, h3⟩
    cases h1
    exact ⟨ys, h2, h3⟩
  · rintro ⟨ys, h2, h3⟩
    exact ⟨x, ys, rfl, h2, h3⟩
@[simp] theorem q_lenD {x : D} : oLenD [x] M R = ∃ ys, dicOf M x = some ys ∧ R (.int ys.length) M := by
  unfold oLenD
  apply propext
  constructor
  · rintro ⟨x', ys, h1, h2, h3⟩
    cases h1
    exact ⟨ys, h2, h3⟩
  · rintro ⟨ys, h2, h3⟩
    exact ⟨x, ys, rfl, h2, h3⟩
end
section
variable {M : Mem} {R : KD} {xs ys : List D} {n : Nat} {x y : D} {g : Int → Int → D} {C : Int → Int → Prop} {k : Int} {z : Str}
@[simp] theorem q_cat {m : Bool} : oCat m x y M R = ∃ xs ys, ownOf M x = some xs ∧ ownOf M y = some ys ∧ xs.length + ys.length ≤ sizeLine ∧ newL m (xs ++ ys) M R := rfl
@[simp] theorem q_rep {m : Bool} : oRep m x y M R = ∃ xs k, ownOf M x = some xs ∧ y = .int k ∧ -(2 ^ 63) ≤ k ∧ k < 2 ^ 63 ∧ xs.length * k.toNat ≤ sizeLine ∧ newL m (List.replicate k.toNat xs).flatten M R := rfl
@[simp] theorem q_catT : oCatT x y M R = ∃ xs ys, x = .tup xs ∧ y = .tup ys ∧ xs ≠ [] ∧ xs.length + ys.length ≤ sizeLine ∧ R (.tup (xs ++ ys)) M := rfl
@[simp] theorem q_catS_int : oCatS (.int k) y M R = False := rfl
@[simp] theorem q_catS_lst : oCatS (.lst xs) y M R = False := rfl
@[simp] theorem q_catS_ref : oCatS (.ref n) y M R = False := rfl
@[simp] theorem q_catS_tup : oCatS (.tup xs) y M R = False := rfl
@[simp] theorem q_lenS : oLenS [x] M R = ∃ z, x = .str z ∧ z.length ≤ sizeLine ∧ R (.int z.length) M := by
  unfold oLenS
  apply propext
  constructor
  · rintro ⟨z, e, h⟩; cases e; exact ⟨z, rfl, h⟩
  · rintro ⟨z, rfl, h⟩; exact ⟨z, rfl, h⟩
@[simp] theorem q_i0_lst : oI0 g (.lst xs) y M R = False := rfl
@[simp] theorem q_i0_ref : oI0 g (.ref n) y M R = False := rfl
@[simp] theorem q_i0_tup : oI0 g (.tup xs) y M R = False := rfl
@[simp] theorem q_i0_str : oI0 g (.str z) y M R = False := rfl
@[simp] theorem q_i_lst : oI C g (.lst xs) y M R = False := rfl
@[simp] theorem q_i_ref : oI C g (.ref n) y M R = False := rfl
@[simp] theorem q_i_tup : oI C g (.tup xs) y M R = False := rfl
@[simp] theorem q_i_str : oI C g (.str z) y M R = False := rfl
@[simp] theorem own_kls : ownOf M (.kls xs) = none := rfl
@[simp] theorem own_str : ownOf M (.str z) = none := rfl
end
/-- a loop by what it keeps: Inv n de M ahead of the n-th item -/
theorem forL_inv {stay : Mem → Prop} {g : TGd} {body : TSd} {E : EndsD} {S : SS} (xs : List D) (Inv : Nat → Lo → Mem → Prop) (hs : ∀ n de M, Inv n de M → stay M)
    (step : ∀ (n : Nat) (x : D) (de : Lo) (M : Mem) (C : Lo → Mem → Prop), xs[n]? = some x → Inv n de M → (∀ de2 M2, Inv (n + 1) de2 M2 → C de2 M2) → g x de M (fun de1 M1 => body ⟨C, E.rt⟩ de1 M1 S))
    (done : ∀ de M, Inv xs.length de M → E.nx de M) (de : Lo) (M : Mem) (h0 : Inv 0 de M) : forL stay g body xs E de M S := by
  have main : ∀ (ys : List D) (n : Nat), n + ys.length = xs.length → (∀ j, ys[j]? = xs[n + j]?) → ∀ de M, Inv n de M → forL stay g body ys E de M S := by
    intro ys
    induction ys with
    | nil =>
      intro n hn _ de M hI
      have e : n = xs.length := by simpa using hn
      subst e
      exact done de M hI
    | cons y ys ih =>
      intro n hn hj de M hI
      refine step n y de M _ (by have := hj 0; simpa using this.symm) hI fun de2 M2 h2 => ⟨hs _ _ _ h2, ih (n + 1) (by rw [← hn]; simp; omega) (fun j => ?_) de2 M2 h2⟩
      have := hj (j + 1)
      rw [List.getElem?_cons_succ] at this
      rw [this]
      congr 1
      omega
  exact main xs 0 (by simp) (by simp) de M h0
/-- a comprehension by what it keeps -/
theorem cpL_inv {A : Type} {stay : Mem → Prop} {g : TGd} {tt : TTd} {em : EmD A} {de0 : Lo} {R : A → Mem → Prop} (xs : List D) (Inv : Nat → A → Mem → Prop) (hs : ∀ n acc M, Inv n acc M → stay M)
    (step : ∀ (n : Nat) (x : D) (acc : A) (M : Mem) (C : A → Mem → Prop), xs[n]? = some x → Inv n acc M → (∀ acc' M', Inv (n + 1) acc' M' → C acc' M') →
      g x de0 M (fun de1 M1 => tt de1 M1 (fun b M2 => (b = true → em de1 acc M2 C) ∧ (b = false → C acc M2)) S0))
    (done : ∀ acc M, Inv xs.length acc M → R acc M) (acc : A) (M : Mem) (h0 : Inv 0 acc M) : cpL stay g tt em de0 xs acc M R := by
  have main : ∀ (ys : List D) (n : Nat), n + ys.length = xs.length → (∀ j, ys[j]? = xs[n + j]?) → ∀ acc M, Inv n acc M → cpL stay g tt em de0 ys acc M R := by
    intro ys
    induction ys with
    | nil =>
      intro n hn _ acc M hI
      have e : n = xs.length := by simpa using hn
      subst e
      exact done acc M hI
    | cons y ys ih =>
      intro n hn hj acc M hI
      have z := step n y acc M (fun acc' M' => stay M' ∧ cpL stay g tt em de0 ys acc' M' R) (by have := hj 0; simpa using this.symm) hI fun a2 M2 h2 => ⟨hs _ _ _ h2, ih (n + 1) (by rw [← hn]; simp; omega) (fun j => by
        have := hj (j + 1)
        rw [List.getElem?_cons_succ] at this
        rw [this]
        congr 1
        omega) a2 M2 h2⟩
      unfold cpL
      have e : (fun (de1 : Lo) (M1 : Mem) => tt de1 M1 (fun b M2 => match b with
          | true => em de1 acc M2 (fun acc' M3 => stay M3 ∧ cpL stay g tt em de0 ys acc' M3 R)
          | false => stay M2 ∧ cpL stay g tt em de0 ys acc M2 R) S0) = (fun de1 M1 => tt de1 M1 (fun b M2 => (b = true → em de1 acc M2 (fun acc' M' => stay M' ∧ cpL stay g tt em de0 ys acc' M' R)) ∧ (b = false → stay M2 ∧ cpL stay g tt em de0 ys acc M2 R)) S0) := by
        funext de1 M1
        congr 1
        funext b M2
        cases b <;> simp
      exact e ▸ z
  exact main xs 0 (by simp) (by simp) acc M h0
/-- a comprehension that changes nothing, of what each item yields -/
theorem cp_map {stay : Mem → Prop} {te : TEd} {de0 : Lo} {i : Nat} {M : Mem} {R : List D → Mem → Prop} (xs : List D) (f : D → D) (hst : stay M) (hl : xs.length ≤ sizeLine) (he : ∀ x ∈ xs, ∀ Q : KD, Q (f x) M → te (de0.set i (some x)) M Q S0)
    (hR : R (xs.map f) M) : cpL stay (dName i) tYesD (emApp te) de0 xs [] M R := by
  refine cpL_inv xs (fun n acc M' => M' = M ∧ acc = (xs.take n).map f) (fun n acc M' h => by rw [h.1]; exact hst) ?_ ?_ _ _ ⟨rfl, by simp⟩
  · rintro n x acc M' C hx ⟨rfl, rfl⟩ hC
    have hn : n < xs.length := (List.getElem?_eq_some_iff.mp hx).1
    refine ⟨fun _ => he x (List.mem_of_getElem? hx) _ ⟨by simp; omega, hC _ _ ⟨rfl, ?_⟩⟩, fun h => by cases h⟩
    rw [List.take_succ, hx, List.map_append]
    rfl
  · rintro acc M' ⟨rfl, rfl⟩
    rw [List.take_length]
    exact hR
/-- .. with a test -/
theorem cp_filter {stay : Mem → Prop} {tt : TTd} {te : TEd} {g : TGd} {de0 : Lo} {M : Mem} {R : List D → Mem → Prop} (xs : List D) (p : D → Bool) (f : D → D) (hst : stay M) (hl : xs.length ≤ sizeLine)
    (he : ∀ x ∈ xs, ∀ C : D → Mem → Prop, ∀ C2 : Mem → Prop, (p x = true → C (f x) M) → (p x = false → C2 M) → g x de0 M (fun de1 M1 => tt de1 M1 (fun b M2 => (b = true → te de1 M2 C S0) ∧ (b = false → C2 M2)) S0))
    (hR : R ((xs.filter p).map f) M) : cpL stay g tt (emApp te) de0 xs [] M R := by
  refine cpL_inv xs (fun n acc M' => M' = M ∧ acc = ((xs.take n).filter p).map f) (fun n acc M' h => by rw [h.1]; exact hst) ?_ ?_ _ _ ⟨rfl, by simp⟩
  · rintro n x acc M' C hx ⟨rfl, rfl⟩ hC
    have hn : n < xs.length := (List.getElem?_eq_some_iff.mp hx).1
    have hlen : (((xs.take n).filter p).map f).length < sizeLine := by
      have := List.length_filter_le p (xs.take n)
      simp only [List.length_map]
      rw [List.length_take] at this
      omega
    refine he x (List.mem_of_getElem? hx) (fun y M1 => (((xs.take n).filter p).map f).length < sizeLine ∧ C ((((xs.take n).filter p).map f) ++ [y]) M1) (fun M2 => C (((xs.take n).filter p).map f) M2) (fun hp => ⟨hlen, hC _ _ ⟨rfl, ?_⟩⟩) (fun hp => hC _ _ ⟨rfl, ?_⟩)
    · rw [List.take_succ, hx, List.filter_append, List.map_append]
      simp [hp]
    · rw [List.take_succ, hx, List.filter_append, List.map_append]
      simp [hp]
  · rintro acc M' ⟨rfl, rfl⟩
    rw [List.take_length]
    exact hR
section
variable {M : Mem} {R : KD} {a b : Int}
theorem eqv_int : PyData.eqv (.int a) (.int b) = decide (a = b) := by
  simp [PyData.eqv]
  by_cases h : a = b <;> simp [h]
@[simp] theorem q_eqF : oEqD false (.int a) (.int b) M R = R (.bl (decide (a = b))) M := by
  apply propext
  constructor
  · rintro ⟨d, e, h1, h2, _, _, h5⟩
    cases h1; cases h2
    rw [if_neg (by decide), eqv_int] at h5
    exact h5
  · intro h
    exact ⟨_, _, rfl, rfl, rfl, rfl, by rw [if_neg (by decide), eqv_int]; exact h⟩
@[simp] theorem q_eqT : oEqD true (.int a) (.int b) M R = R (.bl (!decide (a = b))) M := by
  apply propext
  constructor
  · rintro ⟨d, e, h1, h2, _, _, h5⟩
    cases h1; cases h2
    rw [if_pos rfl, eqv_int] at h5
    exact h5
  · intro h
    exact ⟨_, _, rfl, rfl, rfl, rfl, by rw [if_pos rfl, eqv_int]; exact h⟩
@[simp] theorem q_enum {de : Lo} {t : TAd} {Rt : List D → (Mem → Prop) → Mem → Prop} {S : SD} : iEnumD t de M Rt S = t de M (fun ys M1 => ∃ x xs, ys = [x] ∧ lstOf M1 x = some xs ∧ Rt (enumD 0 xs) (fun M' => lstOf M' x = some xs) M1) S := rfl
theorem enum_len : ∀ (k : Nat) (xs : List D), (enumD k xs).length = xs.length
  | _, [] => rfl
  | k, x :: xs => by simp [enumD, enum_len (k + 1) xs]
theorem enum_at : ∀ (k : Nat) (xs : List D) (n : Nat) (y : D), (enumD k xs)[n]? = some y → ∃ x, xs[n]? = some x ∧ y = .tup [.int ((k + n : Nat) : Int), x]
  | _, [], n, y, h => by simp [enumD] at h
  | k, x :: xs, 0, y, h => by simp [enumD] at h; exact ⟨x, rfl, by rw [← h]; rfl⟩
  | k, x :: xs, n + 1, y, h => by
    obtain ⟨x', h1, h2⟩ := enum_at (k + 1) xs n y (by simpa [enumD] using h)
    exact ⟨x', h1, by rw [h2]; congr 3; push_cast; omega⟩
end
/-! ### the law's dice -/
/-- n holds dice -/
def DiceAt (M : Mem) (n : Nat) : Prop := ∃ (ns : List Int) (p m r : Int), M[n]? = some (.lst [.kls (ns.map D.int), .int p, .int m, .int r]) ∧ 0 ≤ p ∧ 0 ≤ m ∧ m < 2147483647 ∧ 0 ≤ r
abbrev N_next : List Str := ["_law_dice_here", "_law_many", "_law_found", "_law_cell"]
def t_next : TSd :=
  (sSeq (sIf (eB (eOp oGt (eOp oIx (eVar 0) (eC (.int 3))) (eC (.int 0))))
  (sSeq (sSet 2 (eOp oMod (eOp oIx (eVar 0) (eC (.int 3))) (eVar 1)))
  (sSeq (sAsg (eOp oDiv (eOp oIx (eVar 0) (eC (.int 3))) (eVar 1)) (dSub oSetL (eVar 0) (eC (.int 3))))
  (sRet (eVar 2))))
  sNext)
  (sSeq (sAsg (eOp (oAddX false) (eOp oIx (eVar 0) (eC (.int 1))) (eC (.int 1))) (dSub oSetL (eVar 0) (eC (.int 1))))
  (sSeq (sIf (eB (eOp oLe (eOp oIx (eVar 0) (eC (.int 1))) (eCB oLenX (aCons (eOp oIx (eVar 0) (eC (.int 0))) aNil))))
  (sSeq (sSet 3 (eOp oIx (eOp oIx (eVar 0) (eC (.int 0))) (eOp oSub (eOp oIx (eVar 0) (eC (.int 1))) (eC (.int 1)))))
  (sSeq (sAsg (eIf (eB (eOp oGe (eVar 3) (eOp oPow (eC (.int 10)) (eC (.int 18))))) (eOp oDiv (eVar 3) (eVar 1)) (eC (.int 0))) (dSub oSetL (eVar 0) (eC (.int 3))))
  (sRet (eOp oMod (eVar 3) (eVar 1)))))
  sNext)
  (sSeq (sAsg (eOp oMod (eOp (oMulX false) (eOp oIx (eVar 0) (eC (.int 2))) (eC (.int 48271))) (eC (.int 2147483647))) (dSub oSetL (eVar 0) (eC (.int 2))))
  (sRet (eOp oMod (eOp oDiv (eOp oIx (eVar 0) (eC (.int 2))) (eC (.int 7))) (eVar 1)))))))
theorem next_ok {M : Mem} {n : Nat} {many : Int} {R : KD} {S : SD} (h : DiceAt M n) (h1 : 0 < many) (h2 : many < 1073741824)
    (hR : ∀ (r : Int) (M' : Mem), 0 ≤ r → r < many → (∃ x, M' = M.set n x) → DiceAt M' n → R (.int r) M') : ptOf N_next 2 t_next [.ref n, .int many] M R S := by
  obtain ⟨ns, p, m, r, hM, hp, hm, hm2, hr⟩ := h
  have hn : n < M.length := (List.getElem?_eq_some_iff.mp hM).1
  have hl := lstAt_of hM
  have c3 : ixN 4 3 = some 3 := rfl
  have c1 : ixN 4 1 = some 1 := rfl
  have c2 : ixN 4 2 = some 2 := rfl
  refine ⟨rfl, ?_⟩
  simp [t_next, startD, N_next, hl, c1, c2, c3, hn]
  have dice : ∀ (p' m' r' : Int), 0 ≤ p' → 0 ≤ m' → m' < 2147483647 → 0 ≤ r' → DiceAt (M.set n (.lst [.kls (ns.map D.int), .int p', .int m', .int r'])) n := fun p' m' r' a1 a2 a3 a4 => ⟨ns, p', m', r', List.getElem?_set_self hn, a1, a2, a3, a4⟩
  by_cases hr0 : 0 < r
  · exact .inr ⟨hr0, h1, ⟨h1, h2⟩, hR _ _ (Int.emod_nonneg _ (by omega)) (Int.emod_lt_of_pos _ h1) ⟨_, rfl⟩ (dice _ _ _ hp hm hm2 (Int.ediv_nonneg hr (by omega)))⟩
  · refine .inl ⟨by omega, ?_⟩
    by_cases hq : (ns.length : Int) < p + 1
    · exact .inl ⟨hq, .inr ⟨by omega, by omega⟩, ⟨by omega, by omega⟩, h1, hR _ _ (Int.emod_nonneg _ (by omega)) (Int.emod_lt_of_pos _ h1) ⟨_, rfl⟩ (dice _ _ _ (by omega) (Int.emod_nonneg _ (by omega)) (Int.emod_lt_of_pos _ (by omega)) hr)⟩
    · have hlt : p.toNat < ns.length := by omega
      refine .inr ⟨by omega, .int ns[p.toNat], atI_of hp (by rw [List.getElem?_map, List.getElem?_eq_getElem hlt]; rfl), ⟨by omega, by omega, by decide⟩, ?_⟩
      simp [hn, c3]
      by_cases hz : (1000000000000000000 : Int) ≤ ns[p.toNat]
      · exact .inr ⟨hz, ⟨h1, h2⟩, h1, hR _ _ (Int.emod_nonneg _ (by omega)) (Int.emod_lt_of_pos _ h1) ⟨_, rfl⟩ (dice _ _ _ (by omega) hm hm2 (Int.ediv_nonneg (by omega) (by omega)))⟩
      · exact .inl ⟨by omega, h1, hR _ _ (Int.emod_nonneg _ (by omega)) (Int.emod_lt_of_pos _ h1) ⟨_, rfl⟩ (dice _ _ _ (by omega) hm hm2 (by omega))⟩
/-- what one draw does to what is asked of it -/
theorem next_call {M : Mem} {n : Nat} {many : Int} {R : KD} {S : SD} (h : DiceAt M n) (h1 : 0 < many) (h2 : many < 1073741824)
    (hR : ∀ (r : Int) (M' : Mem), 0 ≤ r → r < many → (∃ x, M' = M.set n x) → DiceAt M' n → R (.int r) M') : ptOf N_next 2 t_next ([.ref n, .int many] ++ []) M R S := next_ok h h1 h2 hR
/-! ### the law's dice, made -/
abbrev N_dice : List Str := ["_law_script", "_law_mixed", "_law_cell"]
def t_dice : TSd :=
  (sSeq (sSet 1 (eC (.int 0)))
  (sSeq (sFor (iLst (eVar 0)) (dName 2)
  (sSet 1 (eOp oMod (eOp (oAddX false) (eOp (oAddX false) (eOp (oMulX false) (eVar 1) (eC (.int 48271))) (eOp (oMulX false) (eOp oMod (eVar 2) (eC (.int 2147483647))) (eC (.int 69621)))) (eC (.int 11))) (eC (.int 2147483647)))))
  (sRet (eLst true (aCons (eVar 0) (aCons (eC (.int 0)) (aCons (eOp (oMulX false) (eVar 1) (eCB oInt (aCons (eOp oGt (eCB oLenX (aCons (eVar 0) aNil)) (eC (.int 2))) aNil))) (aCons (eC (.int 0)) aNil))))))))
@[simp] theorem q_ilst {de : Lo} {M : Mem} {ta : TEd} {Rt : List D → (Mem → Prop) → Mem → Prop} {S : SD} : iLst ta de M Rt S = ta de M (fun x M1 => ∃ xs, lstOf M1 x = some xs ∧ Rt xs (fun M' => lstOf M' x = some xs) M1) S := rfl
@[simp] theorem q_rg1 {de : Lo} {M : Mem} {t : TAd} {Rt : List D → (Mem → Prop) → Mem → Prop} {S : SD} : iRange1 t de M Rt S = t de M (fun xs M1 => ∃ j, xs = [.int j] ∧ -(2 ^ 62) ≤ j ∧ j < 2 ^ 62 ∧ Rt (rgD 0 j.toNat) (fun _ => True) M1) S := rfl
theorem dice_ok {M : Mem} {ns : List Int} {R : KD} {S : SD} (hR : ∀ x : List D, DiceAt (M ++ [.lst x]) M.length → R (.ref M.length) (M ++ [.lst x])) : ptOf N_dice 1 t_dice [.kls (ns.map D.int)] M R S := by
  refine ⟨rfl, ?_⟩
  refine ⟨_, rfl, _, rfl, ?_⟩
  refine forL_inv _ (fun _ de M' => M' = M ∧ ∃ (m : Int) (z : Option D), 0 ≤ m ∧ m < 2147483647 ∧ de = [some (.kls (ns.map D.int)), some (.int m), z]) (fun _ _ _ _ => rfl) ?_ ?_ _ _ ⟨rfl, 0, none, by omega, by omega, rfl⟩
  · rintro k x de M' C hx ⟨rfl, m, z, h1, h2, rfl⟩ hC
    obtain ⟨c, rfl⟩ : ∃ c : Int, x = .int c := by
      rw [List.getElem?_map] at hx
      cases e : ns[k]? with
      | none => rw [e] at hx; cases hx
      | some c => rw [e] at hx; exact ⟨c, (Option.some.inj hx).symm⟩
    simp only [q_dname, q_set, q_op, q_var, q_c, q_or, q_i, q_i0, q_cat, q_rep, q_catT, q_catS_int, own_int, List.set_cons_succ, List.set_cons_zero, List.getElem?_cons_succ, List.getElem?_cons_zero, Option.some.injEq, exists_eq_left', reduceCtorEq, false_and, exists_false, or_false, exists_const]
    exact ⟨.inr ⟨by omega, by omega⟩, by omega, .inr ⟨by omega, by omega⟩, by omega, hC _ _ ⟨rfl, _, _, Int.emod_nonneg _ (by omega), Int.emod_lt_of_pos _ (by omega), rfl⟩⟩
  · rintro de M' ⟨rfl, m, z, h1, h2, rfl⟩
    simp
    have hmul : 0 ≤ (m * if (2 : Int) < ns.length then 1 else 0) ∧ (m * if (2 : Int) < ns.length then 1 else 0) < 2147483647 := by
      split <;> omega
    exact ⟨.inl ⟨by omega, by omega⟩, by decide, hR _ ⟨ns, 0, _, 0, by simp, by omega, hmul.1, hmul.2, by omega⟩⟩
end Dx
/-! Tl: readings of defs that many laws share (printed by gen.py). -/
namespace Tl
open PySem PySem.Spec PyProof.Rows L2 Dx
abbrev N_law_dice : List Str := ["_law_script", "_law_mixed", "_law_cell"]
def L_law_dice_1 : TSd :=
  (sFor (iLst (eVar 0)) (dName 2)
  (sSet 1 (eOp oMod (eOp (oAddX false) (eOp (oAddX false) (eOp (oMulX false) (eVar 1) (eC (.int 48271))) (eOp (oMulX false) (eOp oMod (eVar 2) (eC (.int 2147483647))) (eC (.int 69621)))) (eC (.int 11))) (eC (.int 2147483647)))))
def t_law_dice : TSd :=
  (sSeq (sSet 1 (eC (.int 0)))
  (sSeq L_law_dice_1
  (sRet (eLst true (aCons (eVar 0) (aCons (eC (.int 0)) (aCons (eOp (oMulX false) (eVar 1) (eCB oInt (aCons (eOp oGt (eCB oLenX (aCons (eVar 0) aNil)) (eC (.int 2))) aNil))) (aCons (eC (.int 0)) aNil))))))))
def P_law_dice : FD := ptOf N_law_dice 1 t_law_dice
abbrev N_law_next : List Str := ["_law_dice_here", "_law_many", "_law_found", "_law_cell"]
def t_law_next : TSd :=
  (sSeq (sIf (eB (eOp oGt (eOp oIx (eVar 0) (eC (.int 3))) (eC (.int 0))))
  (sSeq (sSet 2 (eOp oMod (eOp oIx (eVar 0) (eC (.int 3))) (eVar 1)))
  (sSeq (sAsg (eOp oDiv (eOp oIx (eVar 0) (eC (.int 3))) (eVar 1)) (dSub oSetL (eVar 0) (eC (.int 3))))
  (sRet (eVar 2))))
  sNext)
  (sSeq (sAsg (eOp (oAddX false) (eOp oIx (eVar 0) (eC (.int 1))) (eC (.int 1))) (dSub oSetL (eVar 0) (eC (.int 1))))
  (sSeq (sIf (eB (eOp oLe (eOp oIx (eVar 0) (eC (.int 1))) (eCB oLenX (aCons (eOp oIx (eVar 0) (eC (.int 0))) aNil))))
  (sSeq (sSet 3 (eOp oIx (eOp oIx (eVar 0) (eC (.int 0))) (eOp oSub (eOp oIx (eVar 0) (eC (.int 1))) (eC (.int 1)))))
  (sSeq (sAsg (eIf (eB (eOp oGe (eVar 3) (eOp oPow (eC (.int 10)) (eC (.int 18))))) (eOp oDiv (eVar 3) (eVar 1)) (eC (.int 0))) (dSub oSetL (eVar 0) (eC (.int 3))))
  (sRet (eOp oMod (eVar 3) (eVar 1)))))
  sNext)
  (sSeq (sAsg (eOp oMod (eOp (oMulX false) (eOp oIx (eVar 0) (eC (.int 2))) (eC (.int 48271))) (eC (.int 2147483647))) (dSub oSetL (eVar 0) (eC (.int 2))))
  (sRet (eOp oMod (eOp oDiv (eOp oIx (eVar 0) (eC (.int 2))) (eC (.int 7))) (eVar 1)))))))
def P_law_next : FD := ptOf N_law_next 2 t_law_next
abbrev N_need_moment : List Str := ["moment", "first", "last"]
def t_need_moment : TSd :=
  (sIf (eNot (eB (eChain oLe oLe (eVar 1) (eVar 0) (eVar 2))))
  (sRaise (xOwn "BadMoment"))
  sNext)
def P_need_moment : FD := ptOf N_need_moment 3 t_need_moment
abbrev N_is_row : List Str := ["row", "ahead", "key", "worth", "one"]
def C_is_row_1 : TEd :=
  (eComp [4] (iLst (eVar 1)) (dName 4) tYesD (emApp (eOp oIx (eVar 4) (eC (.int 0)))) [] (fun acc M R => newL false acc M R))
def t_is_row : TSd :=
  (sSeq (sAsg (eVar 0) (dTup 2 (dCons (dName 2) (dCons (dName 3) dNil))))
  (sSeq (sIf (eOr (eNot (eB (eChain oLe oLt (eC (.int 0)) (eVar 2) (eC (.int (1000)))))) (eAnd (eB (eOp oNotN (eVar 3) (eC .non))) (eNot (eB (eChain oLe oLt (eC (.int 0)) (eVar 3) (eC (.int (10000))))))))
  (sRet (eC (.bl false)))
  sNext)
  (sRet (eOp (oInX true) (eVar 2) C_is_row_1))))
def P_is_row : FD := ptOf N_is_row 2 t_is_row
abbrev N_need_batch : List Str := ["batch", "number", "row"]
def L_need_batch_1 : TSd :=
  (sFor (iEnumD (aCons (eVar 0) aNil)) (dTup 2 (dCons (dName 1) (dCons (dName 2) dNil)))
  (sIf (eOr (eB (eOp oGe (eVar 1) (eC (.int (40))))) (eNot (eB (eCall 2 [] P_is_row (aCons (eVar 2) (aCons (eSl (oSlX false) (eVar 0) noPart (somePart (eVar 1))) aNil))))))
  (sRaise (xInit "BadBatch" "row" (eVar 1)))
  sNext))
def t_need_batch : TSd :=
  (sSeq (sIf (eB (eOp (oEqD false) (eCB oLenX (aCons (eVar 0) aNil)) (eC (.int 0))))
  (sRaise (xInit "BadBatch" "row" (eNeg (eC (.int 1)))))
  sNext)
  L_need_batch_1)
def P_need_batch : FD := ptOf N_need_batch 1 t_need_batch
abbrev N_plain : List Str := ["batches", "moment", "batch", "found", "key", "worth"]
def L_plain_1 : TSd :=
  (sFor (iLst (eVar 0)) (dName 2)
  (sDrop (eCall 1 [] P_need_batch (aCons (eVar 2) aNil))))
def C_plain_1 : TEd :=
  (eComp [2, 4, 5] (iLst (eSl (oSlX false) (eVar 0) noPart (somePart (eVar 1)))) (dName 2) tYesD (em2 (iLst (eVar 2)) (dTup 2 (dCons (dName 4) (dCons (dName 5) dNil))) tYesD (emPut (eVar 4) (eVar 5)) [4, 5]) [] (fun acc M R => R (.ref M.length) (M ++ [.dic acc])))
def C_plain_2 : TEd :=
  (eComp [4, 5] (iItemsD (eVar 3)) (dTup 2 (dCons (dName 4) (dCons (dName 5) dNil))) (eB (eOp oNotN (eVar 5) (eC .non))) (emApp (eTup (aCons (eVar 4) (aCons (eVar 5) aNil)))) [] (fun acc M R => newL false acc M R))
def t_plain : TSd :=
  (sSeq L_plain_1
  (sSeq (sDrop (eCall 3 [] P_need_moment (aCons (eVar 1) (aCons (eC (.int 0)) (aCons (eCB oLenX (aCons (eVar 0) aNil)) aNil)))))
  (sSeq (sSet 3 C_plain_1)
  (sRet (eCB (oSortK true) (aCons (eLock (slotRef 3) C_plain_2) aNil))))))
def P_plain : FD := ptOf N_plain 2 t_plain
abbrev N_law_like : List Str := ["_law_found", "_law_due", "_law_k"]
def C_law_like_1 (R_law_like : FD) : TEd :=
  (eComp [2] (iRange1 (aCons (eCB oLenX (aCons (eVar 1) aNil)) aNil)) (dName 2) (eNot (eB (eCall 2 [] R_law_like (aCons (eOp oIx (eVar 0) (eVar 2)) (aCons (eOp oIx (eVar 1) (eVar 2)) aNil))))) (emApp (eVar 2)) [] (fun acc M R => newL false acc M R))
def t_law_like (R_law_like : FD) : TSd :=
  (sSeq (sIf (eOr (eB (eCB oIsi (aCons (eVar 1) (aCons (eC (.ty "tuple")) aNil)))) (eB (eCB oIsi (aCons (eVar 1) (aCons (eC (.ty "list")) aNil)))))
  (sSeq (sIf (eB (eOp (oEqD true) (eCB oIsi (aCons (eVar 0) (aCons (eC (.ty "tuple")) aNil))) (eCB oIsi (aCons (eVar 1) (aCons (eC (.ty "tuple")) aNil)))))
  (sRet (eC (.bl false)))
  sNext)
  (sSeq (sIf (eOr (eB (eOp (oEqD true) (eCB oIsi (aCons (eVar 0) (aCons (eC (.ty "list")) aNil))) (eCB oIsi (aCons (eVar 1) (aCons (eC (.ty "list")) aNil))))) (eB (eOp (oEqD true) (eCB oLenX (aCons (eVar 0) aNil)) (eCB oLenX (aCons (eVar 1) aNil)))))
  (sRet (eC (.bl false)))
  sNext)
  (sRet (eOp (oEqD false) (C_law_like_1 R_law_like) (eLst false aNil)))))
  sNext)
  (sSeq (sIf (eB (eOp (oEqD true) (eCB oIsi (aCons (eVar 0) (aCons (eC (.ty "bool")) aNil))) (eCB oIsi (aCons (eVar 1) (aCons (eC (.ty "bool")) aNil)))))
  (sRet (eC (.bl false)))
  sNext)
  (sSeq (sIf (eOr (eB (eOp (oEqD true) (eCB oIsi (aCons (eVar 0) (aCons (eC (.ty "int")) aNil))) (eCB oIsi (aCons (eVar 1) (aCons (eC (.ty "int")) aNil))))) (eB (eOp (oEqD true) (eCB oIsi (aCons (eVar 0) (aCons (eC (.ty "str")) aNil))) (eCB oIsi (aCons (eVar 1) (aCons (eC (.ty "str")) aNil))))))
  (sRet (eC (.bl false)))
  sNext)
  (sRet (eOp (oEqD false) (eVar 0) (eVar 1))))))
def PR_law_like : Nat → FD
  | 0 => fun _ _ _ _ => False
  | k + 1 => ptOf N_law_like 2 (t_law_like (PR_law_like k))
def P_law_like : FD := PR_law_like 8
abbrev N_law_at : List Str := ["_law_batches", "_law_when", "_law_found", "_law_batch_here", "_law_pair"]
def L_law_at_1 : TSd :=
  (sFor (iLst (eSl (oSlX false) (eVar 0) noPart (somePart (eVar 1)))) (dName 3)
  (sDrop (eBM "dict" oUpd (eVar 2) (aCons (eCB oDictP (aCons (eVar 3) aNil)) aNil))))
def C_law_at_1 : TEd :=
  (eComp [4] (iItemsD (eVar 2)) (dName 4) (eB (eOp oNotN (eOp oIx (eVar 4) (eC (.int 1))) (eC .non))) (emApp (eVar 4)) [] (fun acc M R => newL false acc M R))
def t_law_at : TSd :=
  (sSeq (sSet 2 eDNew)
  (sSeq L_law_at_1
  (sRet (eCB (oSortK false) (aCons (eLock (slotRef 2) C_law_at_1) aNil)))))
def P_law_at : FD := ptOf N_law_at 2 t_law_at
end Tl
/-! Tp1: rows and batches: what is_row, need_batch, need_moment do. -/
namespace Tl
open PySem PySem.Spec PyProof.Rows L2 Dx
/-! ### rows, batches as data -/
abbrev Row : Type := Int × Option Int
def wD : Option Int → D
  | none => .non
  | some x => .int x
def rowD (r : Row) : D := .tup [.int r.1, wD r.2]
def batD (b : List Row) : D := .lst (b.map rowD)
def inB (m : Int) (k : Int) : Bool := decide (0 ≤ k) && decide (k < m)
def isRow (r : Row) (ahead : List Row) : Bool := inB 1000 r.1 && (match r.2 with
  | none => true
  | some x => inB 10000 x) && !(ahead.any fun q => decide (q.1 = r.1))
/-- the first bad row -/
def badFrom (b : List Row) : Nat → List Row → Option Int
  | _, [] => none
  | n, r :: rs => if 40 ≤ n ∨ isRow r (b.take n) = false then some n else badFrom b (n + 1) rs
def badOf (b : List Row) : Option Int := match b with
  | [] => some (-1)
  | _ => badFrom b 0 b
@[simp] theorem q_notN_int {x : Int} {M : Mem} {R : KD} : oNotN (.int x) .non M R = R (.bl true) M := rfl
@[simp] theorem q_notN_non {M : Mem} {R : KD} : oNotN .non .non M R = R (.bl false) M := rfl
@[simp] theorem q_chain {o o' : O2} {ta tb tc : TEd} {de : Lo} {M : Mem} {R : KD} {S : SD} : eChain o o' ta tb tc de M R S = ta de M (fun x M1 => tb de M1 (fun y M2 => o x y M2 fun z M3 => ∃ k, z = .bl k ∧ (k = true → tc de M3 (fun u M4 => o' y u M4 R) S) ∧ (k = false → R (.bl false) M3)) S) S := by
  unfold eChain
  congr 1
  funext x M1
  congr 1
  funext y M2
  congr 1
  funext z M3
  cases z with
  | bl b => cases b <;> simp
  | _ => simp
theorem need_moment_ok {M : Mem} {R : KD} {S : SD} {m a z : Int} (h1 : a ≤ m ∧ m ≤ z → R .non M) (h2 : ¬ (a ≤ m ∧ m ≤ z) → S "BadMoment" [] M) : P_need_moment [.int m, .int a, .int z] M R S := by
  refine ⟨rfl, ?_⟩
  simp [t_need_moment, startD, N_need_moment]
  by_cases a1 : m < a
  · exact .inl ⟨a1, h2 (by omega)⟩
  · by_cases a2 : z < m
    · exact .inr ⟨by omega, .inl ⟨a2, h2 (by omega)⟩⟩
    · exact .inr ⟨by omega, .inr ⟨by omega, h1 (by omega)⟩⟩
theorem fVs_ints : ∀ {xs : List Int}, fVs (xs.map D.int) = some (xs.map V.int)
  | [] => rfl
  | x :: xs => by
    show (match fV (.int x), fVs (xs.map D.int) with
      | some x, some xs => some (x :: xs)
      | _, _ => none) = _
    rw [fVs_ints]
    rfl
theorem inV_ints {k : Int} {xs : List Int} : inV (.int k) (xs.map V.int) = xs.any fun q => decide (q = k) := by
  unfold inV
  rw [List.any_map]
  congr 1
/-- not in a list of ints -/
theorem notIn_ints {M : Mem} {R : KD} {k : Int} {xs : List Int} (h : R (.bl (!(xs.any fun q => decide (q = k)))) M) : oInF true (.int k) (.lst (xs.map D.int)) M R := ⟨_, _, _, rfl, rfl, fVs_ints, by rw [inV_ints]; exact h⟩
theorem is_row_ok {M : Mem} {R : KD} {S : SD} {r : Row} {ahead : List Row} (hl : ahead.length ≤ sizeLine) (h : R (.bl (isRow r ahead)) M) : P_is_row [rowD r, .lst (ahead.map rowD)] M R S := by
  obtain ⟨k, w⟩ := r
  have key : ∀ (de0 : Lo) (R' : List D → Mem → Prop), de0[4]? ≠ none → R' (ahead.map fun q => D.int q.1) M → cpL (fun M' => lstOf M' (.lst (ahead.map rowD)) = some (ahead.map rowD)) (dName 4) tYesD (emApp (eOp oIx (eVar 4) (eC (.int 0)))) de0 (ahead.map rowD) [] M R' := fun de0 R' hd hR' => by
    have hd4 : 4 < de0.length := by
      rcases Nat.lt_or_ge 4 de0.length with z | z
      · exact z
      · exact absurd (List.getElem?_eq_none z) hd
    refine cp_map _ (fun d => match d with
      | .tup (x :: _) => x
      | d => d) rfl (by simpa using hl) (fun x hx Q hQ => ?_) (by rw [List.map_map]; exact hR')
    obtain ⟨q, _, rfl⟩ := List.mem_map.mp hx
    simp [rowD, hd4]
    exact hQ
  have tail : ∀ (S' : SD), (isRow (k, w) ahead = !(ahead.any fun q => decide (q.1 = k))) → eComp [4] (iLst (eVar 1)) (dName 4) tYesD (emApp (eOp oIx (eVar 4) (eC (.int 0)))) [] (fun acc M R => R (.lst acc) M)
      [some (.tup [.int k, wD w]), some (.lst (ahead.map rowD)), some (.int k), some (wD w), none] M (fun y M2 => oInF true (.int k) y M2 R ∨ oInD true (.int k) y M2 R) S' := fun S' e => by
    refine ⟨_, rfl, _, rfl, key _ _ (by simp [wipeD]) (.inl ?_)⟩
    have e2 : (ahead.map fun q => D.int q.1) = (ahead.map (·.1)).map D.int := by rw [List.map_map]; rfl
    rw [e2]
    refine notIn_ints ?_
    rw [List.any_map]
    rw [e] at h
    exact h
  refine ⟨rfl, ?_⟩
  by_cases a1 : k < 0
  · have e : isRow (k, w) ahead = false := by simp [isRow, inB]; omega
    rw [e] at h
    simp [t_is_row, startD, N_is_row, rowD]
    exact .inl ⟨a1, h⟩
  by_cases a2 : 1000 ≤ k
  · have e : isRow (k, w) ahead = false := by simp [isRow, inB]; omega
    rw [e] at h
    simp [t_is_row, startD, N_is_row, rowD]
    exact .inr ⟨by omega, .inl ⟨a2, h⟩⟩
  have eb : inB 1000 k = true := by simp [inB]; omega
  cases w with
  | none =>
    have t1 := tail (SE (fun c fs x M' => S c fs M') [some (.tup [.int k, .non]), some (.lst (ahead.map rowD)), some (.int k), some .non, none]) (by simp [isRow, eb])
    simp [t_is_row, startD, N_is_row, rowD, wD]
    exact .inr ⟨by omega, .inr ⟨by omega, t1⟩⟩
  | some x =>
    simp [t_is_row, startD, N_is_row, rowD, wD]
    refine .inr ⟨by omega, .inr ⟨by omega, ?_⟩⟩
    by_cases b1 : x < 0
    · have e : isRow (k, some x) ahead = false := by simp [isRow, inB]; omega
      rw [e] at h
      exact .inl ⟨b1, h⟩
    by_cases b2 : 10000 ≤ x
    · have e : isRow (k, some x) ahead = false := by simp [isRow, inB]; omega
      rw [e] at h
      exact .inr ⟨by omega, .inl ⟨b2, h⟩⟩
    have eb2 : inB 10000 x = true := by simp [inB]; omega
    exact .inr ⟨by omega, .inr ⟨by omega, tail _ (by simp [isRow, eb, eb2])⟩⟩
theorem cut_take {α : Type} (f : α → D) (b : List α) (n : Nat) : Dx.cutD (b.map f) none (some (n : Int)) = (b.take n).map f := by
  unfold Dx.cutD
  rw [HT.sIx_none, HT.sIx_nat, List.drop_zero, Nat.sub_zero, ← List.map_take, List.length_map]
  congr 1
  rcases Nat.le_total n b.length with h | h
  · rw [Nat.min_eq_left h]
  · rw [Nat.min_eq_right h, List.take_of_length_le (Nat.le_refl _), List.take_of_length_le h]
theorem badFrom_drop {b : List Row} {n : Nat} {r : Row} (h : b[n]? = some r) : badFrom b n (b.drop n) = if 40 ≤ n ∨ isRow r (b.take n) = false then some (n : Int) else badFrom b (n + 1) (b.drop (n + 1)) := by
  have hn := (List.getElem?_eq_some_iff.mp h)
  obtain ⟨h1, h2⟩ := hn
  rw [List.drop_eq_getElem_cons h1, h2]
  rfl
theorem slX_take {M : Mem} {R : KD} {α : Type} {f : α → D} {b : List α} {n : Nat} (h : R (.lst ((b.take n).map f)) M) : lOr (oSlL false) oSlT (.lst (b.map f)) none (some (n : Int)) M R := .inl ⟨_, rfl, by rw [cut_take]; exact h⟩
theorem need_batch_loop {M : Mem} {E : EndsD} {S : SS} {b : List Row} {z1 z2 : Option D} (hl : b.length ≤ sizeLine) (h1 : badFrom b 0 b = none → ∀ de, E.nx de M) (h2 : ∀ n, badFrom b 0 b = some n → ∀ de, S "BadBatch" [("row", .int n)] de M) : L_need_batch_1 E [some (batD b), z1, z2] M S := by
  refine ⟨_, rfl, _, _, rfl, rfl, ?_⟩
  refine forL_inv _ (fun n de M' => M' = M ∧ (∃ z1 z2, de = [some (batD b), z1, z2]) ∧ badFrom b 0 b = badFrom b n (b.drop n)) (fun n de M' h => by rw [h.1]; rfl) ?_ ?_ _ _ ⟨rfl, ⟨_, _, rfl⟩, rfl⟩
  · rintro n x de M' C hx ⟨rfl, ⟨z1, z2, rfl⟩, hb⟩ hC
    obtain ⟨d, hd, rfl⟩ := enum_at _ _ _ _ hx
    rw [List.getElem?_map] at hd
    obtain ⟨r, hr, rfl⟩ : ∃ r, b[n]? = some r ∧ d = rowD r := by
      cases e : b[n]? with
      | none => rw [e] at hd; cases hd
      | some r => rw [e] at hd; exact ⟨r, rfl, (Option.some.inj hd).symm⟩
    rw [badFrom_drop hr] at hb
    have hn : n < b.length := (List.getElem?_eq_some_iff.mp hr).1
    rw [Nat.zero_add]
    by_cases c1 : 40 ≤ n
    · rw [if_pos (.inl c1)] at hb
      have c2 : (40 : Int) ≤ (n : Int) := by omega
      simp [c2]
      exact h2 _ hb _
    · have c2 : ¬ (40 : Int) ≤ (n : Int) := by omega
      simp [c2]
      refine slX_take (f := rowD) ?_
      refine is_row_ok (by rw [List.length_take]; omega) ?_
      cases q : isRow r (b.take n) with
      | false =>
        rw [if_pos (.inr q)] at hb
        simp
        exact h2 _ hb _
      | true =>
        rw [if_neg (by rw [q]; simp; omega)] at hb
        simp
        exact hC _ _ ⟨rfl, ⟨_, _, rfl⟩, hb⟩
  · rintro de M' ⟨rfl, _, hb⟩
    rw [enum_len, List.length_map, List.drop_length] at hb
    exact h1 hb _
theorem need_batch_ok {M : Mem} {R : KD} {S : SD} {b : List Row} (hl : b.length ≤ sizeLine) (h1 : badOf b = none → R .non M) (h2 : ∀ n, badOf b = some n → S "BadBatch" [("row", .int n)] M) : P_need_batch [batD b] M R S := by
  refine ⟨rfl, ?_⟩
  by_cases hb : b = []
  · subst hb
    simp [t_need_batch, startD, N_need_batch, batD]
    exact h2 _ rfl
  · have hbad : badOf b = badFrom b 0 b := by
      cases b with
      | nil => exact absurd rfl hb
      | cons r rs => rfl
    have hlen : ¬ ((b.length : Int) = 0) := by
      cases b with
      | nil => exact absurd rfl hb
      | cons r rs => simp; omega
    simp [t_need_batch, startD, N_need_batch, batD, hb]
    exact need_batch_loop hl (fun h _ => h1 (hbad.trans h)) (fun n h _ => h2 n (hbad.trans h))
end Tl
/-! Tp2: tables: rows put by key; what stands, in order of keys. -/
namespace Tl
open PySem PySem.Spec PyProof.Rows L2 Dx
def rput (acc : List Row) (r : Row) : List Row := if (acc.any fun q => decide (q.1 = r.1)) = true then acc.map (fun q => if q.1 = r.1 then r else q) else acc ++ [r]
def tab (rows : List Row) : List Row := rows.foldl rput []
def kvR (acc : List Row) : List (Key × D) := acc.map fun r => (.inl r.1, wD r.2)
theorem kvR_put (acc : List Row) (r : Row) : putKD (kvR acc) (.inl r.1) (wD r.2) = kvR (rput acc r) := by
  unfold putKD rput kvR
  have e : ((acc.map fun r => ((Sum.inl r.1 : Key), wD r.2)).any fun kv => decide (kv.1 = .inl r.1)) = (acc.any fun q => decide (q.1 = r.1)) := by
    rw [List.any_map]
    congr 1
    funext q
    simp
  rw [e]
  split
  · rw [List.map_map, List.map_map]
    refine List.map_congr_left fun q _ => ?_
    show (if (Sum.inl q.1 : Key) = .inl r.1 then ((Sum.inl q.1 : Key), wD r.2) else (.inl q.1, wD q.2)) = _
    by_cases h : q.1 = r.1
    · rw [if_pos (by rw [h])]
      show _ = (fun r => ((Sum.inl r.1 : Key), wD r.2)) (if q.1 = r.1 then r else q)
      rw [if_pos h, h]
    · rw [if_neg (fun z => h (Sum.inl.inj z))]
      show _ = (fun r => ((Sum.inl r.1 : Key), wD r.2)) (if q.1 = r.1 then r else q)
      rw [if_neg h]
  · rw [List.map_append]; rfl
theorem rput_len (acc : List Row) (r : Row) : (rput acc r).length ≤ acc.length + 1 := by
  unfold rput
  split <;> simp
theorem fold_len : ∀ (rows acc : List Row), (rows.foldl rput acc).length ≤ acc.length + rows.length
  | [], acc => by simp
  | r :: rows, acc => by
    have h1 := fold_len rows (rput acc r)
    have h2 := rput_len acc r
    simp only [List.foldl_cons, List.length_cons]
    omega
theorem rput_keys (acc : List Row) (r : Row) : (rput acc r).map (·.1) = if (acc.any fun q => decide (q.1 = r.1)) = true then acc.map (·.1) else acc.map (·.1) ++ [r.1] := by
  unfold rput
  split
  · rw [List.map_map]
    refine List.map_congr_left fun q _ => ?_
    show (if q.1 = r.1 then r else q).1 = q.1
    split
    · rename_i h; exact h.symm
    · rfl
  · rw [List.map_append]; rfl
theorem rput_nodup {acc : List Row} {r : Row} (h : (acc.map (·.1)).Nodup) : ((rput acc r).map (·.1)).Nodup := by
  rw [rput_keys]
  split
  · exact h
  · rename_i n
    rw [List.nodup_append]
    refine ⟨h, by simp, fun a ha b hb e => n ?_⟩
    rw [List.mem_singleton] at hb
    obtain ⟨q, hq, rfl⟩ := List.mem_map.mp ha
    exact List.any_eq_true.mpr ⟨q, hq, by simp [e, hb]⟩
theorem fold_nodup : ∀ (rows acc : List Row), (acc.map (·.1)).Nodup → ((rows.foldl rput acc).map (·.1)).Nodup
  | [], acc, h => h
  | r :: rows, acc, h => fold_nodup rows (rput acc r) (rput_nodup h)
theorem tab_nodup (rows : List Row) : ((tab rows).map (·.1)).Nodup := fold_nodup rows [] (by simp)
/-- what stands -/
def stands (t : List Row) : List Row := t.filter fun r => r.2.isSome
def inOrder (t : List Row) : List Row := t.mergeSort fun a b => decide (a.1 ≤ b.1)
theorem inOrder_perm (t : List Row) : (inOrder t).Perm t := List.mergeSort_perm _ _
theorem keyI_row (r : Row) : keyI (rowD r) = r.1 := rfl
theorem rowD_inj {a b : Row} (h : rowD a = rowD b) : a = b := by
  obtain ⟨k, w⟩ := a
  obtain ⟨k', w'⟩ := b
  unfold rowD at h
  injection h with h
  injection h with h1 h2
  injection h1 with h1
  injection h2 with h2 _
  cases w <;> cases w' <;> simp_all [wD]
/-- sorted by distinct keys: just one list -/
theorem inOrder_only {t : List Row} (hn : (t.map (·.1)).Nodup) {es : List D} (p : es.Perm (t.map rowD)) (s : es.Pairwise fun a b => keyI a ≤ keyI b) : es = (inOrder t).map rowD := by
  have p2 : es.Perm ((inOrder t).map rowD) := p.trans ((inOrder_perm t).map rowD).symm
  have so : ((inOrder t).map rowD).Pairwise fun a b => keyI a ≤ keyI b := by
    rw [List.pairwise_map]
    have := List.pairwise_mergeSort (le := fun (a b : Row) => decide (a.1 ≤ b.1)) (fun a b c h1 h2 => by simp at *; omega) (fun a b => by simp; omega) t
    exact this.imp fun {a b} h => by rw [keyI_row, keyI_row]; exact of_decide_eq_true h
  refine List.Perm.eq_of_pairwise (le := fun a b => keyI a ≤ keyI b) (fun a b ha hb h1 h2 => ?_) s so p2
  have ma := p.mem_iff.mp ha
  have mb := ((inOrder_perm t).map rowD).mem_iff.mp hb
  obtain ⟨x, hx, rfl⟩ := List.mem_map.mp ma
  obtain ⟨y, hy, rfl⟩ := List.mem_map.mp mb
  rw [keyI_row, keyI_row] at h1 h2
  have e : x.1 = y.1 := by omega
  obtain ⟨i, hi, ei⟩ := List.mem_iff_getElem.mp hx
  obtain ⟨j, hj, ej⟩ := List.mem_iff_getElem.mp hy
  have q := (List.getElem_inj (i := i) (j := j) (h₀ := by simpa using hi) (h₁ := by simpa using hj) hn).mp (by simp [ei, ej, e])
  subst q
  rw [ei] at ej
  rw [ej]
/-! ### sorted(..) of what stands in a dict -/
theorem items_kvR (t : List Row) : itemsD (kvR t) = t.map rowD := by
  unfold itemsD kvR
  rw [List.map_map]
  rfl
theorem wD_non (w : Option Int) : Dx.isNon (wD w) = !w.isSome := by cases w <;> rfl
def standD (d : D) : Bool := match d with
  | .tup [_, w] => !Dx.isNon w
  | _ => false
theorem standD_row (r : Row) : standD (rowD r) = r.2.isSome := by
  show (!Dx.isNon (wD r.2)) = _
  rw [wD_non, Bool.not_not]
theorem filter_stand (t : List Row) : (((t.map rowD).filter standD).map id) = (stands t).map rowD := by
  rw [List.map_id, List.filter_map]
  unfold stands
  congr 2
  funext r
  exact standD_row r
theorem oNotN_any {x : D} {M : Mem} {R : KD} : oNotN x .non M R = R (.bl (!Dx.isNon x)) M := rfl
/-- sorted of rows of distinct keys -/
theorem sortK_rows {m : Bool} {t : List Row} {M : Mem} {R : KD} (hn : (t.map (·.1)).Nodup) (h : newL m ((inOrder t).map rowD) M R) : oSortK m [.lst (t.map rowD)] M R := by
  refine ⟨_, _, rfl, rfl, fun d hd => ?_, ?_, fun es p s => ?_⟩
  · obtain ⟨r, _, rfl⟩ := List.mem_map.mp hd
    exact ⟨_, _, rfl⟩
  · rw [List.map_map]
    exact hn
  · rw [inOrder_only hn p s]
    exact h
theorem stands_nodup {t : List Row} (h : (t.map (·.1)).Nodup) : ((stands t).map (·.1)).Nodup := h.sublist (List.filter_sublist.map _)
theorem set_back {M : Mem} {n : Nat} {a b : MO} (h : M[n]? = some a) : (M.set n b).set n a = M := by
  rw [List.set_set]
  obtain ⟨h1, h2⟩ := List.getElem?_eq_some_iff.mp h
  apply List.ext_getElem?
  intro i
  by_cases e : i = n
  · subst e
    rw [List.getElem?_set_self h1, h]
  · rw [List.getElem?_set_ne (Ne.symm e)]
/-- the comprehension of plain's end -/
theorem plain_2_ok {de : Lo} {M : Mem} {n : Nat} {t : List Row} {R : KD} {S : SD} (h3 : de[3]? = some (some (.ref n))) (hde : 5 < de.length) (hM : M[n]? = some (.dic (kvR t))) (hl : t.length ≤ sizeLine) (hR : R (.lst ((stands t).map rowD)) M) : eLock (slotRef 3) C_plain_2 de M R S := by
  have e3 : slotRef 3 de M = n := by unfold slotRef; rw [h3]
  unfold eLock
  rw [e3]
  refine ⟨_, hM, fun o => ?_⟩
  have hn : n < M.length := (List.getElem?_eq_some_iff.mp hM).1
  have hlk : (M.set n (.lck o (kvR t)))[n]? = some (.lck o (kvR t)) := List.getElem?_set_self hn
  refine ⟨_, h3, _, _, _, rfl, hlk, ?_⟩
  rw [items_kvR]
  refine cp_filter (M := M.set n (.lck o (kvR t))) _ standD id hlk (by simpa using hl) (fun x hx C C2 h1 h2 => ?_) ?_
  · obtain ⟨r, _, rfl⟩ := List.mem_map.mp hx
    have d4 : 4 < de.length := by omega
    simp [rowD, wipeD, d4, hde, oNotN_any]
    rw [standD_row] at h1 h2
    rw [wD_non]
    cases q : r.2 with
    | none =>
      rw [q] at h2
      exact .inl ⟨rfl, h2 rfl⟩
    | some w =>
      rw [q] at h1
      refine .inr ⟨rfl, by decide, ?_⟩
      have z := h1 rfl
      have e : id (rowD r) = .tup [.int r.1, wD (some w)] := by show rowD r = _; unfold rowD; rw [q]
      rw [e] at z
      exact z
  · rw [filter_stand]
    exact ⟨hlk, by rw [set_back hM]; exact hR⟩
end Tl
/-! Tp3: plain. -/
namespace Tl
open PySem PySem.Spec PyProof.Rows L2 Dx
abbrev Rows : Type := List (List Row)
def batsD (bs : Rows) : D := .lst (bs.map batD)
def badIn : Rows → Option Int
  | [] => none
  | b :: bs => match badOf b with
    | some n => some n
    | none => badIn bs
theorem badIn_drop {bs : Rows} {n : Nat} {b : List Row} (h : bs[n]? = some b) : badIn (bs.drop n) = match badOf b with
    | some k => some k
    | none => badIn (bs.drop (n + 1)) := by
  obtain ⟨h1, h2⟩ := List.getElem?_eq_some_iff.mp h
  rw [List.drop_eq_getElem_cons h1, h2]
  rfl
theorem get_map {α : Type} {f : α → D} {l : List α} {n : Nat} {x : D} (h : (l.map f)[n]? = some x) : ∃ a, l[n]? = some a ∧ x = f a := by
  rw [List.getElem?_map] at h
  cases e : l[n]? with
  | none => rw [e] at h; cases h
  | some a => rw [e] at h; exact ⟨a, rfl, (Option.some.inj h).symm⟩
theorem plain_1_ok {M : Mem} {E : EndsD} {S : SS} {bs : Rows} {de : Lo} (h0 : de[0]? = some (some (batsD bs))) (h2 : 2 < de.length) (hl : ∀ b ∈ bs, b.length ≤ sizeLine) (h1 : badIn bs = none → ∀ z, E.nx (de.set 2 z) M) (h3 : ∀ n, badIn bs = some n → ∀ z, S "BadBatch" [("row", .int n)] (de.set 2 z) M) : L_plain_1 E de M S := by
  refine ⟨_, h0, _, rfl, ?_⟩
  refine forL_inv _ (fun n de' M' => M' = M ∧ (∃ z, de' = de.set 2 z) ∧ badIn bs = badIn (bs.drop n)) (fun n de M' h => by rw [h.1]; rfl) ?_ ?_ _ _ ⟨rfl, ⟨de[2], by rw [List.set_getElem_self]⟩, rfl⟩
  · rintro n x de' M' C hx ⟨rfl, ⟨z, rfl⟩, hb⟩ hC
    obtain ⟨b, hb2, rfl⟩ := get_map hx
    rw [badIn_drop hb2] at hb
    simp [h2]
    refine need_batch_ok (hl b (List.mem_of_getElem? hb2)) (fun q => ?_) fun k q => ?_
    · rw [q] at hb
      exact hC _ _ ⟨rfl, ⟨_, rfl⟩, hb⟩
    · rw [q] at hb
      exact h3 _ hb _
  · rintro de' M' ⟨rfl, ⟨z, rfl⟩, hb⟩
    rw [List.length_map, List.drop_length] at hb
    exact h1 hb z
/-- the dict of the first m batches -/
theorem plain_2c_ok {M : Mem} {R : KD} {S : SD} {bs : Rows} {de : Lo} {m : Nat} (h0 : de[0]? = some (some (batsD bs))) (hm : de[1]? = some (some (.int (m : Int)))) (h5 : 5 < de.length) (hl : bs.flatten.length < sizeLine) (hR : R (.ref M.length) (M ++ [.dic (kvR (tab (bs.take m).flatten))])) : C_plain_1 de M R S := by
  refine ⟨_, h0, _, hm, slX_take (f := batD) ⟨_, rfl, ?_⟩⟩
  have cnt : ∀ n : Nat, ((bs.take m).take n).flatten.length < sizeLine := fun n => by
    have h1 : ((bs.take m).take n).flatten.length ≤ bs.flatten.length := by
      have e : bs = (bs.take m).take n ++ ((bs.take m).drop n ++ bs.drop m) := by rw [← List.append_assoc, List.take_append_drop, List.take_append_drop]
      conv => rhs; rw [e]
      rw [List.flatten_append, List.length_append]
      omega
    omega
  refine cpL_inv _ (fun n acc M' => M' = M ∧ acc = kvR (tab ((bs.take m).take n).flatten)) (fun n acc M' h => by rw [h.1]; rfl) ?_ ?_ _ _ ⟨rfl, rfl⟩
  · rintro n x acc M' C hx ⟨rfl, rfl⟩ hC
    obtain ⟨b, hb, rfl⟩ := get_map hx
    have nxt : ((bs.take m).take (n + 1)).flatten = ((bs.take m).take n).flatten ++ b := by
      rw [List.take_succ, hb, List.flatten_append]
      simp
    refine ⟨fun _ => ?_, fun h => by cases h⟩
    have d4 : 4 < de.length := by omega
    have d2 : 2 < de.length := by omega
    refine ⟨batD b, by simp [wipeD, d2], _, rfl, ?_⟩
    refine cpL_inv _ (fun j acc M2 => M2 = M' ∧ acc = kvR (tab (((bs.take m).take n).flatten ++ b.take j))) (fun n acc M' h => by rw [h.1]; rfl) ?_ ?_ _ _ ⟨rfl, by simp⟩
    · rintro j y acc M2 C2 hy ⟨rfl, rfl⟩ hC2
      obtain ⟨r, hr, rfl⟩ := get_map hy
      simp [rowD, wipeD, d4, h5, emPut, keyD]
      refine ⟨?_, ?_⟩
      · have h1 := fold_len (((bs.take m).take n).flatten ++ b.take j) []
        have h2 := cnt (n + 1)
        rw [nxt] at h2
        unfold kvR tab
        rw [List.length_map]
        simp only [List.length_append, List.length_nil, List.length_take] at h1 h2 ⊢
        have h3 : j < b.length := (List.getElem?_eq_some_iff.mp hr).1
        omega
      · rw [kvR_put]
        refine hC2 _ _ ⟨rfl, ?_⟩
        have e : ((bs.take m).take n).flatten ++ b.take (j + 1) = (((bs.take m).take n).flatten ++ b.take j) ++ [r] := by
          rw [List.take_succ, hr, List.append_assoc]
          rfl
        rw [e]
        unfold tab
        rw [List.foldl_append (l' := [r])]
        rfl
    · rintro acc M2 ⟨rfl, rfl⟩
      rw [List.length_map, List.take_length]
      exact hC _ _ ⟨rfl, by rw [nxt]⟩
  · rintro acc M' ⟨rfl, rfl⟩
    rw [List.length_map, List.take_length]
    exact hR
/-- what plain tells of a moment -/
def told (bs : Rows) (m : Nat) : List Row := inOrder (stands (tab (bs.take m).flatten))
theorem take_tot {bs : Rows} {m : Nat} (hl : bs.flatten.length < sizeLine) : (bs.take m).flatten.length < sizeLine := by
  have e : bs = bs.take m ++ bs.drop m := by rw [List.take_append_drop]
  have h := congrArg (fun z : Rows => z.flatten.length) e
  simp only [List.flatten_append, List.length_append] at h
  omega
theorem tab_len (rows : List Row) : (tab rows).length ≤ rows.length := by
  have := fold_len rows []
  simpa [tab] using this
theorem plain_ok {M : Mem} {R : KD} {S : SD} {bs : Rows} {m : Int} (hb : ∀ b ∈ bs, b.length ≤ sizeLine) (hl : bs.flatten.length < sizeLine) (h1 : ∀ n, badIn bs = some n → S "BadBatch" [("row", .int n)] M)
    (h2 : badIn bs = none → ¬ (0 ≤ m ∧ m ≤ bs.length) → S "BadMoment" [] M)
    (h3 : badIn bs = none → ∀ k : Nat, m = k → k ≤ bs.length → R (.ref (M.length + 1)) ((M ++ [.dic (kvR (tab (bs.take k).flatten))]) ++ [.lst ((told bs k).map rowD)])) : P_plain [batsD bs, .int m] M R S := by
  refine ⟨rfl, plain_1_ok (de := startD N_plain [batsD bs, .int m]) rfl (by simp [startD, N_plain]) hb (fun h z => ?_) (fun n h z => h1 n h)⟩
  have e : (startD N_plain [batsD bs, .int m]).set 2 z = [some (batsD bs), some (.int m), z, none, none, none] := rfl
  rw [e]
  have hlen : lstOf M (batsD bs) = some (bs.map batD) := rfl
  refine ⟨_, rfl, _, rfl, .inl ⟨_, _, rfl, rfl, rfl, ?_⟩⟩
  simp only [List.length_map]
  refine need_moment_ok (fun hm => ?_) (fun hm => h2 h (by omega))
  obtain ⟨k, rfl⟩ : ∃ k : Nat, m = k := ⟨m.toNat, by omega⟩
  rw [q_seq, q_set]
  refine plain_2c_ok (de := [some (batsD bs), some (.int (k : Int)), z, none, none, none]) (m := k) rfl rfl (by show 5 < 6; decide) hl ?_
  refine plain_2_ok (de := [some (batsD bs), some (.int (k : Int)), z, some (.ref M.length), none, none]) (n := M.length) (t := tab (bs.take k).flatten) rfl (by show 5 < 6; decide) (by simp) (by have := tab_len (bs.take k).flatten; have := take_tot (m := k) hl; omega) ?_
  refine sortK_rows (stands_nodup (tab_nodup _)) ?_
  have := h3 h k rfl (by omega)
  unfold told at this
  simpa using this
end Tl
/-! Tp4: the law's own list of batches, by dicts. -/
namespace Tl
open PySem PySem.Spec PyProof.Rows L2 Dx
theorem set_mid (M : List MO) (a b : MO) (N : List MO) : (M ++ a :: N).set M.length b = M ++ b :: N := by
  rw [List.set_append_right _ _ (Nat.le_refl _), Nat.sub_self]
  rfl
theorem dic_of {M : Mem} {n : Nat} {kvs : List (Key × D)} (h : M[n]? = some (.dic kvs)) : dicOf M (.ref n) = some kvs := by
  show (match M[n]? with
    | some (.dic xs) => some xs
    | _ => none) = some kvs
  rw [h]
theorem merge_kvR : ∀ (b t : List Row), mergeD (kvR t) (kvR b) = kvR (b.foldl rput t)
  | [], t => rfl
  | r :: b, t => by
    show mergeD (putKD (kvR t) (.inl r.1) (wD r.2)) (kvR b) = _
    rw [kvR_put]
    exact merge_kvR b (rput t r)
theorem fold_fresh : ∀ (b t : List Row), ((t ++ b).map (·.1)).Nodup → b.foldl rput t = t ++ b
  | [], t, _ => by simp
  | r :: b, t, h => by
    have hr : (t.any fun q => decide (q.1 = r.1)) = false := by
      rw [List.any_eq_false]
      intro q hq e
      rw [List.map_append, List.nodup_append] at h
      exact h.2.2 q.1 (List.mem_map.mpr ⟨q, hq, rfl⟩) r.1 (by simp) (of_decide_eq_true e)
    have e : rput t r = t ++ [r] := by
      unfold rput
      rw [if_neg (by rw [hr]; simp)]
    rw [List.foldl_cons, e, fold_fresh b (t ++ [r]) (by rw [List.append_assoc]; exact h), List.append_assoc]
    rfl
theorem tab_fresh {b : List Row} (h : (b.map (·.1)).Nodup) : tab b = b := by
  have := fold_fresh b [] (by simpa using h)
  simpa [tab] using this
theorem pairs_kvR : ∀ b : List Row, pairsOf (b.map rowD) = some (kvR b)
  | [] => rfl
  | r :: b => by
    show (match keyD (.int r.1), pairsOf (b.map rowD) with
      | some k, some ps => some ((k, wD r.2) :: ps)
      | _, _ => none) = _
    rw [pairs_kvR b]
    rfl
theorem at_1_ok {M : Mem} {E : EndsD} {S : SS} {bs : Rows} {k : Nat} {z4 : Option D} (hn : ∀ b ∈ bs, (b.map (·.1)).Nodup) (hl : bs.flatten.length < sizeLine) (hR : ∀ (N : Mem) (z : Option D), E.nx [some (batsD bs), some (.int (k : Int)), some (.ref M.length), z, z4] (M ++ (.dic (kvR (tab (bs.take k).flatten)) :: N))) (z : Option D) :
    L_law_at_1 E [some (batsD bs), some (.int (k : Int)), some (.ref M.length), z, z4] (M ++ [.dic []]) S := by
  refine ⟨_, rfl, _, rfl, slX_take (f := batD) ⟨_, rfl, ?_⟩⟩
  refine forL_inv _ (fun n de M' => (∃ z, de = [some (batsD bs), some (.int (k : Int)), some (.ref M.length), z, z4]) ∧ ∃ N, M' = M ++ (.dic (kvR (tab ((bs.take k).take n).flatten)) :: N)) (fun n de M h => rfl) ?_ ?_ _ _ ⟨⟨_, rfl⟩, [], rfl⟩
  · rintro n x de M' C hx ⟨⟨z, rfl⟩, N, rfl⟩ hC
    obtain ⟨b, hb, rfl⟩ := get_map hx
    have hbm : b ∈ bs := List.mem_of_mem_take (List.mem_of_getElem? hb)
    have nxt : ((bs.take k).take (n + 1)).flatten = ((bs.take k).take n).flatten ++ b := by
      rw [List.take_succ, hb, List.flatten_append]
      simp
    have hd : (M ++ (.dic (kvR (tab ((bs.take k).take n).flatten)) :: N))[M.length]? = some (.dic (kvR (tab ((bs.take k).take n).flatten))) := by simp
    refine ⟨_, rfl, .inr ⟨rfl, ?_⟩, _, rfl, _, _, _, rfl, rfl, pairs_kvR b, ?_⟩
    · show (dicOf _ (.ref M.length)).isSome = true
      rw [dic_of hd]
      rfl
    · have e0 : mergeD [] (kvR b) = kvR b := by
        have := merge_kvR b []
        have t := tab_fresh (hn b hbm)
        unfold tab at t
        rw [t] at this
        exact this
      rw [e0]
      refine ⟨M.length, _, kvR (tab ((bs.take k).take n).flatten), kvR b, rfl, rfl, ?_, ?_, ?_, ?_, ?_⟩
      · simp
      · rw [List.getElem?_append_left (by simp)]; exact hd
      · simp
      · have h1 := tab_len ((bs.take k).take n).flatten
        have h2 : ((bs.take k).take (n + 1)).flatten.length < sizeLine := by
          rw [List.take_take]
          exact take_tot hl
        rw [nxt, List.length_append] at h2
        unfold kvR
        rw [List.length_map, List.length_map]
        omega
      · refine hC _ _ ⟨⟨_, rfl⟩, N ++ [.dic (kvR b)], ?_⟩
        rw [merge_kvR, nxt]
        unfold tab
        rw [List.foldl_append, List.append_assoc]
        exact set_mid _ _ _ _
  · rintro de M' ⟨⟨z, rfl⟩, N, rfl⟩
    rw [List.length_map, List.take_length]
    exact hR N z
/-- the comprehension of the law's end -/
theorem at_c_ok {de : Lo} {M : Mem} {n : Nat} {t : List Row} {R : KD} {S : SD} (h3 : de[2]? = some (some (.ref n))) (hde : 4 < de.length) (hM : M[n]? = some (.dic (kvR t))) (hl : t.length ≤ sizeLine) (hR : R (.lst ((stands t).map rowD)) M) : eLock (slotRef 2) C_law_at_1 de M R S := by
  have e3 : slotRef 2 de M = n := by unfold slotRef; rw [h3]
  unfold eLock
  rw [e3]
  refine ⟨_, hM, fun o => ?_⟩
  have hn : n < M.length := (List.getElem?_eq_some_iff.mp hM).1
  have hlk : (M.set n (.lck o (kvR t)))[n]? = some (.lck o (kvR t)) := List.getElem?_set_self hn
  refine ⟨_, h3, _, _, _, rfl, hlk, ?_⟩
  rw [items_kvR]
  refine cp_filter (M := M.set n (.lck o (kvR t))) _ standD id hlk (by simpa using hl) (fun x hx C C2 h1 h2 => ?_) ?_
  · obtain ⟨r, _, rfl⟩ := List.mem_map.mp hx
    simp [rowD, wipeD, hde, oNotN_any]
    rw [standD_row] at h1 h2
    rw [wD_non]
    cases q : r.2 with
    | none =>
      rw [q] at h2
      exact .inl ⟨rfl, h2 rfl⟩
    | some w =>
      rw [q] at h1
      refine .inr ⟨rfl, ?_⟩
      have z := h1 rfl
      have e : id (rowD r) = .tup [.int r.1, wD (some w)] := by show rowD r = _; unfold rowD; rw [q]
      rw [e] at z
      exact z
  · rw [filter_stand]
    exact ⟨hlk, by rw [set_back hM]; exact hR⟩
theorem at_ok {M : Mem} {R : KD} {S : SD} {bs : Rows} {k : Nat} (hn : ∀ b ∈ bs, (b.map (·.1)).Nodup) (hl : bs.flatten.length < sizeLine) (hR : ∀ N, R (.lst ((told bs k).map rowD)) (M ++ N)) : P_law_at [batsD bs, .int (k : Int)] M R S := by
  refine ⟨rfl, at_1_ok (z4 := none) hn hl (fun N z => ?_) none⟩
  rw [show (sRet (eCB (oSortK false) (aCons (eLock (slotRef 2) C_law_at_1) aNil))) = sRet (eCB (oSortK false) (aCons (eLock (slotRef 2) C_law_at_1) aNil)) from rfl]
  refine at_c_ok (de := [some (batsD bs), some (.int (k : Int)), some (.ref M.length), z, none]) (n := M.length) (t := tab (bs.take k).flatten) rfl (by show 4 < 5; decide) (by simp) (by have := tab_len (bs.take k).flatten; have := take_tot (m := k) hl; omega) ?_
  exact sortK_rows (stands_nodup (tab_nodup _)) (hR _)
end Tl
/-! Tp5: like: what is told is as it should be. -/
namespace Tl
open PySem PySem.Spec PyProof.Rows L2 Dx
@[simp] theorem kb_NoneType_tuple : kitB "NoneType" "tuple" = some false := by first | rfl | decide +kernel
@[simp] theorem kb_NoneType_list : kitB "NoneType" "list" = some false := by first | rfl | decide +kernel
@[simp] theorem kb_NoneType_bool : kitB "NoneType" "bool" = some false := by first | rfl | decide +kernel
@[simp] theorem kb_NoneType_int : kitB "NoneType" "int" = some false := by first | rfl | decide +kernel
@[simp] theorem kb_NoneType_str : kitB "NoneType" "str" = some false := by first | rfl | decide +kernel
@[simp] theorem kb_bool_tuple : kitB "bool" "tuple" = some false := by first | rfl | decide +kernel
@[simp] theorem kb_bool_list : kitB "bool" "list" = some false := by first | rfl | decide +kernel
@[simp] theorem kb_bool_bool : kitB "bool" "bool" = some true := by first | rfl | decide +kernel
@[simp] theorem kb_bool_int : kitB "bool" "int" = some true := by first | rfl | decide +kernel
@[simp] theorem kb_bool_str : kitB "bool" "str" = some false := by first | rfl | decide +kernel
@[simp] theorem kb_int_tuple : kitB "int" "tuple" = some false := by first | rfl | decide +kernel
@[simp] theorem kb_int_list : kitB "int" "list" = some false := by first | rfl | decide +kernel
@[simp] theorem kb_int_bool : kitB "int" "bool" = some false := by first | rfl | decide +kernel
@[simp] theorem kb_int_int : kitB "int" "int" = some true := by first | rfl | decide +kernel
@[simp] theorem kb_int_str : kitB "int" "str" = some false := by first | rfl | decide +kernel
@[simp] theorem kb_str_tuple : kitB "str" "tuple" = some false := by first | rfl | decide +kernel
@[simp] theorem kb_str_list : kitB "str" "list" = some false := by first | rfl | decide +kernel
@[simp] theorem kb_str_bool : kitB "str" "bool" = some false := by first | rfl | decide +kernel
@[simp] theorem kb_str_int : kitB "str" "int" = some false := by first | rfl | decide +kernel
@[simp] theorem kb_str_str : kitB "str" "str" = some true := by first | rfl | decide +kernel
@[simp] theorem kb_tuple_tuple : kitB "tuple" "tuple" = some true := by first | rfl | decide +kernel
@[simp] theorem kb_tuple_list : kitB "tuple" "list" = some false := by first | rfl | decide +kernel
@[simp] theorem kb_tuple_bool : kitB "tuple" "bool" = some false := by first | rfl | decide +kernel
@[simp] theorem kb_tuple_int : kitB "tuple" "int" = some false := by first | rfl | decide +kernel
@[simp] theorem kb_tuple_str : kitB "tuple" "str" = some false := by first | rfl | decide +kernel
@[simp] theorem kb_list_tuple : kitB "list" "tuple" = some false := by first | rfl | decide +kernel
@[simp] theorem kb_list_list : kitB "list" "list" = some true := by first | rfl | decide +kernel
@[simp] theorem kb_list_bool : kitB "list" "bool" = some false := by first | rfl | decide +kernel
@[simp] theorem kb_list_int : kitB "list" "int" = some false := by first | rfl | decide +kernel
@[simp] theorem kb_list_str : kitB "list" "str" = some false := by first | rfl | decide +kernel
section
variable {M : Mem} {R : KD}
@[simp] theorem q_isi {x : D} {n : String} : oIsi [x, .ty n] M R = ∃ k, ((tyOfD M x).bind fun ty => kitB ty n) = some k ∧ R (.bl k) M := by
  apply propext
  constructor
  · rintro ⟨x', n', ty, k, e, h1, h2, h3⟩
    cases e
    exact ⟨k, by rw [h1]; exact h2, h3⟩
  · rintro ⟨k, h1, h3⟩
    cases h : tyOfD M x with
    | none => rw [h] at h1; cases h1
    | some ty => rw [h] at h1; exact ⟨x, n, ty, k, rfl, h, h1, h3⟩
@[simp] theorem ty_non : tyOfD M .non = some "NoneType" := rfl
@[simp] theorem ty_bl {b : Bool} : tyOfD M (.bl b) = some "bool" := rfl
@[simp] theorem ty_int {b : Int} : tyOfD M (.int b) = some "int" := rfl
@[simp] theorem ty_str {b : Str} : tyOfD M (.str b) = some "str" := rfl
@[simp] theorem ty_tup {b : List D} : tyOfD M (.tup b) = some "tuple" := rfl
@[simp] theorem ty_lst {b : List D} : tyOfD M (.lst b) = some "list" := rfl
theorem ty_ref {n : Nat} {xs : List D} (h : lstAt M n = some xs) : tyOfD M (.ref n) = some "list" := by
  show (match M[n]? with
    | some (.lst _) => some "list"
    | some (.dic _) => some "dict"
    | _ => none) = _
  rw [lstAt_iff.mp h]
theorem eqv_bl {a b : Bool} : PyData.eqv (.bool a) (.bool b) = decide (a = b) := by cases a <;> cases b <;> rfl
@[simp] theorem q_eqBT {a b : Bool} : oEqD true (.bl a) (.bl b) M R = R (.bl (!decide (a = b))) M := by
  apply propext
  constructor
  · rintro ⟨d, e, h1, h2, _, _, h5⟩
    cases h1; cases h2
    rw [if_pos rfl, eqv_bl] at h5
    exact h5
  · intro h
    exact ⟨_, _, rfl, rfl, rfl, rfl, by rw [if_pos rfl, eqv_bl]; exact h⟩
theorem eq_str {a : Str} (hz : SeqAt.shaped (.str a) = true) (h : R (.bl true) M) : oEqD false (.str a) (.str a) M R := ⟨_, _, rfl, rfl, hz, hz, by
  have e : PyData.eqv (.str a) (.str a) = true := by simp [PyData.eqv]
  rw [if_neg (by decide), e]; exact h⟩
theorem eq_non (h : R (.bl true) M) : oEqD false .non .non M R := ⟨_, _, rfl, rfl, rfl, rfl, by
  have e : PyData.eqv .none .none = true := by rfl
  rw [if_neg (by decide), e]; exact h⟩
theorem eq_bl {a : Bool} (h : R (.bl true) M) : oEqD false (.bl a) (.bl a) M R := ⟨_, _, rfl, rfl, rfl, rfl, by
  rw [if_neg (by decide), eqv_bl, decide_eq_true rfl]; exact h⟩
theorem eq_nil (h : R (.bl true) M) : oEqD false (.lst []) (.lst []) M R := ⟨_, _, rfl, rfl, rfl, rfl, by
  have e : PyData.eqv (.list []) (.list []) = true := by rfl
  rw [if_neg (by decide), e]; exact h⟩
end
/-- alike, d deep -/
def Alike (M : Mem) : Nat → D → D → Prop
  | 0, x, y => x = y ∧ (x = .non ∨ (∃ b, x = .bl b) ∨ (∃ i, x = .int i) ∨ ∃ z, x = .str z ∧ SeqAt.shaped (.str z) = true)
  | d + 1, x, y => Alike M 0 x y ∨ ∃ xs ys : List D, ((x = .tup xs ∧ y = .tup ys) ∨ (tyOfD M x = some "list" ∧ tyOfD M y = some "list" ∧ seqOf M x = some xs ∧ seqOf M y = some ys)) ∧ xs.length = ys.length ∧ xs.length ≤ sizeLine ∧ ∀ (i : Nat) (x' y' : D), xs[i]? = some x' → ys[i]? = some y' → Alike M d x' y'
theorem like0 {M : Mem} {R : KD} {S : SD} {k : Nat} {x y : D} (h : Alike M 0 x y) (hR : R (.bl true) M) : PR_law_like (k + 1) [x, y] M R S := by
  unfold Alike at h
  obtain ⟨rfl, h⟩ := h
  refine ⟨rfl, ?_⟩
  rcases h with rfl | ⟨b, rfl⟩ | ⟨i, rfl⟩ | ⟨z, rfl, hz⟩
  · simp [t_law_like, startD, N_law_like]
    exact eq_non hR
  · simp [t_law_like, startD, N_law_like]
    exact eq_bl hR
  · simp [t_law_like, startD, N_law_like]
    exact hR
  · simp [t_law_like, startD, N_law_like]
    exact eq_str hz hR
theorem rgD_len (i : Int) (n : Nat) : (rgD i n).length = n := by simp [rgD]
theorem rgD_mem {n : Nat} {v : D} (h : v ∈ rgD 0 n) : ∃ j : Nat, j < n ∧ v = .int j := by
  obtain ⟨j, hj, e⟩ := List.mem_map.mp h
  exact ⟨j, List.mem_range.mp hj, by rw [← e]; congr 1; omega⟩
theorem like_c {M : Mem} {R : KD} {S : SD} {k d : Nat} {x y : D} {xs ys : List D} {z : Option D} (ih : ∀ x y R S, Alike M d x y → R (.bl true) M → PR_law_like k [x, y] M R S) (hx : seqOf M x = some xs) (hy : seqOf M y = some ys) (hl : xs.length = ys.length) (hz : xs.length ≤ sizeLine)
    (h : ∀ (i : Nat) (x' y' : D), xs[i]? = some x' → ys[i]? = some y' → Alike M d x' y') (hR : R (.lst []) M) : C_law_like_1 (PR_law_like k) [some x, some y, z] M R S := by
  refine ⟨_, rfl, .inl ⟨_, _, rfl, hy, _, rfl, by omega, ?_, ?_⟩⟩
  · have e : sizeLine = 16777216 := rfl
    omega
  have en : ((rgD 0 (ys.length : Int).toNat).filter (fun _ => false)).map id = [] := by
    rw [List.map_eq_nil_iff, List.filter_eq_nil_iff]
    simp
  refine cp_filter _ (fun _ => false) id trivial (by rw [rgD_len]; omega) (fun v hv C C2 _ h2 => ?_) (by rw [en]; exact hR)
  obtain ⟨n, hn, rfl⟩ := rgD_mem hv
  have hn1 : n < ys.length := by omega
  have hn2 : n < xs.length := by omega
  simp [wipeD, hx, hy, Dx.atI_nat, List.getElem?_eq_getElem hn1, List.getElem?_eq_getElem hn2]
  exact ih _ _ _ _ (h n _ _ (List.getElem?_eq_getElem hn2) (List.getElem?_eq_getElem hn1)) (by simp; exact h2 rfl)
theorem alike_le {M : Mem} : ∀ {d : Nat} {x y : D}, Alike M 0 x y → Alike M d x y
  | 0, _, _, h => h
  | d + 1, _, _, h => by rw [Alike]; exact .inl h
theorem like_ok {M : Mem} : ∀ (d k : Nat), d < k → ∀ (x y : D) (R : KD) (S : SD), Alike M d x y → R (.bl true) M → PR_law_like k [x, y] M R S := by
  intro d
  induction d with
  | zero =>
    intro k hk x y R S h hR
    cases k with
    | zero => omega
    | succ k => exact like0 h hR
  | succ d ih =>
    intro k hk x y R S h hR
    cases k with
    | zero => omega
    | succ k =>
      rw [Alike] at h
      rcases h with h | ⟨xs, ys, ht, hl, hz, hall⟩
      · exact like0 h hR
      · refine ⟨rfl, ?_⟩
        rcases ht with ⟨rfl, rfl⟩ | ⟨t1, t2, s1, s2⟩
        · simp [t_law_like, startD, N_law_like, hl]
          exact like_c (fun x y R S => ih k (by omega) x y R S) rfl rfl hl hz hall (eq_nil hR)
        · simp [t_law_like, startD, N_law_like, t1, t2, s1, s2, hl]
          exact .inl (.inl (like_c (fun x y R S => ih k (by omega) x y R S) s1 s2 hl hz hall (eq_nil hR)))
end Tl
namespace W_k11
open PySem PySem.Spec PyProof.Rows L2 Dx
def top (i : Nat) : Stmt := PySem.Challenge.pw_timeleaf_k11_plainly.main.body.getD i (.Pass ⟨0, 0, 0, 0⟩)
/-! ### exception classes -/
def excs : List Str := ["LeafError", "BadBatch", "BadMost", "BadKey", "BadMoment", "Underway", "NoBatch", "BadText"]
def ancs : List (Str × List Str) := [("LeafError", ["LeafError"]), ("BadBatch", ["BadBatch", "LeafError"]), ("BadMost", ["BadMost", "LeafError"]), ("BadKey", ["BadKey", "LeafError"]), ("BadMoment", ["BadMoment", "LeafError"]), ("Underway", ["Underway", "LeafError"]), ("NoBatch", ["NoBatch", "LeafError"]), ("BadText", ["BadText", "LeafError"])]
def isX (k n : Str) : Bool := match ancs.lookup k with
  | some l => l.contains n
  | none => false
def subC (k n : Str) : Option Bool := if k ∈ excs ∧ n ∈ excs then some (isX k n) else none
def fldX : List (Str × Str) := [("BadBatch", "row"), ("BadText", "row")]
/-! ### readings -/
abbrev s_law_dice : Stmt := (top 18)
abbrev N_law_dice : List Str := ["_law_script", "_law_mixed", "_law_cell"]
abbrev t_law_dice := Tl.t_law_dice
abbrev P_law_dice := Tl.P_law_dice
abbrev s_law_next : Stmt := (top 19)
abbrev N_law_next : List Str := ["_law_dice_here", "_law_many", "_law_found", "_law_cell"]
abbrev t_law_next := Tl.t_law_next
abbrev P_law_next := Tl.P_law_next
abbrev s_law_lot : Stmt := (top 22)
abbrev N_law_lot : List Str := ["_law_d", "_law_many", "_law_first"]
def t_law_lot : TSd :=
  (sSeq (sSet 1 (eOp oIx (eLst false (aCons (eC (.int 3)) (aCons (eC (.int 12)) (aCons (eC (.int 60)) (aCons (eC (.int 1000)) aNil))))) (eCall 2 [] P_law_next (aCons (eVar 0) (aCons (eC (.int 4)) aNil)))))
  (sSeq (sSet 2 (eCall 2 [] P_law_next (aCons (eVar 0) (aCons (eOp oSub (eC (.int 1001)) (eVar 1)) aNil))))
  (sRet (eTup (aCons (eVar 2) (aCons (eVar 1) (aCons (eOp oIx (eLst false (aCons (eC (.int 1)) (aCons (eC (.int 1)) (aCons (eC (.int 5)) (aCons (eC (.int 40)) aNil))))) (eCall 2 [] P_law_next (aCons (eVar 0) (aCons (eC (.int 4)) aNil)))) aNil)))))))
def P_law_lot : FD := ptOf N_law_lot 1 t_law_lot
abbrev s_law_batch : Stmt := (top 23)
abbrev N_law_batch : List Str := ["_law_d", "_law_lot_here", "_law_found", "_law_used", "_law_k", "_law_key", "_law_worth"]
def L_law_batch_1 : TSd :=
  (sFor (iRange1 (aCons (eOp (oAddX false) (eC (.int 1)) (eCall 2 [] P_law_next (aCons (eVar 0) (aCons (eOp oIx (eVar 1) (eC (.int 2))) aNil)))) aNil)) (dName 4)
  (sSeq (sSet 5 (eOp (oAddX false) (eOp oIx (eVar 1) (eC (.int 0))) (eCall 2 [] P_law_next (aCons (eVar 0) (aCons (eOp oIx (eVar 1) (eC (.int 1))) aNil)))))
  (sSeq (sSet 6 (eOp oIx (eLst false (aCons (eC .non) (aCons (eCall 2 [] P_law_next (aCons (eVar 0) (aCons (eC (.int 5)) aNil))) (aCons (eCall 2 [] P_law_next (aCons (eVar 0) (aCons (eC (.int 5)) aNil))) (aCons (eCall 2 [] P_law_next (aCons (eVar 0) (aCons (eC (.int 10000)) aNil))) aNil))))) (eCall 2 [] P_law_next (aCons (eVar 0) (aCons (eC (.int 4)) aNil)))))
  (sSeq (sSet 2 (eOp (oAddX false) (eVar 2) (eOp (oMulX false) (eLst false (aCons (eTup (aCons (eVar 5) (aCons (eVar 6) aNil))) aNil)) (eCB oInt (aCons (eOp (oInX true) (eVar 5) (eVar 3)) aNil)))))
  (sDrop (eBM "list" oAppend (eVar 3) (aCons (eVar 5) aNil)))))))
def t_law_batch : TSd :=
  (sSeq (sPar 2 3 (aCons (eLst false aNil) (aCons (eLst true aNil) aNil)))
  (sSeq L_law_batch_1
  (sRet (eVar 2))))
def P_law_batch : FD := ptOf N_law_batch 2 t_law_batch
abbrev s_law_at : Stmt := (top 24)
abbrev N_law_at : List Str := ["_law_batches", "_law_when", "_law_found", "_law_batch_here", "_law_pair"]
abbrev t_law_at := Tl.t_law_at
abbrev P_law_at := Tl.P_law_at
abbrev s_law_told : Stmt := (top 21)
abbrev N_law_told : List Str := ["_law_work", "e", "_law_kinds", "_law_term"]
def subT (k : Str) : Option Bool := if k ∈ excs then some (isX k "LeafError") else none
def ts_law_told (a : Addr) (d : Option Addr) (k : Str) : TSd := sWhen (k ∈ excs)
  (sSeq (sSet 2 (eLst true (aCons (eIsN 1 a d (subC k "BadBatch")) (aCons (eIsN 1 a d (subC k "BadMost")) (aCons (eIsN 1 a d (subC k "BadKey")) aNil)))))
  (sSeq (sSet 2 (eOp (oAddX true) (eVar 2) (eLst false (aCons (eIsN 1 a d (subC k "BadMoment")) (aCons (eIsN 1 a d (subC k "Underway")) (aCons (eIsN 1 a d (subC k "NoBatch")) aNil))))))
  (sSeq (sDrop (eBM "list" oAppend (eVar 2) (aCons (eIsN 1 a d (subC k "BadText")) aNil)))
  (sSeq (sIf (eOr (eB (eOp (oEqD true) (eBM "list" oCntF (eVar 2) (aCons (eC (.bl true)) aNil)) (eC (.int 1)))) (eNot (eB (eIsN 1 a d (some true)))))
  (sRet (eTup (aCons (eC (.str "refused")) (aCons (eC (.str "other")) aNil))))
  sNext)
  (sSeq (sSet 3 (eOp oIx (eLst false (aCons (eC (.str "batch")) (aCons (eC (.str "cap")) (aCons (eC (.str "key")) (aCons (eC (.str "when")) (aCons (eC (.str "underway")) (aCons (eC (.str "none")) (aCons (eC (.str "text")) aNil)))))))) (eBM "list" oIdxF (eVar 2) (aCons (eC (.bl true)) aNil))))
  (sRet (eIf (eB (eOp (oInX false) (eVar 3) (eTup (aCons (eC (.str "batch")) (aCons (eC (.str "text")) aNil))))) (eTup (aCons (eC (.str "refused")) (aCons (eVar 3) (aCons (eXf 1 a d "row") aNil)))) (eTup (aCons (eC (.str "refused")) (aCons (eVar 3) aNil))))))))))
abbrev s_need_moment : Stmt := (top 15)
abbrev N_need_moment : List Str := ["moment", "first", "last"]
abbrev t_need_moment := Tl.t_need_moment
abbrev P_need_moment := Tl.P_need_moment
abbrev s_is_row : Stmt := (top 13)
abbrev N_is_row : List Str := ["row", "ahead", "key", "worth", "one"]
abbrev t_is_row := Tl.t_is_row
abbrev P_is_row := Tl.P_is_row
abbrev s_need_batch : Stmt := (top 14)
abbrev N_need_batch : List Str := ["batch", "number", "row"]
abbrev t_need_batch := Tl.t_need_batch
abbrev P_need_batch := Tl.P_need_batch
abbrev s_plain : Stmt := (top 16)
abbrev N_plain : List Str := ["batches", "moment", "batch", "found", "key", "worth"]
abbrev t_plain := Tl.t_plain
abbrev P_plain := Tl.P_plain
abbrev s_law_like : Stmt := (top 20)
abbrev N_law_like : List Str := ["_law_found", "_law_due", "_law_k"]
abbrev t_law_like := Tl.t_law_like
abbrev P_law_like := Tl.P_law_like
abbrev PR_law_like := Tl.PR_law_like
abbrev s_law : Stmt := (top 25)
abbrev N_law : List Str := ["_law_script", "_law_d", "_law_turn", "_law_lot_here", "_law_batches", "_law_k", "_law_when", "_law_at_here", "_law_bad", "_law_odd", "_law_due", "_law_some", "_law_handed", "_law_batch_here", "_law_again", "_law_found"]
def C_law_1 : TEd :=
  (eComp [5] (iRange1 (aCons (eCall 2 [] P_law_next (aCons (eVar 1) (aCons (eC (.int 31)) aNil))) aNil)) (dName 5) tYesD (emApp (eCall 2 [] P_law_batch (aCons (eVar 1) (aCons (eVar 3) aNil)))) [] (fun acc M R => newL false acc M R))
def C_law_2 : TEd :=
  (eComp [13] (iLst (eVar 11)) (dName 13) tYesD (emApp (eCB (oList false) (aCons (eVar 13) aNil))) [] (fun acc M R => newL false acc M R))
def L_law_1 (P0 : Addr) : TSd :=
  (sFor (iRange1 (aCons (eC (.int 2)) aNil)) (dName 14)
  (sSeq (sSet 15 (eTold P0 "law.<locals>.<lambda>" 4 1 subT ts_law_told (eCall 2 [] P_plain (aCons (eVar 12) (aCons (eVar 6) aNil)))))
  (sSeq (sIf (eOr (eNot (eB (eCall 2 [] P_law_like (aCons (eVar 15) (aCons (eVar 10) aNil))))) (eB (eOp (oEqD true) (eVar 12) (eVar 11))))
  (sRet (eC (.bl false)))
  sNext)
  (sIf (eB (eCB oIsi (aCons (eVar 15) (aCons (eC (.ty "list")) aNil))))
  (sDrop (eBM "list" oAppend (eVar 15) (aCons (eC (.int 0)) aNil)))
  sNext))))
def L_law_2 (P0 : Addr) : TSd :=
  (sFor (iRange1 (aCons (eC (.int 3)) aNil)) (dName 2)
  (sSeq (sSet 3 (eCall 1 [] P_law_lot (aCons (eVar 1) aNil)))
  (sSeq (sSet 4 C_law_1)
  (sSeq (sSet 6 (eLst false (aCons (eCall 2 [] P_law_next (aCons (eVar 1) (aCons (eOp (oAddX false) (eCB oLenX (aCons (eVar 4) aNil)) (eC (.int 1))) aNil))) (aCons (eCB oLenX (aCons (eVar 4) aNil)) (aCons (eOp (oAddX false) (eOp (oAddX false) (eCB oLenX (aCons (eVar 4) aNil)) (eC (.int 1))) (eCall 2 [] P_law_next (aCons (eVar 1) (aCons (eC (.int 99)) aNil)))) (aCons (eNeg (eC (.int 1))) aNil))))))
  (sSeq (sSet 6 (eOp oIx (eVar 6) (eCall 2 [] P_law_next (aCons (eVar 1) (aCons (eC (.int 4)) aNil)))))
  (sSeq (sPar 7 8 (aCons (eCall 2 [] P_law_next (aCons (eVar 1) (aCons (eOp (oAddX false) (eCB oLenX (aCons (eVar 4) aNil)) (eC (.int 1))) aNil))) (aCons (eOp (oEqD false) (eCall 2 [] P_law_next (aCons (eVar 1) (aCons (eC (.int 3)) aNil))) (eC (.int 0))) aNil)))
  (sSeq (sSet 9 (eOp oIx (eLst false (aCons (eTup (aCons (eC (.int 1000)) (aCons (eC (.int 1)) aNil))) (aCons (eTup (aCons (eC (.int 5)) (aCons (eC (.int 10000)) aNil))) (aCons (eTup (aCons (eNeg (eC (.int 1))) (aCons (eC (.int 1)) aNil))) (aCons (eIf (eB (eOp (oEqD true) (eVar 4) (eLst false aNil))) (eOp oIx (eOp oIx (eVar 4) (eC (.int 0))) (eC (.int 0))) (eTup (aCons (eC (.int 7)) (aCons (eNeg (eC (.int 1))) aNil)))) aNil))))) (eCall 2 [] P_law_next (aCons (eVar 1) (aCons (eC (.int 4)) aNil)))))
  (sSeq (sSet 10 (eTup (aCons (eC (.str "refused")) (aCons (eC (.str "when")) aNil))))
  (sSeq (sIf (eB (eChain oLe oLe (eC (.int 0)) (eVar 6) (eCB oLenX (aCons (eVar 4) aNil))))
  (sSet 10 (eCall 2 [] P_law_at (aCons (eVar 4) (aCons (eVar 6) aNil))))
  sNext)
  (sSeq (sSet 11 (eCB (oList false) (aCons (eVar 4) aNil)))
  (sSeq (sIf (eB (eVar 8))
  (sSeq (sSet 11 (eOp (oAddX false) (eOp (oAddX false) (eSl (oSlX false) (eVar 4) noPart (somePart (eVar 7))) (eLst false (aCons (eIf (eAnd (eB (eOp (oEqD true) (eVar 4) (eLst false aNil))) (eB (eOp oLt (eOp oIx (eVar 9) (eC (.int 0))) (eC (.int 1000))))) (eOp (oMulX false) (eSl (oSlX false) (eOp oIx (eVar 4) (eC (.int 0))) noPart (somePart (eC (.int 1)))) (eC (.int 2))) (eLst false (aCons (eVar 9) aNil))) aNil))) (eSl (oSlX false) (eVar 4) (somePart (eVar 7)) noPart)))
  (sSet 10 (eTup (aCons (eC (.str "refused")) (aCons (eC (.str "batch")) (aCons (eIf (eAnd (eB (eOp (oEqD true) (eVar 4) (eLst false aNil))) (eB (eOp oLt (eOp oIx (eVar 9) (eC (.int 0))) (eC (.int 1000))))) (eC (.int 1)) (eC (.int 0))) aNil))))))
  sNext)
  (sSeq (sSet 12 C_law_2)
  (L_law_1 P0)))))))))))))
def t_law (P0 : Addr) : TSd :=
  (sSeq (sSet 1 (eCall 1 [] P_law_dice (aCons (eVar 0) aNil)))
  (sSeq (L_law_2 P0)
  (sRet (eC (.bl true)))))
def P_law (P0 : Addr) : FD := ptOf N_law 1 (t_law P0)
/-! ### what the walk asks of the top -/
structure Cf (P : Program) (w : PySem.World) (K : PySem.W.Frag) (mg : Str → Option Value) (base : Heap) : Prop where
  n_int : mg "int" = none
  n_len : mg "len" = none
  g_law_next : mg "_law_next" = some (.ref (He.ga K "_law_next"))
  k_law_next : PySem.W.keepIn K (.ref (He.ga K "_law_next")) = true
  n_range : mg "range" = none
  n_dict : mg "dict" = none
  n_sorted : mg "sorted" = none
  n_isinstance : mg "isinstance" = none
  g_BadKey : mg "BadKey" = some (.ref (He.ga K "BadKey"))
  kit : ∀ k nm b, subC k nm = some b → PySem.W.kitOne K (.ref (He.ga K k)) (.ref (He.ga K nm)) = some b
  exc : ∀ k, k ∈ excs → ExcC K (He.ga K k)
  g_BadMost : mg "BadMost" = some (.ref (He.ga K "BadMost"))
  g_BadBatch : mg "BadBatch" = some (.ref (He.ga K "BadBatch"))
  g_NoBatch : mg "NoBatch" = some (.ref (He.ga K "NoBatch"))
  g_Underway : mg "Underway" = some (.ref (He.ga K "Underway"))
  g_BadMoment : mg "BadMoment" = some (.ref (He.ga K "BadMoment"))
  g_BadText : mg "BadText" = some (.ref (He.ga K "BadText"))
  n_ValueError : mg "ValueError" = none
  kitv : ∀ k, k ∈ excs → PySem.W.kitOne K (.ref (He.ga K k)) (.type "ValueError") = some true
  xf : ∀ k, k ∈ excs → XfC K (He.ga K k)
  no_row : ∀ k, k ∈ excs → PySem.W.findIn K (.ref (He.ga K k)) "row" = some none
  xo_BadMoment : XoF K "BadMoment"
  i_KEYS : ∃ t, mg "KEYS" = some (.int (1000) t)
  i_WORTHS : ∃ t, mg "WORTHS" = some (.int (10000) t)
  xi_BadBatch : XiF P w K mg base "BadBatch" "row"
  n_enumerate : mg "enumerate" = none
  i_MOST_BATCH : ∃ t, mg "MOST_BATCH" = some (.int (40) t)
  g_is_row : mg "is_row" = some (.ref (He.ga K "is_row"))
  k_is_row : PySem.W.keepIn K (.ref (He.ga K "is_row")) = true
  g_need_batch : mg "need_batch" = some (.ref (He.ga K "need_batch"))
  k_need_batch : PySem.W.keepIn K (.ref (He.ga K "need_batch")) = true
  g_need_moment : mg "need_moment" = some (.ref (He.ga K "need_moment"))
  k_need_moment : PySem.W.keepIn K (.ref (He.ga K "need_moment")) = true
  n_tuple : mg "tuple" = none
  n_list : mg "list" = none
  g_law_like : mg "_law_like" = some (.ref (He.ga K "_law_like"))
  k_law_like : PySem.W.keepIn K (.ref (He.ga K "_law_like")) = true
  n_bool : mg "bool" = none
  n_str : mg "str" = none
  g_law_dice : mg "_law_dice" = some (.ref (He.ga K "_law_dice"))
  k_law_dice : PySem.W.keepIn K (.ref (He.ga K "_law_dice")) = true
  g_law_lot : mg "_law_lot" = some (.ref (He.ga K "_law_lot"))
  k_law_lot : PySem.W.keepIn K (.ref (He.ga K "_law_lot")) = true
  g_law_batch : mg "_law_batch" = some (.ref (He.ga K "_law_batch"))
  k_law_batch : PySem.W.keepIn K (.ref (He.ga K "_law_batch")) = true
  g_law_at : mg "_law_at" = some (.ref (He.ga K "_law_at"))
  k_law_at : PySem.W.keepIn K (.ref (He.ga K "_law_at")) = true
  g_plain : mg "plain" = some (.ref (He.ga K "plain"))
  k_plain : PySem.W.keepIn K (.ref (He.ga K "plain")) = true
  g_law_told : mg "_law_told" = some (.ref (He.ga K "_law_told"))
  k_law_told : PySem.W.keepIn K (.ref (He.ga K "_law_told")) = true
  g_LeafError : mg "LeafError" = some (.ref (He.ga K "LeafError"))
  exm : ∀ k b, subT k = some b → PySem.W.exmOne K (.ref (He.ga K k)) (.ref (He.ga K "LeafError")) = some b
/-! ### walks -/
theorem sc_law_dice : FnScope N_law_dice ["_law_script"] (L2.defScope s_law_dice) := ⟨rfl, rfl, rfl, by decide +kernel, rfl, by decide +kernel, by decide +kernel⟩
theorem BO_law_dice {sc : Scope} {own : List (Str × Nat)} (h : L2.blkC N_law_dice (L2.defScope s_law_dice) sc own = true) : BlkOk N_law_dice (L2.defScope s_law_dice) sc own := blkOk_by h
theorem wk_law_dice {P : Program} {w : PySem.World} {K : PySem.W.Frag} {mg : Str → Option Value} {base : Heap} {k : Nat} (c : Cf P w K mg base)  (f : Addr) (cdv : Value) : Walked P w K mg base k N_law_dice "_law_dice" (L2.defScope s_law_dice) f cdv (L2.defBody s_law_dice) t_law_dice := by
  intro A outer s H E hr
  have nd : N_law_dice.Nodup := sc_law_dice.nd
  have tk := wk_takes (P := P) (w := w) (K := K) (mg := mg) (base := base) (qual := "_law_dice") (scope := L2.defScope s_law_dice) (f := f) (N := N_law_dice) (cdv := cdv) (A := A) (outer := outer) (s := s) (H := H) (E := E)
  have hp := wk_passes (P := P) (w := w) (K := K) (mg := mg) (base := base) (qual := "_law_dice") (scope := L2.defScope s_law_dice) (f := f) (N := N_law_dice) (cdv := cdv) (A := A) (outer := outer) (s := s) (H := H) (E := E)
  have hu := hr.units
  have hu65 := un65 hr
  have hu1 := un1 hr
  exact (pssd_cons (psd_set 1 nd pd_int)
  (pssd_cons (psd_for hp rfl (pid_list (pd_var 0)) (pgd_name 2 nd)
  (pssd_one (psd_set 1 nd (pd_mod (pd_addX false (pd_addX false (pd_mulX false (pd_var 1) pd_int) (pd_mulX false (pd_mod (pd_var 2) pd_int) pd_int)) pd_int) pd_int))))
  (pssd_one (psd_ret (pd_lst true (pda_cons (pd_var 0) (pda_cons pd_int (pda_cons (pd_mulX false (pd_var 1) (pd_int1 rfl c.n_int (pda_cons (pd_gt (pd_lenX rfl c.n_len (pda_cons (pd_var 0) pda_nil)) pd_int) pda_nil))) (pda_cons pd_int pda_nil)))))))))
theorem sc_law_next : FnScope N_law_next ["_law_dice_here", "_law_many"] (L2.defScope s_law_next) := ⟨rfl, rfl, rfl, by decide +kernel, rfl, by decide +kernel, by decide +kernel⟩
theorem BO_law_next {sc : Scope} {own : List (Str × Nat)} (h : L2.blkC N_law_next (L2.defScope s_law_next) sc own = true) : BlkOk N_law_next (L2.defScope s_law_next) sc own := blkOk_by h
theorem wk_law_next {P : Program} {w : PySem.World} {K : PySem.W.Frag} {mg : Str → Option Value} {base : Heap} {k : Nat} (c : Cf P w K mg base)  (f : Addr) (cdv : Value) : Walked P w K mg base k N_law_next "_law_next" (L2.defScope s_law_next) f cdv (L2.defBody s_law_next) t_law_next := by
  intro A outer s H E hr
  have nd : N_law_next.Nodup := sc_law_next.nd
  have tk := wk_takes (P := P) (w := w) (K := K) (mg := mg) (base := base) (qual := "_law_next") (scope := L2.defScope s_law_next) (f := f) (N := N_law_next) (cdv := cdv) (A := A) (outer := outer) (s := s) (H := H) (E := E)
  have hp := wk_passes (P := P) (w := w) (K := K) (mg := mg) (base := base) (qual := "_law_next") (scope := L2.defScope s_law_next) (f := f) (N := N_law_next) (cdv := cdv) (A := A) (outer := outer) (s := s) (H := H) (E := E)
  have hu := hr.units
  have hu65 := un65 hr
  have hu1 := un1 hr
  exact (pssd_cons (psd_if (pdt_gt (pd_ix (pd_var 0) pd_int) pd_int)
  (pssd_cons (psd_set 2 nd (pd_mod (pd_ix (pd_var 0) pd_int) (pd_var 1)))
  (pssd_cons (psd_asg (pd_div (pd_ix (pd_var 0) pd_int) (pd_var 1)) (pgd_subL (W := W0) (pd_var 0) pd_int))
  (pssd_one (psd_ret (pd_var 2)))))
  pssd_nil)
  (pssd_cons (psd_asg (pd_addX false (pd_ix (pd_var 0) pd_int) pd_int) (pgd_subL (W := W0) (pd_var 0) pd_int))
  (pssd_cons (psd_if (pdt_le (pd_ix (pd_var 0) pd_int) (pd_lenX rfl c.n_len (pda_cons (pd_ix (pd_var 0) pd_int) pda_nil)))
  (pssd_cons (psd_set 3 nd (pd_ix (pd_ix (pd_var 0) pd_int) (pd_sub (pd_ix (pd_var 0) pd_int) pd_int)))
  (pssd_cons (psd_asg (pd_if (pdt_ge (pd_var 3) (pd_pow pd_int pd_int)) (pd_div (pd_var 3) (pd_var 1)) pd_int) (pgd_subL (W := W0) (pd_var 0) pd_int))
  (pssd_one (psd_ret (pd_mod (pd_var 3) (pd_var 1))))))
  pssd_nil)
  (pssd_cons (psd_asg (pd_mod (pd_mulX false (pd_ix (pd_var 0) pd_int) pd_int) pd_int) (pgd_subL (W := W0) (pd_var 0) pd_int))
  (pssd_one (psd_ret (pd_mod (pd_div (pd_ix (pd_var 0) pd_int) pd_int) (pd_var 1))))))))
theorem sc_law_lot : FnScope N_law_lot ["_law_d"] (L2.defScope s_law_lot) := ⟨rfl, rfl, rfl, by decide +kernel, rfl, by decide +kernel, by decide +kernel⟩
theorem BO_law_lot {sc : Scope} {own : List (Str × Nat)} (h : L2.blkC N_law_lot (L2.defScope s_law_lot) sc own = true) : BlkOk N_law_lot (L2.defScope s_law_lot) sc own := blkOk_by h
theorem wk_law_lot {P : Program} {w : PySem.World} {K : PySem.W.Frag} {mg : Str → Option Value} {base : Heap} {k : Nat} (c : Cf P w K mg base) (A_law_next : FunAt P w K mg base k (He.ga K "_law_next") 2 [] P_law_next) (f : Addr) (cdv : Value) : Walked P w K mg base k N_law_lot "_law_lot" (L2.defScope s_law_lot) f cdv (L2.defBody s_law_lot) t_law_lot := by
  intro A outer s H E hr
  have nd : N_law_lot.Nodup := sc_law_lot.nd
  have tk := wk_takes (P := P) (w := w) (K := K) (mg := mg) (base := base) (qual := "_law_lot") (scope := L2.defScope s_law_lot) (f := f) (N := N_law_lot) (cdv := cdv) (A := A) (outer := outer) (s := s) (H := H) (E := E)
  have hp := wk_passes (P := P) (w := w) (K := K) (mg := mg) (base := base) (qual := "_law_lot") (scope := L2.defScope s_law_lot) (f := f) (N := N_law_lot) (cdv := cdv) (A := A) (outer := outer) (s := s) (H := H) (E := E)
  have hu := hr.units
  have hu65 := un65 hr
  have hu1 := un1 hr
  exact (pssd_cons (psd_set 1 nd (pd_ix (pd_lst false (pda_cons pd_int (pda_cons pd_int (pda_cons pd_int (pda_cons pd_int pda_nil))))) (pd_call A_law_next hr (Nat.le_refl _) rfl c.g_law_next c.k_law_next tk (pda_cons (pd_var 0) (pda_cons pd_int pda_nil)))))
  (pssd_cons (psd_set 2 nd (pd_call A_law_next hr (Nat.le_refl _) rfl c.g_law_next c.k_law_next tk (pda_cons (pd_var 0) (pda_cons (pd_sub pd_int (pd_var 1)) pda_nil))))
  (pssd_one (psd_ret (pd_tup (pda_cons (pd_var 2) (pda_cons (pd_var 1) (pda_cons (pd_ix (pd_lst false (pda_cons pd_int (pda_cons pd_int (pda_cons pd_int (pda_cons pd_int pda_nil))))) (pd_call A_law_next hr (Nat.le_refl _) rfl c.g_law_next c.k_law_next tk (pda_cons (pd_var 0) (pda_cons pd_int pda_nil)))) pda_nil))))))))
theorem sc_law_batch : FnScope N_law_batch ["_law_d", "_law_lot_here"] (L2.defScope s_law_batch) := ⟨rfl, rfl, rfl, by decide +kernel, rfl, by decide +kernel, by decide +kernel⟩
theorem BO_law_batch {sc : Scope} {own : List (Str × Nat)} (h : L2.blkC N_law_batch (L2.defScope s_law_batch) sc own = true) : BlkOk N_law_batch (L2.defScope s_law_batch) sc own := blkOk_by h
theorem wk_law_batch {P : Program} {w : PySem.World} {K : PySem.W.Frag} {mg : Str → Option Value} {base : Heap} {k : Nat} (c : Cf P w K mg base) (A_law_next : FunAt P w K mg base k (He.ga K "_law_next") 2 [] P_law_next) (f : Addr) (cdv : Value) : Walked P w K mg base k N_law_batch "_law_batch" (L2.defScope s_law_batch) f cdv (L2.defBody s_law_batch) t_law_batch := by
  intro A outer s H E hr
  have nd : N_law_batch.Nodup := sc_law_batch.nd
  have tk := wk_takes (P := P) (w := w) (K := K) (mg := mg) (base := base) (qual := "_law_batch") (scope := L2.defScope s_law_batch) (f := f) (N := N_law_batch) (cdv := cdv) (A := A) (outer := outer) (s := s) (H := H) (E := E)
  have hp := wk_passes (P := P) (w := w) (K := K) (mg := mg) (base := base) (qual := "_law_batch") (scope := L2.defScope s_law_batch) (f := f) (N := N_law_batch) (cdv := cdv) (A := A) (outer := outer) (s := s) (H := H) (E := E)
  have hu := hr.units
  have hu65 := un65 hr
  have hu1 := un1 hr
  exact (pssd_cons (psd_par 2 3 rfl nd (pda_cons (pd_lst false pda_nil) (pda_cons (pd_lst true pda_nil) pda_nil)))
  (pssd_cons (psd_for hp rfl (pid_range1 rfl c.n_range (pda_cons (pd_addX false pd_int (pd_call A_law_next hr (Nat.le_refl _) rfl c.g_law_next c.k_law_next tk (pda_cons (pd_var 0) (pda_cons (pd_ix (pd_var 1) pd_int) pda_nil)))) pda_nil)) (pgd_name 4 nd)
  (pssd_cons (psd_set 5 nd (pd_addX false (pd_ix (pd_var 1) pd_int) (pd_call A_law_next hr (Nat.le_refl _) rfl c.g_law_next c.k_law_next tk (pda_cons (pd_var 0) (pda_cons (pd_ix (pd_var 1) pd_int) pda_nil)))))
  (pssd_cons (psd_set 6 nd (pd_ix (pd_lst false (pda_cons pd_non (pda_cons (pd_call A_law_next hr (Nat.le_refl _) rfl c.g_law_next c.k_law_next tk (pda_cons (pd_var 0) (pda_cons pd_int pda_nil))) (pda_cons (pd_call A_law_next hr (Nat.le_refl _) rfl c.g_law_next c.k_law_next tk (pda_cons (pd_var 0) (pda_cons pd_int pda_nil))) (pda_cons (pd_call A_law_next hr (Nat.le_refl _) rfl c.g_law_next c.k_law_next tk (pda_cons (pd_var 0) (pda_cons pd_int pda_nil))) pda_nil))))) (pd_call A_law_next hr (Nat.le_refl _) rfl c.g_law_next c.k_law_next tk (pda_cons (pd_var 0) (pda_cons pd_int pda_nil)))))
  (pssd_cons (psd_set 2 nd (pd_addX false (pd_var 2) (pd_mulX false (pd_lst false (pda_cons (pd_tup (pda_cons (pd_var 5) (pda_cons (pd_var 6) pda_nil))) pda_nil)) (pd_int1 rfl c.n_int (pda_cons (pd_notInX hu65 (pd_var 5) (pd_var 3)) pda_nil)))))
  (pssd_one (psd_expr (pd_append (pd_var 3) (pda_cons (pd_var 5) pda_nil))))))))
  (pssd_one (psd_ret (pd_var 2)))))
theorem sc_law_at : FnScope N_law_at ["_law_batches", "_law_when"] (L2.defScope s_law_at) := ⟨rfl, rfl, rfl, by decide +kernel, rfl, by decide +kernel, by decide +kernel⟩
theorem BO_law_at {sc : Scope} {own : List (Str × Nat)} (h : L2.blkC N_law_at (L2.defScope s_law_at) sc own = true) : BlkOk N_law_at (L2.defScope s_law_at) sc own := blkOk_by h
theorem wk_law_at {P : Program} {w : PySem.World} {K : PySem.W.Frag} {mg : Str → Option Value} {base : Heap} {k : Nat} (c : Cf P w K mg base)  (f : Addr) (cdv : Value) : Walked P w K mg base k N_law_at "_law_at" (L2.defScope s_law_at) f cdv (L2.defBody s_law_at) t_law_at := by
  intro A outer s H E hr
  have nd : N_law_at.Nodup := sc_law_at.nd
  have tk := wk_takes (P := P) (w := w) (K := K) (mg := mg) (base := base) (qual := "_law_at") (scope := L2.defScope s_law_at) (f := f) (N := N_law_at) (cdv := cdv) (A := A) (outer := outer) (s := s) (H := H) (E := E)
  have hp := wk_passes (P := P) (w := w) (K := K) (mg := mg) (base := base) (qual := "_law_at") (scope := L2.defScope s_law_at) (f := f) (N := N_law_at) (cdv := cdv) (A := A) (outer := outer) (s := s) (H := H) (E := E)
  have hu := hr.units
  have hu65 := un65 hr
  have hu1 := un1 hr
  exact (pssd_cons (psd_set 2 nd pd_dnew)
  (pssd_cons (psd_for hp rfl (pid_list (pd_slX false (pd_var 0) pdo_none (pdo_some (pd_var 1)))) (pgd_name 3 nd)
  (pssd_one (psd_expr (pd_upd (pd_var 2) (pda_cons (pd_dictP rfl rfl c.n_dict (pda_cons (pd_var 3) pda_nil)) pda_nil)))))
  (pssd_one (psd_ret (pd_sortK false rfl rfl c.n_sorted (pda_cons (pd_lock (slotRef 2) (pd_lcx (own := [("_law_pair", 4)]) false rfl nd (pixd_itemsN (pd_var 2)) (BO_law_at (by decide +kernel)) (fun _ _ _ _ _ => (pgw_name 4 nd)) (fun _ _ _ _ _ => (ptsd_one (pdt_notN (pd_ix (pd_var 4) pd_int) pd_non))) (fun _ _ _ _ _ => (pd_var 4)))) pda_nil))))))
theorem sc_law_told : FnScope N_law_told ["_law_work"] (L2.defScope s_law_told) := ⟨rfl, rfl, rfl, by decide +kernel, rfl, by decide +kernel, by decide +kernel⟩
theorem BO_law_told {sc : Scope} {own : List (Str × Nat)} (h : L2.blkC N_law_told (L2.defScope s_law_told) sc own = true) : BlkOk N_law_told (L2.defScope s_law_told) sc own := blkOk_by h
theorem wk_suite {P : Program} {w : PySem.World} {K : PySem.W.Frag} {mg : Str → Option Value} {base : Heap} (c : Cf P w K mg base) {g : Addr} {cdv : Value} {A : Around} {outer : List Env} {s : Shared} {H : Hp} (hA : A.units + 80 < cLine) (a : Addr) (oe : Obj) (k : Str) (d : Option Addr) (pn : List (Addr × Obj)) (hz : Zc (.ref (He.ga K k)) d oe) (hf : ∃ vs, oe.data = .fields vs) :
    PSsd ((cxOf C8.CX0 P w K mg base N_law_told "_law_told" (L2.defScope s_law_told) g cdv A outer s H C8.E0).nox.suite a ((a, oe) :: pn)) W0 (tSuite s_law_told) (ts_law_told a d k) := by
  have nd : N_law_told.Nodup := sc_law_told.nd
  have hu : A.units + 3 + 64 < cLine := by omega
  have hu65 : A.units + 3 + 65 < cLine := by omega
  refine pssd_when fun hin => ?_
  exact (pssd_cons (psd_set 2 nd (pd_lst true (pda_cons (pd_isN2 (cls := k) (c.exc k hin) hz hf rfl c.n_isinstance (.inl ⟨_, rfl, rfl⟩) (fun b h => c.kit k _ b h) (pd_var 1) (pd_gref rfl c.g_BadBatch)) (pda_cons (pd_isN2 (cls := k) (c.exc k hin) hz hf rfl c.n_isinstance (.inl ⟨_, rfl, rfl⟩) (fun b h => c.kit k _ b h) (pd_var 1) (pd_gref rfl c.g_BadMost)) (pda_cons (pd_isN2 (cls := k) (c.exc k hin) hz hf rfl c.n_isinstance (.inl ⟨_, rfl, rfl⟩) (fun b h => c.kit k _ b h) (pd_var 1) (pd_gref rfl c.g_BadKey)) pda_nil)))))
  (pssd_cons (psd_set 2 nd (pd_addX true (pd_var 2) (pd_lst false (pda_cons (pd_isN2 (cls := k) (c.exc k hin) hz hf rfl c.n_isinstance (.inl ⟨_, rfl, rfl⟩) (fun b h => c.kit k _ b h) (pd_var 1) (pd_gref rfl c.g_BadMoment)) (pda_cons (pd_isN2 (cls := k) (c.exc k hin) hz hf rfl c.n_isinstance (.inl ⟨_, rfl, rfl⟩) (fun b h => c.kit k _ b h) (pd_var 1) (pd_gref rfl c.g_Underway)) (pda_cons (pd_isN2 (cls := k) (c.exc k hin) hz hf rfl c.n_isinstance (.inl ⟨_, rfl, rfl⟩) (fun b h => c.kit k _ b h) (pd_var 1) (pd_gref rfl c.g_NoBatch)) pda_nil))))))
  (pssd_cons (psd_expr (pd_append (pd_var 2) (pda_cons (pd_isN2 (cls := k) (c.exc k hin) hz hf rfl c.n_isinstance (.inl ⟨_, rfl, rfl⟩) (fun b h => c.kit k _ b h) (pd_var 1) (pd_gref rfl c.g_BadText)) pda_nil)))
  (pssd_cons (psd_if (pdt_w (pdw_or (pdt_neD hu (pd_cntF (pd_var 2) (pda_cons pd_bl pda_nil)) pd_int) (pdw_or1 (pdt_not (pdt_val (pd_isN2 (cls := k) (c.exc k hin) hz hf rfl c.n_isinstance (.inr ⟨"ValueError", rfl, rfl⟩) (fun b h => by cases h; exact c.kitv k hin) (pd_var 1) (pd_bty rfl c.n_ValueError (by decide +kernel))))))))
  (pssd_one (psd_ret (pd_tup (pda_cons pd_str (pda_cons pd_str pda_nil)))))
  pssd_nil)
  (pssd_cons (psd_set 3 nd (pd_ix (pd_lst false (pda_cons pd_str (pda_cons pd_str (pda_cons pd_str (pda_cons pd_str (pda_cons pd_str (pda_cons pd_str (pda_cons pd_str pda_nil)))))))) (pd_idxF (pd_var 2) (pda_cons pd_bl pda_nil))))
  (pssd_one (psd_ret (pd_if (pdt_inX hu65 (pd_var 3) (pd_tup (pda_cons pd_str (pda_cons pd_str pda_nil)))) (pd_tup (pda_cons pd_str (pda_cons (pd_var 3) (pda_cons (pd_xf2 (c.xf k hin) (c.no_row k hin) hz hf (pd_var 1)) pda_nil)))) (pd_tup (pda_cons pd_str (pda_cons (pd_var 3) pda_nil)))))))))))
theorem sc_need_moment : FnScope N_need_moment ["moment", "first", "last"] (L2.defScope s_need_moment) := ⟨rfl, rfl, rfl, by decide +kernel, rfl, by decide +kernel, by decide +kernel⟩
theorem BO_need_moment {sc : Scope} {own : List (Str × Nat)} (h : L2.blkC N_need_moment (L2.defScope s_need_moment) sc own = true) : BlkOk N_need_moment (L2.defScope s_need_moment) sc own := blkOk_by h
theorem wk_need_moment {P : Program} {w : PySem.World} {K : PySem.W.Frag} {mg : Str → Option Value} {base : Heap} {k : Nat} (c : Cf P w K mg base)  (f : Addr) (cdv : Value) : Walked P w K mg base k N_need_moment "need_moment" (L2.defScope s_need_moment) f cdv (L2.defBody s_need_moment) t_need_moment := by
  intro A outer s H E hr
  have nd : N_need_moment.Nodup := sc_need_moment.nd
  have tk := wk_takes (P := P) (w := w) (K := K) (mg := mg) (base := base) (qual := "need_moment") (scope := L2.defScope s_need_moment) (f := f) (N := N_need_moment) (cdv := cdv) (A := A) (outer := outer) (s := s) (H := H) (E := E)
  have hp := wk_passes (P := P) (w := w) (K := K) (mg := mg) (base := base) (qual := "need_moment") (scope := L2.defScope s_need_moment) (f := f) (N := N_need_moment) (cdv := cdv) (A := A) (outer := outer) (s := s) (H := H) (E := E)
  have hu := hr.units
  have hu65 := un65 hr
  have hu1 := un1 hr
  exact (pssd_one (psd_if (pdt_not (pdt_chain op_le op_le oLe_ok oLe_ok (pd_var 1) (pd_var 0) (pd_var 2)))
  (pssd_one (psd_raise rfl tk (pxd_own (c.xo_BadMoment.ok c.g_BadMoment) rfl)))
  pssd_nil))
theorem sc_is_row : FnScope N_is_row ["row", "ahead"] (L2.defScope s_is_row) := ⟨rfl, rfl, rfl, by decide +kernel, rfl, by decide +kernel, by decide +kernel⟩
theorem BO_is_row {sc : Scope} {own : List (Str × Nat)} (h : L2.blkC N_is_row (L2.defScope s_is_row) sc own = true) : BlkOk N_is_row (L2.defScope s_is_row) sc own := blkOk_by h
theorem wk_is_row {P : Program} {w : PySem.World} {K : PySem.W.Frag} {mg : Str → Option Value} {base : Heap} {k : Nat} (c : Cf P w K mg base)  (f : Addr) (cdv : Value) : Walked P w K mg base k N_is_row "is_row" (L2.defScope s_is_row) f cdv (L2.defBody s_is_row) t_is_row := by
  intro A outer s H E hr
  have nd : N_is_row.Nodup := sc_is_row.nd
  have tk := wk_takes (P := P) (w := w) (K := K) (mg := mg) (base := base) (qual := "is_row") (scope := L2.defScope s_is_row) (f := f) (N := N_is_row) (cdv := cdv) (A := A) (outer := outer) (s := s) (H := H) (E := E)
  have hp := wk_passes (P := P) (w := w) (K := K) (mg := mg) (base := base) (qual := "is_row") (scope := L2.defScope s_is_row) (f := f) (N := N_is_row) (cdv := cdv) (A := A) (outer := outer) (s := s) (H := H) (E := E)
  have hu := hr.units
  have hu65 := un65 hr
  have hu1 := un1 hr
  exact (pssd_cons (psd_asg (pd_var 0) (pgd_tup rfl (pgsd_cons (pgd_name 2 nd) (pgsd_cons (pgd_name 3 nd) pgsd_nil))))
  (pssd_cons (psd_if (pdt_w (pdw_or (pdt_not (pdt_chain op_le op_lt oLe_ok oLt_ok pd_int (pd_var 2) (pd_gint rfl c.i_KEYS))) (pdw_or1 (pdt_w (pdw_and (pdt_notN (pd_var 3) pd_non) (pdw_and1 (pdt_not (pdt_chain op_le op_lt oLe_ok oLt_ok pd_int (pd_var 3) (pd_gint rfl c.i_WORTHS)))))))))
  (pssd_one (psd_ret pd_bl))
  pssd_nil)
  (pssd_one (psd_ret (pd_notInX hu65 (pd_var 2) (pd_lcx (own := [("one", 4)]) false rfl nd (PIxd.of (pid_list (pd_var 1))) (BO_is_row (by decide +kernel)) (fun _ _ _ _ _ => (pgw_name 4 nd)) (fun _ _ _ _ _ => ptsd_nil) (fun _ _ _ _ _ => (pd_ix (pd_var 4) pd_int))))))))
theorem sc_need_batch : FnScope N_need_batch ["batch"] (L2.defScope s_need_batch) := ⟨rfl, rfl, rfl, by decide +kernel, rfl, by decide +kernel, by decide +kernel⟩
theorem BO_need_batch {sc : Scope} {own : List (Str × Nat)} (h : L2.blkC N_need_batch (L2.defScope s_need_batch) sc own = true) : BlkOk N_need_batch (L2.defScope s_need_batch) sc own := blkOk_by h
theorem wk_need_batch {P : Program} {w : PySem.World} {K : PySem.W.Frag} {mg : Str → Option Value} {base : Heap} {k : Nat} (c : Cf P w K mg base) (A_is_row : FunAt P w K mg base k (He.ga K "is_row") 2 [] P_is_row) (h2 : 2 ≤ k) (f : Addr) (cdv : Value) : Walked P w K mg base k N_need_batch "need_batch" (L2.defScope s_need_batch) f cdv (L2.defBody s_need_batch) t_need_batch := by
  intro A outer s H E hr
  have nd : N_need_batch.Nodup := sc_need_batch.nd
  have tk := wk_takes (P := P) (w := w) (K := K) (mg := mg) (base := base) (qual := "need_batch") (scope := L2.defScope s_need_batch) (f := f) (N := N_need_batch) (cdv := cdv) (A := A) (outer := outer) (s := s) (H := H) (E := E)
  have hp := wk_passes (P := P) (w := w) (K := K) (mg := mg) (base := base) (qual := "need_batch") (scope := L2.defScope s_need_batch) (f := f) (N := N_need_batch) (cdv := cdv) (A := A) (outer := outer) (s := s) (H := H) (E := E)
  have hu := hr.units
  have hu65 := un65 hr
  have hu1 := un1 hr
  exact (pssd_cons (psd_if (pdt_eqD hu (pd_lenX rfl c.n_len (pda_cons (pd_var 0) pda_nil)) pd_int)
  (pssd_one (psd_raise rfl tk (xi_raise c.xi_BadBatch c.g_BadBatch hr h2 rfl (pd_neg pd_int))))
  pssd_nil)
  (pssd_one (psd_for hp rfl (pid_enum rfl c.n_enumerate (pda_cons (pd_var 0) pda_nil)) (pgd_tup rfl (pgsd_cons (pgd_name 1 nd) (pgsd_cons (pgd_name 2 nd) pgsd_nil)))
  (pssd_one (psd_if (pdt_w (pdw_or (pdt_ge (pd_var 1) (pd_gint rfl c.i_MOST_BATCH)) (pdw_or1 (pdt_not (pdt_val (pd_call A_is_row hr (Nat.le_refl _) rfl c.g_is_row c.k_is_row tk (pda_cons (pd_var 2) (pda_cons (pd_slX false (pd_var 0) pdo_none (pdo_some (pd_var 1))) pda_nil))))))))
  (pssd_one (psd_raise rfl tk (xi_raise c.xi_BadBatch c.g_BadBatch hr h2 rfl (pd_var 1))))
  pssd_nil)))))
theorem sc_plain : FnScope N_plain ["batches", "moment"] (L2.defScope s_plain) := ⟨rfl, rfl, rfl, by decide +kernel, rfl, by decide +kernel, by decide +kernel⟩
theorem BO_plain {sc : Scope} {own : List (Str × Nat)} (h : L2.blkC N_plain (L2.defScope s_plain) sc own = true) : BlkOk N_plain (L2.defScope s_plain) sc own := blkOk_by h
theorem wk_plain {P : Program} {w : PySem.World} {K : PySem.W.Frag} {mg : Str → Option Value} {base : Heap} {k : Nat} (c : Cf P w K mg base) (A_need_batch : FunAt P w K mg base k (He.ga K "need_batch") 1 [] P_need_batch) (A_need_moment : FunAt P w K mg base k (He.ga K "need_moment") 3 [] P_need_moment) (f : Addr) (cdv : Value) : Walked P w K mg base k N_plain "plain" (L2.defScope s_plain) f cdv (L2.defBody s_plain) t_plain := by
  intro A outer s H E hr
  have nd : N_plain.Nodup := sc_plain.nd
  have tk := wk_takes (P := P) (w := w) (K := K) (mg := mg) (base := base) (qual := "plain") (scope := L2.defScope s_plain) (f := f) (N := N_plain) (cdv := cdv) (A := A) (outer := outer) (s := s) (H := H) (E := E)
  have hp := wk_passes (P := P) (w := w) (K := K) (mg := mg) (base := base) (qual := "plain") (scope := L2.defScope s_plain) (f := f) (N := N_plain) (cdv := cdv) (A := A) (outer := outer) (s := s) (H := H) (E := E)
  have hu := hr.units
  have hu65 := un65 hr
  have hu1 := un1 hr
  exact (pssd_cons (psd_for hp rfl (pid_list (pd_var 0)) (pgd_name 2 nd)
  (pssd_one (psd_expr (pd_call A_need_batch hr (Nat.le_refl _) rfl c.g_need_batch c.k_need_batch tk (pda_cons (pd_var 2) pda_nil)))))
  (pssd_cons (psd_expr (pd_call A_need_moment hr (Nat.le_refl _) rfl c.g_need_moment c.k_need_moment tk (pda_cons (pd_var 1) (pda_cons pd_int (pda_cons (pd_lenX rfl c.n_len (pda_cons (pd_var 0) pda_nil)) pda_nil)))))
  (pssd_cons (psd_setDc2 (own := [("batch", 2), ("key", 4), ("worth", 5)]) 3 rfl nd (PIxd.of (pid_list (pd_slX false (pd_var 0) pdo_none (pdo_some (pd_var 1))))) (BO_plain (by decide +kernel)) (vs1 := [4, 5]) (by decide) (fun _ _ _ _ _ => (pgw_name 2 nd)) (fun _ _ _ _ _ => ptsd_nil) (fun _ _ _ _ _ => (PIxd.of (pid_list (pd_var 2)))) (fun _ _ _ _ _ => (pgw_tup rfl (pgsw_cons (pgw_name 4 nd) (pgsw_cons (pgw_name 5 nd) pgsw_nil)))) (fun _ _ _ _ _ => ptsd_nil) (fun _ _ _ _ _ => (pd_var 4)) (fun _ _ _ _ _ => (pd_var 5)))
  (pssd_one (psd_ret (pd_sortK true rfl rfl c.n_sorted (pda_cons (pd_lock (slotRef 3) (pd_lcx (own := [("key", 4), ("worth", 5)]) false rfl nd (PIxd.of (pid_items (pd_var 3))) (BO_plain (by decide +kernel)) (fun _ _ _ _ _ => (pgw_tup rfl (pgsw_cons (pgw_name 4 nd) (pgsw_cons (pgw_name 5 nd) pgsw_nil)))) (fun _ _ _ _ _ => (ptsd_one (pdt_notN (pd_var 5) pd_non))) (fun _ _ _ _ _ => (pd_tup (pda_cons (pd_var 4) (pda_cons (pd_var 5) pda_nil)))))) pda_nil)))))))
theorem sc_law_like : FnScope N_law_like ["_law_found", "_law_due"] (L2.defScope s_law_like) := ⟨rfl, rfl, rfl, by decide +kernel, rfl, by decide +kernel, by decide +kernel⟩
theorem BO_law_like {sc : Scope} {own : List (Str × Nat)} (h : L2.blkC N_law_like (L2.defScope s_law_like) sc own = true) : BlkOk N_law_like (L2.defScope s_law_like) sc own := blkOk_by h
theorem wk_law_like {P : Program} {w : PySem.World} {K : PySem.W.Frag} {mg : Str → Option Value} {base : Heap} {k : Nat} (c : Cf P w K mg base) (R_law_like : FD) (A_law_like : FunAt P w K mg base k (He.ga K "_law_like") 2 [] R_law_like) (f : Addr) (cdv : Value) : Walked P w K mg base k N_law_like "_law_like" (L2.defScope s_law_like) f cdv (L2.defBody s_law_like) (t_law_like R_law_like) := by
  intro A outer s H E hr
  have nd : N_law_like.Nodup := sc_law_like.nd
  have tk := wk_takes (P := P) (w := w) (K := K) (mg := mg) (base := base) (qual := "_law_like") (scope := L2.defScope s_law_like) (f := f) (N := N_law_like) (cdv := cdv) (A := A) (outer := outer) (s := s) (H := H) (E := E)
  have hp := wk_passes (P := P) (w := w) (K := K) (mg := mg) (base := base) (qual := "_law_like") (scope := L2.defScope s_law_like) (f := f) (N := N_law_like) (cdv := cdv) (A := A) (outer := outer) (s := s) (H := H) (E := E)
  have hu := hr.units
  have hu65 := un65 hr
  have hu1 := un1 hr
  exact (pssd_cons (psd_if (pdt_w (pdw_or (pdt_val (pd_isi rfl c.n_isinstance (pda_cons (pd_var 1) (pda_cons (pd_bty rfl c.n_tuple (by decide +kernel)) pda_nil)))) (pdw_or1 (pdt_val (pd_isi rfl c.n_isinstance (pda_cons (pd_var 1) (pda_cons (pd_bty rfl c.n_list (by decide +kernel)) pda_nil)))))))
  (pssd_cons (psd_if (pdt_neD hu (pd_isi rfl c.n_isinstance (pda_cons (pd_var 0) (pda_cons (pd_bty rfl c.n_tuple (by decide +kernel)) pda_nil))) (pd_isi rfl c.n_isinstance (pda_cons (pd_var 1) (pda_cons (pd_bty rfl c.n_tuple (by decide +kernel)) pda_nil))))
  (pssd_one (psd_ret pd_bl))
  pssd_nil)
  (pssd_cons (psd_if (pdt_w (pdw_or (pdt_neD hu (pd_isi rfl c.n_isinstance (pda_cons (pd_var 0) (pda_cons (pd_bty rfl c.n_list (by decide +kernel)) pda_nil))) (pd_isi rfl c.n_isinstance (pda_cons (pd_var 1) (pda_cons (pd_bty rfl c.n_list (by decide +kernel)) pda_nil)))) (pdw_or1 (pdt_neD hu (pd_lenX rfl c.n_len (pda_cons (pd_var 0) pda_nil)) (pd_lenX rfl c.n_len (pda_cons (pd_var 1) pda_nil))))))
  (pssd_one (psd_ret pd_bl))
  pssd_nil)
  (pssd_one (psd_ret (pd_eqD hu (pd_lcx (own := [("_law_k", 2)]) false rfl nd (PIxd.of (pid_range1 rfl c.n_range (pda_cons (pd_lenX rfl c.n_len (pda_cons (pd_var 1) pda_nil)) pda_nil))) (BO_law_like (by decide +kernel)) (fun _ _ _ _ _ => (pgw_name 2 nd)) (fun _ _ _ _ _ => (ptsd_one (pdt_not (pdt_val (pd_call A_law_like hr (Nat.le_refl _) rfl c.g_law_like c.k_law_like LamX.takes0 (pda_cons (pd_ix (pd_var 0) (pd_var 2)) (pda_cons (pd_ix (pd_var 1) (pd_var 2)) pda_nil))))))) (fun _ _ _ _ _ => (pd_var 2))) (pd_lst false pda_nil))))))
  pssd_nil)
  (pssd_cons (psd_if (pdt_neD hu (pd_isi rfl c.n_isinstance (pda_cons (pd_var 0) (pda_cons (pd_bty rfl c.n_bool (by decide +kernel)) pda_nil))) (pd_isi rfl c.n_isinstance (pda_cons (pd_var 1) (pda_cons (pd_bty rfl c.n_bool (by decide +kernel)) pda_nil))))
  (pssd_one (psd_ret pd_bl))
  pssd_nil)
  (pssd_cons (psd_if (pdt_w (pdw_or (pdt_neD hu (pd_isi rfl c.n_isinstance (pda_cons (pd_var 0) (pda_cons (pd_bty rfl c.n_int (by decide +kernel)) pda_nil))) (pd_isi rfl c.n_isinstance (pda_cons (pd_var 1) (pda_cons (pd_bty rfl c.n_int (by decide +kernel)) pda_nil)))) (pdw_or1 (pdt_neD hu (pd_isi rfl c.n_isinstance (pda_cons (pd_var 0) (pda_cons (pd_bty rfl c.n_str (by decide +kernel)) pda_nil))) (pd_isi rfl c.n_isinstance (pda_cons (pd_var 1) (pda_cons (pd_bty rfl c.n_str (by decide +kernel)) pda_nil)))))))
  (pssd_one (psd_ret pd_bl))
  pssd_nil)
  (pssd_one (psd_ret (pd_eqD hu (pd_var 0) (pd_var 1)))))))
theorem sc_law : FnScope N_law ["_law_script"] (L2.defScope s_law) := ⟨rfl, rfl, rfl, by decide +kernel, rfl, by decide +kernel, by decide +kernel⟩
theorem BO_law {sc : Scope} {own : List (Str × Nat)} (h : L2.blkC N_law (L2.defScope s_law) sc own = true) : BlkOk N_law (L2.defScope s_law) sc own := blkOk_by h
theorem wk_law {P : Program} {w : PySem.World} {K : PySem.W.Frag} {mg : Str → Option Value} {base : Heap} {k : Nat} (c : Cf P w K mg base) (A_law_dice : FunAt P w K mg base k (He.ga K "_law_dice") 1 [] P_law_dice) (A_law_lot : FunAt P w K mg base k (He.ga K "_law_lot") 1 [] P_law_lot) (A_law_next : FunAt P w K mg base k (He.ga K "_law_next") 2 [] P_law_next) (A_law_batch : FunAt P w K mg base k (He.ga K "_law_batch") 2 [] P_law_batch) (A_law_at : FunAt P w K mg base k (He.ga K "_law_at") 2 [] P_law_at) (A_plain : FunAt P w K mg base k (He.ga K "plain") 2 [] P_plain) (A_law_like : FunAt P w K mg base k (He.ga K "_law_like") 2 [] P_law_like) {fdT : FuncData} (FT : FunD K "_law_told" "_law_told" (L2.defArgs s_law_told) (L2.defBody s_law_told) (L2.defScope s_law_told) [] [] (He.ga K "_law_told") fdT)
    {P0 cc : Addr} (TB : LamX.TabB base mg cc P0) (f : Addr) : Walked P w K mg base (k + 2) N_law "law" (L2.defScope s_law) f (.ref cc) (L2.defBody s_law) (t_law P0) := by
  intro A0 outer s H E hr2
  have hr := hr2.mono (Nat.le_add_right k 2)
  have nd : N_law.Nodup := sc_law.nd
  have tk := wk_takes (P := P) (w := w) (K := K) (mg := mg) (base := base) (qual := "law") (scope := L2.defScope s_law) (f := f) (N := N_law) (cdv := .ref cc) (A := A0) (outer := outer) (s := s) (H := H) (E := E)
  have hp := wk_passes (P := P) (w := w) (K := K) (mg := mg) (base := base) (qual := "law") (scope := L2.defScope s_law) (f := f) (N := N_law) (cdv := .ref cc) (A := A0) (outer := outer) (s := s) (H := H) (E := E)
  have hu := hr.units
  have hu65 := un65 hr
  have hu1 := un1 hr
  have tkb := FT.bindsN (ps := ["_law_work"]) fun _ _ _ _ _ _ us hl => match us, hl with | [_], _ => rfl
  obtain ⟨oc, od, dV, kV, doc, pm, an, cdg, ct, osl, rfl, tlk, thc, _, _⟩ := FT.ex
  have hsu : ∀ (s' : Shared) (H' : Hp) (a : Addr) (oe : Obj) (k : Str) (d : Option Addr) (pn : List (Addr × Obj)), Zc (.ref (He.ga K k)) d oe → (∃ vs, oe.data = .fields vs) →
      PSsd ((cxOf C8.CX0 P w K mg base N_law_told "_law_told" (L2.defScope s_law_told) (He.ga K "_law_told") cdg (A0.deeper (envOfC "law" (L2.defScope s_law) s.heap.objs.size f (.ref cc))) (envOfC "law" (L2.defScope s_law) s.heap.objs.size f (.ref cc) :: outer) s' H' C8.E0).nox.suite a ((a, oe) :: pn)) W0 (tSuite s_law_told) (ts_law_told a d k) :=
    fun s' H' a oe k d pn hz hf => wk_suite c (un80 hr) a oe k d pn hz hf
  exact (pssd_cons (psd_set 1 nd (pd_call A_law_dice hr (Nat.le_refl _) rfl c.g_law_dice c.k_law_dice tk (pda_cons (pd_var 0) pda_nil)))
  (pssd_cons (psd_for hp rfl (pid_range1 rfl c.n_range (pda_cons pd_int pda_nil)) (pgd_name 2 nd)
  (pssd_cons (psd_set 3 nd (pd_call A_law_lot hr (Nat.le_refl _) rfl c.g_law_lot c.k_law_lot tk (pda_cons (pd_var 1) pda_nil)))
  (pssd_cons (psd_setLcx (own := [("_law_k", 5)]) false 4 rfl nd (PIxd.of (pid_range1 rfl c.n_range (pda_cons (pd_call A_law_next hr (Nat.le_refl _) rfl c.g_law_next c.k_law_next tk (pda_cons (pd_var 1) (pda_cons pd_int pda_nil))) pda_nil))) (BO_law (by decide +kernel)) (fun _ _ _ _ _ => (pgw_name 5 nd)) (fun _ _ _ _ _ => ptsd_nil) (fun _ _ _ _ _ => (pd_call A_law_batch hr (Nat.le_refl _) rfl c.g_law_batch c.k_law_batch LamX.takes0 (pda_cons (pd_var 1) (pda_cons (pd_var 3) pda_nil)))))
  (pssd_cons (psd_set 6 nd (pd_lst false (pda_cons (pd_call A_law_next hr (Nat.le_refl _) rfl c.g_law_next c.k_law_next tk (pda_cons (pd_var 1) (pda_cons (pd_addX false (pd_lenX rfl c.n_len (pda_cons (pd_var 4) pda_nil)) pd_int) pda_nil))) (pda_cons (pd_lenX rfl c.n_len (pda_cons (pd_var 4) pda_nil)) (pda_cons (pd_addX false (pd_addX false (pd_lenX rfl c.n_len (pda_cons (pd_var 4) pda_nil)) pd_int) (pd_call A_law_next hr (Nat.le_refl _) rfl c.g_law_next c.k_law_next tk (pda_cons (pd_var 1) (pda_cons pd_int pda_nil)))) (pda_cons (pd_neg pd_int) pda_nil))))))
  (pssd_cons (psd_set 6 nd (pd_ix (pd_var 6) (pd_call A_law_next hr (Nat.le_refl _) rfl c.g_law_next c.k_law_next tk (pda_cons (pd_var 1) (pda_cons pd_int pda_nil)))))
  (pssd_cons (psd_par 7 8 rfl nd (pda_cons (pd_call A_law_next hr (Nat.le_refl _) rfl c.g_law_next c.k_law_next tk (pda_cons (pd_var 1) (pda_cons (pd_addX false (pd_lenX rfl c.n_len (pda_cons (pd_var 4) pda_nil)) pd_int) pda_nil))) (pda_cons (pd_eqD hu (pd_call A_law_next hr (Nat.le_refl _) rfl c.g_law_next c.k_law_next tk (pda_cons (pd_var 1) (pda_cons pd_int pda_nil))) pd_int) pda_nil)))
  (pssd_cons (psd_set 9 nd (pd_ix (pd_lst false (pda_cons (pd_tup (pda_cons pd_int (pda_cons pd_int pda_nil))) (pda_cons (pd_tup (pda_cons pd_int (pda_cons pd_int pda_nil))) (pda_cons (pd_tup (pda_cons (pd_neg pd_int) (pda_cons pd_int pda_nil))) (pda_cons (pd_if (pdt_neD hu (pd_var 4) (pd_lst false pda_nil)) (pd_ix (pd_ix (pd_var 4) pd_int) pd_int) (pd_tup (pda_cons pd_int (pda_cons (pd_neg pd_int) pda_nil)))) pda_nil))))) (pd_call A_law_next hr (Nat.le_refl _) rfl c.g_law_next c.k_law_next tk (pda_cons (pd_var 1) (pda_cons pd_int pda_nil)))))
  (pssd_cons (psd_set 10 nd (pd_tup (pda_cons pd_str (pda_cons pd_str pda_nil))))
  (pssd_cons (psd_if (pdt_chain op_le op_le oLe_ok oLe_ok pd_int (pd_var 6) (pd_lenX rfl c.n_len (pda_cons (pd_var 4) pda_nil)))
  (pssd_one (psd_set 10 nd (pd_call A_law_at hr (Nat.le_refl _) rfl c.g_law_at c.k_law_at tk (pda_cons (pd_var 4) (pda_cons (pd_var 6) pda_nil)))))
  pssd_nil)
  (pssd_cons (psd_set 11 nd (pd_list false rfl c.n_list (pda_cons (pd_var 4) pda_nil)))
  (pssd_cons (psd_if (pdt_val (pd_var 8))
  (pssd_cons (psd_set 11 nd (pd_addX false (pd_addX false (pd_slX false (pd_var 4) pdo_none (pdo_some (pd_var 7))) (pd_lst false (pda_cons (pd_if (pdt_w (pdw_and (pdt_neD hu (pd_var 4) (pd_lst false pda_nil)) (pdw_and1 (pdt_lt (pd_ix (pd_var 9) pd_int) pd_int)))) (pd_mulX false (pd_slX false (pd_ix (pd_var 4) pd_int) pdo_none (pdo_some pd_int)) pd_int) (pd_lst false (pda_cons (pd_var 9) pda_nil))) pda_nil))) (pd_slX false (pd_var 4) (pdo_some (pd_var 7)) pdo_none)))
  (pssd_one (psd_set 10 nd (pd_tup (pda_cons pd_str (pda_cons pd_str (pda_cons (pd_if (pdt_w (pdw_and (pdt_neD hu (pd_var 4) (pd_lst false pda_nil)) (pdw_and1 (pdt_lt (pd_ix (pd_var 9) pd_int) pd_int)))) pd_int pd_int) pda_nil)))))))
  pssd_nil)
  (pssd_cons (psd_set 12 nd (pd_lcx (own := [("_law_batch_here", 13)]) false rfl nd (PIxd.of (pid_list (pd_var 11))) (BO_law (by decide +kernel)) (fun _ _ _ _ _ => (pgw_name 13 nd)) (fun _ _ _ _ _ => ptsd_nil) (fun _ _ _ _ _ => (pd_list false rfl c.n_list (pda_cons (pd_var 13) pda_nil)))))
  (pssd_one (psd_for hp rfl (pid_range1 rfl c.n_range (pda_cons pd_int pda_nil)) (pgd_name 14 nd)
  (pssd_cons (psd_set 15 nd (pd_told (Ng := N_law_told) rfl c.g_law_told c.k_law_told tlk thc tkb sc_law_told rfl (.inl rfl) rfl c.g_LeafError rfl sc_law_told.nd rfl rfl hsu (c.exm) TB rfl hr2 (LamX.lamS_by (sc := L2.defScope s_law) (by decide +kernel)) rfl (fun _ _ _ _ _ => rfl)
    (fun A outer s H E f c' hr => (pd_call A_plain hr (Nat.le_refl _) rfl c.g_plain c.k_plain wl_takes (pda_cons (pd_var 12) (pda_cons (pd_var 6) pda_nil)))) (show ("law.<locals>.<lambda>" : Str) = ("law" : Str) ++ ".<locals>." ++ "<lambda>" from by decide +kernel)))
  (pssd_cons (psd_if (pdt_w (pdw_or (pdt_not (pdt_val (pd_call A_law_like hr (Nat.le_refl _) rfl c.g_law_like c.k_law_like tk (pda_cons (pd_var 15) (pda_cons (pd_var 10) pda_nil))))) (pdw_or1 (pdt_neD hu (pd_var 12) (pd_var 11)))))
  (pssd_one (psd_ret pd_bl))
  pssd_nil)
  (pssd_one (psd_if (pdt_val (pd_isi rfl c.n_isinstance (pda_cons (pd_var 15) (pda_cons (pd_bty rfl c.n_list (by decide +kernel)) pda_nil))))
  (pssd_one (psd_expr (pd_append (pd_var 15) (pda_cons pd_int pda_nil))))
  pssd_nil))))))))))))))))))
  (pssd_one (psd_ret pd_bl))))
/-! ### the head -/
abbrev s_init_BadBatch : Stmt := L2.inClass (top 2) 0
def d_law_dice : He.DefD := ⟨("_law_dice", none), "_law_dice", "_law_dice", L2.defArgs s_law_dice, L2.defBody s_law_dice, L2.defScope s_law_dice, [], []⟩
def d_law_next : He.DefD := ⟨("_law_next", none), "_law_next", "_law_next", L2.defArgs s_law_next, L2.defBody s_law_next, L2.defScope s_law_next, [], []⟩
def d_law_lot : He.DefD := ⟨("_law_lot", none), "_law_lot", "_law_lot", L2.defArgs s_law_lot, L2.defBody s_law_lot, L2.defScope s_law_lot, [], []⟩
def d_law_batch : He.DefD := ⟨("_law_batch", none), "_law_batch", "_law_batch", L2.defArgs s_law_batch, L2.defBody s_law_batch, L2.defScope s_law_batch, [], []⟩
def d_law_at : He.DefD := ⟨("_law_at", none), "_law_at", "_law_at", L2.defArgs s_law_at, L2.defBody s_law_at, L2.defScope s_law_at, [], []⟩
def d_law_told : He.DefD := ⟨("_law_told", none), "_law_told", "_law_told", L2.defArgs s_law_told, L2.defBody s_law_told, L2.defScope s_law_told, [], []⟩
def d_need_moment : He.DefD := ⟨("need_moment", none), "need_moment", "need_moment", L2.defArgs s_need_moment, L2.defBody s_need_moment, L2.defScope s_need_moment, [], []⟩
def d_is_row : He.DefD := ⟨("is_row", none), "is_row", "is_row", L2.defArgs s_is_row, L2.defBody s_is_row, L2.defScope s_is_row, [], []⟩
def d_need_batch : He.DefD := ⟨("need_batch", none), "need_batch", "need_batch", L2.defArgs s_need_batch, L2.defBody s_need_batch, L2.defScope s_need_batch, [], []⟩
def d_plain : He.DefD := ⟨("plain", none), "plain", "plain", L2.defArgs s_plain, L2.defBody s_plain, L2.defScope s_plain, [], []⟩
def d_law_like : He.DefD := ⟨("_law_like", none), "_law_like", "_law_like", L2.defArgs s_law_like, L2.defBody s_law_like, L2.defScope s_law_like, [], []⟩
def d_law : He.DefD := ⟨("law", none), "law", "law", L2.defArgs s_law, L2.defBody s_law, L2.defScope s_law, [], []⟩
def d_init_BadBatch : He.DefD := ⟨("BadBatch", some "__init__"), "__init__", "BadBatch.__init__", L2.defArgs s_init_BadBatch, L2.defBody s_init_BadBatch, L2.defScope s_init_BadBatch, [], []⟩
def fn : List He.DefD := [d_law_dice, d_law_next, d_law_lot, d_law_batch, d_law_at, d_law_told, d_need_moment, d_is_row, d_need_batch, d_plain, d_law_like, d_law, d_init_BadBatch]
def fa : List He.Fa := [.free "int", .free "len", .glo "_law_next", .keep "_law_next", .free "range", .free "dict", .free "sorted", .free "isinstance", .glo "BadKey", .glo "BadMost", .glo "BadBatch", .glo "NoBatch", .glo "Underway", .glo "BadMoment", .glo "BadText", .free "ValueError", .exc "BadMoment", .int "KEYS" (1000), .int "WORTHS" (10000), .free "enumerate", .int "MOST_BATCH" (40), .glo "is_row", .keep "is_row", .glo "need_batch", .keep "need_batch", .glo "need_moment", .keep "need_moment", .free "tuple", .free "list", .glo "_law_like", .keep "_law_like", .free "bool", .free "str", .glo "_law_dice", .keep "_law_dice", .glo "_law_lot", .keep "_law_lot", .glo "_law_batch", .keep "_law_batch", .glo "_law_at", .keep "_law_at", .glo "plain", .keep "plain", .glo "_law_told", .keep "_law_told", .glo "LeafError", .glo "LeafError", .glo "law"]
def cviB (K : PySem.W.Frag) (L : Addr) : Bool := match PySem.W.findCls K (.ref L) (.type "type") "__init__" with
  | some (.val (.builtin n)) => n == "ValueError.__init__"
  | _ => false
def ex (K : PySem.W.Frag) : Bool := exsB excs isX fldX K && (crdB K (He.ga K "LeafError") && cviB K (He.ga K "LeafError"))
abbrev RR : PySem.W.OpenRow := PySem.W.OpenLaw.row PySem.Challenge.rw_timeleaf_k11_plainly
def tf : List He.Defn := [("law", none)]
abbrev hk : PySem.W.Hook := hookC 5 fa fn tf ex
def ob (s : PySem.W.SharedT) : He.AlX := obsC 5 fa fn tf ex (HandSHeadRun.getT s)
theorem ob_eq (s : PySem.W.SharedT) : ob s = hk.obs s.abs := obsC_eq (HandSHeadRun.getT_eq s)
def loose : List Str := ["LeafError", "BadBatch", "BadMost", "BadKey", "BadMoment", "Underway", "NoBatch", "BadText", "KEYS", "WORTHS", "MOST_BATCH", "is_row", "need_batch", "need_moment", "plain", "_law_dice", "_law_next", "_law_like", "_law_told", "_law_lot", "_law_batch", "_law_at"]
theorem run (w : PySem.World) : HandSHeadRun.RunEq RR (PySem.W.view RR.prog [25]) hk ob 3000 loose w := by
  intro os
  kernel_rfl
theorem cf_of {P : Program} {w : PySem.World} {K : PySem.W.Frag} {mg : Str → Option Value} {base : Heap} (X : K.In base) (G : base.Ns mainGlobals mg) (c : He.SaysD fa fn K) (hx : ex K = true) : Cf P w K mg base := by
  have hE := hx
  unfold ex at hE
  simp only [Bool.and_eq_true] at hE
  obtain ⟨hE, hb0⟩ := hE
  have eo := exsB_ok hE
  exact {
    n_int := He.free_ok X G (c.fact 0 rfl)
    n_len := He.free_ok X G (c.fact 1 rfl)
    g_law_next := He.glo_ok X G (c.fact 2 rfl)
    k_law_next := He.keep_ok (c.fact 3 rfl)
    n_range := He.free_ok X G (c.fact 4 rfl)
    n_dict := He.free_ok X G (c.fact 5 rfl)
    n_sorted := He.free_ok X G (c.fact 6 rfl)
    n_isinstance := He.free_ok X G (c.fact 7 rfl)
    g_BadKey := He.glo_ok X G (c.fact 8 rfl)
    kit := fun k nm b h => by
      unfold subC at h
      split at h
      · rename_i hh; cases h; exact eo.kit k hh.1 nm hh.2
      · cases h
    exc := fun k h => eo.exc k h
    g_BadMost := He.glo_ok X G (c.fact 9 rfl)
    g_BadBatch := He.glo_ok X G (c.fact 10 rfl)
    g_NoBatch := He.glo_ok X G (c.fact 11 rfl)
    g_Underway := He.glo_ok X G (c.fact 12 rfl)
    g_BadMoment := He.glo_ok X G (c.fact 13 rfl)
    g_BadText := He.glo_ok X G (c.fact 14 rfl)
    n_ValueError := He.free_ok X G (c.fact 15 rfl)
    kitv := fun k h => eo.kitv k h
    xf := fun k h => eo.xf k h
    no_row := fun k h => eo.no ("BadBatch", "row") (by decide +kernel) k h
    xo_BadMoment := XoF.of (c.fact 16 rfl)
    i_KEYS := He.int_ok X G (c.fact 17 rfl)
    i_WORTHS := He.int_ok X G (c.fact 18 rfl)
    xi_BadBatch := by
      obtain ⟨fd, F⟩ := c.def_ 12 (d := d_init_BadBatch) rfl
      refine wk_init (m := "a batch that can't be") (st := s_init_BadBatch) (qual := "BadBatch.__init__") F ⟨rfl, rfl, rfl, by decide +kernel, rfl, by decide +kernel, by decide +kernel⟩ (fun _ _ _ _ _ _ us hl => match us, hl with | [_, _], _ => rfl) (fun cdv A outer s H E => ?_) (eo.ox ("BadBatch", "row") (by decide +kernel)) (eo.ini ("BadBatch", "row") (by decide +kernel)) (eo.fn ("BadBatch", "row") (by decide +kernel)) (eo.no ("BadBatch", "row") (by decide +kernel) "BadBatch" (by decide +kernel))
      have hcv : PySem.W.findCls K (.ref (He.ga K "LeafError")) (.type "type") "__init__" = some (.val (.builtin "ValueError.__init__")) := cvi_ok' hb0.2
      exact pss_cons (ps_expr (pe_baseinit rfl (He.glo_ok X G (c.fact 46 rfl)) (crdB_ok hb0.1) hcv (pa_cons (pe_var (i := 0) rfl (Or.inl rfl)) (pa_cons pe_str pa_nil)))) (pss_one (ps_ost (pe_var (i := 0) rfl (Or.inl rfl)) (pe_var (i := 1) rfl (Or.inl rfl))))
    n_enumerate := He.free_ok X G (c.fact 19 rfl)
    i_MOST_BATCH := He.int_ok X G (c.fact 20 rfl)
    g_is_row := He.glo_ok X G (c.fact 21 rfl)
    k_is_row := He.keep_ok (c.fact 22 rfl)
    g_need_batch := He.glo_ok X G (c.fact 23 rfl)
    k_need_batch := He.keep_ok (c.fact 24 rfl)
    g_need_moment := He.glo_ok X G (c.fact 25 rfl)
    k_need_moment := He.keep_ok (c.fact 26 rfl)
    n_tuple := He.free_ok X G (c.fact 27 rfl)
    n_list := He.free_ok X G (c.fact 28 rfl)
    g_law_like := He.glo_ok X G (c.fact 29 rfl)
    k_law_like := He.keep_ok (c.fact 30 rfl)
    n_bool := He.free_ok X G (c.fact 31 rfl)
    n_str := He.free_ok X G (c.fact 32 rfl)
    g_law_dice := He.glo_ok X G (c.fact 33 rfl)
    k_law_dice := He.keep_ok (c.fact 34 rfl)
    g_law_lot := He.glo_ok X G (c.fact 35 rfl)
    k_law_lot := He.keep_ok (c.fact 36 rfl)
    g_law_batch := He.glo_ok X G (c.fact 37 rfl)
    k_law_batch := He.keep_ok (c.fact 38 rfl)
    g_law_at := He.glo_ok X G (c.fact 39 rfl)
    k_law_at := He.keep_ok (c.fact 40 rfl)
    g_plain := He.glo_ok X G (c.fact 41 rfl)
    k_plain := He.keep_ok (c.fact 42 rfl)
    g_law_told := He.glo_ok X G (c.fact 43 rfl)
    k_law_told := He.keep_ok (c.fact 44 rfl)
    g_LeafError := He.glo_ok X G (c.fact 45 rfl)
    exm := fun k b h => by
      unfold subT at h
      split at h
      · rename_i hh; cases h; exact eo.exm k hh "LeafError" (by decide +kernel)
      · cases h }
theorem all_ok {P : Program} {w : PySem.World} {K : PySem.W.Frag} {mg : Str → Option Value} {base : Heap} (X : K.In base) (G : base.Ns mainGlobals mg) (c : He.SaysD fa fn K) (hx : ex K = true) (TB : LamX.TabB base mg (He.cT K ("law", none)).1 (He.cT K ("law", none)).2) {fd : FuncData} (F : FunD K "law" "law" (L2.defArgs s_law) (L2.defBody s_law) (L2.defScope s_law) [] [] (He.fAd K ("law", none)) fd) :
    FnOk P w K mg base (L2.CX P w) 11 (He.fAd K ("law", none)) fd ["_law_script"] (spD K 1 (P_law (He.cT K ("law", none)).2)) := by
  have cf : Cf P w K mg base := cf_of X G c hx
  obtain ⟨fd_law_dice, F_law_dice⟩ := c.def_ 0 (d := d_law_dice) rfl
  have A_law_dice : FunAt P w K mg base 1 (He.ga K "_law_dice") 1 [] P_law_dice := FunAt.of0 F_law_dice sc_law_dice rfl (fun _ _ _ _ _ _ us hl => match us, hl with | [_], _ => rfl) (wk_law_dice (k := 0) cf  _)
  obtain ⟨fd_law_next, F_law_next⟩ := c.def_ 1 (d := d_law_next) rfl
  have A_law_next : FunAt P w K mg base 1 (He.ga K "_law_next") 2 [] P_law_next := FunAt.of0 F_law_next sc_law_next rfl (fun _ _ _ _ _ _ us hl => match us, hl with | [_, _], _ => rfl) (wk_law_next (k := 0) cf  _)
  obtain ⟨fd_law_lot, F_law_lot⟩ := c.def_ 2 (d := d_law_lot) rfl
  have A_law_lot : FunAt P w K mg base 2 (He.ga K "_law_lot") 1 [] P_law_lot := FunAt.of0 F_law_lot sc_law_lot rfl (fun _ _ _ _ _ _ us hl => match us, hl with | [_], _ => rfl) (wk_law_lot (k := 1) cf (A_law_next.mono (by decide)) _)
  obtain ⟨fd_law_batch, F_law_batch⟩ := c.def_ 3 (d := d_law_batch) rfl
  have A_law_batch : FunAt P w K mg base 2 (He.ga K "_law_batch") 2 [] P_law_batch := FunAt.of0 F_law_batch sc_law_batch rfl (fun _ _ _ _ _ _ us hl => match us, hl with | [_, _], _ => rfl) (wk_law_batch (k := 1) cf (A_law_next.mono (by decide)) _)
  obtain ⟨fd_law_at, F_law_at⟩ := c.def_ 4 (d := d_law_at) rfl
  have A_law_at : FunAt P w K mg base 1 (He.ga K "_law_at") 2 [] P_law_at := FunAt.of0 F_law_at sc_law_at rfl (fun _ _ _ _ _ _ us hl => match us, hl with | [_, _], _ => rfl) (wk_law_at (k := 0) cf  _)
  obtain ⟨fd_need_moment, F_need_moment⟩ := c.def_ 6 (d := d_need_moment) rfl
  have A_need_moment : FunAt P w K mg base 1 (He.ga K "need_moment") 3 [] P_need_moment := FunAt.of0 F_need_moment sc_need_moment rfl (fun _ _ _ _ _ _ us hl => match us, hl with | [_, _, _], _ => rfl) (wk_need_moment (k := 0) cf  _)
  obtain ⟨fd_is_row, F_is_row⟩ := c.def_ 7 (d := d_is_row) rfl
  have A_is_row : FunAt P w K mg base 1 (He.ga K "is_row") 2 [] P_is_row := FunAt.of0 F_is_row sc_is_row rfl (fun _ _ _ _ _ _ us hl => match us, hl with | [_, _], _ => rfl) (wk_is_row (k := 0) cf  _)
  obtain ⟨fd_need_batch, F_need_batch⟩ := c.def_ 8 (d := d_need_batch) rfl
  have A_need_batch : FunAt P w K mg base 3 (He.ga K "need_batch") 1 [] P_need_batch := FunAt.of0 F_need_batch sc_need_batch rfl (fun _ _ _ _ _ _ us hl => match us, hl with | [_], _ => rfl) (wk_need_batch (k := 2) cf (A_is_row.mono (by decide)) (by decide) _)
  obtain ⟨fd_plain, F_plain⟩ := c.def_ 9 (d := d_plain) rfl
  have A_plain : FunAt P w K mg base 4 (He.ga K "plain") 2 [] P_plain := FunAt.of0 F_plain sc_plain rfl (fun _ _ _ _ _ _ us hl => match us, hl with | [_, _], _ => rfl) (wk_plain (k := 3) cf (A_need_batch.mono (by decide)) (A_need_moment.mono (by decide)) _)
  obtain ⟨fd_law_like, F_law_like⟩ := c.def_ 10 (d := d_law_like) rfl
  have B_law_like : ∀ j, FunAt P w K mg base (0 + j) (He.ga K "_law_like") 2 [] (PR_law_like j) := fun j => by
    induction j with
    | zero => exact FunAt.none (ps := ["_law_found", "_law_due"]) F_law_like (fun _ _ _ _ _ _ us hl => match us, hl with | [_, _], _ => rfl)
    | succ j ih => exact FunAt.of0 F_law_like sc_law_like rfl (fun _ _ _ _ _ _ us hl => match us, hl with | [_, _], _ => rfl) (wk_law_like cf (PR_law_like j) ih _)
  have A_law_like : FunAt P w K mg base 8 (He.ga K "_law_like") 2 [] P_law_like := B_law_like 8
  obtain ⟨fdT, FT⟩ := c.def_ 5 (d := d_law_told) rfl
  exact fnOk_ofC F sc_law rfl (wk_law (k := 8) cf (A_law_dice.mono (by decide)) (A_law_lot.mono (by decide)) (A_law_next.mono (by decide)) (A_law_batch.mono (by decide)) (A_law_at.mono (by decide)) (A_plain.mono (by decide)) (A_law_like.mono (by decide)) FT TB _)
end W_k11
open PySem PySem.W PySem.Calls PyProof.Rows in
/-- the row from the plain law -/
theorem W_k11.row (pure : ∀ (P0 : Addr) (ns : List Int), ns.length ≤ 63 → (∀ z ∈ ns, Builtin.Int.intBits z ≤ 1048576) → W_k11.P_law P0 [.kls (ns.map Dx.D.int)] [.tab P0 "law.<locals>.<lambda>"] (fun d _ => d = .bl true) (fun _ _ _ => False)) : PySem.Challenge.rw_timeleaf_k11_plainly.Holds := by
  w_on; o_law
  refine HandSHeadRun.head_any (r := OpenLaw.row PySem.Challenge.rw_timeleaf_k11_plainly) (q := view (OpenLaw.row PySem.Challenge.rw_timeleaf_k11_plainly).prog [25]) (H := W_k11.hk) (ob := W_k11.ob) (M := 3000) (loose := W_k11.loose) (d := HandSHeadRun.topDef (OpenLaw.row PySem.Challenge.rw_timeleaf_k11_plainly).prog 25) (kwd := []) W_k11.ob_eq
    (by kernel_rfl) (fun s => by kernel_rfl) W_k11.run (by kernel_rfl) (by kernel_rfl) (by kernel_rfl) (by rfl) (by first | assumption | decide +kernel) (by decide +kernel) ⟨rfl, rfl, rfl, rfl, rfl, by decide +kernel⟩ ?hw ?hc
  case hw => w_witness2
  case hc =>
    refine LamX.walk_ofTsE (l := PySem.Challenge.rw_timeleaf_k11_plainly) (n := 63) (k := 11) (x := "_law_script") (CX := fun w => L2.CX PySem.Challenge.rw_timeleaf_k11_plainly.prog w) rfl (by decide) (by kernel_rfl) ⟨rfl, by decide, by decide⟩ ?F (fun _ _ _ _ _ ⟨_, _, _, _, _, _, _, _, _, _, _, _, z⟩ => z)
    intro w mg fa h Y G hmg0
    obtain ⟨K, KX, c⟩ := Y
    have hmg : mg ("law" : PySem.Str) = some (.ref fa) := by
      have e : (HandSHeadRun.topDef (OpenLaw.row PySem.Challenge.rw_timeleaf_k11_plainly).prog 25).name = ("law" : PySem.Str) := by kernel_rfl
      rw [← e]
      exact hmg0
    have e := hmg.symm.trans (He.glo_ok KX G (x := "law") (c.t.d.fact 47 rfl))
    cases e
    obtain ⟨fd, F⟩ := c.t.d.def_ 11 (d := W_k11.d_law) rfl
    exact ⟨K, KX, Dx.law_at c KX F (fun _ _ _ _ _ _ us hl => match us, hl with | [_], _ => rfl) (fun ns h1 h2 => pure _ ns h1 h2) fun base b1 b2 tb => W_k11.all_ok b1 b2 c.t.d c.more tb F⟩
/-! P11: the plain law of k11. -/
namespace W_k11
open PySem PySem.Spec PyProof.Rows L2 Dx Tl
theorem lst_end (M : List MO) (xs : List D) (N : List MO) : lstAt (M ++ (.lst xs :: N)) M.length = some xs := lstAt_of (by simp)
theorem lst_end1 (M : List MO) (a : MO) (xs : List D) (N : List MO) : lstAt (M ++ (a :: .lst xs :: N)) (M.length + 1) = some xs := lstAt_of (by rw [List.getElem?_append_right (by omega)]; simp)
theorem set_end1 (M : List MO) (a b c : MO) (N : List MO) : (M ++ (a :: b :: N)).set (M.length + 1) c = M ++ (a :: c :: N) := by
  rw [List.set_append_right _ _ (by omega)]
  have e : M.length + 1 - M.length = 1 := by omega
  rw [e]
  rfl
theorem ty_list {M : Mem} {n : Nat} {xs : List D} (h : lstAt M n = some xs) : tyD "list" M (.ref n) := .inl ⟨rfl, by rw [lst_ref, h]; rfl⟩
theorem append_ref {M : Mem} {n : Nat} {xs : List D} {y : D} {R : KD} (h : lstAt M n = some xs) (hl : xs.length < sizeLine) (hR : R .non (M.set n (.lst (xs ++ [y])))) : oAppend (.ref n) [y] M R := ⟨n, xs, y, rfl, rfl, lstAt_iff.mp h, hl, hR⟩
theorem fVs_bl : ∀ xs : List Bool, fVs (xs.map D.bl) = some (xs.map V.bl)
  | [] => rfl
  | x :: xs => by
    show (match fV (.bl x), fVs (xs.map D.bl) with
      | some x, some xs => some (x :: xs)
      | _, _ => none) = _
    rw [fVs_bl]
    rfl
theorem fVs_str : ∀ xs : List Str, fVs (xs.map D.str) = some (xs.map V.str)
  | [] => rfl
  | x :: xs => by
    show (match fV (.str x), fVs (xs.map D.str) with
      | some x, some xs => some (x :: xs)
      | _, _ => none) = _
    rw [fVs_str]
    rfl
/-- the suite of a told: one of seven kinds -/
theorem ts_ok {a : Addr} {d : Option Addr} {E : EndsD} {M : Mem} {S : SS} {fs : List (Str × D)} {k : Str} {b1 b2 b3 b4 b5 b6 b7 : Bool} {j : Nat} {term : Str} (hk : k ∈ excs)
    (s1 : subC k "BadBatch" = some b1) (s2 : subC k "BadMost" = some b2) (s3 : subC k "BadKey" = some b3) (s4 : subC k "BadMoment" = some b4) (s5 : subC k "Underway" = some b5) (s6 : subC k "NoBatch" = some b6) (s7 : subC k "BadText" = some b7)
    (hcnt : (([b1, b2, b3, b4, b5, b6, b7].map V.bl).countP fun z => eqV z (.bl true)) = 1) (hj : ([b1, b2, b3, b4, b5, b6, b7].map V.bl)[j]? = some (.bl true)) (hj2 : ∀ (m : Nat) (z : V), m < j → ([b1, b2, b3, b4, b5, b6, b7].map V.bl)[m]? = some z → eqV z (.bl true) = false)
    (ht : (["batch", "cap", "key", "when", "underway", "none", "text"] : List Str)[j]? = some term)
    (hR : ∀ N : Mem, (inV (.str term) [.str "batch", .str "text"] = false → E.rt (.tup [.str "refused", .str term]) (M ++ N)) ∧ (inV (.str term) [.str "batch", .str "text"] = true → ∃ dd v, d = some dd ∧ fs.lookup ("row" : Str) = some v ∧ E.rt (.tup [.str "refused", .str term, v]) (M ++ N))) :
    ts_law_told a d k E [none, some (.exc a d fs), none, none] M S := by
  refine ⟨hk, ?_⟩
  simp [s1, s2, s3, s4, s5, s6, s7, eIsN]
  refine ⟨by decide, _, lst_end M _ [], (by show 6 ≤ sizeLine; decide), ty_list (lst_end1 M _ _ []), append_ref (lst_end1 M _ _ []) (by show 6 < sizeLine; decide) ?_⟩
  rw [set_end1]
  refine ⟨ty_list (lst_end1 M _ _ []), _, _, _, _, rfl, lst_end1 M _ _ [], rfl, fVs_bl [b1, b2, b3, b4, b5, b6, b7], ?_⟩
  rw [hcnt]
  simp
  refine ⟨by decide, ty_list (lst_end1 M _ _ []), _, _, _, _, j, _, rfl, lst_end1 M _ _ [], rfl, fVs_bl [b1, b2, b3, b4, b5, b6, b7], hj, rfl, hj2, ?_⟩
  simp
  refine ⟨.str term, ?_, by decide, .inl ⟨_, _, _, rfl, rfl, fVs_str ["batch", "text"], ?_⟩⟩
  · rw [Dx.atI_nat]
    have e : ([.str "batch", .str "cap", .str "key", .str "when", .str "underway", .str "none", .str "text"] : List D) = (["batch", "cap", "key", "when", "underway", "none", "text"] : List Str).map D.str := rfl
    rw [e, List.getElem?_map, ht]
    rfl
  · obtain ⟨h1, h2⟩ := hR [.lst [.bl b1, .bl b2, .bl b3], .lst [.bl b1, .bl b2, .bl b3, .bl b4, .bl b5, .bl b6, .bl b7]]
    cases q : inV (.str term) (([.str "batch", .str "text"] : List V)) with
    | false =>
      simp [q]
      exact ⟨by decide, h1 q⟩
    | true =>
      simp [q]
      obtain ⟨dd, v, e1, e2, e3⟩ := h2 q
      exact ⟨_, rfl, dd, fs, v, rfl, e1, e2, by decide, e3⟩
theorem ts_moment {a : Addr} {d : Option Addr} {E : EndsD} {M : Mem} {S : SS} {fs : List (Str × D)} (hR : ∀ N : Mem, E.rt (.tup [.str "refused", .str "when"]) (M ++ N)) : ts_law_told a d "BadMoment" E [none, some (.exc a d fs), none, none] M S :=
  ts_ok (j := 3) (term := "when") (by decide +kernel) (b1 := false) (b2 := false) (b3 := false) (b4 := true) (b5 := false) (b6 := false) (b7 := false) (by decide +kernel) (by decide +kernel) (by decide +kernel) (by decide +kernel) (by decide +kernel) (by decide +kernel) (by decide +kernel) (by decide) rfl (fun m z hm h => by
    match m, hm with
    | 0, _ => cases h; rfl
    | 1, _ => cases h; rfl
    | 2, _ => cases h; rfl) rfl fun N => ⟨fun _ => hR N, fun h => absurd h (by decide +kernel)⟩
theorem ts_batch {a : Addr} {d : Option Addr} {E : EndsD} {M : Mem} {S : SS} {n : Int} (hd : d = none → [(("row" : Str), D.int n)] = []) (hR : ∀ N : Mem, E.rt (.tup [.str "refused", .str "batch", .int n]) (M ++ N)) : ts_law_told a d "BadBatch" E [none, some (.exc a d [("row", .int n)]), none, none] M S :=
  ts_ok (j := 0) (term := "batch") (by decide +kernel) (b1 := true) (b2 := false) (b3 := false) (b4 := false) (b5 := false) (b6 := false) (b7 := false) (by decide +kernel) (by decide +kernel) (by decide +kernel) (by decide +kernel) (by decide +kernel) (by decide +kernel) (by decide +kernel) (by decide) rfl (fun m z hm h => by omega) rfl fun N => ⟨fun h => absurd h (by decide +kernel), fun _ => by
    cases d with
    | none => exact absurd (hd rfl) (by simp)
    | some dd => exact ⟨dd, .int n, rfl, by simp, hR N⟩⟩
theorem told_ok {P0 : Addr} {q : Str} {de : Lo} {M : Mem} {R : KD} {S : SD} {bs : Rows} {m : Int} (h0 : M[0]? = some (.tab P0 q)) (hb : de[12]? = some (some (batsD bs))) (hm : de[6]? = some (some (.int m))) (hl : ∀ b ∈ bs, b.length ≤ sizeLine) (ht : bs.flatten.length < sizeLine)
    (h1 : ∀ n, badIn bs = some n → ∀ N, R (.tup [.str "refused", .str "batch", .int n]) (M ++ N)) (h2 : badIn bs = none → ¬ (0 ≤ m ∧ m ≤ bs.length) → ∀ N, R (.tup [.str "refused", .str "when"]) (M ++ N))
    (h3 : badIn bs = none → ∀ k : Nat, m = k → k ≤ bs.length → R (.ref (M.length + 1)) ((M ++ [.dic (kvR (tab (bs.take k).flatten))]) ++ [.lst ((told bs k).map rowD)])) :
    eTold P0 q 4 1 subT ts_law_told (eCall 2 [] P_plain (aCons (eVar 12) (aCons (eVar 6) aNil))) de M R S := by
  refine ⟨h0, _, hb, _, hm, rfl, plain_ok hl ht (fun n e => ⟨by decide +kernel, fun a d hd => ?_⟩) (fun e1 e2 => ⟨by decide +kernel, fun a d hd => ?_⟩) h3⟩
  · exact ts_batch hd fun N => h1 n e N
  · exact ts_moment fun N => h2 e1 e2 N
/-! ### draws of this law -/
/-- one draw, by the law's name for it -/
theorem draw {M : Mem} {n : Nat} {many : Int} {R : KD} {S : SD} (h : DiceAt M n) (h1 : 0 < many) (h2 : many < 1073741824) (hR : ∀ (r : Int) (M' : Mem), 0 ≤ r → r < many → (∃ x, M' = M.set n x) → DiceAt M' n → R (.int r) M') : P_law_next [.ref n, .int many] M R S := next_ok h h1 h2 hR
/-- the memory but for the dice, told on -/
def Rest (n : Nat) (M M' : Mem) : Prop := ∃ N, M'.length = M.length + N ∧ ∀ i, i ≠ n → i < M.length → M'[i]? = M[i]?
theorem Rest.refl (n : Nat) (M : Mem) : Rest n M M := ⟨0, rfl, fun _ _ _ => rfl⟩
theorem Rest.set {n : Nat} {M M' : Mem} {x : MO} (h : Rest n M M') : Rest n M (M'.set n x) := by
  obtain ⟨N, h1, h2⟩ := h
  exact ⟨N, by rw [List.length_set]; exact h1, fun i hi hl => by rw [List.getElem?_set_ne (Ne.symm hi)]; exact h2 i hi hl⟩
theorem Rest.app {n : Nat} {M M' : Mem} (h : Rest n M M') (N' : Mem) : Rest n M (M' ++ N') := by
  obtain ⟨N, h1, h2⟩ := h
  refine ⟨N + N'.length, by rw [List.length_append, h1]; omega, fun i hi hl => ?_⟩
  rw [List.getElem?_append_left (by omega)]
  exact h2 i hi hl
theorem Rest.trans {n : Nat} {M M1 M2 : Mem} (h : Rest n M M1) (h' : Rest n M1 M2) : Rest n M M2 := by
  obtain ⟨N, h1, h2⟩ := h
  obtain ⟨N', h3, h4⟩ := h'
  exact ⟨N + N', by omega, fun i hi hl => (h4 i hi (by omega)).trans (h2 i hi hl)⟩
theorem atI_any {xs : List D} {r : Int} (h0 : 0 ≤ r) (h : r < xs.length) : ∃ x ∈ xs, atI xs r = some x := by
  have hl : r.toNat < xs.length := by omega
  exact ⟨xs[r.toNat], List.getElem_mem hl, atI_of h0 (List.getElem?_eq_getElem hl)⟩
theorem ix_any {M : Mem} {R : KD} {xs : List D} {r : Int} (h0 : 0 ≤ r) (h : r < xs.length) (hR : ∀ x ∈ xs, R x M) : oIx (.lst xs) (.int r) M R := by
  obtain ⟨x, hx, e⟩ := atI_any h0 h
  exact ⟨xs, r, x, rfl, rfl, e, hR x hx⟩
theorem lot_ok {M : Mem} {n : Nat} {R : KD} {S : SD} (h : DiceAt M n) (hR : ∀ (f m c : Int) (M' : Mem), 0 ≤ f → 0 < m → m ≤ 1000 → f + m ≤ 1000 → 0 < c → c ≤ 40 → Rest n M M' → DiceAt M' n → R (.tup [.int f, .int m, .int c]) M') : P_law_lot [.ref n] M R S := by
  refine ⟨rfl, ?_⟩
  have key : ∀ (de : Lo) (many : Int) (M1 : Mem), 0 < many → many ≤ 1000 → Rest n M M1 → DiceAt M1 n → de = [some (.ref n), some (.int many), none] →
      sSeq (sSet 2 (eCall 2 [] P_law_next (aCons (eVar 0) (aCons (eOp oSub (eC (.int 1001)) (eVar 1)) aNil))))
        (sRet (eTup (aCons (eVar 2) (aCons (eVar 1) (aCons (eOp oIx (eLst false (aCons (eC (.int 1)) (aCons (eC (.int 1)) (aCons (eC (.int 5)) (aCons (eC (.int 40)) aNil))))) (eCall 2 [] P_law_next (aCons (eVar 0) (aCons (eC (.int 4)) aNil)))) aNil))))) ⟨fun _ M' => R .non M', R⟩ de M1 (fun c fs _ M' => S c fs M') := by
    rintro de many M1 m1 m2 r1 d1 rfl
    simp only [q_seq, q_set, q_call, q_cons, q_nil, q_var, q_op, q_c, q_i0, List.getElem?_cons_zero, List.getElem?_cons_succ, Option.some.injEq, exists_eq_left', List.length_cons, List.length_nil, List.append_nil]
    refine ⟨by decide, draw d1 (by omega) (by omega) fun f M2 f1 f2 ⟨x2, e2⟩ d2 => ?_⟩
    refine ⟨_, rfl, _, rfl, ⟨by decide, ⟨_, rfl, rfl, draw d2 (by decide) (by decide) fun c M3 c1 c2 ⟨x3, e3⟩ d3 => ix_any c1 (by simpa using c2) fun x hx => ⟨by show 3 ≤ sizeLine; decide, ?_⟩⟩⟩⟩
    have rr : Rest n M M3 := by rw [e3, e2]; exact (r1.set).set
    simp at hx
    rcases hx with rfl | rfl | rfl | rfl <;> exact hR f many _ M3 f1 m1 m2 (by omega) (by decide) (by decide) rr d3
  refine ⟨by decide, _, rfl, rfl, draw h (by decide) (by decide) fun c M1 c1 c2 ⟨x1, e1⟩ d1 => ix_any c1 (by simpa using c2) fun x hx => ?_⟩
  have rr : Rest n M M1 := by rw [e1]; exact (Rest.refl n M).set
  simp at hx
  rcases hx with rfl | rfl | rfl | rfl <;> exact key _ _ M1 (by decide) (by decide) rr d1 rfl
/-- a batch that can be, of the law's making -/
structure GoodB (b : List Tl.Row) : Prop where
  ne : b ≠ []
  len : b.length ≤ 40
  nd : (b.map (·.1)).Nodup
  ok : ∀ r ∈ b, inB 1000 r.1 = true ∧ ∀ w, r.2 = some w → inB 10000 w = true
structure BInv (n u : Nat) (M0 : Mem) (lot : D) (j : Nat) (de : Lo) (M : Mem) : Prop where
  ex : ∃ (b : List Tl.Row) (us : List Int) (z4 z5 z6 : Option D), de = [some (.ref n), some lot, some (batD b), some (.ref u), z4, z5, z6] ∧ lstAt M u = some (us.map D.int) ∧ us.length = j ∧ b.length ≤ j ∧ (0 < j → b ≠ []) ∧ (b.map (·.1)).Nodup ∧ (∀ k, k ∈ us ↔ k ∈ b.map (·.1)) ∧
    ∀ r ∈ b, inB 1000 r.1 = true ∧ ∀ w, r.2 = some w → inB 10000 w = true
  rest : Rest n M0 M
  dice : DiceAt M n
theorem batch_step {n u : Nat} {M0 : Mem} {f m c : Int} {j : Nat} {x : D} {de : Lo} {M : Mem} {C : Lo → Mem → Prop} {rt : KD} {S : SS} (hf : 0 ≤ f) (hm : 0 < m) (hfm : f + m ≤ 1000) (hj : j < 40) (hu : M0.length ≤ u) (hn : n < M0.length) (h : BInv n u M0 (.tup [.int f, .int m, .int c]) j de M) (hC : ∀ de2 M2, BInv n u M0 (.tup [.int f, .int m, .int c]) (j + 1) de2 M2 → C de2 M2) :
    (dName 4) x de M (fun de1 M1 => (sSeq (sSet 5 (eOp (oAddX false) (eOp oIx (eVar 1) (eC (.int 0))) (eCall 2 [] P_law_next (aCons (eVar 0) (aCons (eOp oIx (eVar 1) (eC (.int 1))) aNil)))))
  (sSeq (sSet 6 (eOp oIx (eLst false (aCons (eC .non) (aCons (eCall 2 [] P_law_next (aCons (eVar 0) (aCons (eC (.int 5)) aNil))) (aCons (eCall 2 [] P_law_next (aCons (eVar 0) (aCons (eC (.int 5)) aNil))) (aCons (eCall 2 [] P_law_next (aCons (eVar 0) (aCons (eC (.int 10000)) aNil))) aNil))))) (eCall 2 [] P_law_next (aCons (eVar 0) (aCons (eC (.int 4)) aNil)))))
  (sSeq (sSet 2 (eOp (oAddX false) (eVar 2) (eOp (oMulX false) (eLst false (aCons (eTup (aCons (eVar 5) (aCons (eVar 6) aNil))) aNil)) (eCB oInt (aCons (eOp (oInX true) (eVar 5) (eVar 3)) aNil)))))
  (sDrop (eBM "list" oAppend (eVar 3) (aCons (eVar 5) aNil)))))) ⟨C, rt⟩ de1 M1 S) := by
  obtain ⟨⟨b, us, z4, z5, z6, rfl, hus, hl1, hl2, hne, hnd, hmem, hok⟩, hrest, hd⟩ := h
  refine ⟨_, rfl, _, _, _, rfl, rfl, rfl, _, rfl, _, rfl, _, _, _, rfl, rfl, rfl, rfl, draw hd (by omega) (by omega) fun r1 M1 a1 a2 ⟨x1, e1⟩ d1 => .inl ?_⟩
  refine ⟨_, rfl, rfl, draw d1 (by decide) (by decide) fun w1 M2 b1 b2 ⟨x2, e2⟩ d2 => ⟨_, rfl, rfl, draw d2 (by decide) (by decide) fun w2 M3 b3 b4 ⟨x3, e3⟩ d3 => ⟨_, rfl, rfl, draw d3 (by decide) (by decide) fun w3 M4 b5 b6 ⟨x4, e4⟩ d4 => ⟨by show 4 ≤ sizeLine; decide, ?_⟩⟩⟩⟩
  refine ⟨_, rfl, rfl, draw d4 (by decide) (by decide) fun w4 M5 b7 b8 ⟨x5, e5⟩ d5 => ix_any b7 (by simpa using b8) fun y hy => ?_⟩
  obtain ⟨ow, rfl, hw⟩ : ∃ ow, y = wD ow ∧ ∀ w, ow = some w → inB 10000 w = true := by
    simp at hy
    rcases hy with rfl | rfl | rfl | rfl
    · exact ⟨none, rfl, fun w e => by cases e⟩
    · exact ⟨some w1, rfl, fun w e => by cases e; simp [inB]; omega⟩
    · exact ⟨some w2, rfl, fun w e => by cases e; simp [inB]; omega⟩
    · exact ⟨some w3, rfl, fun w e => by cases e; simp [inB]; omega⟩
  have hun : u ≠ n := by omega
  have hus5 : lstAt M5 u = some (us.map D.int) := by
    rw [e5, lstAt_set_ne hun, e4, lstAt_set_ne hun, e3, lstAt_set_ne hun, e2, lstAt_set_ne hun, e1, lstAt_set_ne hun]; exact hus
  have hrest5 : Rest n M0 M5 := by rw [e5, e4, e3, e2, e1]; exact ((((hrest.set).set).set).set).set
  have hin : ∀ R : KD, R (.bl (!(us.any fun q => decide (q = f + r1)))) M5 → oInF true (.int (f + r1)) (.ref u) M5 R := fun R h => ⟨_, _, _, hus5, rfl, fVs_ints, by rw [inV_ints]; exact h⟩
  have hul : u < M5.length := by
    have := (List.getElem?_eq_some_iff.mp (lstAt_iff.mp hus5)).1
    exact this
  have fin : ∀ b' : List Tl.Row, b'.length ≤ j + 1 → b' ≠ [] → (b'.map (·.1)).Nodup → (∀ k, k ∈ us ++ [f + r1] ↔ k ∈ b'.map (·.1)) → (∀ r ∈ b', inB 1000 r.1 = true ∧ ∀ w, r.2 = some w → inB 10000 w = true) →
      (sDrop (eBM "list" oAppend (eVar 3) (aCons (eVar 5) aNil))) ⟨C, rt⟩ [some (.ref n), some (.tup [.int f, .int m, .int c]), some (batD b'), some (.ref u), some x, some (.int (f + r1)), some (wD ow)] M5 S := fun b' l1 l2 l3 l4 l5 => by
    refine ⟨_, rfl, ty_list hus5, _, rfl, ?_⟩
    show oAppend (.ref u) [.int (f + r1)] M5 (fun _ M1 => C [some (.ref n), some (.tup [.int f, .int m, .int c]), some (batD b'), some (.ref u), some x, some (.int (f + r1)), some (wD ow)] M1)
    refine (append_ref hus5 (by rw [List.length_map, hl1]; have : sizeLine = 16777216 := rfl; omega) ?_)
    refine hC _ _ ⟨⟨b', us ++ [f + r1], _, _, _, rfl, ?_, by simp [hl1], l1, fun _ => l2, l3, l4, l5⟩, ?_, ?_⟩
    · rw [lstAt_set hul, List.map_append]; rfl
    · obtain ⟨N, k1, k2⟩ := hrest5
      exact ⟨N, by rw [List.length_set]; exact k1, fun i hi hl => by rw [List.getElem?_set_ne (by omega)]; exact k2 i hi hl⟩
    · obtain ⟨ns, p, mm, r, k1, k2⟩ := d5
      exact ⟨ns, p, mm, r, by rw [List.getElem?_set_ne (fun z => hun z)]; exact k1, k2⟩
  have hkey : inB 1000 (f + r1) = true := by simp [inB]; omega
  by_cases hk : f + r1 ∈ us
  · have ha : (us.any fun q => decide (q = f + r1)) = true := List.any_eq_true.mpr ⟨_, hk, by simp⟩
    refine ⟨_, rfl, _, rfl, _, rfl, by show 2 ≤ sizeLine; decide, by show 1 ≤ sizeLine; decide, _, rfl, _, rfl, .inl (hin _ ?_)⟩
    rw [ha]
    show oMulX false (.lst [.tup [.int (f + r1), wD ow]]) (.int 0) M5 (fun y M2 => oAddX false (batD b) y M2 fun x1 M1 => (sDrop (eBM "list" oAppend (eVar 3) (aCons (eVar 5) aNil))) ⟨C, rt⟩ [some (.ref n), some (.tup [.int f, .int m, .int c]), some x1, some (.ref u), some x, some (.int (f + r1)), some (wD ow)] M1 S)
    refine Or.inr ⟨_, 0, rfl, rfl, by decide, by decide, by show 0 ≤ sizeLine; decide, Or.inr (Or.inl ⟨_, _, rfl, rfl, ?_, ?_⟩)⟩
    · have e : sizeLine = 16777216 := rfl
      simp
      omega
    · have e : (b.map rowD ++ (List.replicate (0 : Int).toNat [D.tup [.int (f + r1), wD ow]]).flatten) = b.map rowD := by simp
      rw [e]
      refine fin b (by omega) (fun z => ?_) hnd (fun k => ?_) hok
      · subst z
        have := (hmem (f + r1)).mp hk
        simp at this
      · rw [List.mem_append, List.mem_singleton, hmem]
        constructor
        · rintro (h | rfl)
          · exact h
          · exact (hmem _).mp hk
        · exact .inl
  · have ha : (us.any fun q => decide (q = f + r1)) = false := by
      rw [List.any_eq_false]
      intro q hq e
      exact hk (of_decide_eq_true e ▸ hq)
    refine ⟨_, rfl, _, rfl, _, rfl, by show 2 ≤ sizeLine; decide, by show 1 ≤ sizeLine; decide, _, rfl, _, rfl, .inl (hin _ ?_)⟩
    rw [ha]
    show oMulX false (.lst [.tup [.int (f + r1), wD ow]]) (.int 1) M5 (fun y M2 => oAddX false (batD b) y M2 fun x1 M1 => (sDrop (eBM "list" oAppend (eVar 3) (aCons (eVar 5) aNil))) ⟨C, rt⟩ [some (.ref n), some (.tup [.int f, .int m, .int c]), some x1, some (.ref u), some x, some (.int (f + r1)), some (wD ow)] M1 S)
    refine Or.inr ⟨_, 1, rfl, rfl, by decide, by decide, by show 1 ≤ sizeLine; decide, Or.inr (Or.inl ⟨_, _, rfl, rfl, ?_, ?_⟩)⟩
    · have e : sizeLine = 16777216 := rfl
      simp
      omega
    · have e : (b.map rowD ++ (List.replicate (1 : Int).toNat [D.tup [.int (f + r1), wD ow]]).flatten) = (b ++ [(f + r1, ow)]).map rowD := by
        rw [List.map_append]
        rfl
      rw [e]
      have hnk : f + r1 ∉ b.map (·.1) := fun z => hk ((hmem _).mpr z)
      refine fin (b ++ [(f + r1, ow)]) (by simp; omega) (by simp) ?_ (fun k => ?_) (fun r hr => ?_)
      · rw [List.map_append, List.nodup_append]
        exact ⟨hnd, by simp, fun a ha b hb e => by
          simp at hb
          subst hb
          exact hnk (e ▸ ha)⟩
      · rw [List.map_append, List.mem_append, List.mem_append, hmem]
        simp
      · rcases List.mem_append.mp hr with h | h
        · exact hok r h
        · rw [List.mem_singleton.mp h]
          exact ⟨hkey, hw⟩
theorem dice_app {M N : Mem} {n : Nat} (h : DiceAt M n) : DiceAt (M ++ N) n := by
  obtain ⟨ns, p, m, r, k1, k2⟩ := h
  exact ⟨ns, p, m, r, by rw [List.getElem?_append_left (List.getElem?_eq_some_iff.mp k1).1]; exact k1, k2⟩
theorem batch_ok {M : Mem} {n : Nat} {f m c : Int} {R : KD} {S : SD} (h : DiceAt M n) (hf : 0 ≤ f) (hm : 0 < m) (hfm : f + m ≤ 1000) (hc : 0 < c) (hc2 : c ≤ 40) (hR : ∀ (b : List Tl.Row) (M' : Mem), GoodB b → Rest n M M' → DiceAt M' n → R (batD b) M') : P_law_batch [.ref n, .tup [.int f, .int m, .int c]] M R S := by
  have hn : n < M.length := by
    obtain ⟨ns, p, m, r, k1, k2⟩ := h
    exact (List.getElem?_eq_some_iff.mp k1).1
  refine ⟨rfl, by decide, by decide, _, _, rfl, ?_⟩
  refine ⟨_, rfl, _, rfl, _, _, _, rfl, rfl, rfl, rfl, draw (dice_app h) hc (by omega) fun r1 M1 a1 a2 ⟨x1, e1⟩ d1 => .inl ⟨_, rfl, by omega, by omega, ?_⟩⟩
  have hlen : (rgD 0 ((1 + r1) : Int).toNat).length = ((1 + r1) : Int).toNat := rgD_len _ _
  refine forL_inv _ (fun j de M' => BInv n M.length M (.tup [.int f, .int m, .int c]) j de M') (fun _ _ _ _ => trivial) (fun j x de M' C hx hI hC => ?_) (fun de M' hI => ?_) _ _ ?_
  · have hj : j < ((1 + r1) : Int).toNat := by rw [← hlen]; exact (List.getElem?_eq_some_iff.mp hx).1
    exact batch_step hf hm hfm (by omega) (Nat.le_refl _) hn hI hC
  · obtain ⟨⟨b, us, z4, z5, z6, rfl, _, _, hl2, hne, hnd, _, hok⟩, hrest, hd⟩ := hI
    rw [hlen] at hl2 hne
    exact ⟨_, rfl, hR b M' ⟨hne (by omega), by omega, hnd, hok⟩ hrest hd⟩
  · refine ⟨⟨[], [], none, none, none, rfl, ?_, rfl, Nat.le_refl _, fun z => absurd z (by omega), by simp, by simp, by simp⟩, ?_, d1⟩
    · rw [e1, lstAt_set_ne (by omega)]
      exact lst_end M [] []
    · rw [e1]
      exact ((Rest.refl n M).app _).set
end W_k11
/-! P12: k11: the batches, the turns. -/
namespace W_k11
open PySem PySem.Spec PyProof.Rows L2 Dx Tl
theorem batches_ok {M : Mem} {n : Nat} {f m c : Int} {de : Lo} {R : KD} {S : SD} (h : DiceAt M n) (hf : 0 ≤ f) (hm : 0 < m) (hfm : f + m ≤ 1000) (hc : 0 < c) (hc2 : c ≤ 40) (h1 : de[1]? = some (some (.ref n))) (h3 : de[3]? = some (some (.tup [.int f, .int m, .int c]))) (h5 : 5 < de.length)
    (hR : ∀ (bs : Rows) (M' : Mem), (∀ b ∈ bs, GoodB b) → bs.length ≤ 30 → Rest n M M' → DiceAt M' n → R (batsD bs) M') : C_law_1 de M R S := by
  refine ⟨_, h1, rfl, draw h (by decide) (by decide) fun r1 M1 a1 a2 ⟨x1, e1⟩ d1 => ⟨_, rfl, by omega, by omega, ?_⟩⟩
  have hlen : (rgD 0 r1.toNat).length = r1.toNat := rgD_len _ _
  refine cpL_inv _ (fun j acc M' => ∃ bs : Rows, acc = bs.map batD ∧ bs.length = j ∧ (∀ b ∈ bs, GoodB b) ∧ Rest n M M' ∧ DiceAt M' n) (fun _ _ _ _ => trivial) (fun j x acc M' C hx hI hC => ?_) (fun acc M' hI => ?_) _ _ ⟨[], rfl, rfl, by simp, by rw [e1]; exact (Rest.refl n M).set, d1⟩
  · obtain ⟨bs, rfl, hl, hg, hr, hd⟩ := hI
    have hj : j < r1.toNat := by rw [← hlen]; exact (List.getElem?_eq_some_iff.mp hx).1
    refine ⟨fun _ => ?_, fun z => by cases z⟩
    refine ⟨_, by show ((de.set 5 none).set 5 (some x))[1]? = _; rw [List.getElem?_set_ne (by decide), List.getElem?_set_ne (by decide)]; exact h1, _, by show ((de.set 5 none).set 5 (some x))[3]? = _; rw [List.getElem?_set_ne (by decide), List.getElem?_set_ne (by decide)]; exact h3, rfl, ?_⟩
    refine batch_ok hd hf hm hfm hc hc2 fun b M2 gb rb db => ⟨?_, hC _ _ ⟨bs ++ [b], by rw [List.map_append]; rfl, by simp [hl], fun z hz => ?_, hr.trans rb, db⟩⟩
    · have e : sizeLine = 16777216 := rfl
      rw [List.length_map]
      omega
    · rcases List.mem_append.mp hz with q | q
      · exact hg z q
      · rw [List.mem_singleton.mp q]; exact gb
  · obtain ⟨bs, rfl, hl, hg, hr, hd⟩ := hI
    rw [hlen] at hl
    exact hR bs M' hg (by omega) hr hd
/-- lists handed: told again -/
theorem handed_ok {M : Mem} {bs : Rows} {de : Lo} {R : KD} {S : SD} (h : de[11]? = some (some (batsD bs))) (h13 : 13 < de.length) (hl : bs.length ≤ sizeLine) (hR : R (batsD bs) M) : C_law_2 de M R S := by
  refine ⟨_, h, _, rfl, ?_⟩
  refine cp_map _ id rfl (by simpa using hl) (fun x hx Q hQ => ?_) (by rw [List.map_id]; exact hR)
  obtain ⟨b, _, rfl⟩ := List.mem_map.mp hx
  refine ⟨batD b, ?_, _, b.map rowD, rfl, rfl, hQ⟩
  show ((de.set 13 none).set 13 (some (batD b)))[13]? = _
  rw [List.getElem?_set_self (by rw [List.length_set]; exact h13)]
/-- equal to itself as data, k deep -/
def Wd (k : Nat) (d : D) : Prop := ∃ p, pdOf d = some p ∧ PyData.canLay0 p = true ∧ PyData.depth p ≤ k ∧ PyData.eqv p p = true
theorem wds {k : Nat} : ∀ ds : List D, (∀ d ∈ ds, Wd k d) → ∃ ps, pdAll ds = some ps ∧ PyData.canLayAll0 ps = true ∧ PyData.depthAll ps ≤ k ∧ PyData.eqvAll ps ps = true
  | [], _ => ⟨[], rfl, rfl, Nat.zero_le _, rfl⟩
  | d :: ds, h => by
    obtain ⟨p, h1, h2, h3, h4⟩ := h d List.mem_cons_self
    obtain ⟨ps, k1, k2, k3, k4⟩ := wds ds fun x hx => h x (List.mem_cons_of_mem _ hx)
    refine ⟨p :: ps, ?_, ?_, ?_, ?_⟩
    · show (match pdOf d, pdAll ds with
        | some x, some xs => some (x :: xs)
        | _, _ => none) = _
      rw [h1, k1]
    · show (PyData.canLay0 p && PyData.canLayAll0 ps) = true
      rw [h2, k2]; rfl
    · show max (PyData.depth p) (PyData.depthAll ps) ≤ k
      omega
    · simp [PyData.eqvAll, h4, k4]
theorem wd_int {k : Nat} {i : Int} : Wd k (.int i) := ⟨.int i, rfl, rfl, Nat.zero_le _, by rw [eqv_int, decide_eq_true rfl]⟩
theorem wd_non {k : Nat} : Wd k .non := ⟨.none, rfl, rfl, Nat.zero_le _, rfl⟩
theorem wd_tup {k : Nat} {ds : List D} (h : ∀ d ∈ ds, Wd k d) : Wd (k + 1) (.tup ds) := by
  obtain ⟨ps, k1, k2, k3, k4⟩ := wds ds h
  exact ⟨.tuple ps, by show (pdAll ds).map PyData.tuple = _; rw [k1]; rfl, k2, Nat.succ_le_succ k3, by rw [PyData.eqv]; exact k4⟩
theorem wd_lst {k : Nat} {ds : List D} (h : ∀ d ∈ ds, Wd k d) : Wd (k + 1) (.lst ds) := by
  obtain ⟨ps, k1, k2, k3, k4⟩ := wds ds h
  exact ⟨.list ps, by show (pdAll ds).map PyData.list = _; rw [k1]; rfl, k2, Nat.succ_le_succ k3, by rw [PyData.eqv]; exact k4⟩
theorem wd_row (r : Tl.Row) : Wd 1 (rowD r) := wd_tup fun d hd => by
  simp at hd
  rcases hd with rfl | rfl
  · exact wd_int
  · cases r.2 with
    | none => exact wd_non
    | some w => exact wd_int
theorem wd_bats (bs : Rows) : Wd 3 (batsD bs) := wd_lst fun d hd => by
  obtain ⟨b, _, rfl⟩ := List.mem_map.mp hd
  exact wd_lst fun d hd => by
    obtain ⟨r, _, rfl⟩ := List.mem_map.mp hd
    exact wd_row r
theorem ne_bats {M : Mem} {bs : Rows} {R : KD} (h : R (.bl false) M) : oEqD true (batsD bs) (batsD bs) M R := by
  obtain ⟨p, h1, h2, h3, h4⟩ := wd_bats bs
  have hs : SeqAt.shaped p = true := by
    unfold SeqAt.shaped
    rw [h2, Bool.true_and]
    exact decide_eq_true (by omega)
  exact ⟨p, p, h1, h1, hs, hs, by rw [if_pos rfl, h4]; exact h⟩
end W_k11
/-! P13: k11: the turns of the asks, the law. -/
namespace W_k11
open PySem PySem.Spec PyProof.Rows L2 Dx Tl
/-- what is due: of the lists handed, the moment -/
inductive Due (bs : Rows) (w : Int) : D → Prop
  | bad {n : Int} : badIn bs = some n → Due bs w (.tup [.str "refused", .str "batch", .int n])
  | mom : badIn bs = none → ¬ (0 ≤ w ∧ w ≤ bs.length) → Due bs w (.tup [.str "refused", .str "when"])
  | at_ {k : Nat} : badIn bs = none → w = k → k ≤ bs.length → Due bs w (.lst ((told bs k).map rowD))
theorem alike_str {M : Mem} {z : Str} (h : SeqAt.shaped (.str z) = true) : Alike M 0 (.str z) (.str z) := by
  unfold Alike
  exact ⟨rfl, .inr (.inr (.inr ⟨z, rfl, h⟩))⟩
theorem alike_int {M : Mem} {i : Int} : Alike M 0 (.int i) (.int i) := by
  unfold Alike
  exact ⟨rfl, .inr (.inr (.inl ⟨i, rfl⟩))⟩
theorem alike_non {M : Mem} : Alike M 0 .non .non := by
  unfold Alike
  exact ⟨rfl, .inl rfl⟩
theorem alike_tup {M : Mem} {d : Nat} {xs : List D} (hl : xs.length ≤ sizeLine) (h : ∀ x ∈ xs, Alike M d x x) : Alike M (d + 1) (.tup xs) (.tup xs) := by
  rw [Alike]
  exact .inr ⟨xs, xs, .inl ⟨rfl, rfl⟩, rfl, hl, fun i x y h1 h2 => by rw [h1] at h2; cases h2; exact h x (List.mem_of_getElem? h1)⟩
theorem alike_row {M : Mem} (r : Tl.Row) : Alike M 1 (rowD r) (rowD r) := alike_tup (by show 2 ≤ sizeLine; decide) fun x hx => by
  simp at hx
  rcases hx with rfl | rfl
  · exact alike_int
  · cases r.2 with
    | none => exact alike_non
    | some w => exact alike_int
theorem alike_rows {M : Mem} {n : Nat} {t : List Tl.Row} (h : lstAt M n = some (t.map rowD)) (hl : t.length ≤ sizeLine) : Alike M 2 (.ref n) (.lst (t.map rowD)) := by
  rw [Alike]
  exact .inr ⟨_, _, .inr ⟨ty_ref h, rfl, h, rfl⟩, rfl, by rw [List.length_map]; exact hl, fun i x y h1 h2 => by
    rw [h1] at h2; cases h2
    obtain ⟨r, _, rfl⟩ := get_map h1
    exact alike_row r⟩
theorem told_len {bs : Rows} {k : Nat} (hl : bs.flatten.length < sizeLine) : (told bs k).length ≤ sizeLine := by
  unfold told
  rw [(inOrder_perm _).length_eq]
  have h1 : (stands (tab (bs.take k).flatten)).length ≤ (tab (bs.take k).flatten).length := List.length_filter_le _ _
  have h2 := tab_len (bs.take k).flatten
  have h3 := take_tot (m := k) hl
  omega
/-- behind the told: like it should be, the lists as they were; a list told is changed behind -/
theorem behind_ok {M : Mem} {de : Lo} {E : EndsD} {S : SS} {bs : Rows} {v due : D} (h15 : de[15]? = some (some v)) (h10 : de[10]? = some (some due)) (h12 : de[12]? = some (some (batsD bs))) (h11 : de[11]? = some (some (batsD bs))) (hal : Alike M 2 v due)
    (hty : (∃ xs, v = .tup xs) ∨ ∃ n xs, v = .ref n ∧ lstAt M n = some xs ∧ xs.length < sizeLine) (hR : ∀ M', (M' = M ∨ ∃ n x, v = .ref n ∧ M' = M.set n x) → E.nx de M') :
    (sSeq (sIf (eOr (eNot (eB (eCall 2 [] P_law_like (aCons (eVar 15) (aCons (eVar 10) aNil))))) (eB (eOp (oEqD true) (eVar 12) (eVar 11))))
  (sRet (eC (.bl false)))
  sNext)
  (sIf (eB (eCB oIsi (aCons (eVar 15) (aCons (eC (.ty "list")) aNil))))
  (sDrop (eBM "list" oAppend (eVar 15) (aCons (eC (.int 0)) aNil)))
  sNext)) E de M S := by
  refine ⟨_, h15, _, h10, rfl, like_ok 2 8 (by decide) _ _ _ _ hal ?_⟩
  refine ⟨_, h12, _, h11, ne_bats ?_⟩
  refine ⟨_, h15, ?_⟩
  rcases hty with ⟨xs, rfl⟩ | ⟨n, xs, rfl, hx, hl⟩
  · refine ⟨_, _, _, false, rfl, rfl, by simp, ?_⟩
    exact hR M (.inl rfl)
  · refine ⟨_, _, _, true, rfl, ty_ref hx, by simp, ?_⟩
    refine ⟨_, h15, ty_list hx, ?_⟩
    show oAppend (.ref n) [.int 0] M (fun _ M1 => E.nx de M1)
    refine append_ref hx hl ?_
    exact hR _ (.inr ⟨n, _, rfl, rfl⟩)
/-- both turns -/
theorem turns_ok {P0 : Addr} {q : Str} {M : Mem} {de : Lo} {E : EndsD} {S : SS} {bs : Rows} {w : Int} {due : D} (hq : q = "law.<locals>.<lambda>") (h0 : M[0]? = some (.tab P0 q)) (hM : 1 < M.length) (hd : DiceAt M 1) (hl16 : de.length = 16) (h6 : de[6]? = some (some (.int w))) (h10 : de[10]? = some (some due)) (h12 : de[12]? = some (some (batsD bs))) (h11 : de[11]? = some (some (batsD bs)))
    (hb : ∀ b ∈ bs, b.length ≤ sizeLine) (ht : bs.flatten.length < sizeLine) (hdue : Due bs w due) (hR : ∀ de' M', de'.length = 16 → (∀ i, i < 14 → de'[i]? = de[i]?) → Rest 1 M M' → DiceAt M' 1 → E.nx de' M') : L_law_1 P0 E de M S := by
  subst hq
  refine ⟨2, rfl, by decide, by decide, ?_⟩
  refine forL_inv _ (fun _ de' M' => de'.length = 16 ∧ (∀ i, i < 14 → de'[i]? = de[i]?) ∧ Rest 1 M M' ∧ DiceAt M' 1) (fun _ _ _ _ => trivial) (fun j x de' M' C hx hI hC => ?_) (fun de' M' ⟨a1, a2, a3, a4⟩ => hR de' M' a1 a2 a3 a4) _ _ ⟨hl16, fun _ _ => rfl, Rest.refl 1 M, hd⟩
  obtain ⟨a1, a2, a3, a4⟩ := hI
  have at_ : ∀ i, i < 14 → ∀ z, ((de'.set 14 (some x)).set 15 z)[i]? = de[i]? := fun i hi z => by
    rw [List.getElem?_set_ne (by omega), List.getElem?_set_ne (by omega)]; exact a2 i hi
  have at1 : ∀ i, i < 14 → (de'.set 14 (some x))[i]? = de[i]? := fun i hi => by
    rw [List.getElem?_set_ne (by omega)]; exact a2 i hi
  have at15 : ∀ z, ((de'.set 14 (some x)).set 15 z)[15]? = some z := fun z => by
    rw [List.getElem?_set_self (by rw [List.length_set]; omega)]
  have h0' : M'[0]? = some (.tab P0 "law.<locals>.<lambda>") := by
    obtain ⟨N, k1, k2⟩ := a3
    rw [k2 0 (by decide) (by omega)]; exact h0
  have hM' : M.length ≤ M'.length := by
    obtain ⟨N, k1, k2⟩ := a3
    omega
  have fin : ∀ (v : D) (M2 : Mem), Alike M2 2 v due → ((∃ xs, v = .tup xs) ∨ ∃ n xs, v = .ref n ∧ lstAt M2 n = some xs ∧ xs.length < sizeLine ∧ M.length ≤ n) → Rest 1 M M2 → DiceAt M2 1 → (sSeq (sIf (eOr (eNot (eB (eCall 2 [] P_law_like (aCons (eVar 15) (aCons (eVar 10) aNil))))) (eB (eOp (oEqD true) (eVar 12) (eVar 11))))
      (sRet (eC (.bl false)))
      sNext)
      (sIf (eB (eCB oIsi (aCons (eVar 15) (aCons (eC (.ty "list")) aNil))))
      (sDrop (eBM "list" oAppend (eVar 15) (aCons (eC (.int 0)) aNil)))
      sNext)) ⟨C, E.rt⟩ ((de'.set 14 (some x)).set 15 (some v)) M2 S := fun v M2 al ty r2 d2 => by
    refine behind_ok (at15 _) ((at_ 10 (by decide) _).trans h10) ((at_ 12 (by decide) _).trans h12) ((at_ 11 (by decide) _).trans h11) al (ty.elim .inl fun ⟨n, xs, e1, e2, e3, _⟩ => .inr ⟨n, xs, e1, e2, e3⟩) fun M3 h3 => hC _ _ ⟨by rw [List.length_set, List.length_set]; exact a1, fun i hi => at_ i hi _, ?_, ?_⟩
    · rcases h3 with rfl | ⟨n, y, rfl, rfl⟩
      · exact r2
      · rcases ty with ⟨_, e⟩ | ⟨n', xs, e, _, _, hn⟩
        · cases e
        · cases e
          obtain ⟨N, k1, k2⟩ := r2
          exact ⟨N, by rw [List.length_set]; exact k1, fun i hi hl => by rw [List.getElem?_set_ne (by omega)]; exact k2 i hi hl⟩
    · rcases h3 with rfl | ⟨n, y, rfl, rfl⟩
      · exact d2
      · rcases ty with ⟨_, e⟩ | ⟨n', xs, e, _, _, hn⟩
        · cases e
        · cases e
          obtain ⟨ns, p, m, r, k1, k2⟩ := d2
          exact ⟨ns, p, m, r, by rw [List.getElem?_set_ne (by omega)]; exact k1, k2⟩
  rw [q_dname, q_seq, q_set]
  have hshape : ∀ (b : Str), b = "refused" ∨ b = "batch" ∨ b = "when" → SeqAt.shaped (.str b) = true := fun b h => by
    rcases h with rfl | rfl | rfl <;> decide +kernel
  refine told_ok h0' ((at1 12 (by decide)).trans h12) ((at1 6 (by decide)).trans h6) hb ht (fun n e N => ?_) (fun e1 e2 N => ?_) (fun e k hk hk2 => ?_)
  · cases hdue with
    | bad e' =>
      rw [e] at e'; cases e'
      exact fin _ _ (alike_tup (by show 3 ≤ sizeLine; decide) fun y hy => by
        simp at hy
        rcases hy with rfl | rfl | rfl
        · exact alike_le (alike_str (hshape _ (.inl rfl)))
        · exact alike_le (alike_str (hshape _ (.inr (.inl rfl))))
        · exact alike_le alike_int) (.inl ⟨_, rfl⟩) (a3.app N) (dice_app a4)
    | mom e' _ => rw [e] at e'; cases e'
    | at_ e' _ _ => rw [e] at e'; cases e'
  · cases hdue with
    | bad e' => rw [e1] at e'; cases e'
    | mom e' _ =>
      exact fin _ _ (alike_tup (by show 2 ≤ sizeLine; decide) fun y hy => by
        simp at hy
        rcases hy with rfl | rfl
        · exact alike_le (alike_str (hshape _ (.inl rfl)))
        · exact alike_le (alike_str (hshape _ (.inr (.inr rfl))))) (.inl ⟨_, rfl⟩) (a3.app N) (dice_app a4)
    | at_ e' h1 h2 => exact absurd ⟨by omega, by omega⟩ e2
  · cases hdue with
    | bad e' => rw [e] at e'; cases e'
    | mom e' h => exact absurd ⟨by omega, by omega⟩ h
    | at_ e' h1 h2 =>
      have ek : k = _ := Int.ofNat.inj (hk.symm.trans h1)
      subst ek
      have hx : lstAt ((M' ++ [.dic (kvR (tab (bs.take k).flatten))]) ++ [.lst ((told bs k).map rowD)]) (M'.length + 1) = some ((told bs k).map rowD) := by
        rw [List.append_assoc]
        exact lst_end1 M' _ _ []
      have hlt : (told bs k).length < sizeLine := by
        have h1 : (told bs k).length ≤ (tab (bs.take k).flatten).length := by
          unfold told
          rw [(inOrder_perm _).length_eq]
          exact List.length_filter_le _ _
        have h2 := tab_len (bs.take k).flatten
        have h3 := take_tot (m := k) ht
        omega
      exact fin _ _ (alike_rows hx (by omega)) (.inr ⟨_, _, rfl, hx, by rw [List.length_map]; exact hlt, by omega⟩) ((a3.app _).app _) (dice_app (dice_app a4))
end W_k11
/-! P14: k11: what is due of the lists made. -/
namespace W_k11
open PySem PySem.Spec PyProof.Rows L2 Dx Tl
theorem good_from {b : List Tl.Row} (g : GoodB b) : ∀ (n : Nat), n ≤ b.length → badFrom b n (b.drop n) = none := by
  intro n
  induction h : b.length - n generalizing n with
  | zero =>
    intro hn
    have e : b.drop n = [] := List.drop_eq_nil_of_le (by omega)
    rw [e]
    rfl
  | succ k ih =>
    intro hn
    have hlt : n < b.length := by omega
    rw [badFrom_drop (List.getElem?_eq_getElem hlt), if_neg, ih (n + 1) (by omega) (by omega)]
    have hl := g.len
    have hr := g.ok b[n] (List.getElem_mem hlt)
    rintro (z | z)
    · omega
    · have hk : ((b.take n).any fun q => decide (q.1 = b[n].1)) = false := by
        rw [List.any_eq_false]
        intro q hq e
        obtain ⟨i, hi, ei⟩ := List.mem_take_iff_getElem.mp hq
        have q2 := (List.getElem_inj (i := i) (j := n) (h₀ := by simp; omega) (h₁ := by simpa using hlt) g.nd).mp (by simp [ei, of_decide_eq_true e])
        omega
      unfold isRow at z
      rw [hr.1, hk] at z
      cases q : b[n].2 with
      | none => rw [q] at z; cases z
      | some w => rw [q] at z; simp [hr.2 w q] at z
theorem good_bad {b : List Tl.Row} (g : GoodB b) : badOf b = none := by
  have h := good_from g 0 (Nat.zero_le _)
  cases b with
  | nil => exact absurd rfl g.ne
  | cons r rs => exact h
theorem good_badIn : ∀ {bs : Rows}, (∀ b ∈ bs, GoodB b) → badIn bs = none
  | [], _ => rfl
  | b :: bs, h => by
    show (match badOf b with
      | some n => some n
      | none => badIn bs) = none
    rw [good_bad (h b List.mem_cons_self)]
    exact good_badIn fun x hx => h x (List.mem_cons_of_mem _ hx)
theorem badIn_mid : ∀ {as : Rows} {b : List Tl.Row} {cs : Rows} {n : Int}, (∀ b ∈ as, GoodB b) → badOf b = some n → badIn (as ++ b :: cs) = some n
  | [], b, cs, n, _, e => by
    show (match badOf b with
      | some n => some n
      | none => badIn cs) = some n
    rw [e]
  | a :: as, b, cs, n, h, e => by
    show (match badOf a with
      | some n => some n
      | none => badIn (as ++ b :: cs)) = some n
    rw [good_bad (h a List.mem_cons_self)]
    exact badIn_mid (fun x hx => h x (List.mem_cons_of_mem _ hx)) e
theorem bad_one {r : Tl.Row} (h : isRow r [] = false) : badOf [r] = some 0 := by
  show badFrom [r] 0 [r] = some 0
  unfold badFrom
  rw [if_pos (.inr h)]
  rfl
theorem bad_two {r : Tl.Row} (h : isRow r [] = true) : badOf [r, r] = some 1 := by
  show badFrom [r, r] 0 [r, r] = some 1
  unfold badFrom
  rw [if_neg (by simp [h])]
  unfold badFrom
  rw [if_pos (.inr (by simp [isRow]))]
  rfl
end W_k11
/-! P15: k11: one turn of the law. -/
namespace W_k11
open PySem PySem.Spec PyProof.Rows L2 Dx Tl
theorem good_len {bs : Rows} (hg : ∀ b ∈ bs, GoodB b) : bs.flatten.length ≤ 40 * bs.length := by
  induction bs with
  | nil => simp
  | cons b bs ih =>
    have h1 := (hg b List.mem_cons_self).len
    have h2 := ih fun x hx => hg x (List.mem_cons_of_mem _ hx)
    simp only [List.flatten_cons, List.length_append, List.length_cons]
    omega
/-- from the lists handed on -/
theorem last_ok {P0 : Addr} {M : Mem} {E : EndsD} {S : SS} {bs : Rows} {w : Int} {due : D} {s0 z2 z3 z4 z5 z7 z8 z9 z12 z13 z14 z15 : Option D} (h0 : M[0]? = some (.tab P0 "law.<locals>.<lambda>")) (hM : 1 < M.length) (hd : DiceAt M 1) (hb : ∀ b ∈ bs, b.length ≤ sizeLine) (hl : bs.length ≤ sizeLine) (ht : bs.flatten.length < sizeLine) (hdue : Due bs w due)
    (hR : ∀ de' M', de'.length = 16 → de'[0]? = some s0 → de'[1]? = some (some (.ref 1)) → Rest 1 M M' → DiceAt M' 1 → E.nx de' M') :
    (sSeq (sSet 12 C_law_2) (L_law_1 P0)) E [s0, some (.ref 1), z2, z3, z4, z5, some (.int w), z7, z8, z9, some due, some (batsD bs), z12, z13, z14, z15] M S := by
  rw [q_seq, q_set]
  refine handed_ok rfl (by show 13 < 16; decide) hl ?_
  exact turns_ok rfl h0 hM hd rfl rfl rfl rfl rfl hb ht hdue fun de' M' a1 a2 a3 a4 => hR de' M' a1 (a2 0 (by decide)) (a2 1 (by decide)) a3 a4
end W_k11
/-! P16: k11: the lists made odd, what is due then. -/
namespace W_k11
open PySem PySem.Spec PyProof.Rows L2 Dx Tl
theorem cut_drop {α : Type} (f : α → D) (b : List α) (n : Nat) (h : n ≤ b.length) : Dx.cutD (b.map f) (some (n : Int)) none = (b.drop n).map f := by
  unfold Dx.cutD
  rw [HT.sIx_none, HT.sIx_nat, List.length_map, Nat.min_eq_left h, ← List.map_drop]
  exact List.take_of_length_le (by simp)
theorem slX_drop {M : Mem} {R : KD} {α : Type} {f : α → D} {b : List α} {n : Nat} (hn : n ≤ b.length) (h : R (.lst ((b.drop n).map f)) M) : lOr (oSlL false) oSlT (.lst (b.map f)) (some (n : Int)) none M R := .inl ⟨_, rfl, by rw [cut_drop f b n hn]; exact h⟩
/-- batches, or none -/
theorem ne_nil {M : Mem} {bs : Rows} {R : KD} (h : R (.bl (decide (bs ≠ []))) M) : oEqD true (batsD bs) (.lst []) M R := by
  obtain ⟨p, h1, h2, h3, h4⟩ := wd_bats bs
  have hs : SeqAt.shaped p = true := by
    unfold SeqAt.shaped
    rw [h2, Bool.true_and]
    exact decide_eq_true (by omega)
  refine ⟨p, .list [], h1, rfl, hs, by decide +kernel, ?_⟩
  have e : PyData.eqv p (.list []) = decide (bs = []) := by
    cases bs with
    | nil => cases h1; rfl
    | cons b bs =>
      have h1' : (match pdOf (batD b), pdAll (bs.map batD) with
        | some x, some xs => some (x :: xs)
        | _, _ => none).map PyData.list = some p := h1
      cases e1 : pdOf (batD b) with
      | none => rw [e1] at h1'; cases h1'
      | some x =>
        cases e2 : pdAll (bs.map batD) with
        | none => rw [e1, e2] at h1'; cases h1'
        | some xs =>
          rw [e1, e2] at h1'
          cases h1'
          simp [PyData.eqv, PyData.eqvAll]
  rw [if_pos rfl, e]
  have e2 : (!decide (bs = [])) = decide (bs ≠ []) := by simp
  rw [e2]
  exact h
theorem some_ok {M : Mem} {de : Lo} {bs : Rows} {Rb : Bool → Mem → Prop} {S : SD} (h4 : de[4]? = some (some (batsD bs))) (h : Rb (decide (bs ≠ [])) M) : (eB (eOp (oEqD true) (eVar 4) (eLst false aNil))) de M Rb S := by
  rw [q_b]
  refine ⟨_, h4, Nat.zero_le _, ?_⟩
  rw [q_newF]
  exact ne_nil ⟨_, rfl, h⟩
theorem cond_ok {M : Mem} {de : Lo} {bs : Rows} {r : Tl.Row} {Rb : Bool → Mem → Prop} {S : SD} (h4 : de[4]? = some (some (batsD bs))) (h9 : de[9]? = some (some (rowD r))) (h : Rb (decide (bs ≠ [] ∧ r.1 < 1000)) M) : (eAnd (eB (eOp (oEqD true) (eVar 4) (eLst false aNil))) (eB (eOp oLt (eOp oIx (eVar 9) (eC (.int 0))) (eC (.int 1000))))) de M Rb S := by
  rw [q_and]
  refine some_ok h4 ⟨fun c => ?_, fun c => ?_⟩
  · rw [q_b]
    refine ⟨_, h9, ?_⟩
    have c' : bs ≠ [] := of_decide_eq_true c
    simp [rowD]
    have e : decide (bs ≠ [] ∧ r.1 < 1000) = decide (r.1 < 1000) := by simp [c']
    rw [e] at h
    by_cases d : r.1 < 1000
    · rw [decide_eq_true d] at h
      exact .inr ⟨d, h⟩
    · rw [decide_eq_false d] at h
      exact .inl ⟨by omega, h⟩
  · have c' : ¬ bs ≠ [] := of_decide_eq_false c
    have e : decide (bs ≠ [] ∧ r.1 < 1000) = false := decide_eq_false fun z => c' z.1
    rw [e] at h
    exact h
/-- an odd row: no row at all, or told twice -/
def OddAt (bs : Rows) (r : Tl.Row) : Prop := (isRow r [] = false ∧ ¬ (bs ≠ [] ∧ r.1 < 1000)) ∨ (bs ≠ [] ∧ r.1 < 1000)
theorem len_bats {de : Lo} {M : Mem} {R : KD} {S : SD} {bs : Rows} (h4 : de[4]? = some (some (batsD bs))) (h : R (.int bs.length) M) : eCB oLenX (aCons (eVar 4) aNil) de M R S := ⟨_, h4, .inl (by rw [q_len]; exact ⟨_, rfl, by rw [List.length_map]; exact h⟩)⟩
theorem flat_ins {as cs : Rows} {b : List Tl.Row} : (as ++ b :: cs).flatten.length = as.flatten.length + b.length + cs.flatten.length := by
  simp
  omega
/-- the odd list among the others -/
theorem bad_ok {M : Mem} {E : EndsD} {S : SS} {bs : Rows} {r : Tl.Row} {a : Nat} {w : Int} {s0 s1 s2 s3 z5 z8 z10 z11 z12 z13 z14 z15 : Option D} (ha : a ≤ bs.length) (ho : OddAt bs r) (hg : ∀ b ∈ bs, GoodB b) (hl : bs.length ≤ 30)
    (hR : ∀ (bs' : Rows) (due : D), Due bs' w due → (∀ b ∈ bs', b.length ≤ 40) → bs'.length ≤ 31 → bs'.flatten.length ≤ 1400 → E.nx [s0, s1, s2, s3, some (batsD bs), z5, some (.int w), some (.int a), z8, some (rowD r), some due, some (batsD bs'), z12, z13, z14, z15] M) :
    (sSeq (sSet 11 (eOp (oAddX false) (eOp (oAddX false) (eSl (oSlX false) (eVar 4) noPart (somePart (eVar 7))) (eLst false (aCons (eIf (eAnd (eB (eOp (oEqD true) (eVar 4) (eLst false aNil))) (eB (eOp oLt (eOp oIx (eVar 9) (eC (.int 0))) (eC (.int 1000))))) (eOp (oMulX false) (eSl (oSlX false) (eOp oIx (eVar 4) (eC (.int 0))) noPart (somePart (eC (.int 1)))) (eC (.int 2))) (eLst false (aCons (eVar 9) aNil))) aNil))) (eSl (oSlX false) (eVar 4) (somePart (eVar 7)) noPart)))
  (sSet 10 (eTup (aCons (eC (.str "refused")) (aCons (eC (.str "batch")) (aCons (eIf (eAnd (eB (eOp (oEqD true) (eVar 4) (eLst false aNil))) (eB (eOp oLt (eOp oIx (eVar 9) (eC (.int 0))) (eC (.int 1000))))) (eC (.int 1)) (eC (.int 0))) aNil)))))) E
    [s0, s1, s2, s3, some (batsD bs), z5, some (.int w), some (.int a), z8, some (rowD r), z10, z11, z12, z13, z14, z15] M S := by
  have hsz : sizeLine = 16777216 := rfl
  have fin : ∀ (mid : List Tl.Row) (n : Int), badOf mid = some n → mid.length ≤ 2 → n = (if bs ≠ [] ∧ r.1 < 1000 then 1 else 0) →
      oAddX false (.lst ((bs.take a).map batD)) (.lst [batD mid]) M (fun x M1 => eSl (oSlX false) (eVar 4) (somePart (eVar 7)) noPart [s0, s1, s2, s3, some (batsD bs), z5, some (.int w), some (.int a), z8, some (rowD r), z10, z11, z12, z13, z14, z15] M1 (fun y M2 => oAddX false x y M2 fun v M3 => (sSet 10 (eTup (aCons (eC (.str "refused")) (aCons (eC (.str "batch")) (aCons (eIf (eAnd (eB (eOp (oEqD true) (eVar 4) (eLst false aNil))) (eB (eOp oLt (eOp oIx (eVar 9) (eC (.int 0))) (eC (.int 1000))))) (eC (.int 1)) (eC (.int 0))) aNil))))) E [s0, s1, s2, s3, some (batsD bs), z5, some (.int w), some (.int a), z8, some (rowD r), z10, some v, z12, z13, z14, z15] M3 S) (SE S [s0, s1, s2, s3, some (batsD bs), z5, some (.int w), some (.int a), z8, some (rowD r), z10, z11, z12, z13, z14, z15])) := fun mid n hb hm2 hn => by
    have hll : (bs.take a).length + 1 ≤ 31 := by rw [List.length_take]; omega
    refine .inr (.inl ⟨_, _, rfl, rfl, by rw [List.length_map]; show _ + 1 ≤ _; omega, ?_⟩)
    refine ⟨_, rfl, ?_⟩
    dsimp only
    rw [q_sp]
    refine ⟨_, rfl, _, rfl, slX_drop (f := batD) ha ?_⟩
    refine .inr (.inl ⟨_, _, rfl, rfl, by rw [List.length_append, List.length_map, List.length_map, List.length_drop]; show _ + 1 + _ ≤ _; omega, ?_⟩)
    have e : (bs.take a).map batD ++ [batD mid] ++ (bs.drop a).map batD = (bs.take a ++ mid :: bs.drop a).map batD := by simp
    rw [e, q_newF]
    show (sSet 10 _) E [s0, s1, s2, s3, some (batsD bs), z5, some (.int w), some (.int a), z8, some (rowD r), z10, some (batsD (bs.take a ++ mid :: bs.drop a)), z12, z13, z14, z15] M S
    have hgl := good_len hg
    have hfl : (bs.take a ++ mid :: bs.drop a).flatten.length ≤ 1400 := by
      rw [flat_ins]
      have e3 : bs.flatten.length = (bs.take a).flatten.length + (bs.drop a).flatten.length := by
        conv => lhs; rw [← List.take_append_drop a bs]
        rw [List.flatten_append, List.length_append]
      omega
    have key : Due (bs.take a ++ mid :: bs.drop a) w (.tup [.str "refused", .str "batch", .int n]) := .bad (badIn_mid (fun b h => hg b (List.mem_of_mem_take h)) hb)
    have go := hR _ _ key (fun b h => by
      rcases List.mem_append.mp h with h | h
      · have := (hg b (List.mem_of_mem_take h)).len; omega
      · rcases List.mem_cons.mp h with rfl | h
        · omega
        · have := (hg b (List.mem_of_mem_drop h)).len; omega) (by rw [List.length_append, List.length_cons, List.length_take, List.length_drop]; omega) hfl
    rw [q_set]
    refine cond_ok rfl rfl ?_
    by_cases c : bs ≠ [] ∧ r.1 < 1000
    · rw [if_pos c] at hn
      subst hn
      rw [decide_eq_true c]
      exact ⟨by show 3 ≤ sizeLine; decide, go⟩
    · rw [if_neg c] at hn
      subst hn
      rw [decide_eq_false c]
      exact ⟨by show 3 ≤ sizeLine; decide, go⟩
  rw [q_seq, q_set]
  refine ⟨_, rfl, ?_⟩
  dsimp only
  rw [q_np, q_sp]
  refine ⟨_, rfl, _, rfl, slX_take (f := batD) ?_⟩
  refine cond_ok rfl rfl ?_
  by_cases c : bs ≠ [] ∧ r.1 < 1000
  · rw [decide_eq_true c]
    obtain ⟨b, rest, rfl⟩ : ∃ b rest, bs = b :: rest := by
      cases bs with
      | nil => exact absurd rfl c.1
      | cons b rest => exact ⟨b, rest, rfl⟩
    have gb := hg b List.mem_cons_self
    obtain ⟨q, qs, rfl⟩ : ∃ q qs, b = q :: qs := by
      cases b with
      | nil => exact absurd rfl gb.ne
      | cons q qs => exact ⟨q, qs, rfl⟩
    have hq : isRow q [] = true := by
      have := gb.ok q List.mem_cons_self
      unfold isRow
      rw [this.1]
      cases e : q.2 with
      | none => rfl
      | some x => simp [this.2 x e]
    refine ⟨_, rfl, ?_⟩
    dsimp only
    rw [q_c, q_ix]
    refine ⟨batD (q :: qs), by simp [batsD], ?_⟩
    refine slX_take (n := 1) (f := rowD) ?_
    refine .inr ⟨_, 2, rfl, rfl, by decide, by decide, by show 1 * 2 ≤ sizeLine; decide, ?_⟩
    refine ⟨by show 1 ≤ sizeLine; decide, ?_⟩
    exact fin [q, q] 1 (bad_two hq) (by show 2 ≤ 2; decide) (if_pos c).symm
  · rw [decide_eq_false c]
    have hr : isRow r [] = false := ho.elim (·.1) fun h => absurd h c
    refine ⟨_, rfl, by show 1 ≤ sizeLine; decide, ?_⟩
    refine ⟨by show 1 ≤ sizeLine; decide, ?_⟩
    exact fin [r] 0 (bad_one hr) (by show 1 ≤ 2; decide) (if_neg c).symm
end W_k11
/-! P17: k11: one turn of the law, all turns. -/
namespace W_k11
open PySem PySem.Spec PyProof.Rows L2 Dx Tl
/-- a draw from the dice in slot 1 -/
theorem draw1 {de : Lo} {M : Mem} {many : Int} {t : TEd} {R : KD} {S : SD} (h1 : de[1]? = some (some (.ref 1))) (hd : DiceAt M 1) (hm : 0 < many) (hm2 : many < 1073741824) (ht : ∀ R' S', R' (.int many) M → t de M R' S') (hR : ∀ (r : Int) (M' : Mem), 0 ≤ r → r < many → Rest 1 M M' → DiceAt M' 1 → R (.int r) M') :
    eCall 2 [] P_law_next (aCons (eVar 1) (aCons t aNil)) de M R S :=
  ⟨_, h1, ht _ _ ⟨rfl, draw hd hm hm2 fun r M' a b ⟨x, e⟩ d => hR r M' a b (e ▸ (Rest.refl 1 M).set) d⟩⟩
theorem draw1c {de : Lo} {M : Mem} {many : Int} {R : KD} {S : SD} (h1 : de[1]? = some (some (.ref 1))) (hd : DiceAt M 1) (hm : 0 < many) (hm2 : many < 1073741824) (hR : ∀ (r : Int) (M' : Mem), 0 ≤ r → r < many → Rest 1 M M' → DiceAt M' 1 → R (.int r) M') :
    eCall 2 [] P_law_next (aCons (eVar 1) (aCons (eC (.int many)) aNil)) de M R S := draw1 h1 hd hm hm2 (fun _ _ h => h) hR
theorem draw1l {de : Lo} {M : Mem} {bs : Rows} {R : KD} {S : SD} (h1 : de[1]? = some (some (.ref 1))) (h4 : de[4]? = some (some (batsD bs))) (hd : DiceAt M 1) (hl : bs.length ≤ 30) (hR : ∀ (r : Int) (M' : Mem), 0 ≤ r → r ≤ bs.length → Rest 1 M M' → DiceAt M' 1 → R (.int r) M') :
    eCall 2 [] P_law_next (aCons (eVar 1) (aCons (eOp (oAddX false) (eCB oLenX (aCons (eVar 4) aNil)) (eC (.int 1))) aNil)) de M R S :=
  draw1 h1 hd (many := (bs.length : Int) + 1) (by omega) (by omega) (fun _ _ h => len_bats h4 (.inl h)) fun r M' a b => hR r M' a (by omega)
theorem q_add {a b : Int} {M : Mem} {R : KD} : oAdd (.int a) (.int b) M R = R (.int (a + b)) M := rfl
/-- the moment asked: any whole number -/
theorem when_ok {de : Lo} {M : Mem} {bs : Rows} {E : EndsD} {S : SS} {rest : TSd} (h6 : 6 < de.length) (h1 : de[1]? = some (some (.ref 1))) (h4 : de[4]? = some (some (batsD bs))) (hd : DiceAt M 1) (hl : bs.length ≤ 30)
    (hR : ∀ (w : Int) M', Rest 1 M M' → DiceAt M' 1 → rest E (de.set 6 (some (.int w))) M' S) :
    (sSeq (sSet 6 (eLst false (aCons (eCall 2 [] P_law_next (aCons (eVar 1) (aCons (eOp (oAddX false) (eCB oLenX (aCons (eVar 4) aNil)) (eC (.int 1))) aNil))) (aCons (eCB oLenX (aCons (eVar 4) aNil)) (aCons (eOp (oAddX false) (eOp (oAddX false) (eCB oLenX (aCons (eVar 4) aNil)) (eC (.int 1))) (eCall 2 [] P_law_next (aCons (eVar 1) (aCons (eC (.int 99)) aNil)))) (aCons (eNeg (eC (.int 1))) aNil))))))
  (sSeq (sSet 6 (eOp oIx (eVar 6) (eCall 2 [] P_law_next (aCons (eVar 1) (aCons (eC (.int 4)) aNil))))) rest)) E de M S := by
  rw [q_seq, q_set, q_lst, q_cons]
  refine draw1l h1 h4 hd hl fun r1 M1 a1 a2 k1 d1 => ?_
  rw [q_cons]
  refine len_bats h4 ?_
  rw [q_cons, q_op, q_op]
  refine len_bats h4 (.inl ?_)
  refine draw1c h1 d1 (by decide) (by decide) fun r2 M2 b1 b2 k2 d2 => (.inl ?_)
  dsimp only
  rw [q_add, q_cons, q_neg, q_c]
  refine ⟨_, rfl, by show 4 ≤ sizeLine; decide, ?_⟩
  show (sSeq (sSet 6 (eOp oIx (eVar 6) (eCall 2 [] P_law_next (aCons (eVar 1) (aCons (eC (.int 4)) aNil))))) rest) E (de.set 6 (some (.lst [.int r1, .int bs.length, .int ((bs.length : Int) + 1 + r2), .int (-1)]))) M2 S
  rw [q_seq, q_set, q_op]
  refine ⟨_, List.getElem?_set_self h6, ?_⟩
  refine draw1c (by rw [List.getElem?_set_ne (by decide)]; exact h1) d2 (by decide) (by decide) fun r3 M3 c1 c2 k3 d3 => ?_
  refine ix_any c1 (by simpa using c2) fun x hx => ?_
  have : ∃ w : Int, x = .int w := by
    simp at hx
    rcases hx with rfl | rfl | rfl | rfl <;> exact ⟨_, rfl⟩
  obtain ⟨w, rfl⟩ := this
  rw [List.set_set]
  exact hR w M3 ((k1.trans k2).trans k3) d3
/-- where the odd list goes, and whether there is one -/
theorem where_ok {de : Lo} {M : Mem} {bs : Rows} {E : EndsD} {S : SS} {rest : TSd} (h1 : de[1]? = some (some (.ref 1))) (h4 : de[4]? = some (some (batsD bs))) (hd : DiceAt M 1) (hl : bs.length ≤ 30)
    (hR : ∀ (a : Nat) (b : Bool) M', a ≤ bs.length → Rest 1 M M' → DiceAt M' 1 → rest E ((de.set 7 (some (.int a))).set 8 (some (.bl b))) M' S) :
    (sSeq (sPar 7 8 (aCons (eCall 2 [] P_law_next (aCons (eVar 1) (aCons (eOp (oAddX false) (eCB oLenX (aCons (eVar 4) aNil)) (eC (.int 1))) aNil))) (aCons (eOp (oEqD false) (eCall 2 [] P_law_next (aCons (eVar 1) (aCons (eC (.int 3)) aNil))) (eC (.int 0))) aNil))) rest) E de M S := by
  rw [q_seq, q_par, q_cons]
  refine draw1l h1 h4 hd hl fun r1 M1 a1 a2 k1 d1 => ?_
  rw [q_cons, q_op]
  refine draw1c h1 d1 (by decide) (by decide) fun r2 M2 b1 b2 k2 d2 => ?_
  rw [q_c, q_eqF]
  refine ⟨_, _, rfl, ?_⟩
  have e : r1 = (r1.toNat : Int) := by omega
  rw [e]
  exact hR r1.toNat _ M2 (by omega) (k1.trans k2) d2
/-- the odd row -/
theorem odd_ok {de : Lo} {M : Mem} {bs : Rows} {E : EndsD} {S : SS} {rest : TSd} (h1 : de[1]? = some (some (.ref 1))) (h4 : de[4]? = some (some (batsD bs))) (hd : DiceAt M 1) (hg : ∀ b ∈ bs, GoodB b)
    (hR : ∀ (r : Tl.Row) M', OddAt bs r → Rest 1 M M' → DiceAt M' 1 → rest E (de.set 9 (some (rowD r))) M' S) :
    (sSeq (sSet 9 (eOp oIx (eLst false (aCons (eTup (aCons (eC (.int 1000)) (aCons (eC (.int 1)) aNil))) (aCons (eTup (aCons (eC (.int 5)) (aCons (eC (.int 10000)) aNil))) (aCons (eTup (aCons (eNeg (eC (.int 1))) (aCons (eC (.int 1)) aNil))) (aCons (eIf (eB (eOp (oEqD true) (eVar 4) (eLst false aNil))) (eOp oIx (eOp oIx (eVar 4) (eC (.int 0))) (eC (.int 0))) (eTup (aCons (eC (.int 7)) (aCons (eNeg (eC (.int 1))) aNil)))) aNil))))) (eCall 2 [] P_law_next (aCons (eVar 1) (aCons (eC (.int 4)) aNil))))) rest) E de M S := by
  rw [q_seq, q_set, q_op, q_lst, q_cons]
  refine ⟨by show 2 ≤ sizeLine; decide, ⟨by show 2 ≤ sizeLine; decide, ?_⟩⟩
  dsimp only
  rw [q_cons, q_tup, q_cons, q_neg, q_c]
  refine ⟨_, rfl, by show 2 ≤ sizeLine; decide, ?_⟩
  have fin : ∀ r4 : Tl.Row, OddAt bs r4 → 4 ≤ sizeLine ∧ eCall 2 [] P_law_next (aCons (eVar 1) (aCons (eC (.int 4)) aNil)) de M (fun y M2 => oIx (.lst [rowD (1000, some 1), rowD (5, some 10000), rowD (-1, some 1), rowD r4]) y M2 fun x M1 => rest E (de.set 9 (some x)) M1 S) (SE S de) := fun r4 h4' => by
    refine ⟨by decide, draw1c h1 hd (by decide) (by decide) fun r2 M2 b1 b2 k2 d2 => ix_any b1 (by simpa using b2) fun x hx => ?_⟩
    have hh : ∀ r : Tl.Row, isRow r [] = false → OddAt bs r := fun r h => by
      by_cases c : bs ≠ [] ∧ r.1 < 1000
      · exact .inr c
      · exact .inl ⟨h, c⟩
    simp at hx
    rcases hx with rfl | rfl | rfl | rfl
    · exact hR _ _ (hh _ (by decide)) k2 d2
    · exact hR _ _ (hh _ (by decide)) k2 d2
    · exact hR _ _ (hh _ (by decide)) k2 d2
    · exact hR _ _ h4' k2 d2
  rw [q_cons, q_if]
  refine some_ok h4 ⟨fun c => ?_, fun c => ?_⟩
  · have c' : bs ≠ [] := of_decide_eq_true c
    obtain ⟨b, rest', rfl⟩ : ∃ b rest', bs = b :: rest' := by
      cases bs with
      | nil => exact absurd rfl c'
      | cons b rest' => exact ⟨b, rest', rfl⟩
    have gb := hg b List.mem_cons_self
    obtain ⟨q, qs, rfl⟩ : ∃ q qs, b = q :: qs := by
      cases b with
      | nil => exact absurd rfl gb.ne
      | cons q qs => exact ⟨q, qs, rfl⟩
    rw [q_op, q_op]
    refine ⟨_, h4, ?_⟩
    dsimp only
    rw [q_c, q_ix]
    refine ⟨batD (q :: qs), by simp [batsD], ?_⟩
    rw [q_c, q_ix]
    refine ⟨rowD q, by simp [batD], ?_⟩
    refine fin q (.inr ⟨c', ?_⟩)
    have := (gb.ok q List.mem_cons_self).1
    simp [inB] at this
    omega
  · have c' : bs = [] := by
      have := of_decide_eq_false c
      simpa using this
    subst c'
    rw [q_tup, q_cons, q_c, q_cons, q_neg, q_c]
    refine ⟨_, rfl, by show 2 ≤ sizeLine; decide, ?_⟩
    exact fin (7, some (-1)) (.inl ⟨by decide, by simp⟩)
/-- what is due of lists that can be -/
theorem due_ok {M : Mem} {E : EndsD} {S : SS} {rest : TSd} {bs : Rows} {w : Int} {s0 s1 s2 s3 z5 z7 z8 z9 z10 z11 z12 z13 z14 z15 : Option D} (hg : ∀ b ∈ bs, GoodB b) (hl : bs.length ≤ 30)
    (hR : ∀ (due : D) N, Due bs w due → rest E [s0, s1, s2, s3, some (batsD bs), z5, some (.int w), z7, z8, z9, some due, z11, z12, z13, z14, z15] (M ++ N) S) :
    (sSeq (sSet 10 (eTup (aCons (eC (.str "refused")) (aCons (eC (.str "when")) aNil)))) (sSeq (sIf (eB (eChain oLe oLe (eC (.int 0)) (eVar 6) (eCB oLenX (aCons (eVar 4) aNil))))
  (sSet 10 (eCall 2 [] P_law_at (aCons (eVar 4) (aCons (eVar 6) aNil))))
  sNext) rest)) E [s0, s1, s2, s3, some (batsD bs), z5, some (.int w), z7, z8, z9, z10, z11, z12, z13, z14, z15] M S := by
  have hgl := good_len hg
  rw [q_seq, q_set]
  refine ⟨by show 2 ≤ sizeLine; decide, ?_⟩
  dsimp only
  rw [q_seq, q_sif, q_b, q_chain]
  refine ⟨_, rfl, ?_⟩
  have hb := good_badIn hg
  have no : ¬ (0 ≤ w ∧ w ≤ bs.length) → rest E [s0, s1, s2, s3, some (batsD bs), z5, some (.int w), z7, z8, z9, some (.tup [.str "refused", .str "when"]), z11, z12, z13, z14, z15] M S := fun h => by
    have := hR _ [] (.mom hb h)
    rw [List.append_nil] at this
    exact this
  refine ⟨_, rfl, fun c => ?_, fun c => ⟨_, rfl, ⟨(fun z => by cases z), fun _ => no fun z => ?_⟩⟩⟩
  · have c1 : 0 ≤ w := of_decide_eq_true c
    refine len_bats rfl ?_
    refine ⟨_, rfl, ⟨fun d => ?_, fun d => no fun z => ?_⟩⟩
    · have d1 : w ≤ bs.length := of_decide_eq_true d
      obtain ⟨k, rfl⟩ : ∃ k : Nat, w = k := ⟨w.toNat, by omega⟩
      rw [q_set]
      refine ⟨_, rfl, _, rfl, rfl, ?_⟩
      exact at_ok (fun b h => (hg b h).nd) (by show _ < 16777216; omega) fun N => hR _ N (.at_ hb rfl (by omega))
    · have := of_decide_eq_false d
      omega
  · have := of_decide_eq_false c
    omega
end W_k11
/-! P18: k11: all turns, the law. -/
namespace W_k11
open PySem PySem.Spec PyProof.Rows L2 Dx Tl
theorem rest_0 {M M' : Mem} {x : MO} (h0 : M[0]? = some x) (h : Rest 1 M M') : M'[0]? = some x := by
  obtain ⟨N, k1, k2⟩ := h
  have : 0 < M.length := (List.getElem?_eq_some_iff.mp h0).1
  rw [k2 0 (by decide) this]; exact h0
theorem rest_len {M M' : Mem} {n : Nat} (h0 : n < M.length) (h : Rest 1 M M') : n < M'.length := by
  obtain ⟨N, k1, k2⟩ := h
  omega
theorem sixteen (de : Lo) (h : de.length = 16) : ∃ a0 a1 a2 a3 a4 a5 a6 a7 a8 a9 a10 a11 a12 a13 a14 a15, de = [a0, a1, a2, a3, a4, a5, a6, a7, a8, a9, a10, a11, a12, a13, a14, a15] :=
  match de, h with
  | [a0, a1, a2, a3, a4, a5, a6, a7, a8, a9, a10, a11, a12, a13, a14, a15], _ => ⟨a0, a1, a2, a3, a4, a5, a6, a7, a8, a9, a10, a11, a12, a13, a14, a15, rfl⟩
theorem loop_ok {P0 : Addr} {M : Mem} {de : Lo} {E : EndsD} {S : SS} (hl16 : de.length = 16) (h1 : de[1]? = some (some (.ref 1))) (h0 : M[0]? = some (.tab P0 "law.<locals>.<lambda>")) (hM : 1 < M.length) (hd : DiceAt M 1) (hR : ∀ de' M', E.nx de' M') : L_law_2 P0 E de M S := by
  refine ⟨3, rfl, by decide, by decide, ?_⟩
  refine forL_inv _ (fun _ de' M' => de'.length = 16 ∧ de'[1]? = some (some (.ref 1)) ∧ M'[0]? = some (.tab P0 "law.<locals>.<lambda>") ∧ 1 < M'.length ∧ DiceAt M' 1) (fun _ _ _ _ => trivial) (fun j x de' M' C hx hI hC => ?_) (fun de' M' _ => hR _ _) _ _ ⟨hl16, h1, h0, hM, hd⟩
  obtain ⟨b1, b2, b3, b4, b5⟩ := hI
  obtain ⟨a0, a1, a2, a3, a4, a5, a6, a7, a8, a9, a10, a11, a12, a13, a14, a15, rfl⟩ := sixteen de' b1
  have e1 : a1 = some (.ref 1) := by simpa using b2
  subst e1
  rw [q_dname, q_seq, q_set]
  refine ⟨_, rfl, rfl, lot_ok b5 fun f m c M1 f0 m0 m1 fm c0 c1 r1 d1 => ?_⟩
  dsimp only
  rw [q_seq, q_set]
  refine batches_ok d1 f0 m0 fm c0 c1 rfl rfl (by show 5 < 16; decide) fun bs M2 hg hl r2 d2 => ?_
  refine when_ok (by show 6 < 16; decide) rfl rfl d2 hl fun w M3 r3 d3 => ?_
  refine where_ok rfl rfl d3 hl fun a b M4 ha r4 d4 => ?_
  refine odd_ok rfl rfl d4 hg fun r M5 ho r5 d5 => ?_
  refine due_ok hg hl fun due N hdue => ?_
  have rr : Rest 1 M' (M5 ++ N) := ((((r1.trans r2).trans r3).trans r4).trans r5).app N
  have dd : DiceAt (M5 ++ N) 1 := dice_app d5
  have hgl := good_len hg
  rw [q_seq, q_set]
  refine ⟨_, rfl, _, bs.map batD, rfl, rfl, ?_⟩
  dsimp only
  rw [q_newF, q_seq, q_sif, q_b]
  refine ⟨_, rfl, _, rfl, fun hb => ?_, fun hb => ?_⟩
  · refine bad_ok ha ho hg hl fun bs' due' hdue' h40 h31 h1400 => ?_
    refine last_ok (rest_0 b3 rr) (rest_len b4 rr) dd (fun b h => ?_) ?_ ?_ hdue' fun de2 M6 q1 q2 q3 q4 q5 => hC _ _ ⟨q1, q3, rest_0 b3 (rr.trans q4), rest_len b4 (rr.trans q4), q5⟩
    · have := h40 b h; show _ ≤ 16777216; omega
    · show _ ≤ 16777216; omega
    · show _ < 16777216; omega
  · refine last_ok (rest_0 b3 rr) (rest_len b4 rr) dd (fun b h => ?_) ?_ ?_ hdue fun de2 M6 q1 q2 q3 q4 q5 => hC _ _ ⟨q1, q3, rest_0 b3 (rr.trans q4), rest_len b4 (rr.trans q4), q5⟩
    · have := (hg b h).len; show _ ≤ 16777216; omega
    · show _ ≤ 16777216; omega
    · show _ < 16777216; omega
theorem pure (P0 : Addr) (ns : List Int) (_ : ns.length ≤ 63) (_ : ∀ z ∈ ns, Builtin.Int.intBits z ≤ 1048576) : P_law P0 [.kls (ns.map Dx.D.int)] [.tab P0 "law.<locals>.<lambda>"] (fun d _ => d = .bl true) (fun _ _ _ => False) := by
  refine ⟨rfl, ?_⟩
  rw [t_law, q_seq, q_set]
  refine ⟨_, rfl, rfl, ?_⟩
  refine dice_ok fun x hd => ?_
  dsimp only
  rw [q_seq]
  exact loop_ok rfl rfl rfl (by show 1 < 2; decide) hd fun de' M' => rfl
end W_k11
theorem PySem.Challenge.cw_timeleaf_k11_plainly_holds : PySem.Challenge.rw_timeleaf_k11_plainly.Holds := by
  exact W_k11.row W_k11.pure
