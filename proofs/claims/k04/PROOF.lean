import PyProof.Rows.All
import Wide.All
import OpenK.AllK
import Wide.FinOn
import HandS.ForMost
import HandS.ForExc
import HandS.IsInst
import HandS.Style
import HandS.Flow
import HandS.TupAny
import HandS.Zip
import HandS.CallSlots
import HandS.Wide
import HandS.Defaults
import HandS.HeadHook1
import HandS.Text
import HandS.StrMore
import HandS.HeadHook2
import HandS.HeadHook3
import PyProof.Rows.StrSplitJoin
import PyProof.Rows.StrSplitAre
import HandS.Dict
import HandS.TupLe
import HandS.Replace
import HandS.ExcInit
import HandS.ExcSuper
import HandS.ExcCtx
import HandS.ExcInitHot
import KE.KExcSuper
import HandS.TryElse
import HandS.TryOnly
import HandS.ExcField
import HandS.ExcIs
import HandS.RaiseFrom
import HandS.SuiteRaise
import KE.KExcIs
import HandS.New0
import PyProof.EnumMake
import PyProof.Draws
import PyProof.TupleIter
import HandS.TupMul
import KE.GoesZip
import KE.GoesMore
import KE.GoesEnum
import KE.KSortTupAny
import HandS.SortRule
import KE.KStateDown
import Lean
import HandS.Ends
import HandS.Head0
import HandS.Head1
import HandS.Head2
import HandS.HeadEnd
import PySem.Challenge.RW_tessera_k04_refused_readings
set_option Elab.async false
set_option linter.all false
set_option maxRecDepth 100000
set_option maxHeartbeats 4000000
/-! Pv: data instead of heaps. A state is a list of slots that hold data; a def is told by what it makes of data. -/
namespace Pv
open PySem L2

/-! ### what is in a slot, what an expression hands on -/
/-- an exception: its class, its fields -/
structure Xn where
  cls : Str
  fs : List (Str × PyData)
/-- what an object or a dict is, but for what it holds -/
inductive Bk where
  | ob (c : Str) (ns : List Str)
  | dc (ks : List PyData)
inductive Rs where
  | va (d : PyData)
  | nw (ds : List PyData)
  | bo (ds : List PyData)
  | bb (c : Str) (pre : List (Str × PyData)) (f : Str) (ds : List PyData)
  | bg (k : Bk) (ds : List PyData)
/-- the script: a list of ints that is read alone -/
abbrev scr (ns : List Int) : PyData := .dict [(.dict [], .list (ns.map .int))]

/-- an object that stays: its class, its fields' names, their values -/
abbrev obD (c : Str) (ns : List Str) (ds : List PyData) : PyData := .dict [(.list [.str c, .tuple (ns.map .str)], .list ds)]
abbrev obP (c : Str) (pre : List (Str × PyData)) (f : Str) (ds : List PyData) : PyData := obD c (pre.map (·.1) ++ [f]) (pre.map (·.2) ++ [.list ds])
/-- a dict that stays: its keys, its values -/
abbrev dcD (ks ds : List PyData) : PyData := .dict [(.tuple ks, .list ds)]
/-- a thing that others may change, told by where it lies -/
abbrev rfD (a : Addr) : PyData := .dict [(.none, .int a)]
/-- what lies there -/
inductive Nd where
  | ls (ds : List PyData)
  | ob (c : Str) (fs : List (Str × PyData))
  | dk (kvs : List (Key × PyData))
  | dt (kvs : List (List Key × PyData))
abbrev Mm := List (Addr × Nd)
def mget : Mm → Addr → Option Nd
  | [], _ => none
  | (a, n) :: M, x => if x = a then some n else mget M x
def Bk.d : Bk → List PyData → PyData
  | .ob c ns, ds => obD c ns ds
  | .dc ks, ds => dcD ks ds
def keyD : Key → PyData
  | .inl i => .int i
  | .inr z => .str z
def Rs.d : Rs → PyData
  | .va d => d
  | .nw ds => .list ds
  | .bo ds => .list ds
  | .bb c pre f ds => obP c pre f ds
  | .bg k ds => k.d ds
def Rs.stays : Rs → Bool
  | .bo _ => false
  | .bb _ _ _ _ => false
  | .bg _ _ => false
  | _ => true

mutual
inductive Rp (K : PySem.W.Frag) (G : Hp) : V → PyData → Prop
  | non : Rp K G .non .none
  | bl (b : Bool) : Rp K G (.bl b) (.bool b)
  | int (i : Int) : Rp K G (.int i) (.int i)
  | str (x : Str) : Rp K G (.str x) (.str x)
  | lst {a : Addr} {xs : List V} {ds : List PyData} : G a = some (.lst xs) → RpAll K G xs ds → Rp K G (.ref a) (.list ds)
  | tup {a : Addr} {xs : List V} {ds : List PyData} : SqT K G a xs → RpAll K G xs ds → Rp K G (.ref a) (.tuple ds)
  | scr {a : Addr} {ns : List Int} : SqL K G a (ns.map V.int) → Rp K G (.ref a) (scr ns)
  | rfd {a : Addr} : Rp K G (.ref a) (rfD a)
  | obj {a dx : Addr} {c : Str} {fs : List (Str × V)} {vs : List V} {ns : List Str} {ds : List PyData} : G a = some (.ins (He.ga K c) dx fs) → vs = fs.map (·.2) → ns = fs.map (·.1) → RpAll K G vs ds → Rp K G (.ref a) (obD c ns ds)
  | dck {a : Addr} {kvs : List (Key × V)} {vs : List V} {ks ds : List PyData} : G a = some (.dK kvs) → vs = kvs.map (·.2) → ks = kvs.map (fun p => keyD p.1) → RpAll K G vs ds → Rp K G (.ref a) (dcD ks ds)
  | dct {a : Addr} {kvs : List (List Key × V)} {vs : List V} {ks ds : List PyData} : G a = some (.dT kvs) → vs = kvs.map (·.2) → ks = kvs.map (fun p => PyData.tuple (p.1.map keyD)) → RpAll K G vs ds → Rp K G (.ref a) (dcD ks ds)
inductive RpAll (K : PySem.W.Frag) (G : Hp) : List V → List PyData → Prop
  | nil : RpAll K G [] []
  | cons {v : V} {vs : List V} {d : PyData} {ds : List PyData} : Rp K G v d → RpAll K G vs ds → RpAll K G (v :: vs) (d :: ds)
end

theorem rd_same {G G' : Hp} (h : Same G G') {a : Addr} {u : HO} (q : Rd G a u) : Rd G' a u := by
  rcases q with q | ⟨o, q⟩
  · exact .inl (h _ _ q)
  · exact .inr ⟨o, h _ _ q⟩
theorem sqt_same {K : PySem.W.Frag} {G G' : Hp} (h : Same G G') {a : Addr} {xs : List V} (q : SqT K G a xs) : SqT K G' a xs := by
  rcases q with q | q
  · exact .inl (rd_same h q)
  · exact .inr q
theorem sql_same {K : PySem.W.Frag} {G G' : Hp} (h : Same G G') {a : Addr} {xs : List V} (q : SqL K G a xs) : SqL K G' a xs := by
  rcases q with q | q
  · exact .inl (rd_same h q)
  · exact .inr q
mutual
theorem Rp.mono {K : PySem.W.Frag} {G G' : Hp} (h : Same G G') : ∀ (d : PyData) (v : V), Rp K G v d → Rp K G' v d
  | .none, _, q => by cases q; exact .non
  | .bool b, _, q => by cases q; exact .bl b
  | .int i, _, q => by cases q; exact .int i
  | .str x, _, q => by cases q; exact .str x
  | .list ds, _, q => by
    cases q with
    | lst h1 h2 => exact .lst (h _ _ h1) (RpAll.mono h ds _ h2)
  | .tuple ds, _, q => by
    cases q with
    | tup h1 h2 => exact .tup (sqt_same h h1) (RpAll.mono h ds _ h2)
  | .dict l, v, q => by
    have key : ∀ z, z = PyData.dict l → Rp K G v z → Rp K G' v (.dict l) := fun z e q => by
      cases q with
      | scr h1 => exact e ▸ .scr (sql_same h h1)
      | rfd => exact e ▸ .rfd
      | obj h1 h2 h3 h4 =>
        cases e
        exact .obj (h _ _ h1) h2 h3 (RpAll.mono h _ _ h4)
      | dck h1 h2 h3 h4 =>
        cases e
        exact .dck (h _ _ h1) h2 h3 (RpAll.mono h _ _ h4)
      | dct h1 h2 h3 h4 =>
        cases e
        exact .dct (h _ _ h1) h2 h3 (RpAll.mono h _ _ h4)
      | _ => cases e
    exact key _ rfl q
theorem RpAll.mono {K : PySem.W.Frag} {G G' : Hp} (h : Same G G') : ∀ (ds : List PyData) (vs : List V), RpAll K G vs ds → RpAll K G' vs ds
  | [], _, q => by cases q; exact .nil
  | d :: ds, _, q => by
    cases q with
    | cons h1 h2 => exact .cons (Rp.mono h d _ h1) (RpAll.mono h ds _ h2)
end
theorem RpAll.len {K : PySem.W.Frag} {G : Hp} : ∀ {vs : List V} {ds : List PyData}, RpAll K G vs ds → vs.length = ds.length
  | _, _, .nil => rfl
  | _, _, .cons _ t => by rw [List.length_cons, List.length_cons, t.len]
theorem RpAll.get {K : PySem.W.Frag} {G : Hp} : ∀ {vs : List V} {ds : List PyData} {i : Nat} {v : V}, RpAll K G vs ds → vs[i]? = some v → ∃ d, ds[i]? = some d ∧ Rp K G v d
  | _, _, _, _, .nil, e => by simp at e
  | _, _, 0, _, .cons r _, e => by simp at e; subst e; exact ⟨_, rfl, r⟩
  | _, _, i + 1, _, .cons _ t, e => by
    obtain ⟨d, h1, h2⟩ := t.get (i := i) (by simpa using e)
    exact ⟨d, by simpa using h1, h2⟩
theorem RpAll.getD {K : PySem.W.Frag} {G : Hp} : ∀ {vs : List V} {ds : List PyData} {i : Nat} {d : PyData}, RpAll K G vs ds → ds[i]? = some d → ∃ v, vs[i]? = some v ∧ Rp K G v d
  | _, _, _, _, .nil, e => by simp at e
  | _, _, 0, _, .cons r _, e => by simp at e; subst e; exact ⟨_, rfl, r⟩
  | _, _, i + 1, _, .cons _ t, e => by
    obtain ⟨d, h1, h2⟩ := t.getD (i := i) (by simpa using e)
    exact ⟨d, by simpa using h1, h2⟩
theorem RpAll.append {K : PySem.W.Frag} {G : Hp} : ∀ {vs ws : List V} {ds es : List PyData}, RpAll K G vs ds → RpAll K G ws es → RpAll K G (vs ++ ws) (ds ++ es)
  | _, _, _, _, .nil, s => s
  | _, _, _, _, .cons r t, s => .cons r (t.append s)
theorem RpAll.take {K : PySem.W.Frag} {G : Hp} : ∀ {vs : List V} {ds : List PyData} (n : Nat), RpAll K G vs ds → RpAll K G (vs.take n) (ds.take n)
  | _, _, 0, _ => .nil
  | _, _, _ + 1, .nil => .nil
  | _, _, n + 1, .cons r t => .cons r (t.take n)
theorem RpAll.drop {K : PySem.W.Frag} {G : Hp} : ∀ {vs : List V} {ds : List PyData} (n : Nat), RpAll K G vs ds → RpAll K G (vs.drop n) (ds.drop n)
  | _, _, 0, r => r
  | _, _, _ + 1, .nil => .nil
  | _, _, n + 1, .cons _ t => t.drop n
theorem RpAll.reverse {K : PySem.W.Frag} {G : Hp} : ∀ {vs : List V} {ds : List PyData}, RpAll K G vs ds → RpAll K G vs.reverse ds.reverse
  | _, _, .nil => .nil
  | _, _, .cons r t => by
    rw [List.reverse_cons, List.reverse_cons]
    exact t.reverse.append (.cons r .nil)
theorem RpAll.set {K : PySem.W.Frag} {G : Hp} {v : V} {d : PyData} (r : Rp K G v d) : ∀ {vs : List V} {ds : List PyData} (i : Nat), RpAll K G vs ds → RpAll K G (vs.set i v) (ds.set i d)
  | _, _, _, .nil => .nil
  | _, _, 0, .cons _ t => .cons r t
  | _, _, i + 1, .cons q t => .cons q (RpAll.set r i t)
theorem RpAll.ints {K : PySem.W.Frag} {G : Hp} : ∀ {vs : List V} {ns : List Int}, RpAll K G vs (ns.map .int) → vs = ns.map .int
  | _, [], h => by cases h; rfl
  | _, n :: ns, h => by
    cases h with
    | cons h1 h2 =>
      cases h1
      rw [RpAll.ints h2] <;> rfl
theorem RpAll.of_ints {K : PySem.W.Frag} {G : Hp} : ∀ (ns : List Int), RpAll K G (ns.map .int) (ns.map .int)
  | [] => .nil
  | n :: ns => .cons (.int n) (RpAll.of_ints ns)
theorem RpAll.rep {K : PySem.W.Frag} {G : Hp} {vs : List V} {ds : List PyData} (h : RpAll K G vs ds) : ∀ n : Nat, RpAll K G (List.replicate n vs).flatten (List.replicate n ds).flatten
  | 0 => .nil
  | n + 1 => by
    rw [List.replicate_succ, List.replicate_succ, List.flatten_cons, List.flatten_cons]
    exact h.append (h.rep n)

/-- data that holds no list -/
def lf : PyData → Bool
  | .list _ => false
  | .dict _ => false
  | .tuple ds => lfs ds
  | _ => true
where lfs : List PyData → Bool
  | [] => true
  | d :: ds => lf d && lfs ds
def loH : HO → Bool
  | .lst _ => true
  | .ins _ _ _ => true
  | .dK _ => true
  | .dT _ => true
  | _ => false
def LoA (o : Option HO) : Prop := ∃ u, o = some u ∧ loH u = true
theorem LoA.lst {o : Option HO} {xs : List V} (h : o = some (.lst xs)) : LoA o := ⟨_, h, rfl⟩
theorem LoA.ins {o : Option HO} {k dx : Addr} {fs : List (Str × V)} (h : o = some (.ins k dx fs)) : LoA o := ⟨_, h, rfl⟩
theorem LoA.dK {o : Option HO} {kvs : List (Key × V)} (h : o = some (.dK kvs)) : LoA o := ⟨_, h, rfl⟩
theorem LoA.dT {o : Option HO} {kvs : List (List Key × V)} (h : o = some (.dT kvs)) : LoA o := ⟨_, h, rfl⟩
theorem LoA.no {o : Option HO} (h : LoA o) {u : HO} (e : o = some u) (n : loH u = false) : False := by
  obtain ⟨v, h1, h2⟩ := h
  rw [e] at h1
  cases h1
  rw [n] at h2
  cases h2
def hide (ps : List Addr) (G : Hp) : Hp := fun a => if a ∈ ps then none else G a
theorem hide_ne {ps : List Addr} {G : Hp} {a : Addr} (h : a ∉ ps) : hide ps G a = G a := if_neg h
theorem hide_in {ps : List Addr} {G : Hp} {a : Addr} (h : a ∈ ps) : hide ps G a = none := if_pos h
theorem sqt_hide {K : PySem.W.Frag} {G : Hp} {ps : List Addr} (hp : ∀ p ∈ ps, LoA (G p)) {a : Addr} {xs : List V} (q : SqT K G a xs) : SqT K (hide ps G) a xs := by
  have key : ∀ {u : HO}, loH u = false → G a = some u → hide ps G a = some u := fun {u} hu e => by
    have hn : a ∉ ps := fun z => (hp a z).no e hu
    rw [hide_ne hn]
    exact e
  rcases q with (q | ⟨o, q⟩) | q
  · exact .inl (.inl (key rfl q))
  · exact .inl (.inr ⟨o, key rfl q⟩)
  · exact .inr q
theorem sql_hide {K : PySem.W.Frag} {G : Hp} {ps : List Addr} (hp : ∀ p ∈ ps, LoA (G p)) {a : Addr} {xs : List V} (ha : a ∉ ps) (q : SqL K G a xs) : SqL K (hide ps G) a xs := by
  rcases q with (q | ⟨o, q⟩) | q
  · exact .inl (.inl (by rw [hide_ne ha]; exact q))
  · exact .inl (.inr ⟨o, by rw [hide_ne ha]; exact q⟩)
  · exact .inr q
mutual
theorem Rp.hide {K : PySem.W.Frag} {G : Hp} {ps : List Addr} (hp : ∀ p ∈ ps, LoA (G p)) : ∀ (d : PyData) (v : V), lf d = true → Rp K G v d → (∀ ns, d ≠ scr ns) → Rp K (hide ps G) v d
  | .none, _, _, q, _ => by cases q; exact .non
  | .bool b, _, _, q, _ => by cases q; exact .bl b
  | .int i, _, _, q, _ => by cases q; exact .int i
  | .str x, _, _, q, _ => by cases q; exact .str x
  | .list ds, _, l, q, _ => by cases l
  | .tuple ds, _, l, q, _ => by
    cases q with
    | tup h1 h2 => exact .tup (sqt_hide hp h1) (RpAll.hide hp ds _ l h2)
  | .dict _, _, l, q, n => by cases l
theorem RpAll.hide {K : PySem.W.Frag} {G : Hp} {ps : List Addr} (hp : ∀ p ∈ ps, LoA (G p)) : ∀ (ds : List PyData) (vs : List V), lf.lfs ds = true → RpAll K G vs ds → RpAll K (hide ps G) vs ds
  | [], _, _, q => by cases q; exact .nil
  | d :: ds, _, l, q => by
    cases q with
    | cons h1 h2 =>
      obtain ⟨l1, l2⟩ := Bool.and_eq_true_iff.mp (show (lf d && lf.lfs ds) = true from l)
      refine .cons (Rp.hide hp d _ l1 h1 fun ns z => ?_) (RpAll.hide hp ds _ l2 h2)
      subst z
      cases l1
end

/-- what one slot alone may hold, as a whole: the addresses, what is so of the value there -/
structure GS where
  fp : List Addr
  ok : PySem.W.Frag → Hp → Hp → V → Prop
  up : ∀ {K : PySem.W.Frag} {G H G' H' : Hp} {v : V}, ok K G H v → Same G G' → (∀ x u, H x = some u → (x ∈ fp ∨ ∃ xs, u = .tup xs) → H' x = some u) → ok K G' H' v
  lo : ∀ {K : PySem.W.Frag} {G H : Hp} {v : V}, ok K G H v → ∀ x ∈ fp, H x ≠ none
/-- xn: a caught exception, where it lies, its class and its dict; ob: an object at a that only this slot holds, its fields: pre, which stay, and behind them f, a list at p that only it holds -/
inductive Sl where
  | no
  | fz (d : PyData)
  | ow (ds : List PyData)
  | xn (a : Addr) (k : Value) (d : Option Addr) (y : Xn)
  | gn (w : GS)
  | mm (d : PyData) (M : Mm)
  | mb (d : PyData) (M : Mm)
  | ob (a p : Addr) (c : Str) (pre : List (Str × PyData)) (f : Str) (ds : List PyData)
abbrev En := List Sl
end Pv

namespace Pv
open PySem L2
/-! ### states -/
def exth (H G : Hp) (ps : List Addr) : Hp := fun a => if a ∈ ps then H a else G a
theorem exth_in {H G : Hp} {ps : List Addr} {a : Addr} (h : a ∈ ps) : exth H G ps a = H a := if_pos h
theorem exth_ne {H G : Hp} {ps : List Addr} {a : Addr} (h : a ∉ ps) : exth H G ps a = G a := if_neg h
theorem exth_sub {H G : Hp} {ps : List Addr} (s : Same G H) : Same (exth H G ps) H := fun a o e => by
  by_cases h : a ∈ ps
  · rw [exth_in h] at e
    exact e
  · rw [exth_ne h] at e
    exact s a o e
theorem exth_up {H G : Hp} {ps : List Addr} (s : Same G H) : Same G (exth H G ps) := fun a o e => by
  by_cases h : a ∈ ps
  · rw [exth_in h]
    exact s a o e
  · rw [exth_ne h]
    exact e
theorem exth_mono {H G : Hp} {ps ps' : List Addr} (s : Same G H) (h : ∀ a ∈ ps, a ∈ ps') : Same (exth H G ps) (exth H G ps') := fun a o e => by
  by_cases h1 : a ∈ ps
  · rw [exth_in h1] at e
    rw [exth_in (h a h1)]
    exact e
  · rw [exth_ne h1] at e
    exact exth_up s a o e
theorem exth_nil {H G : Hp} : exth H G [] = G := by
  funext a
  exact exth_ne (by simp)
structure Grow (G H G' H' : Hp) : Prop where
  gg : Same G G'
  hh : Same H H'
  nn : ∀ a, G a = none → H a ≠ none → G' a = none
theorem Grow.refl {G H : Hp} : Grow G H G H := ⟨Same.refl _, Same.refl _, fun _ h _ => h⟩
theorem Grow.trans {G H G1 H1 G2 H2 : Hp} (a : Grow G H G1 H1) (b : Grow G1 H1 G2 H2) : Grow G H G2 H2 :=
  ⟨a.gg.trans b.gg, a.hh.trans b.hh, fun x h1 h2 => b.nn x (a.nn x h1 h2) fun z => h2 (a.hh.free z)⟩
theorem same_new {H : Hp} {p : Addr} {o : HO} (h : H p = none) : Same H (upd H p o) := fun a u e => by
  rw [upd_ne (ne_of_none e h)]
  exact e
theorem same_both {G H : Hp} {p : Addr} {o : HO} (s : Same G H) : Same (upd G p o) (upd H p o) := fun a u e => by
  by_cases h : a = p
  · subst h
    rw [upd_same] at e
    rw [upd_same]
    exact e
  · rw [upd_ne h] at e
    rw [upd_ne h]
    exact s a u e
theorem same_out {G H : Hp} {p : Addr} {o : HO} (s : Same G H) (h : G p = none) : Same G (upd H p o) := fun a u e => by
  rw [upd_ne (ne_of_none e h)]
  exact s a u e
/-- a thing laid that never changes -/
theorem Grow.both {G H : Hp} {p : Addr} {o : HO} (s : Same G H) (h : H p = none) : Grow G H (upd G p o) (upd H p o) :=
  ⟨same_new (s.free h), same_new h, fun a h1 h2 => by
    have hn : a ≠ p := fun z => h2 (by rw [z]; exact h)
    rw [upd_ne hn]
    exact h1⟩
/-- a list laid that may still change -/
theorem Grow.out {G H : Hp} {p : Addr} {o : HO} (h : H p = none) : Grow G H G (upd H p o) := ⟨Same.refl _, same_new h, fun _ h _ => h⟩

def FsR (K : PySem.W.Frag) (G : Hp) : List (Str × V) → List (Str × PyData) → Prop := Paired fun p q => p.1 = q.1 ∧ Rp K G p.2 q.2
theorem FsR.mono {K : PySem.W.Frag} {G G' : Hp} (h : Same G G') : ∀ {fs : List (Str × V)} {gs : List (Str × PyData)}, FsR K G fs gs → FsR K G' fs gs
  | _, _, .nil => .nil
  | _, _, .cons q t => .cons ⟨q.1, Rp.mono h _ _ q.2⟩ (FsR.mono h t)
def DcR (K : PySem.W.Frag) (G : Hp) (d : Option Addr) (y : Xn) : Prop := match d with
  | none => y.fs = []
  | some a => ∃ fs, G a = some (.xd fs) ∧ FsR K G fs y.fs
theorem DcR.mono {K : PySem.W.Frag} {G G' : Hp} (h : Same G G') {d : Option Addr} {y : Xn} (q : DcR K G d y) : DcR K G' d y := by
  cases d with
  | none => exact q
  | some a =>
    obtain ⟨fs, h1, h2⟩ := q
    exact ⟨fs, h _ _ h1, h2.mono h⟩
def XR (K : PySem.W.Frag) (G H : Hp) (cls : Value) (d : Option Addr) (y : Xn) : Prop := cls = .ref (He.ga K y.cls) ∧ DcR K G d y
/-- an object whose last field is its own list -/
def ObH (K : PySem.W.Frag) (G H : Hp) (a p : Addr) (c : Str) (pre : List (Str × PyData)) (f : Str) (ds : List PyData) : Prop := ∃ dx vs xs, H a = some (.ins (He.ga K c) dx (vs ++ [(f, .ref p)])) ∧ FsR K G vs pre ∧ H p = some (.lst xs) ∧ RpAll K G xs ds
theorem ObH.grow {K : PySem.W.Frag} {G H G' H' : Hp} {a p : Addr} {c : Str} {pre : List (Str × PyData)} {f : Str} {ds : List PyData} (h : ObH K G H a p c pre f ds) (gg : Same G G') (hh : Same H H') : ObH K G' H' a p c pre f ds := by
  obtain ⟨dx, vs, xs, h1, h2, h3, h4⟩ := h
  exact ⟨dx, vs, xs, hh _ _ h1, h2.mono gg, hh _ _ h3, h4.mono gg _ _⟩
theorem fsr_obj {K : PySem.W.Frag} {G : Hp} : ∀ {fs : List (Str × V)} {gs : List (Str × PyData)}, FsR K G fs gs → gs.map (·.1) = fs.map (·.1) ∧ RpAll K G (fs.map (·.2)) (gs.map (·.2))
  | _, _, .nil => ⟨rfl, .nil⟩
  | (k, u) :: fs, (k', d') :: gs, .cons h t => by
    obtain ⟨h1, h2⟩ := h
    have h1 : k = k' := h1
    subst h1
    obtain ⟨t1, t2⟩ := fsr_obj t
    exact ⟨by rw [List.map_cons, List.map_cons, t1], .cons h2 t2⟩
theorem rp_obP {K : PySem.W.Frag} {G : Hp} {a p : Addr} {c : Str} {pre : List (Str × PyData)} {f : Str} {ds : List PyData} (h : ObH K G G a p c pre f ds) : Rp K G (.ref a) (obP c pre f ds) := by
  obtain ⟨dx, vs, xs, h1, h2, h3, h4⟩ := h
  obtain ⟨k1, k2⟩ := fsr_obj h2
  refine .obj (fs := vs ++ [(f, .ref p)]) h1 rfl (by rw [List.map_append, k1] <;> rfl) ?_
  rw [List.map_append]
  exact k2.append (.cons (.lst h3 h4) .nil)
theorem LoA.ne {o : Option HO} (h : LoA o) : o ≠ none := by
  obtain ⟨u, h, _⟩ := h
  rw [h]
  exact Option.some_ne_none _
/-- what lies at a is what the data say -/
def NdR (K : PySem.W.Frag) (G H : Hp) (a : Addr) : Nd → Prop
  | .ls ds => ∃ xs, H a = some (.lst xs) ∧ RpAll K G xs ds
  | .ob c gs => ∃ dx fs, H a = some (.ins (He.ga K c) dx fs) ∧ FsR K G fs gs
  | .dk kds => ∃ kvs, H a = some (.dK kvs) ∧ Paired (fun (p : Key × V) (q : Key × PyData) => p.1 = q.1 ∧ Rp K G p.2 q.2) kvs kds
  | .dt kds => ∃ kvs, H a = some (.dT kvs) ∧ Paired (fun (p : List Key × V) (q : List Key × PyData) => p.1 = q.1 ∧ Rp K G p.2 q.2) kvs kds
theorem kdr_mono {α : Type} {K : PySem.W.Frag} {G G' : Hp} (h : Same G G') : ∀ {kvs : List (α × V)} {kds : List (α × PyData)}, Paired (fun (p : α × V) (q : α × PyData) => p.1 = q.1 ∧ Rp K G p.2 q.2) kvs kds → Paired (fun (p : α × V) (q : α × PyData) => p.1 = q.1 ∧ Rp K G' p.2 q.2) kvs kds
  | _, _, .nil => .nil
  | _, _, .cons q t => .cons ⟨q.1, Rp.mono h _ _ q.2⟩ (kdr_mono h t)
theorem NdR.mono {K : PySem.W.Frag} {G H G' H' : Hp} {a : Addr} {n : Nd} (q : NdR K G H a n) (g : Same G G') (h : H' a = H a) : NdR K G' H' a n := by
  cases n with
  | ls ds =>
    obtain ⟨xs, h1, h2⟩ := q
    exact ⟨xs, h.trans h1, h2.mono g _ _⟩
  | ob c gs =>
    obtain ⟨dx, fs, h1, h2⟩ := q
    exact ⟨dx, fs, h.trans h1, h2.mono g⟩
  | dk kds =>
    obtain ⟨kvs, h1, h2⟩ := q
    exact ⟨kvs, h.trans h1, kdr_mono g h2⟩
  | dt kds =>
    obtain ⟨kvs, h1, h2⟩ := q
    exact ⟨kvs, h.trans h1, kdr_mono g h2⟩
theorem NdR.lo {K : PySem.W.Frag} {G H : Hp} {a : Addr} {n : Nd} (q : NdR K G H a n) : LoA (H a) := by
  cases n with
  | ls ds =>
    obtain ⟨xs, h1, h2⟩ := q
    exact .lst h1
  | ob c gs =>
    obtain ⟨dx, fs, h1, h2⟩ := q
    exact .ins h1
  | dk kds =>
    obtain ⟨kvs, h1, h2⟩ := q
    exact .dK h1
  | dt kds =>
    obtain ⟨kvs, h1, h2⟩ := q
    exact .dT h1
theorem NdR.same {K : PySem.W.Frag} {G H G' H' : Hp} {a : Addr} {n : Nd} (q : NdR K G H a n) (g : Same G G') (h : Same H H') : NdR K G' H' a n := by
  obtain ⟨u, h1, _⟩ := q.lo
  exact q.mono g ((h _ _ h1).trans h1.symm)
/-- the addresses that a slot alone holds -/
def Sl.has (o : Option (Option V)) (x : Addr) : Sl → Prop
  | .ow _ => o = some (some (.ref x))
  | .ob a p _ _ _ _ => x = a ∨ x = p
  | .gn w => x ∈ w.fp
  | .mm _ M => mget M x ≠ none
  | _ => False
def DJ (σ : L2.St) (e : En) : Prop := ∀ (i j : Nat) (s s' : Sl) (x : Addr), i ≠ j → e[i]? = some s → e[j]? = some s' → s.has σ[i]? x → s'.has σ[j]? x → False
theorem DJ.le {σ : L2.St} {e e' : En} (h : DJ σ e) (g : ∀ (j : Nat) (s : Sl) (x : Addr), e'[j]? = some s → s.has σ[j]? x → ∃ s', e[j]? = some s' ∧ s'.has σ[j]? x) : DJ σ e' := fun i j s s' x hij hi hj h1 h2 => by
  obtain ⟨t, t1, t2⟩ := g i s x hi h1
  obtain ⟨u, u1, u2⟩ := g j s' x hj h2
  exact h i j t u x hij t1 u1 t2 u2
theorem set_get {α : Type} (l : List α) (i j : Nat) (x : α) : (l.set i x)[j]? = if i = j ∧ i < l.length then some x else l[j]? := by
  by_cases h : i = j
  · subst h
    by_cases hl : i < l.length
    · rw [List.getElem?_set_self hl, if_pos ⟨rfl, hl⟩]
    · rw [if_neg (fun z => hl z.2), List.getElem?_eq_none (by simpa using hl), List.getElem?_eq_none (by simpa using hl)]
  · rw [List.getElem?_set_ne h, if_neg (fun z => h z.1)]
theorem DJ.set {σ : L2.St} {e : En} (h : DJ σ e) (hl : e.length = σ.length) (i : Nat) (o : Option V) (t : Sl) (g : ∀ x, t.has (some o) x → ∀ (j : Nat) (s : Sl), e[j]? = some s → ¬ s.has σ[j]? x) : DJ (σ.set i o) (e.set i t) := fun a b s s' x hab ha hb h1 h2 => by
  rw [set_get] at ha hb h1 h2
  rw [← hl] at h1 h2
  by_cases c1 : i = a ∧ i < e.length
  · have c2 : ¬ (i = b ∧ i < e.length) := fun z => hab (c1.1.symm.trans z.1)
    rw [if_pos c1] at ha h1
    rw [if_neg c2] at hb h2
    cases ha
    exact g x h1 b s' hb h2
  · rw [if_neg c1] at ha h1
    by_cases c2 : i = b ∧ i < e.length
    · rw [if_pos c2] at hb h2
      cases hb
      exact g x h2 a s ha h1
    · rw [if_neg c2] at hb h2
      exact h a b s s' x hab ha hb h1 h2
def SlR (K : PySem.W.Frag) (H0 G H : Hp) (o : Option (Option V)) : Sl → Prop
  | .no => True
  | .fz d => ∃ v, o = some (some v) ∧ Rp K G v d
  | .ow ds => ∃ p xs, o = some (some (.ref p)) ∧ H p = some (.lst xs) ∧ G p = none ∧ H0 p = none ∧ RpAll K G xs ds
  | .xn a k d y => o = some (some (.ref a)) ∧ k = .ref (He.ga K y.cls) ∧ DcR K G d y
  | .ob a p c pre f ds => o = some (some (.ref a)) ∧ ObH K G H a p c pre f ds ∧ (G a = none ∧ G p = none) ∧ H0 a = none ∧ H0 p = none
  | .gn w => ∃ v, o = some (some v) ∧ w.ok K G H v ∧ ∀ x ∈ w.fp, G x = none ∧ H0 x = none
  | .mm d M => ∃ v, o = some (some v) ∧ Rp K G v d ∧ ∀ x n, mget M x = some n → NdR K G H x n ∧ G x = none ∧ H0 x = none
  | .mb d M => ∃ v, o = some (some v) ∧ Rp K G v d ∧ ∀ x n, mget M x = some n → NdR K G H x n ∧ H0 x ≠ none
theorem SlR.foot {K : PySem.W.Frag} {H0 G H : Hp} {o : Option (Option V)} {s : Sl} {x : Addr} (h : SlR K H0 G H o s) (k : s.has o x) : H x ≠ none ∧ G x = none ∧ H0 x = none := by
  cases s with
  | no => exact k.elim
  | fz d => exact k.elim
  | xn a k' d y => exact k.elim
  | gn w =>
    obtain ⟨v, _, h2, h3⟩ := h
    exact ⟨w.lo h2 x k, h3 x k⟩
  | mm d M =>
    obtain ⟨v, _, _, h3⟩ := h
    cases hm : mget M x with
    | none => exact (k hm).elim
    | some n =>
      obtain ⟨q1, q2, q3⟩ := h3 x n hm
      exact ⟨q1.lo.ne, q2, q3⟩
  | mb d M => exact k.elim
  | ow ds =>
    obtain ⟨p, xs, h1, h2, h3, h4, _⟩ := h
    have k' : o = some (some (.ref x)) := k
    rw [h1] at k'
    cases k'
    exact ⟨by rw [h2]; exact Option.some_ne_none _, h3, h4⟩
  | ob a p c pre f ds =>
    obtain ⟨_, ⟨dx, vs, xs, h1, _, h3, _⟩, ⟨h5, h6⟩, h7, h8⟩ := h
    have k' : x = a ∨ x = p := k
    rcases k' with rfl | rfl
    · exact ⟨by rw [h1]; exact Option.some_ne_none _, h5, h7⟩
    · exact ⟨by rw [h3]; exact Option.some_ne_none _, h6, h8⟩
structure StR (K : PySem.W.Frag) (G0 H0 G H : Hp) (σ : L2.St) (e : En) : Prop where
  sub : Same G H
  gr : Grow G0 H0 G H
  len : e.length = σ.length
  sl : ∀ (i : Nat) (s : Sl), e[i]? = some s → SlR K H0 G H σ[i]? s
  dj : DJ σ e
/-- no slot holds what is not there -/
theorem StR.free {K : PySem.W.Frag} {G0 H0 G H : Hp} {σ : L2.St} {e : En} (s : StR K G0 H0 G H σ e) {x : Addr} (h : H x = none ∨ G x ≠ none ∨ H0 x ≠ none) : ∀ (i : Nat) (t : Sl), e[i]? = some t → ¬ t.has σ[i]? x := fun i t hi k => by
  obtain ⟨h1, h2, h3⟩ := (s.sl i t hi).foot k
  rcases h with h | h | h
  · exact h1 h
  · exact h h2
  · exact h h3
theorem StR.grow {K : PySem.W.Frag} {G0 H0 G H G' H' : Hp} {σ : L2.St} {e : En} (s : StR K G0 H0 G H σ e) (g : Grow G H G' H') (sub : Same G' H') : StR K G0 H0 G' H' σ e where
  sub := sub
  gr := s.gr.trans g
  len := s.len
  sl := fun i x hx => by
    have h := s.sl i x hx
    cases x with
    | no => trivial
    | fz d =>
      obtain ⟨v, h1, h2⟩ := h
      exact ⟨v, h1, h2.mono g.gg _ _⟩
    | ow ds =>
      obtain ⟨p, xs, h1, h2, h3, h4, h5⟩ := h
      exact ⟨p, xs, h1, g.hh _ _ h2, g.nn p h3 (by rw [h2]; exact Option.some_ne_none _), h4, h5.mono g.gg _ _⟩
    | xn a k d y => exact ⟨h.1, h.2.1, h.2.2.mono g.gg⟩
    | gn w =>
      obtain ⟨v, h1, h2, h3⟩ := h
      exact ⟨v, h1, w.up h2 g.gg fun y u hy _ => g.hh y u hy, fun y hy => ⟨g.nn y (h3 y hy).1 (w.lo h2 y hy), (h3 y hy).2⟩⟩
    | mm d M =>
      obtain ⟨v, h1, h2, h3⟩ := h
      refine ⟨v, h1, h2.mono g.gg _ _, fun x n hm => ?_⟩
      obtain ⟨q1, q2, q3⟩ := h3 x n hm
      exact ⟨q1.same g.gg g.hh, g.nn x q2 q1.lo.ne, q3⟩
    | mb d M =>
      obtain ⟨v, h1, h2, h3⟩ := h
      refine ⟨v, h1, h2.mono g.gg _ _, fun x n hm => ?_⟩
      obtain ⟨q1, q3⟩ := h3 x n hm
      exact ⟨q1.same g.gg g.hh, q3⟩
    | ob a p c pre f ds =>
      obtain ⟨h1, h2, ⟨h3, h4⟩, h5, h6⟩ := h
      obtain ⟨dx, vs, xs, k1, k2, k3, k4⟩ := id h2
      exact ⟨h1, h2.grow g.gg g.hh, ⟨g.nn a h3 (by rw [k1]; exact Option.some_ne_none _), g.nn p h4 (by rw [k3]; exact Option.some_ne_none _)⟩, h5, h6⟩
  dj := s.dj

/-- a result: Hs the heap where the expression began -/
def RsR (K : PySem.W.Frag) (Hs G H : Hp) (v : V) : Rs → Prop
  | .va d => Rp K G v d
  | .nw ds => ∃ p xs, v = .ref p ∧ Hs p = none ∧ H p = some (.lst xs) ∧ G p = none ∧ RpAll K G xs ds
  | .bo ds => ∃ p xs, v = .ref p ∧ H p = some (.lst xs) ∧ RpAll K G xs ds
  | .bb c pre f ds => ∃ a p, v = .ref a ∧ ObH K G H a p c pre f ds ∧ G a = none ∧ G p = none
  | .bg k ds => ∃ fp : List Addr, (∀ x ∈ fp, G x = none ∧ LoA (H x)) ∧ Rp K (exth H G fp) v (k.d ds)
theorem exth_grow {G H G' H' : Hp} {fp : List Addr} (g : Grow G H G' H') (l : ∀ x ∈ fp, LoA (H x)) : Same (exth H G fp) (exth H' G' fp) := fun a o e => by
  by_cases h : a ∈ fp
  · rw [exth_in h] at e ⊢
    exact g.hh _ _ e
  · rw [exth_ne h] at e ⊢
    exact g.gg _ _ e
theorem bg_grow {K : PySem.W.Frag} {G H G' H' : Hp} {v : V} {d : PyData} (g : Grow G H G' H') (h : ∃ fp : List Addr, (∀ x ∈ fp, G x = none ∧ LoA (H x)) ∧ Rp K (exth H G fp) v d) : ∃ fp : List Addr, (∀ x ∈ fp, G' x = none ∧ LoA (H' x)) ∧ Rp K (exth H' G' fp) v d := by
  obtain ⟨fp, h1, h2⟩ := h
  refine ⟨fp, fun x hx => ?_, h2.mono (exth_grow g fun x hx => (h1 x hx).2) _ _⟩
  obtain ⟨k1, u, k2, k3⟩ := h1 x hx
  exact ⟨g.nn x k1 (by rw [k2]; exact Option.some_ne_none _), u, g.hh _ _ k2, k3⟩
theorem RsR.grow {K : PySem.W.Frag} {Hs G H G' H' : Hp} {v : V} {r : Rs} (h : RsR K Hs G H v r) (g : Grow G H G' H') : RsR K Hs G' H' v r := by
  cases r with
  | va d => exact Rp.mono g.gg _ _ h
  | nw ds =>
    obtain ⟨p, xs, h1, h2, h3, h4, h5⟩ := h
    exact ⟨p, xs, h1, h2, g.hh _ _ h3, g.nn p h4 (by rw [h3]; exact Option.some_ne_none _), h5.mono g.gg _ _⟩
  | bo ds =>
    obtain ⟨p, xs, h1, h2, h3⟩ := h
    exact ⟨p, xs, h1, g.hh _ _ h2, h3.mono g.gg _ _⟩
  | bb c pre f ds =>
    obtain ⟨a, p, h1, h2, h3, h4⟩ := h
    obtain ⟨dx, vs, xs, k1, k2, k3, k4⟩ := id h2
    exact ⟨a, p, h1, h2.grow g.gg g.hh, g.nn a h3 (by rw [k1]; exact Option.some_ne_none _), g.nn p h4 (by rw [k3]; exact Option.some_ne_none _)⟩
  | bg k ds => exact bg_grow g h
theorem RsR.back {K : PySem.W.Frag} {Hs Hr G H : Hp} {v : V} {r : Rs} (h : RsR K Hs G H v r) (s : Same Hr Hs) : RsR K Hr G H v r := by
  cases r with
  | va d => exact h
  | nw ds =>
    obtain ⟨p, xs, h1, h2, h3, h4, h5⟩ := h
    exact ⟨p, xs, h1, s.free h2, h3, h4, h5⟩
  | bo ds => exact h
  | bb c pre f ds => exact h
  | bg k ds => exact h
/-- the weak view -/
theorem RsR.wk {K : PySem.W.Frag} {Hs G H : Hp} {v : V} {r : Rs} (h : RsR K Hs G H v r) (s : Same G H) : Rp K H v r.d := by
  cases r with
  | va d => exact Rp.mono s _ _ h
  | nw ds =>
    obtain ⟨p, xs, rfl, _, h3, _, h5⟩ := h
    exact .lst h3 (h5.mono s _ _)
  | bo ds =>
    obtain ⟨p, xs, rfl, h2, h3⟩ := h
    exact .lst h2 (h3.mono s _ _)
  | bb c pre f ds =>
    obtain ⟨a, p, rfl, h2, h3, h4⟩ := h
    exact rp_obP (h2.grow s (Same.refl _))
  | bg k ds =>
    obtain ⟨fp, h1, h2⟩ := h
    exact h2.mono (exth_sub s) _ _
theorem RsR.list {K : PySem.W.Frag} {Hs G H : Hp} {v : V} {r : Rs} {ds : List PyData} (h : RsR K Hs G H v r) (s : Same G H) (e : r.d = .list ds) : ∃ p xs, v = .ref p ∧ H p = some (.lst xs) ∧ RpAll K G xs ds := by
  cases r with
  | va d =>
    have e2 : d = .list ds := e
    subst e2
    cases h with
    | lst h1 h2 => exact ⟨_, _, rfl, s _ _ h1, h2⟩
  | nw ds' =>
    cases e
    obtain ⟨p, xs, h1, _, h3, _, h5⟩ := h
    exact ⟨p, xs, h1, h3, h5⟩
  | bo ds' =>
    cases e
    exact h
  | bb c pre f ds => cases e
  | bg k ds => cases k <;> cases e
theorem RsR.tuple {K : PySem.W.Frag} {Hs G H : Hp} {v : V} {r : Rs} {ds : List PyData} (h : RsR K Hs G H v r) (e : r.d = .tuple ds) : ∃ p xs, v = .ref p ∧ SqT K G p xs ∧ RpAll K G xs ds := by
  cases r with
  | va d =>
    have e2 : d = .tuple ds := e
    subst e2
    cases h with
    | tup h1 h2 => exact ⟨_, _, rfl, h1, h2⟩
  | nw ds' => cases e
  | bo ds' => cases e
  | bb c pre f ds => cases e
  | bg k ds => cases k <;> cases e
/-- a new list may be taken as one that stays -/
theorem RsR.fix {K : PySem.W.Frag} {G0 H0 Hs Gs G H : Hp} {σ : L2.St} {e : En} {v : V} {r : Rs} (h : RsR K Hs G H v r) (s : Same G H) (g : Grow Gs Hs G H) (hr : r.stays = true) : ∃ G', Same G' H ∧ Same G G' ∧ Grow Gs Hs G' H ∧ Rp K G' v r.d ∧ ∀ a, G a = none → H a ≠ none → v ≠ .ref a → G' a = none := by
  cases r with
  | va d => exact ⟨G, s, Same.refl _, g, h, fun _ h _ _ => h⟩
  | nw ds =>
    obtain ⟨p, xs, rfl, h2, h3, h4, h5⟩ := h
    have sg : Same G (upd G p (.lst xs)) := same_new h4
    refine ⟨upd G p (.lst xs), fun a u q => ?_, sg, ⟨g.gg.trans sg, g.hh, fun a k1 k2 => ?_⟩, .lst upd_same (h5.mono sg _ _), fun a k1 k2 k3 => ?_⟩
    · by_cases ha : a = p
      · subst ha
        rw [upd_same] at q
        rw [h3]
        exact q
      · rw [upd_ne ha] at q
        exact s _ _ q
    · have hn : a ≠ p := fun z => k2 (by rw [z]; exact h2)
      rw [upd_ne hn]
      exact g.nn a k1 k2
    · have hn : a ≠ p := fun z => k3 (by rw [z])
      rw [upd_ne hn]
      exact k1
  | bo ds => cases hr
  | bb c pre f ds => cases hr
  | bg k ds => cases hr

/-- what a name may take -/
def Asn (K : PySem.W.Frag) (H0 G H : Hp) (σ : L2.St) (e : En) (v : V) : Rs → Prop
  | .va d => Rp K G v d
  | .nw ds => ∃ p xs, v = .ref p ∧ H p = some (.lst xs) ∧ G p = none ∧ H0 p = none ∧ RpAll K G xs ds ∧ ∀ (i : Nat) (t : Sl), e[i]? = some t → ¬ t.has σ[i]? p
  | .bo _ => False
  | .bb _ _ _ _ => False
  | .bg _ _ => False
/-- what a name takes whole -/
structure AsnG (K : PySem.W.Frag) (H0 G H : Hp) (σ : L2.St) (e : En) (v : V) (w : GS) : Prop where
  ok : w.ok K G H v
  nn : ∀ x ∈ w.fp, G x = none ∧ H0 x = none
  fr : ∀ x ∈ w.fp, ∀ (i : Nat) (t : Sl), e[i]? = some t → ¬ t.has σ[i]? x
theorem asn_of {K : PySem.W.Frag} {G0 H0 Gs Hs G H : Hp} {σ : L2.St} {e : En} {v : V} {r : Rs} (hs : StR K G0 H0 Gs Hs σ e) (h : RsR K Hs G H v r) (hr : r.stays = true) : Asn K H0 G H σ e v r := by
  cases r with
  | va d => exact h
  | nw ds =>
    obtain ⟨p, xs, h1, h2, h3, h4, h5⟩ := h
    exact ⟨p, xs, h1, h3, h4, hs.gr.hh.free h2, h5, hs.free (.inl h2)⟩
  | bo ds => cases hr
  | bb c pre f ds => cases hr
  | bg k ds => cases hr
theorem Asn.rsr {K : PySem.W.Frag} {H0 G H : Hp} {σ : L2.St} {e : En} {v : V} {r : Rs} (h : Asn K H0 G H σ e v r) : RsR K H0 G H v r := by
  cases r with
  | va d => exact h
  | nw ds =>
    obtain ⟨p, xs, h1, h2, h3, h4, h5, _⟩ := h
    exact ⟨p, xs, h1, h4, h2, h3, h5⟩
  | bo ds => exact h.elim
  | bb c pre f ds => exact h.elim
  | bg k ds => exact h.elim
/-- a slot is let go -/
theorem StR.forget {K : PySem.W.Frag} {G0 H0 G H : Hp} {σ : L2.St} {e : En} (hs : StR K G0 H0 G H σ e) (i : Nat) : StR K G0 H0 G H σ (e.set i .no) where
  sub := hs.sub
  gr := hs.gr
  len := by rw [List.length_set]; exact hs.len
  sl := fun j s hj => by
    rw [set_get] at hj
    by_cases hc : i = j ∧ i < e.length
    · rw [if_pos hc] at hj
      cases hj
      trivial
    · rw [if_neg hc] at hj
      exact hs.sl j s hj
  dj := hs.dj.le fun j s x hj hx => by
    rw [set_get] at hj
    by_cases hc : i = j ∧ i < e.length
    · rw [if_pos hc] at hj
      cases hj
      exact hx.elim
    · rw [if_neg hc] at hj
      exact ⟨s, hj, hx⟩

/-! ### what is said of readings -/
abbrev Xk := Xn → Prop
abbrev XE := En → (Rs → Prop) → Xk → Prop
abbrev XT := En → (Bool → Prop) → Xk → Prop
abbrev XA := En → (List Rs → Prop) → Xk → Prop
structure EnV where
  nx : En → Prop
  rt : Rs → En → Prop
  bk : En → Prop
  ct : En → Prop
  ex : Xn → En → Prop
  rg : GS → En → Prop
abbrev US := EnV → En → Prop

def RefE (K : PySem.W.Frag) (W : WX) (te : TE) (x : XE) : Prop := ∀ (G0 H0 G H : Hp) (σ : L2.St) (e : En) (Q : VK) (q : Rs → Prop) (ex : Xk), StR K G0 H0 G H σ e → x e q ex →
  (∀ G' H' v r, Same G' H' → Grow G H G' H' → RsR K H G' H' v r → q r → Q v H') →
  (∀ G' H' cls d y, Same G' H' → Grow G H G' H' → XR K G' H' cls d y → ex y → W cls d σ H') → te σ H Q
def RefT (K : PySem.W.Frag) (W : WX) (tt : TT) (x : XT) : Prop := ∀ (G0 H0 G H : Hp) (σ : L2.St) (e : En) (Q : Bool → Hp → Prop) (q : Bool → Prop) (ex : Xk), StR K G0 H0 G H σ e → x e q ex →
  (∀ G' H' b, Same G' H' → Grow G H G' H' → q b → Q b H') →
  (∀ G' H' cls d y, Same G' H' → Grow G H G' H' → XR K G' H' cls d y → ex y → W cls d σ H') → tt σ H Q
def RefA (K : PySem.W.Frag) (W : WX) (ta : TA) (x : XA) : Prop := ∀ (G0 H0 G H : Hp) (σ : L2.St) (e : En) (Q : List V → Hp → Prop) (q : List Rs → Prop) (ex : Xk), StR K G0 H0 G H σ e → x e q ex →
  (∀ G' H' vs rs, Same G' H' → Grow G H G' H' → Paired (RsR K H G' H') vs rs → q rs → Q vs H') →
  (∀ G' H' cls d y, Same G' H' → Grow G H G' H' → XR K G' H' cls d y → ex y → W cls d σ H') → ta σ H Q
structure Link (K : PySem.W.Frag) (G0 H0 : Hp) (W : WX) (D : Ends) (V : EnV) : Prop where
  nx : ∀ G H σ e, StR K G0 H0 G H σ e → V.nx e → D.nx σ H
  rt : ∀ G H σ e v r, StR K G0 H0 G H σ e → Asn K H0 G H σ e v r → V.rt r e → D.rt v H
  bk : ∀ G H σ e, StR K G0 H0 G H σ e → V.bk e → D.bk σ H
  ct : ∀ G H σ e, StR K G0 H0 G H σ e → V.ct e → D.ct σ H
  ex : ∀ G H σ e cls d y, StR K G0 H0 G H σ e → XR K G H cls d y → V.ex y e → W cls d σ H
  rg : ∀ G H σ e v w, StR K G0 H0 G H σ e → AsnG K H0 G H σ e v w → V.rg w e → D.rt v H
def RefS (K : PySem.W.Frag) (W : WX) (t : TS) (u : US) : Prop := ∀ (G0 H0 : Hp) (D : Ends) (V : EnV), Link K G0 H0 W D V → ∀ G H σ e, StR K G0 H0 G H σ e → u V e → t D σ H

structure VE (X : Cx) (W : WX) (e : Expr) (t : TE) (x : XE) : Prop where
  pe : PE X e t
  rf : RefE X.K W t x
structure VT (X : Cx) (W : WX) (e : Expr) (t : TT) (x : XT) : Prop where
  pt : PT X e t
  rf : RefT X.K W t x
structure VW (X : Cx) (W : WX) (e : Expr) (t : TT) (x : XT) : Prop where
  pw : PW X e t
  rf : RefT X.K W t x
structure VA (X : Cx) (W : WX) (es : List Expr) (t : TA) (x : XA) : Prop where
  pa : PA X es t
  rf : RefA X.K W t x
structure VS (X : Cx) (W : WX) (s : Stmt) (t : TS) (u : US) : Prop where
  ps : PS X s t
  rf : RefS X.K W t u
structure VSs (X : Cx) (W : WX) (s : List Stmt) (t : TS) (u : US) : Prop where
  ps : PSs X s t
  rf : RefS X.K W t u

/-! ### names, constants -/
section
variable {X : Cx} {W : WX} {K : PySem.W.Frag}
def xVar (i : Nat) : XE := fun e q _ => match e[i]? with
  | some (.fz d) => q (.va d)
  | some (.ow ds) => q (.bo ds)
  | some (.ob _ _ c pre f ds) => q (.bb c pre f ds)
  | some (.mm d _) => q (.va d)
  | some (.mb d _) => q (.va d)
  | _ => False
theorem ref_var {i : Nat} : RefE K W (tVar i) (xVar i) := by
  intro G0 H0 G H σ e Q q ex hs hx hq _
  unfold xVar at hx
  cases h : e[i]? with
  | none =>
    rw [h] at hx
    exact hx.elim
  | some s =>
    rw [h] at hx
    have hh := hs.sl i s h
    cases s with
    | no => exact hx.elim
    | fz d =>
      obtain ⟨v, h1, h2⟩ := hh
      exact ⟨v, h1, hq G H v (.va d) hs.sub .refl h2 hx⟩
    | ow ds =>
      obtain ⟨p, xs, h1, h2, h3, h4, h5⟩ := hh
      exact ⟨_, h1, hq G H _ (.bo ds) hs.sub .refl ⟨p, xs, rfl, h2, h5⟩ hx⟩
    | xn a k d y => exact hx.elim
    | gn w => exact hx.elim
    | mm d M =>
      obtain ⟨v, h1, h2, _⟩ := hh
      exact ⟨v, h1, hq G H v (.va d) hs.sub .refl h2 hx⟩
    | mb d M =>
      obtain ⟨v, h1, h2, _⟩ := hh
      exact ⟨v, h1, hq G H v (.va d) hs.sub .refl h2 hx⟩
    | ob a p c pre f ds =>
      obtain ⟨h1, h2, h3, _⟩ := hh
      exact ⟨_, h1, hq G H _ (.bb c pre f ds) hs.sub .refl ⟨a, p, rfl, h2, h3.1, h3.2⟩ hx⟩
theorem ve_var (i : Nat) {x : Str} {pos : Pos} (hN : X.N[i]? = some x := by rfl) (hv : Vis X.env.scope x := by first | exact Or.inl rfl | exact Or.inr (Or.inl rfl) | exact Or.inr (Or.inr rfl)) (hd : (x == ("__debug__" : Str)) = false := by decide)
    (hcd : (x == ("__classdict__" : Str)) = false := by decide) : VE X W (.Name x pos) (tVar i) (xVar i) := ⟨pe_var hN hv hd hcd, ref_var⟩
def xC (d : PyData) : XE := fun _ q _ => q (.va d)
theorem ref_c {v : V} {d : PyData} (h : ∀ G, Rp K G v d) : RefE K W (tC v) (xC d) := fun _ _ G H _ _ _ _ _ hs hx hq _ => hq G H v (.va d) hs.sub .refl (h G) hx
theorem ve_int {i : Int} {j pos} : VE X W (.Constant (.int i) j pos) (tC (.int i)) (xC (.int i)) := ⟨pe_int, ref_c fun _ => .int i⟩
theorem ve_bl {b : Bool} {j pos} : VE X W (.Constant (.bool b) j pos) (tC (.bl b)) (xC (.bool b)) := ⟨pe_bl, ref_c fun _ => .bl b⟩
theorem ve_non {j pos} : VE X W (.Constant .none j pos) (tC .non) (xC .none) := ⟨pe_non, ref_c fun _ => .non⟩
theorem ve_str {x : Str} {j pos} : VE X W (.Constant (.str x) j pos) (tC (.str x)) (xC (.str x)) := ⟨pe_str, ref_c fun _ => .str x⟩
theorem ve_glob {x : Str} {v : V} {d : PyData} {u : Value} {pos : Pos} (hg : Gl X x) (hm : X.mg x = some u) (r : RelV v u) (h : ∀ G, Rp X.K G v d) (hd : (x == ("__debug__" : Str)) = false := by decide) : VE X W (.Name x pos) (tC v) (xC d) := ⟨pe_glob hg hm r hd, ref_c h⟩

/-! ### operators on data that give no new object -/
abbrev X2 := PyData → PyData → (PyData → Prop) → Prop
abbrev X1 := PyData → (PyData → Prop) → Prop
def Ref2 (K : PySem.W.Frag) (r : R2) (x : X2) : Prop := ∀ (H : Hp) (v w : V) (a b : PyData) (Q : VK) (q : PyData → Prop), Rp K H v a → Rp K H w b → x a b q → (∀ u c, (∀ G, Rp K G u c) → q c → Q u H) → r v w H Q
def Ref1 (K : PySem.W.Frag) (r : V → Hp → VK → Prop) (x : X1) : Prop := ∀ (H : Hp) (v : V) (a : PyData) (Q : VK) (q : PyData → Prop), Rp K H v a → x a q → (∀ u c, (∀ G, Rp K G u c) → q c → Q u H) → r v H Q
def xOp (x : X2) (xa xb : XE) : XE := fun e q ex => xa e (fun r => xb e (fun s => x r.d s.d fun c => q (.va c)) ex) ex
theorem ref_op {r : R2} {x : X2} {ta tb : TE} {xa xb : XE} (h : Ref2 K r x) (ha : RefE K W ta xa) (hb : RefE K W tb xb) : RefE K W (tOp r ta tb) (xOp x xa xb) := by
  intro G0 H0 G H σ e Q q ex hs hx hq hw
  refine ha G0 H0 G H σ e _ _ ex hs hx (fun G1 H1 v r1 s1 g1 rr1 k1 => ?_) hw
  have hs1 := hs.grow g1 s1
  refine hb G0 H0 G1 H1 σ e _ _ ex hs1 k1 (fun G2 H2 w' r2 s2 g2 rr2 k2 => ?_) fun G2 H2 cls d y s2 g2 => hw G2 H2 cls d y s2 (g1.trans g2)
  exact h H2 v w' _ _ Q _ ((rr1.grow g2).wk s2) (rr2.wk s2) k2 fun u c hc qc => hq G2 H2 u (.va c) s2 (g1.trans g2) (hc G2) qc
theorem ve_op {op : Operator} {r : R2} {x : X2} {a b : Expr} {ta tb : TE} {xa xb : XE} {pos : Pos} (ho : OpR X (binaryOp op) r) (h : Ref2 X.K r x) (ha : VE X W a ta xa) (hb : VE X W b tb xb) : VE X W (.BinOp a op b pos) (tOp r ta tb) (xOp x xa xb) :=
  ⟨pe_op ho ha.pe hb.pe, ref_op h ha.rf hb.rf⟩
def xUn (x : X1) (xa : XE) : XE := fun e q ex => xa e (fun r => x r.d fun c => q (.va c)) ex
theorem ref_un {r : V → Hp → VK → Prop} {x : X1} {ta : TE} {xa : XE} (h : Ref1 K r x) (ha : RefE K W ta xa) : RefE K W (tUn r ta) (xUn x xa) := by
  intro G0 H0 G H σ e Q q ex hs hx hq hw
  refine ha G0 H0 G H σ e _ _ ex hs hx (fun G1 H1 v r1 s1 g1 rr1 k1 => ?_) hw
  exact h H1 v _ Q _ (rr1.wk s1) k1 fun u c hc qc => hq G1 H1 u (.va c) s1 g1 (hc G1) qc
theorem ve_un {op : UnaryOp} {r : V → Hp → VK → Prop} {x : X1} {a : Expr} {ta : TE} {xa : XE} {pos : Pos} (ho : UnR X (unaryOp op) r) (h : Ref1 X.K r x) (ha : VE X W a ta xa) : VE X W (.UnaryOp op a pos) (tUn r ta) (xUn x xa) := ⟨pe_un ho ha.pe, ref_un h ha.rf⟩
def yI (g : Int → Int → PyData) : X2 := fun a b q => match a, b with
  | .int i, .int j => q (g i j)
  | _, _ => False
def yIc (C : Int → Int → Prop) (g : Int → Int → PyData) : X2 := fun a b q => match a, b with
  | .int i, .int j => C i j ∧ q (g i j)
  | _, _ => False
theorem r2_I0 {g : Int → Int → V} {g' : Int → Int → PyData} (h : ∀ i j G, Rp K G (g i j) (g' i j)) : Ref2 K (rI0 g) (yI g') := by
  intro H v w a b Q q ha hb hx hq
  cases ha <;> cases hb <;> first
    | exact False.elim hx
    | exact ⟨_, _, rfl, rfl, hq _ _ (h _ _) hx⟩
theorem r2_I {C : Int → Int → Prop} {g : Int → Int → V} {g' : Int → Int → PyData} (h : ∀ i j G, Rp K G (g i j) (g' i j)) : Ref2 K (rI C g) (yIc C g') := by
  intro H v w a b Q q ha hb hx hq
  cases ha <;> cases hb <;> first
    | exact False.elim hx
    | exact ⟨_, _, rfl, rfl, hx.1, hq _ _ (h _ _) hx.2⟩
abbrev yAdd : X2 := yI fun i j => .int (i + j)
abbrev ySub : X2 := yI fun i j => .int (i - j)
abbrev yMul : X2 := yIc CMul fun i j => .int (i * j)
abbrev yDiv : X2 := yIc CDiv fun i j => .int (i / j)
abbrev yMod : X2 := yIc (fun _ j => 0 < j) fun i j => .int (i % j)
abbrev yPow : X2 := yIc CPow fun i j => .int (i ^ j.toNat)
variable {a b : Expr} {ta tb : TE} {xa xb : XE} {pos : Pos}
theorem ve_add (ha : VE X W a ta xa) (hb : VE X W b tb xb) : VE X W (.BinOp a .Add b pos) (tOp (rI0 fun i j => .int (i + j)) ta tb) (xOp yAdd xa xb) := ve_op op_add (r2_I0 fun _ _ _ => .int _) ha hb
theorem ve_sub (ha : VE X W a ta xa) (hb : VE X W b tb xb) : VE X W (.BinOp a .Sub b pos) (tOp (rI0 fun i j => .int (i - j)) ta tb) (xOp ySub xa xb) := ve_op op_sub (r2_I0 fun _ _ _ => .int _) ha hb
theorem ve_mul (ha : VE X W a ta xa) (hb : VE X W b tb xb) : VE X W (.BinOp a .Mult b pos) (tOp (rI CMul fun i j => .int (i * j)) ta tb) (xOp yMul xa xb) := ve_op op_mul (r2_I fun _ _ _ => .int _) ha hb
theorem ve_div (ha : VE X W a ta xa) (hb : VE X W b tb xb) : VE X W (.BinOp a .FloorDiv b pos) (tOp (rI CDiv fun i j => .int (i / j)) ta tb) (xOp yDiv xa xb) := ve_op op_fdiv (r2_I fun _ _ _ => .int _) ha hb
theorem ve_mod (ha : VE X W a ta xa) (hb : VE X W b tb xb) : VE X W (.BinOp a .Mod b pos) (tOp (rI (fun _ j => 0 < j) fun i j => .int (i % j)) ta tb) (xOp yMod xa xb) := ve_op op_mod (r2_I fun _ _ _ => .int _) ha hb
theorem ve_pow (ha : VE X W a ta xa) (hb : VE X W b tb xb) : VE X W (.BinOp a .Pow b pos) (tOp (rI CPow fun i j => .int (i ^ j.toNat)) ta tb) (xOp yPow xa xb) := ve_op op_pow (r2_I fun _ _ _ => .int _) ha hb
def yNeg : X1 := fun a q => match a with
  | .int i => q (.int (-i))
  | _ => False
theorem ve_neg (ha : VE X W a ta xa) : VE X W (.UnaryOp .USub a pos) (tUn (rU fun i => .int (-i)) ta) (xUn yNeg xa) := ve_un un_neg (fun H v a Q q h hx hq => by
  cases h <;> first
    | exact False.elim hx
    | exact ⟨_, rfl, hq _ _ (fun _ => .int _) hx⟩) ha
def yAddS : X2 := fun a b q => match a, b with
  | .str i, .str j => i.length + j.length ≤ sizeLine ∧ q (.str (i ++ j))
  | _, _ => False
theorem ve_addS (ha : VE X W a ta xa) (hb : VE X W b tb xb) : VE X W (.BinOp a .Add b pos) (tOp (fun x y H Q => ∃ i j, x = .str i ∧ y = .str j ∧ i.length + j.length ≤ sizeLine ∧ Q (.str (i ++ j)) H) ta tb) (xOp yAddS xa xb) :=
  ve_op op_add_str (fun H v w a b Q q ha hb hx hq => by
    cases ha <;> cases hb <;> first
      | exact False.elim hx
      | exact ⟨_, _, rfl, rfl, hx.1, hq _ _ (fun _ => .str _) hx.2⟩) ha hb

/-! ### comparisons -/
theorem ve_cmp {op : CmpOp} {r : R2} {x : X2} (ho : OpR X (compareOp op) r) (h : Ref2 X.K r x) (ha : VE X W a ta xa) (hb : VE X W b tb xb) (hm : behindInMarks op b = false) : VE X W (.Compare a [op] [b] pos) (tOp r ta tb) (xOp x xa xb) :=
  ⟨pe_cmpR ho ha.pe hb.pe hm, ref_op h ha.rf hb.rf⟩
def xB (x : XE) : XT := fun e q ex => x e (fun r => match r.d with
  | .bool k => q k
  | _ => False) ex
theorem ref_test {te : TE} {x : XE} (h : RefE K W te x) : RefT K W (tTest te) (xB x) := by
  intro G0 H0 G H σ e Q q ex hs hx hq hw
  refine h G0 H0 G H σ e _ _ ex hs hx (fun G1 H1 v r1 s1 g1 rr1 k1 => ?_) hw
  have w1 := rr1.wk s1
  generalize r1.d = d at w1 k1
  cases w1 <;> first
    | exact False.elim k1
    | exact ⟨_, rfl, hq G1 H1 _ s1 g1 k1⟩
theorem vt_cmp {op : CmpOp} {r : R2} {x : X2} (ho : OpR X (compareOp op) r) (h : Ref2 X.K r x) (ha : VE X W a ta xa) (hb : VE X W b tb xb) (hm : behindInMarks op b = false) : VT X W (.Compare a [op] [b] pos) (tTest (tOp r ta tb)) (xB (xOp x xa xb)) :=
  ⟨pt_cmpR ho ha.pe hb.pe hm, ref_test (ref_op h ha.rf hb.rf)⟩
theorem vt_val {t : TE} {x : XE} (h : VE X W a t x) (he : ∀ whole, isTrue a X.env whole = (do let v ← whole; standAt a.pos; holding [v] (truthy v)) := by intro _; rfl) : VT X W a (tB t) (xB x) := ⟨L2.pt_val h.pe he, ref_test h.rf⟩
abbrev yLt : X2 := yI fun i j => .bool (decide (i < j))
abbrev yLe : X2 := yI fun i j => .bool (decide (i ≤ j))
abbrev yGt : X2 := yI fun i j => .bool (decide (j < i))
abbrev yGe : X2 := yI fun i j => .bool (decide (j ≤ i))
theorem r2_lt : Ref2 K (rI0 fun i j => .bl (decide (i < j))) yLt := r2_I0 fun _ _ _ => .bl _
theorem r2_le : Ref2 K (rI0 fun i j => .bl (decide (i ≤ j))) yLe := r2_I0 fun _ _ _ => .bl _
theorem r2_gt : Ref2 K (rI0 fun i j => .bl (decide (j < i))) yGt := r2_I0 fun _ _ _ => .bl _
theorem r2_ge : Ref2 K (rI0 fun i j => .bl (decide (j ≤ i))) yGe := r2_I0 fun _ _ _ => .bl _
/-- == of flat things -/
def yEq : X2 := fun a b q => match a, b with
  | .int i, .int j => q (.bool (decide (i = j)))
  | .str i, .str j => q (.bool (decide (i = j)))
  | .bool i, .bool j => q (.bool (decide (i = j)))
  | .none, .none => q (.bool true)
  | .int _, .str _ => q (.bool false)
  | .str _, .int _ => q (.bool false)
  | .none, .int _ => q (.bool false)
  | .none, .str _ => q (.bool false)
  | .int _, .none => q (.bool false)
  | .str _, .none => q (.bool false)
  | _, _ => False
def yNe : X2 := fun a b q => yEq a b fun c => match c with
  | .bool k => q (.bool !k)
  | _ => False
theorem dec_congr {p p' : Prop} [Decidable p] [Decidable p'] (h : p ↔ p') : decide p = decide p' := by
  by_cases k : p
  · rw [decide_eq_true k, decide_eq_true (h.mp k)]
  · rw [decide_eq_false k, decide_eq_false fun z => k (h.mpr z)]
theorem r2_eq : Ref2 K rEq yEq := by
  intro H v w a b Q q ha hb hx hq
  cases ha <;> cases hb <;> first
    | exact False.elim hx
    | (refine ⟨rfl, ?_⟩
       have key : ∀ (k : Bool) (x y : V), decide (x = y) = k → q (.bool k) → Q (.bl (decide (x = y))) H := fun k x y e z => by
         rw [e]
         exact hq _ _ (fun _ => .bl _) z
       refine key _ _ _ ?_ hx
       first
         | exact dec_congr ⟨fun z => by cases z; rfl, fun z => by rw [z]⟩
         | exact decide_eq_true rfl
         | exact decide_eq_false (fun z => by cases z))
theorem r2_ne : Ref2 K rNe yNe := by
  intro H v w a b Q q ha hb hx hq
  have h := r2_eq (K := K) H v w a b (fun u _ => ∃ k, u = .bl k ∧ q (.bool !k)) (fun c => ∃ k, c = .bool k ∧ q (.bool !k)) ha hb (by
    have hx' : yEq a b fun c => match c with
      | .bool k => q (.bool !k)
      | _ => False := hx
    have mono : ∀ (p p' : PyData → Prop), (∀ c, p c → p' c) → yEq a b p → yEq a b p' := fun p p' i h => by
      unfold yEq at h ⊢
      split at h <;> first
        | exact i _ h
        | exact h
    refine mono _ _ (fun c hc => ?_) hx'
    cases c with
    | bool k => exact ⟨k, rfl, hc⟩
    | _ => exact False.elim hc) (fun u c hu ⟨k, e, hk⟩ => by
      subst e
      cases hu H
      exact ⟨k, rfl, hk⟩)
  obtain ⟨h1, k, h2, h3⟩ := h
  refine ⟨h1, ?_⟩
  have e : decide (v = w) = k := V.bl.inj h2
  rw [e]
  exact hq _ _ (fun _ => .bl _) h3

/-! ### and, or, not -/
def xAnd (t u : XT) : XT := fun e q ex => t e (fun c => if c = true then u e q ex else q false) ex
def xOr (t u : XT) : XT := fun e q ex => t e (fun c => if c = true then q true else u e q ex) ex
def xNot (t : XT) : XT := fun e q ex => t e (fun c => q (!c)) ex
variable {tA tB' : TT} {xA xB' : XT} {rest : List Expr}
theorem vw_and1 (h : VT X W a tA xA) : VW X W (.BoolOp .And [a] pos) tA xA := ⟨pw_and1 h.pt, h.rf⟩
theorem vw_or1 (h : VT X W a tA xA) : VW X W (.BoolOp .Or [a] pos) tA xA := ⟨pw_or1 h.pt, h.rf⟩
theorem ref_and (ha : RefT K W tA xA) (hb : RefT K W tB' xB') : RefT K W (tAnd tA tB') (xAnd xA xB') := by
  intro G0 H0 G H σ e Q q ex hs hx hq hw
  refine ha G0 H0 G H σ e _ _ ex hs hx (fun G1 H1 c s1 g1 k1 => ?_) hw
  cases c with
  | false => exact hq G1 H1 _ s1 g1 k1
  | true => exact hb G0 H0 G1 H1 σ e _ _ ex (hs.grow g1 s1) k1 (fun G2 H2 b s2 g2 => hq G2 H2 b s2 (g1.trans g2)) fun G2 H2 cls d y s2 g2 => hw G2 H2 cls d y s2 (g1.trans g2)
theorem ref_or (ha : RefT K W tA xA) (hb : RefT K W tB' xB') : RefT K W (tOr tA tB') (xOr xA xB') := by
  intro G0 H0 G H σ e Q q ex hs hx hq hw
  refine ha G0 H0 G H σ e _ _ ex hs hx (fun G1 H1 c s1 g1 k1 => ?_) hw
  cases c with
  | true => exact hq G1 H1 _ s1 g1 k1
  | false => exact hb G0 H0 G1 H1 σ e _ _ ex (hs.grow g1 s1) k1 (fun G2 H2 b s2 g2 => hq G2 H2 b s2 (g1.trans g2)) fun G2 H2 cls d y s2 g2 => hw G2 H2 cls d y s2 (g1.trans g2)
theorem vw_and (ha : VT X W a tA xA) (hb : VW X W (.BoolOp .And (b :: rest) pos) tB' xB') : VW X W (.BoolOp .And (a :: b :: rest) pos) (tAnd tA tB') (xAnd xA xB') := ⟨pw_and ha.pt hb.pw, ref_and ha.rf hb.rf⟩
theorem vw_or (ha : VT X W a tA xA) (hb : VW X W (.BoolOp .Or (b :: rest) pos) tB' xB') : VW X W (.BoolOp .Or (a :: b :: rest) pos) (tOr tA tB') (xOr xA xB') := ⟨pw_or ha.pt hb.pw, ref_or ha.rf hb.rf⟩
theorem VW.vt (h : VW X W a tA xA) : VT X W a tA xA := ⟨h.pw.pt, h.rf⟩
theorem vt_not (h : VT X W a tA xA) : VT X W (.UnaryOp .Not a pos) (tNot tA) (xNot xA) := ⟨pt_not h.pt, fun G0 H0 G H σ e Q q ex hs hx hq hw => h.rf G0 H0 G H σ e _ _ ex hs hx (fun G1 H1 c s1 g1 k1 => hq G1 H1 _ s1 g1 k1) hw⟩
/-- as values -/
def xAndV (xa xb : XE) : XE := fun e q ex => xa e (fun r => match r.d with
  | .bool c => if c = true then xb e q ex else q (.va (.bool false))
  | _ => False) ex
def xOrV (xa xb : XE) : XE := fun e q ex => xa e (fun r => match r.d with
  | .bool c => if c = true then q (.va (.bool true)) else xb e q ex
  | _ => False) ex
def xNotV (xa : XE) : XE := fun e q ex => xa e (fun r => match r.d with
  | .bool c => q (.va (.bool !c))
  | _ => False) ex
theorem ref_andV (ha : RefE K W ta xa) (hb : RefE K W tb xb) : RefE K W (tAndV ta tb) (xAndV xa xb) := by
  intro G0 H0 G H σ e Q q ex hs hx hq hw
  refine ha G0 H0 G H σ e _ _ ex hs hx (fun G1 H1 v r1 s1 g1 rr1 k1 => ?_) hw
  have w1 := rr1.wk s1
  generalize r1.d = d at w1 k1
  cases w1 <;> first
    | exact False.elim k1
    | skip
  rename_i c
  refine ⟨c, rfl, ?_⟩
  cases c with
  | false => exact hq G1 H1 _ (.va _) s1 g1 (.bl false) k1
  | true => exact hb G0 H0 G1 H1 σ e _ _ ex (hs.grow g1 s1) k1 (fun G2 H2 b r s2 g2 rr => hq G2 H2 b r s2 (g1.trans g2) (rr.back g1.hh)) fun G2 H2 cls d y s2 g2 => hw G2 H2 cls d y s2 (g1.trans g2)
theorem ref_orV (ha : RefE K W ta xa) (hb : RefE K W tb xb) : RefE K W (tOrV ta tb) (xOrV xa xb) := by
  intro G0 H0 G H σ e Q q ex hs hx hq hw
  refine ha G0 H0 G H σ e _ _ ex hs hx (fun G1 H1 v r1 s1 g1 rr1 k1 => ?_) hw
  have w1 := rr1.wk s1
  generalize r1.d = d at w1 k1
  cases w1 <;> first
    | exact False.elim k1
    | skip
  rename_i c
  refine ⟨c, rfl, ?_⟩
  cases c with
  | true => exact hq G1 H1 _ (.va _) s1 g1 (.bl true) k1
  | false => exact hb G0 H0 G1 H1 σ e _ _ ex (hs.grow g1 s1) k1 (fun G2 H2 b r s2 g2 rr => hq G2 H2 b r s2 (g1.trans g2) (rr.back g1.hh)) fun G2 H2 cls d y s2 g2 => hw G2 H2 cls d y s2 (g1.trans g2)
theorem ve_one {op} (h : VE X W a ta xa) : VE X W (.BoolOp op [a] pos) ta xa := ⟨pe_one h.pe, h.rf⟩
theorem ve_and (ha : VE X W a ta xa) (hb : VE X W (.BoolOp .And (b :: rest) pos) tb xb) : VE X W (.BoolOp .And (a :: b :: rest) pos) (tAndV ta tb) (xAndV xa xb) := ⟨pe_and ha.pe hb.pe, ref_andV ha.rf hb.rf⟩
theorem ve_or (ha : VE X W a ta xa) (hb : VE X W (.BoolOp .Or (b :: rest) pos) tb xb) : VE X W (.BoolOp .Or (a :: b :: rest) pos) (tOrV ta tb) (xOrV xa xb) := ⟨pe_or ha.pe hb.pe, ref_orV ha.rf hb.rf⟩
theorem ve_not (ha : VE X W a ta xa) : VE X W (.UnaryOp .Not a pos) (tNotV ta) (xNotV xa) := ⟨pe_not ha.pe, by
  intro G0 H0 G H σ e Q q ex hs hx hq hw
  refine ha.rf G0 H0 G H σ e _ _ ex hs hx (fun G1 H1 v r1 s1 g1 rr1 k1 => ?_) hw
  have w1 := rr1.wk s1
  generalize r1.d = d at w1 k1
  cases w1 <;> first
    | exact False.elim k1
    | exact ⟨_, rfl, hq G1 H1 _ (.va _) s1 g1 (.bl _) k1⟩⟩
def xIf (t : XT) (xa xb : XE) : XE := fun e q ex => t e (fun c => (c = true → xa e q ex) ∧ (c = false → xb e q ex)) ex
theorem ve_ifExp {c : Expr} (hc : VT X W c tA xA) (ha : VE X W a ta xa) (hb : VE X W b tb xb) : VE X W (.IfExp c a b pos) (tIf tA ta tb) (xIf xA xa xb) := ⟨pe_ifExp hc.pt ha.pe hb.pe, by
  intro G0 H0 G H σ e Q q ex hs hx hq hw
  refine hc.rf G0 H0 G H σ e _ _ ex hs hx (fun G1 H1 c s1 g1 k1 => ?_) hw
  cases c with
  | true => exact ha.rf G0 H0 G1 H1 σ e _ _ ex (hs.grow g1 s1) (k1.1 rfl) (fun G2 H2 b r s2 g2 rr => hq G2 H2 b r s2 (g1.trans g2) (rr.back g1.hh)) fun G2 H2 cls d y s2 g2 => hw G2 H2 cls d y s2 (g1.trans g2)
  | false => exact hb.rf G0 H0 G1 H1 σ e _ _ ex (hs.grow g1 s1) (k1.2 rfl) (fun G2 H2 b r s2 g2 rr => hq G2 H2 b r s2 (g1.trans g2) (rr.back g1.hh)) fun G2 H2 cls d y s2 g2 => hw G2 H2 cls d y s2 (g1.trans g2)⟩
end
end Pv

namespace Pv
open PySem L2
/-! ### argument lists -/
theorem args_rep {K : PySem.W.Frag} {Hs G H : Hp} (s : Same G H) : ∀ {vs : List V} {rs : List Rs}, Paired (RsR K Hs G H) vs rs →
    ∃ ps bs : List Addr, (∀ p ∈ ps, Hs p = none) ∧ (∀ b ∈ bs, G b = none ∧ LoA (H b)) ∧ (rs.all Rs.stays = true → bs = []) ∧ RpAll K (exth H G (ps ++ bs)) vs (rs.map Rs.d)
  | _, _, .nil => ⟨[], [], by simp, by simp, fun _ => rfl, .nil⟩
  | v :: vs, r :: rs, .cons h t => by
    obtain ⟨ps, bs, h1, h2, h3, h4⟩ := args_rep s t
    cases r with
    | va d =>
      exact ⟨ps, bs, h1, h2, fun z => h3 (by simpa [Rs.stays] using z), .cons (Rp.mono (exth_up s) _ _ h) h4⟩
    | nw ds =>
      obtain ⟨p, xs, rfl, k2, k3, k4, k5⟩ := h
      have m : Same (exth H G (ps ++ bs)) (exth H G ((p :: ps) ++ bs)) := exth_mono s fun a ha => List.mem_cons_of_mem _ ha
      refine ⟨p :: ps, bs, fun a ha => ?_, h2, fun z => h3 (by simpa [Rs.stays] using z), .cons (.lst ?_ (k5.mono (exth_up s) _ _)) (h4.mono m _ _)⟩
      · rcases List.mem_cons.mp ha with rfl | ha
        · exact k2
        · exact h1 a ha
      · rw [exth_in (by simp)]
        exact k3
    | bo ds =>
      obtain ⟨p, xs, rfl, k2, k3⟩ := h
      by_cases hp : G p = none
      · have m : Same (exth H G (ps ++ bs)) (exth H G (ps ++ (p :: bs))) := exth_mono s fun a ha => by
          rcases List.mem_append.mp ha with ha | ha
          · exact List.mem_append_left _ ha
          · exact List.mem_append_right _ (List.mem_cons_of_mem _ ha)
        refine ⟨ps, p :: bs, h1, fun b hb => ?_, fun z => by simp [Rs.stays] at z, .cons (.lst ?_ (k3.mono (exth_up s) _ _)) (h4.mono m _ _)⟩
        · rcases List.mem_cons.mp hb with rfl | hb
          · exact ⟨hp, LoA.lst k2⟩
          · exact h2 b hb
        · rw [exth_in (by simp)]
          exact k2
      · have e : G p = some (.lst xs) := by
          cases q : G p with
          | none => exact absurd q hp
          | some o =>
            have e2 := s p o q
            rw [k2] at e2
            exact e2.symm
        exact ⟨ps, bs, h1, h2, fun z => by simp [Rs.stays] at z, .cons (.lst (exth_up s _ _ e) (k3.mono (exth_up s) _ _)) h4⟩
    | bb c pre f ds =>
      obtain ⟨x, p, rfl, ⟨dx, us, xs, k1, k2, k3, k4⟩, g1, g2⟩ := h
      have m : Same (exth H G (ps ++ bs)) (exth H G (ps ++ (x :: p :: bs))) := exth_mono s fun a ha => by
        rcases List.mem_append.mp ha with ha | ha
        · exact List.mem_append_left _ ha
        · exact List.mem_append_right _ (List.mem_cons_of_mem _ (List.mem_cons_of_mem _ ha))
      refine ⟨ps, x :: p :: bs, h1, fun b hb => ?_, fun z => by simp [Rs.stays] at z, .cons (rp_obP (p := p) ⟨dx, us, xs, ?_, k2.mono (exth_up s), ?_, k4.mono (exth_up s) _ _⟩) (h4.mono m _ _)⟩
      · rcases List.mem_cons.mp hb with rfl | hb
        · exact ⟨g1, LoA.ins k1⟩
        · rcases List.mem_cons.mp hb with rfl | hb
          · exact ⟨g2, LoA.lst k3⟩
          · exact h2 b hb
      · rw [exth_in (by simp)]
        exact k1
      · rw [exth_in (by simp)]
        exact k3
    | bg k ds =>
      obtain ⟨fp, k1, k2⟩ := h
      have m : Same (exth H G (ps ++ bs)) (exth H G (ps ++ (fp ++ bs))) := exth_mono s fun a ha => by
        rcases List.mem_append.mp ha with ha | ha
        · exact List.mem_append_left _ ha
        · exact List.mem_append_right _ (List.mem_append_right _ ha)
      have m2 : Same (exth H G fp) (exth H G (ps ++ (fp ++ bs))) := exth_mono s fun a ha => List.mem_append_right _ (List.mem_append_left _ ha)
      refine ⟨ps, fp ++ bs, h1, fun b hb => ?_, fun z => by simp [Rs.stays] at z, .cons (k2.mono m2 _ _) (h4.mono m _ _)⟩
      rcases List.mem_append.mp hb with hb | hb
      · exact k1 b hb
      · exact h2 b hb
section
variable {X : Cx} {W : WX} {K : PySem.W.Frag} {a : Expr} {es : List Expr} {te : TE} {ta : TA} {xa : XE} {xs : XA} {pos : Pos}
def xNil : XA := fun _ q _ => q []
def xCons (x : XE) (xs : XA) : XA := fun e q ex => x e (fun r => xs e (fun rs => q (r :: rs)) ex) ex
theorem va_nil : VA X W [] tNil xNil := ⟨pa_nil, fun _ _ G H _ _ _ _ _ hs hx hq _ => hq G H [] [] hs.sub .refl .nil hx⟩
theorem paired_grow {Hs G H G' H' : Hp} (g : Grow G H G' H') : ∀ {vs : List V} {rs : List Rs}, Paired (RsR K Hs G H) vs rs → Paired (RsR K Hs G' H') vs rs
  | _, _, .nil => .nil
  | _, _, .cons h t => .cons (h.grow g) (paired_grow g t)
theorem paired_back {Hs Hr G H : Hp} (s : Same Hr Hs) : ∀ {vs : List V} {rs : List Rs}, Paired (RsR K Hs G H) vs rs → Paired (RsR K Hr G H) vs rs
  | _, _, .nil => .nil
  | _, _, .cons h t => .cons (h.back s) (paired_back s t)
theorem ref_cons (h : RefE K W te xa) (hr : RefA K W ta xs) : RefA K W (tCons te ta) (xCons xa xs) := by
  intro G0 H0 G H σ e Q q ex hs hx hq hw
  refine h G0 H0 G H σ e _ _ ex hs hx (fun G1 H1 v r1 s1 g1 rr1 k1 => ?_) hw
  refine hr G0 H0 G1 H1 σ e _ _ ex (hs.grow g1 s1) k1 (fun G2 H2 vs rs s2 g2 pr k2 => ?_) fun G2 H2 cls d y s2 g2 => hw G2 H2 cls d y s2 (g1.trans g2)
  exact hq G2 H2 _ _ s2 (g1.trans g2) (.cons (rr1.grow g2) (paired_back g1.hh pr)) k2
theorem va_cons (h : VE X W a te xa) (hr : VA X W es ta xs) (hst : starEach (a :: es) X.env = (false, eval a X.env) :: starEach es X.env := by rfl) : VA X W (a :: es) (tCons te ta) (xCons xa xs) := ⟨pa_cons h.pe hr.pa hst, ref_cons h.rf hr.rf⟩

/-! ### displays -/
def xTup (xs : XA) : XE := fun e q ex => xs e (fun rs => (rs.all Rs.stays && decide (rs.length ≤ sizeLine)) = true ∧ q (.va (.tuple (rs.map Rs.d)))) ex
def xLst (xs : XA) : XE := fun e q ex => xs e (fun rs => (rs.all Rs.stays && decide (rs.length ≤ sizeLine)) = true ∧ q (.nw (rs.map Rs.d))) ex
theorem paired_len {α β : Type} {R : α → β → Prop} : ∀ {xs : List α} {ys : List β}, Paired R xs ys → xs.length = ys.length
  | _, _, .nil => rfl
  | _, _, .cons _ t => by rw [List.length_cons, List.length_cons, paired_len t]
theorem fix_args {Hs Gs G H : Hp} {vs : List V} {rs : List Rs} (s : Same G H) (g : Grow Gs Hs G H) (h : Paired (RsR K Hs G H) vs rs) (hz : rs.all Rs.stays = true) :
    ∃ G', Same G' H ∧ Grow Gs Hs G' H ∧ RpAll K G' vs (rs.map Rs.d) := by
  obtain ⟨ps, bs, h1, _, h3, h4⟩ := args_rep s h
  obtain rfl := h3 hz
  rw [List.append_nil] at h4
  refine ⟨exth H G ps, exth_sub s, ⟨g.gg.trans (exth_up s), g.hh, fun a k1 k2 => ?_⟩, h4⟩
  have hn : a ∉ ps := fun z => k2 (h1 a z)
  rw [exth_ne hn]
  exact g.nn a k1 k2
theorem ve_tup {x1} (h : VA X W es ta xs) : VE X W (.Tuple es x1 pos) (tTup ta) (xTup xs) := ⟨pe_tup h.pa, by
  intro G0 H0 G H σ e Q q ex hs hx hq hw
  refine h.rf G0 H0 G H σ e _ _ ex hs hx (fun G1 H1 vs rs s1 g1 pr k1 => ?_) hw
  obtain ⟨hz, k⟩ := k1
  obtain ⟨z1, z2⟩ := Bool.and_eq_true_iff.mp hz
  obtain ⟨G2, s2, g2, ra⟩ := fix_args s1 g1 pr z1
  refine ⟨by rw [paired_len pr]; exact of_decide_eq_true z2, fun p hp => ?_⟩
  have gb : Grow G2 H1 (upd G2 p (.tup vs)) (upd H1 p (.tup vs)) := Grow.both s2 hp
  exact hq _ _ _ (.va _) (same_both s2) (g2.trans gb) (.tup (.inl (.inl upd_same)) (ra.mono gb.gg _ _)) k⟩
theorem ve_lst (h : VA X W es ta xs) : VE X W (.List es pos) (tLst ta) (xLst xs) := ⟨pe_lst h.pa, by
  intro G0 H0 G H σ e Q q ex hs hx hq hw
  refine h.rf G0 H0 G H σ e _ _ ex hs hx (fun G1 H1 vs rs s1 g1 pr k1 => ?_) hw
  obtain ⟨hz, k⟩ := k1
  obtain ⟨z1, z2⟩ := Bool.and_eq_true_iff.mp hz
  obtain ⟨G2, s2, g2, ra⟩ := fix_args s1 g1 pr z1
  refine ⟨by rw [paired_len pr]; exact of_decide_eq_true z2, fun p hp => ?_⟩
  exact hq G2 _ _ (.nw _) (same_out s2 (s2.free hp)) (g2.trans (Grow.out hp)) ⟨p, vs, rfl, g1.hh.free hp, upd_same, s2.free hp, ra⟩ k⟩

/-! ### items -/
def yIx (a b : PyData) (q : Rs → Prop) : Prop := match a, b with
  | .list ds, .int i => ∃ d, atI ds i = some d ∧ q (.va d)
  | .tuple ds, .int i => ∃ d, atI ds i = some d ∧ q (.va d)
  | .str z, .int i => z.length ≤ sizeLine ∧ ∃ c, atI z.cps.toList i = some c ∧ q (.va (.str ⟨#[c]⟩))
  | .dict [(.dict [], .list ds)], .int i => ∃ d, atI ds i = some d ∧ q (.va d)
  | _, _ => False
def xIx (xa xb : XE) : XE := fun e q ex => xa e (fun r => xb e (fun s => yIx r.d s.d q) ex) ex
theorem atI_rp {G : Hp} {vs : List V} {ds : List PyData} {i : Int} {d : PyData} (h : RpAll K G vs ds) (e : atI ds i = some d) : ∃ v, atI vs i = some v ∧ Rp K G v d := by
  unfold atI at e ⊢
  rw [h.len]
  cases q : ixN ds.length i with
  | none =>
    rw [q] at e
    cases e
  | some j =>
    rw [q] at e
    have e2 : ds[j]? = some d := e
    obtain ⟨v, h1, h2⟩ := h.getD e2
    exact ⟨v, h1, h2⟩
theorem rp_int {H : Hp} {v : V} {i : Int} (h : Rp K H v (.int i)) : v = .int i := by cases h; rfl
theorem rp_str {H : Hp} {v : V} {z : Str} (h : Rp K H v (.str z)) : v = .str z := by cases h; rfl
theorem rp_bl {H : Hp} {v : V} {z : Bool} (h : Rp K H v (.bool z)) : v = .bl z := by cases h; rfl
theorem rp_scr {H : Hp} {v : V} {x : PyData} (h : Rp K H v (.dict [(.dict [], x)])) : ∃ (p : Addr) (ns : List Int), v = .ref p ∧ x = .list (ns.map .int) ∧ SqL K H p (ns.map V.int) := by
  cases h with
  | scr h1 => exact ⟨_, _, rfl, rfl, h1⟩
theorem rsr_scr {Hs G H : Hp} {v : V} {r : Rs} {x : PyData} (h : RsR K Hs G H v r) (e : r.d = .dict [(.dict [], x)]) : ∃ (p : Addr) (ns : List Int), v = .ref p ∧ [((.dict [] : PyData), x)] = [(.dict [], .list (ns.map .int))] ∧ SqL K G p (ns.map V.int) := by
  cases r with
  | va d =>
    have e2 : d = .dict [(.dict [], x)] := e
    subst e2
    obtain ⟨p, ns, h1, h2, h3⟩ := rp_scr h
    exact ⟨p, ns, h1, by rw [h2], h3⟩
  | nw ds' => cases e
  | bo ds' => cases e
  | bb c pre f ds => cases e
  | bg k ds => cases k <;> cases e
theorem ref_ix {tb : TE} {xb : XE} (ha : RefE K W te xa) (hb : RefE K W tb xb) : RefE K W (tOp (rIx K) te tb) (xIx xa xb) := by
  intro G0 H0 G H σ e Q q ex hs hx hq hw
  refine ha G0 H0 G H σ e _ _ ex hs hx (fun G1 H1 v r1 s1 g1 rr1 k1 => ?_) hw
  have hs1 := hs.grow g1 s1
  refine hb G0 H0 G1 H1 σ e _ _ ex hs1 k1 (fun G2 H2 w' r2 s2 g2 rr2 k2 => ?_) fun G2 H2 cls d y s2 g2 => hw G2 H2 cls d y s2 (g1.trans g2)
  have rr := rr1.grow g2
  have wi := rr2.wk s2
  have go : ∀ {v' : V} {d : PyData}, Rp K G2 v' d → q (.va d) → Q v' H2 := fun {v' d} h k => hq G2 H2 v' (.va d) s2 (g1.trans g2) h k
  unfold yIx at k2
  generalize hd1 : r1.d = d1 at k2
  generalize hd2 : r2.d = d2 at k2
  rw [hd2] at wi
  split at k2
  · rename_i ds i
    obtain ⟨d, e1, k⟩ := k2
    obtain rfl := rp_int wi
    obtain ⟨p, ys, rfl, h1, h2⟩ := rr.list s2 hd1
    obtain ⟨u, e2, h3⟩ := atI_rp h2 e1
    exact .inl ⟨p, ys, i, u, rfl, rfl, SqL.of h1, e2, go h3 k⟩
  · rename_i ds i
    obtain ⟨d, e1, k⟩ := k2
    obtain rfl := rp_int wi
    obtain ⟨p, ys, rfl, h1, h2⟩ := rr.tuple hd1
    obtain ⟨u, e2, h3⟩ := atI_rp h2 e1
    exact .inr (.inl ⟨p, ys, i, u, rfl, rfl, sqt_same s2 h1, e2, go h3 k⟩)
  · rename_i z i
    obtain ⟨hz, c, e1, k⟩ := k2
    obtain rfl := rp_int wi
    have wz := rr.wk s2
    rw [hd1] at wz
    obtain rfl := rp_str wz
    exact .inr (.inr ⟨z, i, c, rfl, rfl, hz, e1, go (.str _) k⟩)
  · rename_i ds i
    obtain ⟨d, e1, k⟩ := k2
    obtain rfl := rp_int wi
    obtain ⟨p, ns, rfl, h1, h2⟩ := rsr_scr rr hd1
    have e3 : ds = ns.map .int := by
      injection h1 with h1 _
      injection h1 with _ h1
      injection h1
    subst e3
    obtain ⟨u, e2, h3⟩ := atI_rp (K := K) (G := G2) (RpAll.of_ints ns) e1
    exact .inl ⟨p, _, i, u, rfl, rfl, sql_same s2 h2, e2, go h3 k⟩
  · exact k2.elim
theorem ve_ix {b : Expr} {tb : TE} {xb : XE} (ha : VE X W a te xa) (hb : VE X W b tb xb) (hs : PlainIx b := by intro _ _; rfl) : VE X W (.Subscript a b pos) (tOp (rIx X.K) te tb) (xIx xa xb) := ⟨pe_ix ix_seq ha.pe hb.pe hs, ref_ix ha.rf hb.rf⟩

/-! ### slices -/
abbrev XO := En → (Option Int → Prop) → Xk → Prop
def RefO (K : PySem.W.Frag) (W : WX) (to : TO) (x : XO) : Prop := ∀ (G0 H0 G H : Hp) (σ : L2.St) (e : En) (Q : Option Int → Hp → Prop) (q : Option Int → Prop) (ex : Xk), StR K G0 H0 G H σ e → x e q ex →
  (∀ G' H' o, Same G' H' → Grow G H G' H' → q o → Q o H') →
  (∀ G' H' cls d y, Same G' H' → Grow G H G' H' → XR K G' H' cls d y → ex y → W cls d σ H') → to σ H Q
structure VO (X : Cx) (W : WX) (e : Option Expr) (t : TO) (x : XO) : Prop where
  po : PO X e t
  rf : RefO X.K W t x
def xNo : XO := fun _ q _ => q none
def xPart (x : XE) : XO := fun e q ex => x e (fun r => match r.d with
  | .int i => q (some i)
  | _ => False) ex
theorem vo_none : VO X W none tNoPart xNo := ⟨po_none, fun _ _ G H _ _ _ _ _ hs hx hq _ => hq G H none hs.sub .refl hx⟩
theorem vo_some (h : VE X W a te xa) : VO X W (some a) (tPart te) (xPart xa) := ⟨po_some h.pe, by
  intro G0 H0 G H σ e Q q ex hs hx hq hw
  refine h.rf G0 H0 G H σ e _ _ ex hs hx (fun G1 H1 v r1 s1 g1 rr1 k1 => ?_) hw
  have w1 := rr1.wk s1
  generalize r1.d = d at w1 k1
  cases w1 <;> first
    | exact False.elim k1
    | exact ⟨_, rfl, hq G1 H1 _ s1 g1 k1⟩⟩
def cutD (xs : List PyData) (lo hi : Option Int) : List PyData := (xs.drop (HT.sIx xs.length 0 lo)).take (HT.sIx xs.length xs.length hi - HT.sIx xs.length 0 lo)
theorem cut_rp {G : Hp} {vs : List V} {ds : List PyData} (h : RpAll K G vs ds) (lo hi : Option Int) : RpAll K G (cutV vs lo hi) (cutD ds lo hi) := by
  unfold cutV cutD
  rw [h.len]
  exact (h.drop _).take _
/-- of a list, of a text, of a tuple -/
def ySl (a : PyData) (lo hi : Option Int) (q : Rs → Prop) : Prop := match a with
  | .list ds => q (.nw (cutD ds lo hi))
  | _ => False
def ySlT (a : PyData) (lo hi : Option Int) (q : Rs → Prop) : Prop := match a with
  | .tuple ds => q (.va (.tuple (cutD ds lo hi)))
  | _ => False
def ySlS (a : PyData) (lo hi : Option Int) (q : Rs → Prop) : Prop := match a with
  | .str z => z.length ≤ sizeLine ∧ q (.va (.str (cutS z lo hi)))
  | _ => False
def xSl (y : PyData → Option Int → Option Int → (Rs → Prop) → Prop) (xa : XE) (xl xh : XO) : XE := fun e q ex => xa e (fun r => xl e (fun lo => xh e (fun hi => y r.d lo hi q) ex) ex) ex
def RefSl (K : PySem.W.Frag) (r : V → Option Int → Option Int → Hp → VK → Prop) (y : PyData → Option Int → Option Int → (Rs → Prop) → Prop) : Prop :=
  ∀ (Hs G H : Hp) (v : V) (s : Rs) (lo hi : Option Int) (Q : VK) (q : Rs → Prop), Same G H → RsR K Hs G H v s → y s.d lo hi q → (∀ G' H' v r, Same G' H' → Grow G H G' H' → RsR K H G' H' v r → q r → Q v H') → r v lo hi H Q
theorem ref_sl {r : V → Option Int → Option Int → Hp → VK → Prop} {y : PyData → Option Int → Option Int → (Rs → Prop) → Prop} {tl th : TO} {xl xh : XO} (h : RefSl K r y) (ha : RefE K W te xa) (hl : RefO K W tl xl) (hh : RefO K W th xh) :
    RefE K W (tSl r te tl th) (xSl y xa xl xh) := by
  intro G0 H0 G H σ e Q q ex hs hx hq hw
  refine ha G0 H0 G H σ e _ _ ex hs hx (fun G1 H1 v r1 s1 g1 rr1 k1 => ?_) hw
  have hs1 := hs.grow g1 s1
  refine hl G0 H0 G1 H1 σ e _ _ ex hs1 k1 (fun G2 H2 lo s2 g2 k2 => ?_) fun G2 H2 cls d y s2 g2 => hw G2 H2 cls d y s2 (g1.trans g2)
  refine hh G0 H0 G2 H2 σ e _ _ ex (hs1.grow g2 s2) k2 (fun G3 H3 hi s3 g3 k3 => ?_) fun G2 H2 cls d y s3 g3 => hw G2 H2 cls d y s3 ((g1.trans g2).trans g3)
  refine h H G3 H3 v r1 lo hi Q q s3 ((rr1.grow g2).grow g3) k3 fun G4 H4 v4 r4 s4 g4 rr4 k4 => ?_
  exact hq G4 H4 v4 r4 s4 (((g1.trans g2).trans g3).trans g4) (rr4.back ((g1.trans g2).trans g3).hh) k4
variable {lo hi : Option Expr} {tl th : TO} {xl xh : XO} {p2 : Pos}
theorem ve_sl (ha : VE X W a te xa) (hl : VO X W lo tl xl) (hh : VO X W hi th xh) : VE X W (.Subscript a (.Slice lo hi none p2) pos) (tSl (rSlL X.K) te tl th) (xSl ySl xa xl xh) :=
  ⟨pe_slice sl_list ha.pe hl.po hh.po, ref_sl (fun Hs G H v s lo hi Q q sub rr k hq => by
    unfold ySl at k
    generalize hd : s.d = d at k
    cases d <;> first
      | exact False.elim k
      | skip
    rename_i ds
    obtain ⟨p, ys, rfl, h1, h2⟩ := rr.list sub hd
    exact ⟨p, ys, rfl, SqL.of h1, fun c hc => hq G _ _ (.nw _) (same_out sub (sub.free hc)) (Grow.out hc) ⟨c, _, rfl, hc, upd_same, sub.free hc, cut_rp h2 lo hi⟩ k⟩) ha.rf hl.rf hh.rf⟩
theorem ve_slS (ha : VE X W a te xa) (hl : VO X W lo tl xl) (hh : VO X W hi th xh) : VE X W (.Subscript a (.Slice lo hi none p2) pos) (tSl rSlS te tl th) (xSl ySlS xa xl xh) :=
  ⟨pe_slice sl_str ha.pe hl.po hh.po, ref_sl (fun Hs G H v s lo hi Q q sub rr k hq => by
    unfold ySlS at k
    have w := rr.wk sub
    generalize hd : s.d = d at k w
    cases w <;> first
      | exact False.elim k
      | exact ⟨_, rfl, k.1, hq G H _ (.va _) sub .refl (.str _) k.2⟩) ha.rf hl.rf hh.rf⟩
theorem cut_whole (xs : List V) (lo hi : Option Int) (h : HT.sIx xs.length 0 lo = 0 ∧ HT.sIx xs.length xs.length hi = xs.length) : cutV xs lo hi = xs := by
  unfold cutV
  rw [h.1, h.2]
  simp
theorem ve_slT (ha : VE X W a te xa) (hl : VO X W lo tl xl) (hh : VO X W hi th xh) : VE X W (.Subscript a (.Slice lo hi none p2) pos) (tSl (rSlA X.K) te tl th) (xSl ySlT xa xl xh) :=
  ⟨pe_slice sl_tupA ha.pe hl.po hh.po, ref_sl (fun Hs G H v s lo hi Q q sub rr k hq => by
    unfold ySlT at k
    generalize hd : s.d = d at k
    cases d <;> first
      | exact False.elim k
      | skip
    rename_i ds
    obtain ⟨p, ys, rfl, h1, h2⟩ := rr.tuple hd
    have h3 := cut_rp h2 lo hi
    refine ⟨p, ys, rfl, sqt_same sub h1, fun hw => ?_, fun _ c hc => ?_⟩
    · rw [cut_whole ys lo hi hw] at h3
      exact hq G H _ (.va _) sub .refl (.tup h1 h3) k
    · have gb : Grow G H (upd G c (.tup (cutV ys lo hi))) (upd H c (.tup (cutV ys lo hi))) := Grow.both sub hc
      exact hq _ _ _ (.va _) (same_both sub) gb (.tup (.inl (.inl upd_same)) (h3.mono gb.gg _ _)) k) ha.rf hl.rf hh.rf⟩
end
end Pv

namespace Pv
open PySem L2
def Xn.lf (y : Xn) : Bool := y.fs.all fun p => Pv.lf p.2
def Rs.lf : Rs → Bool
  | .va d => Pv.lf d
  | .nw ds => Pv.lf.lfs ds
  | .bo _ => false
  | .bb _ _ _ _ => false
  | .bg _ _ => false
abbrev Fn := List PyData → (Rs → Prop) → Xk → Prop
/-- a def's promise, by what it makes of data -/
def spF (K : PySem.W.Frag) (F : Fn) : Sp := fun vs H Q E => ∃ (G : Hp) (ds : List PyData) (q : Rs → Prop) (ex : Xk), Same G H ∧ RpAll K G vs ds ∧ F ds q ex ∧
  (∀ G' H' v r, Same G' H' → Grow G H G' H' → RsR K H G' H' v r → q r → Q v H') ∧ (∀ G' H' cls d y, Same G' H' → Grow G H G' H' → XR K G' H' cls d y → ex y → E cls d H')
section
variable {X : Cx} {W : WX} {K : PySem.W.Frag} {a : Expr} {es : List Expr} {te : TE} {ta : TA} {xa : XE} {xs : XA} {pos : Pos}
def xCall (F : Fn) (xa : XA) : XE := fun e q ex => xa e (fun rs => F (rs.map Rs.d) (fun r => (r.stays && (rs.all Rs.stays || r.lf)) = true ∧ q r) (fun y => (rs.all Rs.stays || y.lf) = true ∧ ex y)) ex
theorem lf_scr {d : PyData} (h : Pv.lf d = true) : ∀ ns, d ≠ scr ns := fun ns z => by
  subst z
  cases h
theorem rsr_hide {Hs G H : Hp} {bs : List Addr} {v : V} {r : Rs} (hb : ∀ p ∈ bs, LoA (G p)) (h : RsR K Hs G H v r) (s : r.stays = true) (l : r.lf = true) : RsR K Hs (hide bs G) H v r := by
  cases r with
  | va d => exact Rp.hide hb d v l h (lf_scr l)
  | nw ds =>
    obtain ⟨p, xs, h1, h2, h3, h4, h5⟩ := h
    refine ⟨p, xs, h1, h2, h3, ?_, RpAll.hide hb ds _ l h5⟩
    by_cases hp : p ∈ bs
    · exact hide_in hp
    · rw [hide_ne hp]
      exact h4
  | bo ds => cases s
  | bb c pre f ds => cases s
  | bg k ds => cases s
theorem fsr_hide {G : Hp} {bs : List Addr} (hb : ∀ p ∈ bs, LoA (G p)) : ∀ {fs : List (Str × V)} {gs : List (Str × PyData)}, FsR K G fs gs → (gs.all fun p => Pv.lf p.2) = true → FsR K (hide bs G) fs gs
  | _, _, .nil, _ => .nil
  | _, _, .cons h t, l => by
    rw [List.all_cons, Bool.and_eq_true] at l
    exact .cons ⟨h.1, Rp.hide hb _ _ l.1 h.2 (lf_scr l.1)⟩ (fsr_hide hb t l.2)
theorem hide_nil {G : Hp} : hide [] G = G := by
  funext a
  exact hide_ne (by simp)
theorem ref_call {F : Fn} (h : RefA K W ta xs) : RefE K W (tCallSD (spF K F) [] (fun σ cls d H => W cls d σ H) ta) (xCall F xs) := by
  intro G0 H0 G H σ e Q q ex hs hx hq hw
  refine h G0 H0 G H σ e _ _ ex hs hx (fun G1 H1 vs rs s1 g1 pr k1 => ?_) hw
  obtain ⟨ps, bs, p1, p2, p3, p4⟩ := args_rep s1 pr
  have bsOf : ∀ {Gc : Hp}, Same (exth H1 G1 (ps ++ bs)) Gc → ∀ p ∈ bs, LoA (Gc p) := fun {Gc} sg p hp => by
    obtain ⟨_, u, e2, l⟩ := p2 p hp
    refine ⟨u, sg _ _ ?_, l⟩
    rw [exth_in (List.mem_append_right _ hp)]
    exact e2
  have sub : ∀ {Gc H2 : Hp}, Same Gc H2 → Same (hide bs Gc) H2 := fun {Gc H2} sg a o ea => by
    by_cases ha : a ∈ bs
    · rw [hide_in ha] at ea
      cases ea
    · rw [hide_ne ha] at ea
      exact sg a o ea
  have grow : ∀ {Gc H2 : Hp}, Grow (exth H1 G1 (ps ++ bs)) H1 Gc H2 → Grow G H (hide bs Gc) H2 := fun {Gc H2} g2 => ⟨fun a o ea => by
      have e1 := g1.gg a o ea
      have ha : a ∉ bs := fun z => by
        rw [(p2 a z).1] at e1
        cases e1
      rw [hide_ne ha]
      exact g2.gg a o (exth_up s1 a o e1), g1.hh.trans g2.hh, fun a k1 k2 => by
      by_cases ha : a ∈ bs
      · exact hide_in ha
      · rw [hide_ne ha]
        have hp : a ∉ ps := fun z => k2 (p1 a z)
        have hn : a ∉ ps ++ bs := fun z => by
          rcases List.mem_append.mp z with z | z
          · exact hp z
          · exact ha z
        refine g2.nn a ?_ fun z => k2 (g1.hh.free z)
        rw [exth_ne hn]
        exact g1.nn a k1 k2⟩
  refine ⟨exth H1 G1 (ps ++ bs), rs.map Rs.d, _, _, exth_sub s1, by rw [List.append_nil]; exact p4, k1, fun Gc H2 v r s2 g2 rr k2 => ?_, fun Gc H2 cls d y s2 g2 xr k2 => ?_⟩
  · obtain ⟨kc, k⟩ := k2
    obtain ⟨c1, c2⟩ := Bool.and_eq_true_iff.mp kc
    refine hq (hide bs Gc) H2 v r (sub s2) (grow g2) ?_ k
    rcases Bool.or_eq_true_iff.mp c2 with c2 | c2
    · obtain rfl := p3 c2
      rw [hide_nil]
      exact rr.back g1.hh
    · exact (rsr_hide (bsOf g2.gg) rr c1 c2).back g1.hh
  · obtain ⟨kc, k⟩ := k2
    refine hw (hide bs Gc) H2 cls d y (sub s2) (grow g2) ?_ k
    rcases Bool.or_eq_true_iff.mp kc with c2 | c2
    · obtain rfl := p3 c2
      rw [hide_nil]
      exact xr
    · obtain ⟨h1, h2⟩ := xr
      refine ⟨h1, ?_⟩
      cases d with
      | none => exact h2
      | some a =>
        obtain ⟨fs, h3, h4⟩ := h2
        refine ⟨fs, ?_, fsr_hide (bsOf g2.gg) h4 c2⟩
        have na : a ∉ bs := fun z => (bsOf g2.gg a z).no h3 rfl
        rw [hide_ne na]
        exact h3
theorem ve_call {CX : CXT} {k : Nat} {f : Addr} {fd : FuncData} {ps : List Str} {F : Fn} {x : Str} {p : Pos} (Fk : FnOk X.prog X.w X.K X.mg X.base CX k f fd ps (spF X.K F)) (hr : Room k X.A) (hg : Gl X x) (hm : X.mg x = some (.ref f)) (hk : PySem.W.keepIn X.K (.ref f) = true)
    (hb : Binds X.K fd ps []) (hx : ∀ σ, PassesAt CX X σ (fun cls d H => W cls d σ H)) (ha : VA X W (a :: es) ta xs) (hdb : (x == ("__debug__" : Str)) = false := by decide) (he : starEach (a :: es) X.env = (false, eval a X.env) :: starEach es X.env := by rfl)
    (hpl : (backTo pos (starEach es X.env)).any (·.1) = false := by rfl) : VE X W (.Call (.Name x p) (a :: es) [] pos) (tCallSD (spF X.K F) [] (fun σ cls d H => W cls d σ H) ta) (xCall F xs) :=
  ⟨pe_callSD (E := fun σ cls d H => W cls d σ H) Fk hr hg hm hk hb .nil hx ha.pa hdb he hpl, ref_call ha.rf⟩

/-! ### built-ins that hand back flat things -/
abbrev XC := List PyData → (PyData → Prop) → Prop
def RefC (K : PySem.W.Frag) (r : List V → Hp → VK → Prop) (x : XC) : Prop := ∀ (H : Hp) (vs : List V) (ds : List PyData) (Q : VK) (q : PyData → Prop), RpAll K H vs ds → x ds q → (∀ u c, (∀ G, Rp K G u c) → q c → Q u H) → r vs H Q
def xCB (x : XC) (xs : XA) : XE := fun e q ex => xs e (fun rs => x (rs.map Rs.d) fun c => q (.va c)) ex
theorem paired_wk {Hs G H : Hp} (s : Same G H) : ∀ {vs : List V} {rs : List Rs}, Paired (RsR K Hs G H) vs rs → RpAll K H vs (rs.map Rs.d)
  | _, _, .nil => .nil
  | _, _, .cons h t => .cons (h.wk s) (paired_wk s t)
theorem ref_cb {r : List V → Hp → VK → Prop} {x : XC} (h : RefC K r x) (ha : RefA K W ta xs) : RefE K W (tCB r ta) (xCB x xs) := by
  intro G0 H0 G H σ e Q q ex hs hx hq hw
  refine ha G0 H0 G H σ e _ _ ex hs hx (fun G1 H1 vs rs s1 g1 pr k1 => ?_) hw
  exact h H1 vs _ Q _ (paired_wk s1 pr) k1 fun u c hc qc => hq G1 H1 u (.va c) s1 g1 (hc G1) qc
theorem ve_cb {x id : _} {r : List V → Hp → VK → Prop} {y : XC} {p : Pos} (hc : CallR X (.builtin id) r) (h : RefC X.K r y) (hg : Gl X x) (hm : X.mg x = none) (hv : bootBuiltins x = some (.builtin id)) (ha : VA X W (a :: es) ta xs) (hn : x ≠ "__name__" := by decide)
    (hdb : (x == ("__debug__" : Str)) = false := by decide) (he : starEach (a :: es) X.env = (false, eval a X.env) :: starEach es X.env := by rfl) (hpl : (backTo pos (starEach es X.env)).any (·.1) = false := by rfl) : VE X W (.Call (.Name x p) (a :: es) [] pos) (tCB r ta) (xCB y xs) :=
  ⟨pe_callB hc hg hm hv ha.pa hn hdb he hpl, ref_cb h ha.rf⟩
theorem ve_ct {x T : _} {r : List V → Hp → VK → Prop} {y : XC} {p : Pos} (hc : CallR X (.type T) r) (h : RefC X.K r y) (hg : Gl X x) (hm : X.mg x = none) (hv : bootBuiltins x = some (.type T)) (ha : VA X W (a :: es) ta xs) (hn : x ≠ "__name__" := by decide)
    (hdb : (x == ("__debug__" : Str)) = false := by decide) (he : starEach (a :: es) X.env = (false, eval a X.env) :: starEach es X.env := by rfl) (hpl : (backTo pos (starEach es X.env)).any (·.1) = false := by rfl) : VE X W (.Call (.Name x p) (a :: es) [] pos) (tCB r ta) (xCB y xs) :=
  ⟨pe_callTy hc hg hm hv ha.pa hn hdb he hpl, ref_cb h ha.rf⟩
def yLen : XC := fun ds q => match ds with
  | [.str z] => z.length ≤ sizeLine ∧ q (.int z.length)
  | [.list ds] => q (.int ds.length)
  | [.tuple ds] => q (.int ds.length)
  | [.dict [(.dict [], .list ds)]] => q (.int ds.length)
  | _ => False
theorem rc_len : RefC K (fun xs H Q => ∃ x n, xs = [x] ∧ LenV K x H n ∧ Q (.int n) H) yLen := by
  intro H vs ds Q q hr hx hq
  unfold yLen at hx
  split at hx
  · cases hr with
    | cons h t =>
      cases t
      obtain rfl := rp_str h
      exact ⟨_, _, rfl, ⟨hx.1, rfl⟩, hq _ _ (fun _ => .int _) hx.2⟩
  · cases hr with
    | cons h t =>
      cases t
      cases h with
      | lst h1 h2 =>
        rw [← h2.len] at hx
        exact ⟨_, _, rfl, .inl ⟨_, SqL.of h1, rfl⟩, hq _ _ (fun _ => .int _) hx⟩
  · cases hr with
    | cons h t =>
      cases t
      cases h with
      | tup h1 h2 =>
        rw [← h2.len] at hx
        exact ⟨_, _, rfl, .inr ⟨_, h1, rfl⟩, hq _ _ (fun _ => .int _) hx⟩
  · cases hr with
    | cons h t =>
      cases t
      cases h with
      | scr h1 =>
        refine ⟨_, _, rfl, .inl ⟨_, h1, rfl⟩, hq _ _ (fun _ => .int _) ?_⟩
        rw [List.length_map] at hx ⊢
        exact hx
  · exact hx.elim
theorem ve_len {p : Pos} (hg : Gl X "len") (hm : X.mg "len" = none) (ha : VA X W (a :: es) ta xs) (he : starEach (a :: es) X.env = (false, eval a X.env) :: starEach es X.env := by rfl) (hpl : (backTo pos (starEach es X.env)).any (·.1) = false := by rfl) :
    VE X W (.Call (.Name "len" p) (a :: es) [] pos) (tCB (fun xs H Q => ∃ x n, xs = [x] ∧ LenV X.K x H n ∧ Q (.int n) H) ta) (xCB yLen xs) := ve_cb call_len rc_len hg hm PySem.boot_len ha (by decide) (by decide) he hpl
def yInt1 : XC := fun ds q => match ds with
  | [.int i] => q (.int i)
  | [.bool k] => q (.int (if k then 1 else 0))
  | _ => False
theorem ve_intf {p : Pos} (hg : Gl X "int") (hm : X.mg "int" = none) (ha : VA X W (a :: es) ta xs) (he : starEach (a :: es) X.env = (false, eval a X.env) :: starEach es X.env := by rfl) (hpl : (backTo pos (starEach es X.env)).any (·.1) = false := by rfl) :
    VE X W (.Call (.Name "int" p) (a :: es) [] pos) (tCB (fun xs H Q => (∃ i, xs = [.int i] ∧ Q (.int i) H) ∨ ∃ k, xs = [.bl k] ∧ Q (.int (if k then 1 else 0)) H) ta) (xCB yInt1 xs) :=
  ve_ct call_int1 (fun H vs ds Q q hr hx hq => by
    unfold yInt1 at hx
    split at hx
    · cases hr with
      | cons h t =>
        cases t
        obtain rfl := rp_int h
        exact .inl ⟨_, rfl, hq _ _ (fun _ => .int _) hx⟩
    · cases hr with
      | cons h t =>
        cases t
        obtain rfl := rp_bl h
        exact .inr ⟨_, rfl, hq _ _ (fun _ => .int _) hx⟩
    · exact hx.elim) hg hm (by decide +kernel) ha (by decide) (by decide) he hpl
/-- sum of ints -/
def ySum : XC := fun ds q => ∃ ns : List Int, ds = [.list (ns.map .int)] ∧ q (.int ns.sum)
def yMaxL : XC := fun ds q => ∃ ns : List Int, ds = [.list (ns.map .int)] ∧ 0 < ns.length ∧ ∀ m, m ∈ ns → (∀ y, y ∈ ns → y ≤ m) → q (.int m)
def yMinL : XC := fun ds q => ∃ ns : List Int, ds = [.list (ns.map .int)] ∧ 0 < ns.length ∧ ∀ m, m ∈ ns → (∀ y, y ∈ ns → m ≤ y) → q (.int m)
theorem rp_ints {H : Hp} {v : V} {ns : List Int} (h : Rp K H v (.list (ns.map .int))) : ∃ p, v = .ref p ∧ H p = some (.lst (ns.map V.int)) := by
  cases h with
  | lst h1 h2 =>
    have e := h2.ints
    subst e
    exact ⟨_, rfl, h1⟩
theorem ve_sum {p : Pos} (hc : X.calm = true) (hg : Gl X "sum") (hm : X.mg "sum" = none) (ha : VA X W (a :: es) ta xs) (he : starEach (a :: es) X.env = (false, eval a X.env) :: starEach es X.env := by rfl) (hpl : (backTo pos (starEach es X.env)).any (·.1) = false := by rfl) :
    VE X W (.Call (.Name "sum" p) (a :: es) [] pos) (tCB (rSum X.K) ta) (xCB ySum xs) := ve_cb (cr_sum hc) (fun H vs ds Q q hr hx hq => by
    obtain ⟨ns, rfl, k⟩ := hx
    cases hr with
    | cons h t =>
      cases t
      obtain ⟨p, rfl, h1⟩ := rp_ints h
      exact ⟨p, ns, rfl, SqL.of h1, hq _ _ (fun _ => .int _) k⟩) hg hm (by decide +kernel) ha (by decide) (by decide) he hpl
theorem ve_maxL {p : Pos} (hc : X.calm = true) (hg : Gl X "max") (hm : X.mg "max" = none) (ha : VA X W (a :: es) ta xs) (he : starEach (a :: es) X.env = (false, eval a X.env) :: starEach es X.env := by rfl) (hpl : (backTo pos (starEach es X.env)).any (·.1) = false := by rfl) :
    VE X W (.Call (.Name "max" p) (a :: es) [] pos) (tCB (rMax X.K) ta) (xCB yMaxL xs) := ve_cb (cr_max hc) (fun H vs ds Q q hr hx hq => by
    obtain ⟨ns, rfl, k0, k⟩ := hx
    cases hr with
    | cons h t =>
      cases t
      obtain ⟨p, rfl, h1⟩ := rp_ints h
      exact ⟨p, ns, rfl, SqL.of h1, k0, fun m h2 h3 => hq _ _ (fun _ => .int _) (k m h2 h3)⟩) hg hm (by decide +kernel) ha (by decide) (by decide) he hpl
def yMax2 : XC := fun ds q => match ds with
  | [.int i, .int j] => q (.int (if j > i then j else i))
  | _ => False
def yMin2 : XC := fun ds q => match ds with
  | [.int i, .int j] => q (.int (if j < i then j else i))
  | _ => False
theorem ve_max2 {p : Pos} (hc : X.calm = true) (hg : Gl X "max") (hm : X.mg "max" = none) (ha : VA X W (a :: es) ta xs) (he : starEach (a :: es) X.env = (false, eval a X.env) :: starEach es X.env := by rfl) (hpl : (backTo pos (starEach es X.env)).any (·.1) = false := by rfl) :
    VE X W (.Call (.Name "max" p) (a :: es) [] pos) (tCB (fun xs H Q => ∃ i j, xs = [.int i, .int j] ∧ Q (.int (if j > i then j else i)) H) ta) (xCB yMax2 xs) := ve_cb (call_max2 hc) (fun H vs ds Q q hr hx hq => by
    unfold yMax2 at hx
    split at hx
    · cases hr with
      | cons h t =>
        cases t with
        | cons h' t =>
          cases t
          obtain rfl := rp_int h
          obtain rfl := rp_int h'
          exact ⟨_, _, rfl, hq _ _ (fun _ => .int _) hx⟩
    · exact hx.elim) hg hm (by decide +kernel) ha (by decide) (by decide) he hpl
theorem ve_min2 {p : Pos} (hc : X.calm = true) (hg : Gl X "min") (hm : X.mg "min" = none) (ha : VA X W (a :: es) ta xs) (he : starEach (a :: es) X.env = (false, eval a X.env) :: starEach es X.env := by rfl) (hpl : (backTo pos (starEach es X.env)).any (·.1) = false := by rfl) :
    VE X W (.Call (.Name "min" p) (a :: es) [] pos) (tCB (fun xs H Q => ∃ i j, xs = [.int i, .int j] ∧ Q (.int (if j < i then j else i)) H) ta) (xCB yMin2 xs) := ve_cb (call_min2 hc) (fun H vs ds Q q hr hx hq => by
    unfold yMin2 at hx
    split at hx
    · cases hr with
      | cons h t =>
        cases t with
        | cons h' t =>
          cases t
          obtain rfl := rp_int h
          obtain rfl := rp_int h'
          exact ⟨_, _, rfl, hq _ _ (fun _ => .int _) hx⟩
    · exact hx.elim) hg hm (by decide +kernel) ha (by decide) (by decide) he hpl
def yOrd : XC := fun ds q => match ds with
  | [.str z] => z.length = 1 ∧ q (.int (z.cps.getD 0 0 : Nat))
  | _ => False
theorem ve_ord {p : Pos} (hg : Gl X "ord") (hm : X.mg "ord" = none) (ha : VA X W (a :: es) ta xs) (he : starEach (a :: es) X.env = (false, eval a X.env) :: starEach es X.env := by rfl) (hpl : (backTo pos (starEach es X.env)).any (·.1) = false := by rfl) :
    VE X W (.Call (.Name "ord" p) (a :: es) [] pos) (tCB (fun xs H Q => ∃ x, xs = [.str x] ∧ x.length = 1 ∧ Q (.int (x.cps.getD 0 0 : Nat)) H) ta) (xCB yOrd xs) := ve_cb call_ord (fun H vs ds Q q hr hx hq => by
    unfold yOrd at hx
    split at hx
    · cases hr with
      | cons h t =>
        cases t
        obtain rfl := rp_str h
        exact ⟨_, rfl, hx.1, hq _ _ (fun _ => .int _) hx.2⟩
    · exact hx.elim) hg hm (by decide +kernel) ha (by decide) (by decide) he hpl
/-- all, any of a list of truth values -/
def yAll : XC := fun ds q => ∃ bs : List Bool, ds = [.list (bs.map .bool)] ∧ q (.bool (bs.all id))
def yAny : XC := fun ds q => ∃ bs : List Bool, ds = [.list (bs.map .bool)] ∧ q (.bool (bs.any id))
theorem RpAll.bools {G : Hp} : ∀ {vs : List V} {ns : List Bool}, RpAll K G vs (ns.map .bool) → vs = ns.map .bl
  | _, [], h => by cases h; rfl
  | _, n :: ns, h => by
    cases h with
    | cons h1 h2 =>
      cases h1
      rw [RpAll.bools h2] <;> rfl
theorem ve_all {p : Pos} (hc : X.calm = true) (hg : Gl X "all") (hm : X.mg "all" = none) (ha : VA X W (a :: es) ta xs) (he : starEach (a :: es) X.env = (false, eval a X.env) :: starEach es X.env := by rfl) (hpl : (backTo pos (starEach es X.env)).any (·.1) = false := by rfl) :
    VE X W (.Call (.Name "all" p) (a :: es) [] pos) (tCB (rAll X.K) ta) (xCB yAll xs) := ve_cb (cr_all hc) (fun H vs ds Q q hr hx hq => by
    obtain ⟨bs, rfl, k⟩ := hx
    cases hr with
    | cons h t =>
      cases t
      cases h with
      | lst h1 h2 =>
        have e := h2.bools
        subst e
        exact ⟨_, bs, rfl, SqL.of h1, hq _ _ (fun _ => .bl _) k⟩) hg hm (by decide +kernel) ha (by decide) (by decide) he hpl
theorem ve_any {p : Pos} (hc : X.calm = true) (hg : Gl X "any") (hm : X.mg "any" = none) (ha : VA X W (a :: es) ta xs) (he : starEach (a :: es) X.env = (false, eval a X.env) :: starEach es X.env := by rfl) (hpl : (backTo pos (starEach es X.env)).any (·.1) = false := by rfl) :
    VE X W (.Call (.Name "any" p) (a :: es) [] pos) (tCB (rAny X.K) ta) (xCB yAny xs) := ve_cb (cr_any hc) (fun H vs ds Q q hr hx hq => by
    obtain ⟨bs, rfl, k⟩ := hx
    cases hr with
    | cons h t =>
      cases t
      cases h with
      | lst h1 h2 =>
        have e := h2.bools
        subst e
        exact ⟨_, bs, rfl, SqL.of h1, hq _ _ (fun _ => .bl _) k⟩) hg hm (by decide +kernel) ha (by decide) (by decide) he hpl

/-! ### isinstance of a built-in class -/
def tyOf : PyData → String
  | .none => "NoneType"
  | .bool _ => "bool"
  | .int _ => "int"
  | .str _ => "str"
  | .list _ => "list"
  | .tuple _ => "tuple"
  | .dict _ => "list"
def isTs (T s : String) : Bool := s == T || (T == "int" && s == "bool")
def isT (T : String) (d : PyData) : Bool := isTs T (tyOf d)
/-- no object -/
def noOb : PyData → Bool
  | .dict [(.list _, _)] => false
  | .dict [(.tuple _, _)] => false
  | .dict [(.none, _)] => false
  | _ => true
def xIsi (T : String) (xa : XE) : XE := fun e q ex => xa e (fun r => match r.d with
  | .dict l => noOb (.dict l) = true ∧ q (.va (.bool (isT T (.dict l))))
  | d => q (.va (.bool (isT T d)))) ex
theorem isi_no {T : String} {d : PyData} {q : Rs → Prop} (h : match d with
  | .dict l => noOb (.dict l) = true ∧ q (.va (.bool (isT T (.dict l))))
  | d => q (.va (.bool (isT T d)))) : noOb d = true ∧ q (.va (.bool (isT T d))) := by
  cases d <;> first
    | exact h
    | exact ⟨rfl, h⟩
theorem tyx_of {H : Hp} {v : V} {d : PyData} (h : Rp K H v d) (hn : noOb d = true) : TyX K H v (.type (tyOf d)) := by
  cases h with
  | obj _ _ _ _ => cases hn
  | dck _ _ _ _ => cases hn
  | dct _ _ _ _ => cases hn
  | rfd => cases hn
  | non => exact .base .non
  | bl b => exact .base (.bl b)
  | int i => exact .base (.int i)
  | str x => exact .base (.str x)
  | lst h1 h2 => exact .base (.lst h1)
  | tup h1 h2 =>
    rcases h1 with (h1 | ⟨o, h1⟩) | h1
    · exact .base (.tup h1)
    · exact .fTuple h1
    · obtain ⟨o, _, _, h1, h3, _⟩ := h1
      exact .kTuple h1 h3
  | scr h1 =>
    rcases h1 with (h1 | ⟨o, h1⟩) | h1
    · exact .base (.lst h1)
    · exact .base (.frz h1)
    · obtain ⟨o, _, _, h1, h3, _⟩ := h1
      exact .kList h1 h3
theorem kit_all {T : String} (hT : T = "int" ∨ T = "bool" ∨ T = "list" ∨ T = "tuple" ∨ T = "str") (d : PyData) : PySem.W.kitOne K (.type (tyOf d)) (.type T) = some (isT T d) := by
  refine kit_ty ?_
  show kitB (tyOf d) T = some (isTs T (tyOf d))
  rcases hT with rfl | rfl | rfl | rfl | rfl <;> cases d <;> dsimp only [tyOf] <;> decide +kernel
theorem ve_isi {T : String} {x : Str} {p p2 : Pos} (hT : T = "int" ∨ T = "bool" ∨ T = "list" ∨ T = "tuple" ∨ T = "str") (hg : Gl X "isinstance") (hm : X.mg "isinstance" = none) (hgT : Gl X x) (hmT : X.mg x = none) (hvT : bootBuiltins x = some (.type T))
    (ha : VE X W a te xa) (hn : x ≠ "__name__" := by decide) (hd : (x == ("__debug__" : Str)) = false := by decide)
    (h1 : starEach [a, .Name x p2] X.env = (false, eval a X.env) :: starEach [.Name x p2] X.env := by rfl) (h2 : starEach [.Name x p2] X.env = (false, eval (.Name x p2) X.env) :: starEach [] X.env := by rfl)
    (hpl : (backTo pos (starEach [.Name x p2] X.env)).any (·.1) = false := by rfl) :
    VE X W (.Call (.Name "isinstance" p) [a, .Name x p2] [] pos) (tCB (rIsi X.K) (tCons te (tCons (tC (.ty T)) tNil))) (xIsi T xa) :=
  ⟨pe_callB call_isi hg hm (by decide +kernel) (pa_cons ha.pe (pa_cons (pe_bltn hgT hmT hvT (show RelV (.ty T) (.type T) from rfl) hn hd) pa_nil h2) h1) (by decide) (by decide) h1 hpl, by
    intro G0 H0 G H σ e Q q ex hs hx hq hw
    refine ha.rf G0 H0 G H σ e _ _ ex hs hx (fun G1 H1 v r1 s1 g1 rr1 k1 => ?_) hw
    obtain ⟨n1, n2⟩ := isi_no k1
    exact ⟨v, .ty T, _, _, _, rfl, .ty T, tyx_of (rr1.wk s1) n1, kit_all hT r1.d, hq G1 H1 _ (.va _) s1 g1 (.bl _) n2⟩⟩

/-! ### list(..), tuple(..), +, * of lists -/
def yList (a : PyData) (q : Rs → Prop) : Prop := match a with
  | .list ds => q (.nw ds)
  | .tuple ds => q (.nw ds)
  | .dict [(.dict [], .list ds)] => q (.nw ds)
  | _ => False
def xList (xa : XE) : XE := fun e q ex => xa e (fun r => yList r.d q) ex
theorem ve_list {p : Pos} (hg : Gl X "list") (hm : X.mg "list" = none) (ha : VE X W a te xa) (he : starEach [a] X.env = (false, eval a X.env) :: starEach [] X.env := by rfl) (hpl : (backTo pos (starEach [] X.env)).any (·.1) = false := by rfl) :
    VE X W (.Call (.Name "list" p) [a] [] pos) (tCB (fun xs H Q => ∃ p ys, xs = [.ref p] ∧ (SqL X.K H p ys ∨ SqT X.K H p ys) ∧ ∀ l, H l = none → Q (.ref l) (upd H l (.lst ys))) (tCons te tNil)) (xList xa) :=
  ⟨pe_callTy call_list_of hg hm (by decide +kernel) (pa_cons ha.pe pa_nil he) (by decide) (by decide) he hpl, by
    intro G0 H0 G H σ e Q q ex hs hx hq hw
    refine ha.rf G0 H0 G H σ e _ _ ex hs hx (fun G1 H1 v r1 s1 g1 rr1 k1 => ?_) hw
    have fin : ∀ {ys : List V} {ds : List PyData}, RpAll X.K G1 ys ds → q (.nw ds) → ∀ l, H1 l = none → Q (.ref l) (upd H1 l (.lst ys)) := fun {ys ds} hr k l hl =>
      hq G1 _ _ (.nw ds) (same_out s1 (s1.free hl)) (g1.trans (Grow.out hl)) ⟨l, ys, rfl, g1.hh.free hl, upd_same, s1.free hl, hr⟩ k
    unfold yList at k1
    generalize hd : r1.d = d at k1
    split at k1
    · obtain ⟨p, ys, rfl, h1, h2⟩ := rr1.list s1 hd
      exact ⟨p, ys, rfl, .inl (SqL.of h1), fin h2 k1⟩
    · obtain ⟨p, ys, rfl, h1, h2⟩ := rr1.tuple hd
      exact ⟨p, ys, rfl, .inr (sqt_same s1 h1), fin h2 k1⟩
    · rename_i ds0
      obtain ⟨p, ns, rfl, h1, h2⟩ := rsr_scr rr1 hd
      have e3 : ds0 = ns.map PyData.int := by
        injection h1 with h1 _
        injection h1 with _ h1
        injection h1
      subst e3
      exact ⟨p, _, rfl, .inl (sql_same s1 h2), fin (RpAll.of_ints ns) k1⟩
    · exact k1.elim⟩
def yTupl (a : PyData) (q : Rs → Prop) : Prop := match a with
  | .list ds => q (.va (.tuple ds))
  | .tuple ds => q (.va (.tuple ds))
  | _ => False
def xTupl (xa : XE) : XE := fun e q ex => xa e (fun r => yTupl r.d q) ex
theorem ve_tupl {p : Pos} (hg : Gl X "tuple") (hm : X.mg "tuple" = none) (ha : VE X W a te xa) (he : starEach [a] X.env = (false, eval a X.env) :: starEach [] X.env := by rfl) (hpl : (backTo pos (starEach [] X.env)).any (·.1) = false := by rfl) :
    VE X W (.Call (.Name "tuple" p) [a] [] pos) (tCB (fun xs H Q => ∃ p ys, xs = [.ref p] ∧ ((SqL X.K H p ys ∧ ∀ l, H l = none → Q (.ref l) (upd H l (.tup ys))) ∨ (SqT X.K H p ys ∧ Q (.ref p) H))) (tCons te tNil)) (xTupl xa) :=
  ⟨pe_callTy call_tuple_of hg hm (by decide +kernel) (pa_cons ha.pe pa_nil he) (by decide) (by decide) he hpl, by
    intro G0 H0 G H σ e Q q ex hs hx hq hw
    refine ha.rf G0 H0 G H σ e _ _ ex hs hx (fun G1 H1 v r1 s1 g1 rr1 k1 => ?_) hw
    unfold yTupl at k1
    generalize hd : r1.d = d at k1
    split at k1
    · obtain ⟨p, ys, rfl, h1, h2⟩ := rr1.list s1 hd
      refine ⟨p, ys, rfl, .inl ⟨SqL.of h1, fun l hl => ?_⟩⟩
      have gb : Grow G1 H1 (upd G1 l (.tup ys)) (upd H1 l (.tup ys)) := Grow.both s1 hl
      exact hq _ _ _ (.va _) (same_both s1) (g1.trans gb) (.tup (.inl (.inl upd_same)) (h2.mono gb.gg _ _)) k1
    · obtain ⟨p, ys, rfl, h1, h2⟩ := rr1.tuple hd
      exact ⟨p, ys, rfl, .inr ⟨sqt_same s1 h1, hq G1 H1 _ (.va _) s1 g1 (.tup h1 h2) k1⟩⟩
    · exact k1.elim⟩
def yCat (a b : PyData) (q : Rs → Prop) : Prop := match a, b with
  | .list ds, .list fs => ds.length + fs.length ≤ sizeLine ∧ q (.nw (ds ++ fs))
  | _, _ => False
def xCat (xa xb : XE) : XE := fun e q ex => xa e (fun r => xb e (fun s => yCat r.d s.d q) ex) ex
variable {b : Expr} {tb : TE} {xb : XE}
theorem ve_cat (ha : VE X W a te xa) (hb : VE X W b tb xb) : VE X W (.BinOp a .Add b pos) (tOp rCat te tb) (xCat xa xb) := ⟨pe_op op_cat ha.pe hb.pe, by
  intro G0 H0 G H σ e Q q ex hs hx hq hw
  refine ha.rf G0 H0 G H σ e _ _ ex hs hx (fun G1 H1 v r1 s1 g1 rr1 k1 => ?_) hw
  refine hb.rf G0 H0 G1 H1 σ e _ _ ex (hs.grow g1 s1) k1 (fun G2 H2 w' r2 s2 g2 rr2 k2 => ?_) fun G2 H2 cls d y s2 g2 => hw G2 H2 cls d y s2 (g1.trans g2)
  have rr := rr1.grow g2
  unfold yCat at k2
  generalize hd1 : r1.d = d1 at k2
  generalize hd2 : r2.d = d2 at k2
  split at k2
  · obtain ⟨p, ys, rfl, h1, h2⟩ := rr.list s2 hd1
    obtain ⟨p', ys', rfl, h1', h2'⟩ := rr2.list s2 hd2
    refine ⟨p, p', ys, ys', rfl, rfl, h1, h1', by rw [h2.len, h2'.len]; exact k2.1, fun l hl => ?_⟩
    exact hq G2 _ _ (.nw _) (same_out s2 (s2.free hl)) ((g1.trans g2).trans (Grow.out hl)) ⟨l, _, rfl, (g1.trans g2).hh.free hl, upd_same, s2.free hl, h2.append h2'⟩ k2.2
  · exact k2.elim⟩
def yRep (a b : PyData) (q : Rs → Prop) : Prop := match a, b with
  | .list ds, .int k => -(2 ^ 63) ≤ k ∧ k < 2 ^ 63 ∧ ds.length * k.toNat ≤ sizeLine ∧ q (.nw (List.replicate k.toNat ds).flatten)
  | _, _ => False
def xRep (xa xb : XE) : XE := fun e q ex => xa e (fun r => xb e (fun s => yRep r.d s.d q) ex) ex
theorem ve_rep (ha : VE X W a te xa) (hb : VE X W b tb xb) : VE X W (.BinOp a .Mult b pos) (tOp rRep te tb) (xRep xa xb) := ⟨pe_op op_rep ha.pe hb.pe, by
  intro G0 H0 G H σ e Q q ex hs hx hq hw
  refine ha.rf G0 H0 G H σ e _ _ ex hs hx (fun G1 H1 v r1 s1 g1 rr1 k1 => ?_) hw
  refine hb.rf G0 H0 G1 H1 σ e _ _ ex (hs.grow g1 s1) k1 (fun G2 H2 w' r2 s2 g2 rr2 k2 => ?_) fun G2 H2 cls d y s2 g2 => hw G2 H2 cls d y s2 (g1.trans g2)
  have rr := rr1.grow g2
  have w2 := rr2.wk s2
  unfold yRep at k2
  generalize hd1 : r1.d = d1 at k2
  generalize hd2 : r2.d = d2 at k2 w2
  split at k2
  · obtain ⟨p, ys, rfl, h1, h2⟩ := rr.list s2 hd1
    obtain rfl := rp_int w2
    obtain ⟨k3, k4, k5, k6⟩ := k2
    refine ⟨p, _, ys, rfl, rfl, h1, k3, k4, by rw [h2.len]; exact k5, fun l hl => ?_⟩
    exact hq G2 _ _ (.nw _) (same_out s2 (s2.free hl)) ((g1.trans g2).trans (Grow.out hl)) ⟨l, _, rfl, (g1.trans g2).hh.free hl, upd_same, s2.free hl, h2.rep _⟩ k6
  · exact k2.elim⟩

/-! ### in, not in; == of anything -/
def flD : PyData → Bool
  | .none => true
  | .bool _ => true
  | .int _ => true
  | .str _ => true
  | _ => false
def eqF : PyData → PyData → Bool
  | .none, .none => true
  | .bool a, .bool b => a == b
  | .bool a, .int b => (if a then 1 else 0) == b
  | .int a, .bool b => a == (if b then 1 else 0)
  | .int a, .int b => a == b
  | .str a, .str b => a == b
  | _, _ => false
def inD (x : PyData) (ds : List PyData) : Bool := ds.any fun y => eqF y x
def yIn (neg : Bool) : X2 := fun a b q => match b with
  | .list ds => (flD a && ds.all flD) = true ∧ q (.bool (if neg then !inD a ds else inD a ds))
  | .tuple ds => (flD a && ds.all flD) = true ∧ q (.bool (if neg then !inD a ds else inD a ds))
  | _ => False
theorem eqF_v {H H' : Hp} {v w : V} {a b : PyData} (hv : Rp K H v a) (hw : Rp K H' w b) (ha : flD a = true) (hb : flD b = true) : flatV v = true ∧ eqV v w = eqF a b := by
  cases hv <;> first
    | cases ha; done
    | (cases hw <;> first
        | (cases hb; done)
        | exact ⟨rfl, rfl⟩)
theorem inD_v {H H' : Hp} {x : V} {d : PyData} (hx : Rp K H x d) (hd : flD d = true) : ∀ {vs : List V} {ds : List PyData}, RpAll K H' vs ds → ds.all flD = true → vs.all flatV = true ∧ inV x vs = inD d ds
  | _, _, .nil, _ => ⟨rfl, rfl⟩
  | v :: vs, e :: ds, .cons h t, l => by
    rw [List.all_cons, Bool.and_eq_true] at l
    obtain ⟨h1, h2⟩ := inD_v hx hd t l.2
    obtain ⟨h3, h4⟩ := eqF_v h hx l.1 hd
    refine ⟨by rw [List.all_cons, h3, h1]; rfl, ?_⟩
    show (eqV v x || inV x vs) = (eqF e d || inD d ds)
    rw [h4, h2]
theorem r2_in (neg : Bool) : Ref2 K (rIn K neg) (yIn neg) := by
  intro H v w a b Q q ha hb hx hq
  unfold yIn at hx
  split at hx
  · obtain ⟨hc, k⟩ := hx
    obtain ⟨c1, c2⟩ := Bool.and_eq_true_iff.mp hc
    cases hb with
    | lst h1 h2 =>
      obtain ⟨k1, k2⟩ := inD_v ha c1 h2 c2
      refine ⟨_, _, rfl, .inl (SqL.of h1), (eqF_v ha ha c1 c1).1, k1, ?_⟩
      rw [k2]
      exact hq _ _ (fun _ => .bl _) k
  · obtain ⟨hc, k⟩ := hx
    obtain ⟨c1, c2⟩ := Bool.and_eq_true_iff.mp hc
    cases hb with
    | tup h1 h2 =>
      obtain ⟨k1, k2⟩ := inD_v ha c1 h2 c2
      refine ⟨_, _, rfl, .inr h1, (eqF_v ha ha c1 c1).1, k1, ?_⟩
      rw [k2]
      exact hq _ _ (fun _ => .bl _) k
  · exact hx.elim
mutual
theorem Rp.dp {H : Hp} : ∀ (d : PyData) (v : V), Rp K H v d → SeqAt.shaped d = true ∨ True → (∀ l, d ≠ .dict l) → d.canLay0 = true → Dp K H v d
  | .none, _, q, _, _, _ => by cases q; exact .non
  | .bool b, _, q, _, _, _ => by cases q; exact .bl b
  | .int i, _, q, _, _, _ => by cases q; exact .int i
  | .str x, _, q, _, _, _ => by cases q; exact .str x
  | .list ds, _, q, _, _, c => by
    cases q with
    | lst h1 h2 => exact .lst (SqL.of h1) (RpAll.dp ds _ h2 (by simpa [PyData.canLay0] using c))
  | .tuple ds, _, q, _, _, c => by
    cases q with
    | tup h1 h2 => exact .tup h1 (RpAll.dp ds _ h2 (by simpa [PyData.canLay0] using c))
  | .dict l, _, _, _, n, _ => absurd rfl (n l)
theorem RpAll.dp {H : Hp} : ∀ (ds : List PyData) (vs : List V), RpAll K H vs ds → PyData.canLayAll0 ds = true → DpAll K H vs ds
  | [], _, q, _ => by cases q; exact .nil
  | d :: ds, _, q, c => by
    cases q with
    | cons h1 h2 =>
      have c' : d.canLay0 = true ∧ PyData.canLayAll0 ds = true := by simpa [PyData.canLayAll0] using c
      refine .cons (Rp.dp d _ h1 (.inr trivial) (fun l z => ?_) c'.1) (RpAll.dp ds _ h2 c'.2)
      subst z
      have := c'.1
      simp [PyData.canLay0] at this
end
def yEqD : X2 := fun a b q => SeqAt.shaped a = true ∧ SeqAt.shaped b = true ∧ q (.bool (PyData.eqv a b))
def yNeD : X2 := fun a b q => SeqAt.shaped a = true ∧ SeqAt.shaped b = true ∧ q (.bool !(PyData.eqv a b))
theorem rp_dp {H : Hp} {v : V} {d : PyData} (h : Rp K H v d) (s : SeqAt.shaped d = true) : Dp K H v d := Rp.dp d v h (.inr trivial) (fun l z => by
  subst z
  have := SeqAt.canLay_of_shaped s
  simp [PyData.canLay0] at this) (SeqAt.canLay_of_shaped s)
theorem r2_eqD : Ref2 K (rEqD K) yEqD := fun H v w a b Q q ha hb hx hq => ⟨a, b, rp_dp ha hx.1, rp_dp hb hx.2.1, hx.1, hx.2.1, hq _ _ (fun _ => .bl _) hx.2.2⟩
theorem r2_neD : Ref2 K (rNeD K) yNeD := fun H v w a b Q q ha hb hx hq => ⟨a, b, rp_dp ha hx.1, rp_dp hb hx.2.1, hx.1, hx.2.1, hq _ _ (fun _ => .bl _) hx.2.2⟩
/-- is of truth values -/
def yIsB : X2 := fun a b q => match a, b with
  | .bool i, .bool j => q (.bool (decide (i = j)))
  | _, _ => False
theorem r2_isB : Ref2 K rIsB yIsB := by
  intro H v w a b Q q ha hb hx hq
  cases ha <;> cases hb <;> first
    | exact False.elim hx
    | exact ⟨_, _, rfl, rfl, hq _ _ (fun _ => .bl _) hx⟩
/-- is None -/
def yIsN : X2 := fun a b q => match a, b with
  | .none, .none => q (.bool true)
  | .int _, .none => q (.bool false)
  | .str _, .none => q (.bool false)
  | .list _, .none => q (.bool false)
  | .tuple _, .none => q (.bool false)
  | .bool _, .none => q (.bool false)
  | _, _ => False
theorem r2_isN : Ref2 K (fun x y H Q => y = .non ∧ Q (.bl (decide (x = .non))) H) yIsN := by
  intro H v w a b Q q ha hb hx hq
  cases ha <;> cases hb <;> first
    | exact False.elim hx
    | exact ⟨rfl, hq _ _ (fun _ => .bl _) hx⟩
end
end Pv

namespace Pv
open PySem L2
/-! ### targets -/
abbrev YG := Rs → En → (En → Prop) → Prop
def RefG (K : PySem.W.Frag) (g : TG) (y : YG) (js : List Nat) : Prop := ∀ (G0 H0 G H : Hp) (σ : L2.St) (e : En) (v : V) (r : Rs) (Q : L2.St → Hp → Prop) (q : En → Prop), StR K G0 H0 G H σ e → Asn K H0 G H σ e v r → y r e q →
  (∀ σ' e', StR K G0 H0 G H σ' e' → (∀ vs : List Nat, (∀ j ∈ js, j ∈ vs) → wipe σ' vs = wipe σ vs) → q e' → Q σ' H) → g v σ H Q
structure VG (X : Cx) (tg : Expr) (g : TG) (y : YG) (js : List Nat) : Prop where
  pg : PG X tg g
  rf : RefG X.K g y js
def yNm (i : Nat) : YG := fun r e q => match r with
  | .va d => q (e.set i (.fz d))
  | .nw ds => q (e.set i (.ow ds))
  | .bo _ => False
  | .bb _ _ _ _ => False
  | .bg _ _ => False
theorem wipe_get (σ : L2.St) (i : Nat) : ∀ vs : List Nat, (wipe σ vs)[i]? = if i ∈ vs ∧ i < σ.length then some none else σ[i]?
  | [] => by
    rw [if_neg (by simp)]
    rfl
  | v :: vs => by
    show ((wipe σ vs).set v none)[i]? = _
    rw [set_get, wipe_length, wipe_get σ i vs]
    by_cases h1 : v = i
    · subst h1
      by_cases h2 : v < σ.length
      · rw [if_pos ⟨rfl, h2⟩, if_pos ⟨by simp, h2⟩]
      · rw [if_neg (fun z => h2 z.2), if_neg (fun z => h2 z.2), if_neg (fun z => h2 z.2)]
    · rw [if_neg (fun z => h1 z.1)]
      by_cases h2 : i ∈ vs ∧ i < σ.length
      · rw [if_pos h2, if_pos ⟨List.mem_cons_of_mem _ h2.1, h2.2⟩]
      · rw [if_neg h2, if_neg]
        intro z
        rcases List.mem_cons.mp z.1 with z1 | z1
        · exact h1 z1.symm
        · exact h2 ⟨z1, z.2⟩
theorem wipe_set {σ : L2.St} {j : Nat} {x : Option V} {vs : List Nat} (h : j ∈ vs) : wipe (σ.set j x) vs = wipe σ vs := by
  apply List.ext_getElem?
  intro i
  rw [wipe_get, wipe_get, List.length_set, set_get]
  by_cases h2 : i ∈ vs ∧ i < σ.length
  · rw [if_pos h2, if_pos h2]
  · rw [if_neg h2, if_neg h2, if_neg]
    rintro ⟨rfl, z⟩
    exact h2 ⟨h, z⟩
theorem wipe_wipe {σ : L2.St} {vs : List Nat} : wipe (wipe σ vs) vs = wipe σ vs := by
  apply List.ext_getElem?
  intro i
  rw [wipe_get, wipe_length, wipe_get]
  by_cases h2 : i ∈ vs ∧ i < σ.length
  · rw [if_pos h2, if_pos h2]
  · rw [if_neg h2]
section
variable {K : PySem.W.Frag} {G0 H0 G H : Hp} {σ : L2.St} {e : En}
theorem StR.setF (hs : StR K G0 H0 G H σ e) (i : Nat) {v : V} {d : PyData} (h : Rp K G v d) : StR K G0 H0 G H (σ.set i (some v)) (e.set i (.fz d)) where
  sub := hs.sub
  gr := hs.gr
  len := by rw [List.length_set, List.length_set, hs.len]
  sl := fun j s hj => by
    rw [set_get] at hj
    rw [set_get, ← hs.len]
    by_cases hc : i = j ∧ i < e.length
    · rw [if_pos hc] at hj ⊢
      cases hj
      exact ⟨v, rfl, h⟩
    · rw [if_neg hc] at hj ⊢
      exact hs.sl j s hj
  dj := hs.dj.set hs.len i _ _ fun x h => h.elim
theorem StR.setO (hs : StR K G0 H0 G H σ e) (i : Nat) {p : Addr} {xs : List V} {ds : List PyData} (h1 : H p = some (.lst xs)) (h2 : G p = none) (h3 : H0 p = none) (h4 : RpAll K G xs ds)
    (h5 : ∀ (i : Nat) (t : Sl), e[i]? = some t → ¬ t.has σ[i]? p) : StR K G0 H0 G H (σ.set i (some (.ref p))) (e.set i (.ow ds)) where
  sub := hs.sub
  gr := hs.gr
  len := by rw [List.length_set, List.length_set, hs.len]
  sl := fun j s hj => by
    rw [set_get] at hj
    rw [set_get, ← hs.len]
    by_cases hc : i = j ∧ i < e.length
    · rw [if_pos hc] at hj ⊢
      cases hj
      exact ⟨p, xs, rfl, h1, h2, h3, h4⟩
    · rw [if_neg hc] at hj ⊢
      exact hs.sl j s hj
  dj := hs.dj.set hs.len i _ _ fun x h => by
    have h' : some (some (V.ref p)) = some (some (V.ref x)) := h
    cases h'
    exact h5
/-- slots forgotten -/
theorem StR.drop (hs : StR K G0 H0 G H σ e) (i : Nat) : StR K G0 H0 G H (σ.set i none) (e.set i .no) where
  sub := hs.sub
  gr := hs.gr
  len := by rw [List.length_set, List.length_set, hs.len]
  sl := fun j s hj => by
    rw [set_get] at hj
    rw [set_get, ← hs.len]
    by_cases hc : i = j ∧ i < e.length
    · rw [if_pos hc] at hj
      cases hj
      trivial
    · rw [if_neg hc] at hj ⊢
      exact hs.sl j s hj
  dj := hs.dj.set hs.len i _ _ fun x h => h.elim
def wipeE (e : En) : List Nat → En
  | [] => e
  | v :: vs => (wipeE e vs).set v .no
theorem StR.wipe (hs : StR K G0 H0 G H σ e) : ∀ vs : List Nat, StR K G0 H0 G H (L2.wipe σ vs) (wipeE e vs)
  | [] => hs
  | v :: vs => (hs.wipe vs).drop v
/-- what a slot alone holds is changed -/
theorem SlR.away {K : PySem.W.Frag} {H0 G H : Hp} {o : Option (Option V)} {s : Sl} (q : SlR K H0 G H o s) {p : Addr} (u : HO) (h : ¬ s.has o p) (hu : ∀ xs, H p ≠ some (.tup xs)) (h0 : H0 p = none) : SlR K H0 G (upd H p u) o s := by
  cases s with
  | no => trivial
  | fz d => exact q
  | xn a k d y => exact q
  | gn w =>
    obtain ⟨v, q1, q2, q3⟩ := q
    refine ⟨v, q1, w.up q2 (Same.refl _) fun y z hy hz => ?_, q3⟩
    have hne : y ≠ p := fun c => by
      subst c
      rcases hz with hz | ⟨xs, rfl⟩
      · exact h hz
      · exact hu xs hy
    rw [upd_ne hne]
    exact hy
  | mm d M =>
    obtain ⟨v, q1, q2, q3⟩ := q
    refine ⟨v, q1, q2, fun x n hm => ?_⟩
    obtain ⟨k1, k2⟩ := q3 x n hm
    have hne : x ≠ p := fun c => h (by
      subst c
      show mget M x ≠ none
      rw [hm]
      exact Option.some_ne_none _)
    exact ⟨k1.mono (Same.refl _) (upd_ne hne), k2⟩
  | mb d M =>
    obtain ⟨v, q1, q2, q3⟩ := q
    refine ⟨v, q1, q2, fun x n hm => ?_⟩
    obtain ⟨k1, k2⟩ := q3 x n hm
    have hne : x ≠ p := fun c => k2 (by rw [c]; exact h0)
    exact ⟨k1.mono (Same.refl _) (upd_ne hne), k2⟩
  | ow ds =>
    obtain ⟨p2, xs2, q1, q2, q3, q4, q5⟩ := q
    have hne : p2 ≠ p := fun z => h (by subst z; exact q1)
    exact ⟨p2, xs2, q1, by rw [upd_ne hne]; exact q2, q3, q4, q5⟩
  | ob a p2 c pre f ds =>
    obtain ⟨q1, ⟨dx, vs, xs, k1, k2, k3, k4⟩, q3, q4⟩ := q
    have n1 : a ≠ p := fun z => h (.inl z.symm)
    have n2 : p2 ≠ p := fun z => h (.inr z.symm)
    exact ⟨q1, ⟨dx, vs, xs, by rw [upd_ne n1]; exact k1, k2, by rw [upd_ne n2]; exact k3, k4⟩, q3, q4⟩
theorem StR.write (hs : StR K G0 H0 G H σ e) {i : Nat} {ds ds' : List PyData} {p : Addr} {xs' : List V} (hi : e[i]? = some (.ow ds)) (hp : σ[i]? = some (some (.ref p))) (h : RpAll K G xs' ds') : StR K G0 H0 G (upd H p (.lst xs')) σ (e.set i (.ow ds')) := by
  obtain ⟨p0, xs, k1, k2, k3, k4, k5⟩ := hs.sl i _ hi
  rw [hp] at k1
  cases k1
  refine ⟨same_out hs.sub k3, ⟨hs.gr.gg, same_out hs.gr.hh k4, hs.gr.nn⟩, by rw [List.length_set, hs.len], fun j s hj => ?_, hs.dj.le fun j s x hj hx => ?_⟩
  · rw [set_get] at hj
    by_cases hc : i = j ∧ i < e.length
    · rw [if_pos hc] at hj
      cases hj
      rw [← hc.1, hp]
      exact ⟨p, xs', rfl, upd_same, k3, k4, h⟩
    · rw [if_neg hc] at hj
      have hij : i ≠ j := fun z => hc ⟨z, (List.getElem?_eq_some_iff.mp hi).1⟩
      exact (hs.sl j s hj).away _ (fun z => hs.dj i j _ _ p hij hi hj hp z) (fun xs z => by rw [k2] at z; cases z) k4
  · rw [set_get] at hj
    by_cases hc : i = j ∧ i < e.length
    · rw [if_pos hc] at hj
      cases hj
      obtain ⟨rfl, _⟩ := hc
      exact ⟨_, hi, hx⟩
    · rw [if_neg hc] at hj
      exact ⟨_, hj, hx⟩
/-- a list that no slot owns is changed -/
theorem StR.poke (hs : StR K G0 H0 G H σ e) {p : Addr} {o o' : HO} (hp : H p = some o') (ht : ∀ xs, o' ≠ .tup xs) (hG : G p = none) (h0 : H0 p = none) (hn : ∀ (i : Nat) (t : Sl), e[i]? = some t → ¬ t.has σ[i]? p) : StR K G0 H0 G (upd H p o) σ e where
  sub := same_out hs.sub hG
  gr := ⟨hs.gr.gg, same_out hs.gr.hh h0, hs.gr.nn⟩
  len := hs.len
  sl := fun j s hj => (hs.sl j s hj).away _ (hn j s hj) (fun xs z => ht xs (by rw [hp] at z; exact Option.some.inj z)) h0
  dj := hs.dj
/-- an own list is taken as one that stays -/
theorem StR.freeze (hs : StR K G0 H0 G H σ e) {i : Nat} {ds : List PyData} (hi : e[i]? = some (.ow ds)) : ∃ G', Same G G' ∧ StR K G0 H0 G' H σ (e.set i (.fz (.list ds))) := by
  obtain ⟨p, xs, k1, k2, k3, k4, k5⟩ := hs.sl i _ hi
  have sg : Same G (upd G p (.lst xs)) := same_new k3
  refine ⟨upd G p (.lst xs), sg, fun a o q => ?_, ⟨hs.gr.gg.trans sg, hs.gr.hh, fun a h1 h2 => ?_⟩, by rw [List.length_set, hs.len], fun j s hj => ?_, hs.dj.le fun j s x hj hx => ?_⟩
  · by_cases ha : a = p
    · subst ha
      rw [upd_same] at q
      rw [k2]
      exact q
    · rw [upd_ne ha] at q
      exact hs.sub _ _ q
  · have hn : a ≠ p := fun z => h2 (by rw [z]; exact k4)
    rw [upd_ne hn]
    exact hs.gr.nn a h1 h2
  · rw [set_get] at hj
    by_cases hc : i = j ∧ i < e.length
    · rw [if_pos hc] at hj
      cases hj
      rw [← hc.1, k1]
      exact ⟨_, rfl, .lst upd_same (k5.mono sg _ _)⟩
    · rw [if_neg hc] at hj
      have hij : i ≠ j := fun z => hc ⟨z, (List.getElem?_eq_some_iff.mp hi).1⟩
      have q := hs.sl j s hj
      cases s with
      | no => trivial
      | fz d =>
        obtain ⟨v, q1, q2⟩ := q
        exact ⟨v, q1, q2.mono sg _ _⟩
      | xn a k d y => exact ⟨q.1, q.2.1, q.2.2.mono sg⟩
      | gn w =>
        obtain ⟨v, q1, q2, q3⟩ := q
        refine ⟨v, q1, w.up q2 sg fun y u hy _ => hy, fun y hy => ⟨?_, (q3 y hy).2⟩⟩
        have hne : y ≠ p := fun z => hs.dj i j _ _ p hij hi hj k1 (by subst z; exact hy)
        rw [upd_ne hne]
        exact (q3 y hy).1
      | mm d M =>
        obtain ⟨v, q1, q2, q3⟩ := q
        refine ⟨v, q1, q2.mono sg _ _, fun y n hm => ?_⟩
        obtain ⟨r1, r2, r3⟩ := q3 y n hm
        have hne : y ≠ p := fun z => hs.dj i j _ _ p hij hi hj k1 (by
          subst z
          show mget M y ≠ none
          rw [hm]
          exact Option.some_ne_none _)
        exact ⟨r1.same sg (Same.refl _), by rw [upd_ne hne]; exact r2, r3⟩
      | mb d M =>
        obtain ⟨v, q1, q2, q3⟩ := q
        exact ⟨v, q1, q2.mono sg _ _, fun y n hm => ⟨(q3 y n hm).1.same sg (Same.refl _), (q3 y n hm).2⟩⟩
      | ow ds2 =>
        obtain ⟨p2, xs2, q1, q2, q3, q4, q5⟩ := q
        have hne : p2 ≠ p := fun z => by
          subst z
          exact hs.dj i j _ _ p2 hij hi hj k1 q1
        exact ⟨p2, xs2, q1, q2, by rw [upd_ne hne]; exact q3, q4, q5.mono sg _ _⟩
      | ob a p2 c pre f ds2 =>
        obtain ⟨q1, q2, ⟨q3, q3'⟩, q4⟩ := q
        have n1 : a ≠ p := fun z => hs.dj i j _ _ p hij hi hj k1 (.inl z.symm)
        have n2 : p2 ≠ p := fun z => hs.dj i j _ _ p hij hi hj k1 (.inr z.symm)
        exact ⟨q1, q2.grow sg (Same.refl _), ⟨by rw [upd_ne n1]; exact q3, by rw [upd_ne n2]; exact q3'⟩, q4⟩
  · rw [set_get] at hj
    by_cases hc : i = j ∧ i < e.length
    · rw [if_pos hc] at hj
      cases hj
      exact hx.elim
    · rw [if_neg hc] at hj
      exact ⟨_, hj, hx⟩
theorem StR.start (G H : Hp) (sub : Same G H) {vs : List V} {ds : List PyData} (N : List Str) (h : RpAll K G vs ds) : StR K G H G H (start N vs) (ds.map .fz ++ List.replicate (N.length - ds.length) .no) where
  sub := sub
  gr := .refl
  len := by simp [L2.start, h.len]
  sl := fun i s hi => by
    by_cases hl : i < ds.length
    · rw [List.getElem?_append_left (by simpa using hl), List.getElem?_map] at hi
      have hd : ds[i]? = some ds[i] := List.getElem?_eq_getElem hl
      rw [hd] at hi
      cases hi
      obtain ⟨v, h1, h2⟩ := h.getD hd
      refine ⟨v, ?_, h2⟩
      unfold L2.start
      rw [List.getElem?_append_left (by simpa [h.len] using hl), List.getElem?_map, h1]
      rfl
    · rw [List.getElem?_append_right (by simpa using hl), List.getElem?_replicate] at hi
      split at hi
      · cases hi
        trivial
      · cases hi
  dj := fun i j s s' x _ hi _ h1 _ => by
    by_cases hl : i < ds.length
    · rw [List.getElem?_append_left (by simpa using hl), List.getElem?_map] at hi
      have hd : ds[i]? = some ds[i] := List.getElem?_eq_getElem hl
      rw [hd] at hi
      cases hi
      exact h1.elim
    · rw [List.getElem?_append_right (by simpa using hl), List.getElem?_replicate] at hi
      split at hi <;> cases hi
      exact h1.elim
theorem StR.base {G1 : Hp} (hs : StR K G1 H0 G H σ e) (g : Same G0 G1) (n : ∀ a, G0 a = none → H0 a ≠ none → G1 a = none) : StR K G0 H0 G H σ e :=
  ⟨hs.sub, ⟨g.trans hs.gr.gg, hs.gr.hh, fun a h1 h2 => hs.gr.nn a (n a h1 h2) h2⟩, hs.len, hs.sl, hs.dj⟩
theorem StR.here (hs : StR K G0 H0 G H σ e) : StR K G H0 G H σ e := ⟨hs.sub, ⟨Same.refl _, hs.gr.hh, fun a h1 _ => h1⟩, hs.len, hs.sl, hs.dj⟩
end
section
variable {X : Cx} {K : PySem.W.Frag} {pos : Pos}
theorem ref_nm {i : Nat} : RefG K (gName i) (yNm i) [i] := by
  intro G0 H0 G H σ e v r Q q hs ha hy hq
  have hw : ∀ (w : Option V) (vs : List Nat), (∀ j ∈ [i], j ∈ vs) → wipe (σ.set i w) vs = wipe σ vs := fun w vs h => wipe_set (h i (by simp))
  cases r with
  | va d => exact hq _ _ (hs.setF i ha) (hw _) hy
  | nw ds =>
    obtain ⟨p, xs, rfl, h1, h2, h3, h4, h5⟩ := ha
    exact hq _ _ (hs.setO i h1 h2 h3 h4 h5) (hw _) hy
  | bo ds => exact ha.elim
  | bb c pre f ds => exact ha.elim
  | bg k ds => exact ha.elim
theorem vg_name (i : Nat) {x : Str} (hN : X.N.Nodup) (hi : X.N[i]? = some x := by rfl) (hx : Loc X.env.scope x := by first | exact Or.inl rfl | exact Or.inr rfl) (hf : X.fn x = true ∨ X.env.scope.names.lookup x = some .local := by first | exact .inl rfl | exact .inr rfl) :
    VG X (.Name x pos) (gName i) (yNm i) [i] := ⟨pg_name hN hi hx hf, ref_nm⟩
abbrev YGs := List PyData → En → (En → Prop) → Prop
def RefGs (K : PySem.W.Frag) (g : TGs) (y : YGs) (js : List Nat) : Prop := ∀ (G0 H0 G H : Hp) (σ : L2.St) (e : En) (vs : List V) (ds : List PyData) (Q : L2.St → Hp → Prop) (q : En → Prop), StR K G0 H0 G H σ e → RpAll K G vs ds → y ds e q →
  (∀ σ' e', StR K G0 H0 G H σ' e' → (∀ vs : List Nat, (∀ j ∈ js, j ∈ vs) → wipe σ' vs = wipe σ vs) → q e' → Q σ' H) → g vs σ H Q
structure VGs (X : Cx) (ts : List Expr) (g : TGs) (y : YGs) (js : List Nat) : Prop where
  pg : PGs X ts g
  rf : RefGs X.K g y js
def yNil : YGs := fun ds e q => match ds with
  | [] => q e
  | _ => False
def yCons (y : YG) (ys : YGs) : YGs := fun ds e q => match ds with
  | d :: ds => y (.va d) e fun e' => ys ds e' q
  | [] => False
theorem vgs_nil : VGs X [] gNil yNil [] := ⟨pgs_nil, fun G0 H0 G H σ e vs ds Q q hs ha hy hq => by
  cases ha with
  | nil => exact ⟨rfl, hq σ e hs (fun _ _ => rfl) hy⟩
  | cons _ _ => exact False.elim hy⟩
theorem vgs_cons {t : Expr} {ts : List Expr} {g : TG} {gs : TGs} {y : YG} {ys : YGs} {js ks : List Nat} (h : VG X t g y js) (hr : VGs X ts gs ys ks) (hs : (assignEach (t :: ts) X.env).map (·.2) = assign t X.env :: (assignEach ts X.env).map (·.2) := by rfl) :
    VGs X (t :: ts) (gCons g gs) (yCons y ys) (js ++ ks) := ⟨pgs_cons h.pg hr.pg hs, fun G0 H0 G H σ e vs ds Q q hs ha hy hq => by
  cases ha with
  | nil => exact False.elim hy
  | cons h1 h2 =>
    refine ⟨_, _, rfl, h.rf G0 H0 G H σ e _ (.va _) _ _ hs h1 hy fun σ1 e1 hs1 w1 k1 => ?_⟩
    refine hr.rf G0 H0 G H σ1 e1 _ _ _ _ hs1 h2 k1 fun σ2 e2 hs2 w2 k2 => hq σ2 e2 hs2 (fun vs hv => ?_) k2
    rw [w2 vs fun j hj => hv j (List.mem_append_right _ hj), w1 vs fun j hj => hv j (List.mem_append_left _ hj)]⟩
def yTup (ys : YGs) : YG := fun r e q => match r with
  | .va (.tuple ds) => ys ds e q
  | _ => False
theorem vg_tup {ts : List Expr} {k : Nat} {gs : TGs} {ys : YGs} {js : List Nat} {n : Nat} (hc : X.calm = true) (h : VGs X ts gs ys js) (hy : ∀ ds e q, ys ds e q → ds.length = n) (hn : (assignEach ts X.env).length = n := by rfl)
    (hst : (assignEach ts X.env).findIdx? (·.1) = none := by rfl) : VG X (.Tuple ts k pos) (gTup X.K n gs) (yTup ys) js := ⟨pg_tup hc h.pg hn hst, fun G0 H0 G H σ e v r Q q hs ha hyy hq => by
  unfold yTup at hyy
  split at hyy
  · rename_i ds
    cases ha with
    | tup h1 h2 => exact ⟨_, _, rfl, sqt_same hs.sub h1, by rw [h2.len]; exact hy _ _ _ hyy, h.rf G0 H0 G H σ e _ ds Q q hs h2 hyy hq⟩
  · exact hyy.elim⟩
theorem len_nil : ∀ ds e q, yNil ds e q → ds.length = 0 := fun ds e q h => by
  cases ds with
  | nil => rfl
  | cons _ _ => exact False.elim h
theorem len_cons {i : Nat} {ys : YGs} {n : Nat} (h : ∀ ds e q, ys ds e q → ds.length = n) : ∀ ds e q, yCons (yNm i) ys ds e q → ds.length = n + 1 := fun ds e q hy => by
  cases ds with
  | nil => exact False.elim hy
  | cons d ds => rw [List.length_cons, h ds _ _ hy]
end
end Pv

namespace Pv
open PySem L2
/-! ### what a loop walks -/
structure Walks (K : PySem.W.Frag) (G : Hp) (J : It) (ds : List PyData) : Prop where
  go : ∀ i G' H, Same G G' → Same G' H → i < ds.length → J.go i H
  yld : ∀ i G' H x H', Same G G' → Same G' H → i < ds.length → J.yld i H x H' → ∃ G'' d, ds[i]? = some d ∧ Same G'' H' ∧ Grow G' H G'' H' ∧ Rp K G'' x d
  stop : ∀ G' H, Same G G' → Same G' H → J.stop ds.length H
abbrev XI := En → (List PyData → Prop) → Xk → Prop
def RefI (K : PySem.W.Frag) (W : WX) (wi : TI) (x : XI) : Prop := ∀ (G0 H0 G H : Hp) (σ : L2.St) (e : En) (R : It → Hp → Prop) (q : List PyData → Prop) (ex : Xk), StR K G0 H0 G H σ e → x e q ex →
  (∀ G' H' J ds, Same G' H' → Grow G H G' H' → Walks K G' J ds → q ds → R J H') →
  (∀ G' H' cls d y, Same G' H' → Grow G H G' H' → XR K G' H' cls d y → ex y → W cls d σ H') → wi σ H R
structure VI (X : Cx) (W : WX) (tg iter : Expr) (wi : TI) (x : XI) : Prop where
  pi : PI X tg iter wi
  rf : RefI X.K W wi x
section
variable {K : PySem.W.Frag} {G : Hp}
theorem walks_list {a : Addr} {xs : List V} {ds : List PyData} (h : SqL K G a xs) (r : RpAll K G xs ds) : Walks K G (Itl K a) ds where
  go := fun i G' H s1 s2 hi => by
    obtain ⟨v, h1, _⟩ := r.getD (List.getElem?_eq_getElem hi)
    exact ⟨xs, v, sql_same s2 (sql_same s1 h), h1⟩
  yld := fun i G' H x H' s1 s2 hi hy => by
    obtain ⟨e, hy⟩ := hy
    subst e
    have hx := hy xs (sql_same s2 (sql_same s1 h))
    obtain ⟨d, h1, h2⟩ := r.get hx
    exact ⟨G', d, h1, s2, .refl, h2.mono s1 _ _⟩
  stop := fun G' H s1 s2 => ⟨xs, sql_same s2 (sql_same s1 h), by rw [r.len]; exact Nat.le_refl _⟩
theorem walks_tup {a : Addr} {xs : List V} {ds : List PyData} (h : SqT K G a xs) (r : RpAll K G xs ds) : Walks K G (Itt K a) ds where
  go := fun i G' H s1 s2 hi => by
    obtain ⟨v, h1, _⟩ := r.getD (List.getElem?_eq_getElem hi)
    exact ⟨xs, v, sqt_same s2 (sqt_same s1 h), h1⟩
  yld := fun i G' H x H' s1 s2 hi hy => by
    obtain ⟨e, hy⟩ := hy
    subst e
    have hx := hy xs (sqt_same s2 (sqt_same s1 h))
    obtain ⟨d, h1, h2⟩ := r.get hx
    exact ⟨G', d, h1, s2, .refl, h2.mono s1 _ _⟩
  stop := fun G' H s1 s2 => ⟨xs, sqt_same s2 (sqt_same s1 h), by rw [r.len]; exact Nat.le_refl _⟩
def strD (z : Str) : List PyData := z.cps.toList.map fun c => .str ⟨#[c]⟩
theorem walks_str (z : Str) : Walks K G (Its z) (strD z) where
  go := fun i G' H _ _ hi => by
    unfold strD at hi
    show i < z.cps.size
    simpa using hi
  yld := fun i G' H x H' _ s2 hi hy => by
    obtain ⟨e, c, h1, h2⟩ := hy
    subst e h2
    refine ⟨G', .str ⟨#[c]⟩, ?_, s2, .refl, .str _⟩
    unfold strD
    rw [List.getElem?_map, Array.getElem?_toList, h1]
    rfl
  stop := fun G' H _ _ => by
    show z.cps.size ≤ (strD z).length
    unfold strD
    simp
def rngD (lo : Int) (n : Nat) (c : Int) : List PyData := (List.range n).map fun k => .int (lo + (k : Nat) * c)
theorem rngD_len (lo : Int) (n : Nat) (c : Int) : (rngD lo n c).length = n := by
  unfold rngD
  simp
theorem rngD_get {lo : Int} {n : Nat} {c : Int} {i : Nat} {d : PyData} (h : (rngD lo n c)[i]? = some d) : i < n ∧ d = .int (lo + (i : Nat) * c) := by
  unfold rngD at h
  rw [List.getElem?_map] at h
  by_cases hi : i < n
  · rw [List.getElem?_range hi] at h
    exact ⟨hi, (Option.some.inj h).symm⟩
  · rw [List.getElem?_eq_none (by simpa using hi)] at h
    cases h
theorem walks_rng (lo : Int) (n : Nat) : Walks K G (Itr lo n) (rngD lo n 1) where
  go := fun i G' H _ _ hi => by
    rw [rngD_len] at hi
    exact hi
  yld := fun i G' H x H' _ s2 hi hy => by
    obtain ⟨e, e2⟩ := hy
    subst e e2
    rw [rngD_len] at hi
    refine ⟨G', .int (lo + (i : Nat) * 1), ?_, s2, .refl, ?_⟩
    · unfold rngD
      rw [List.getElem?_map, List.getElem?_range hi]
      rfl
    · rw [Int.mul_one]
      exact .int _
  stop := fun G' H _ _ => by
    show n ≤ _
    rw [rngD_len]
    exact Nat.le_refl _
theorem walks_rngC (lo c : Int) (n : Nat) : Walks K G (Itc lo c n) (rngD lo n c) where
  go := fun i G' H _ _ hi => by
    rw [rngD_len] at hi
    exact hi
  yld := fun i G' H x H' _ s2 hi hy => by
    obtain ⟨e, e2⟩ := hy
    subst e e2
    rw [rngD_len] at hi
    refine ⟨G', .int (lo + (i : Nat) * c), ?_, s2, .refl, .int _⟩
    unfold rngD
    rw [List.getElem?_map, List.getElem?_range hi]
    rfl
  stop := fun G' H _ _ => by
    show n ≤ _
    rw [rngD_len]
    exact Nat.le_refl _
def zipD (ds es : List PyData) : List PyData := (ds.zip es).map fun p => .tuple [p.1, p.2]
theorem zipD_get {ds es : List PyData} {i : Nat} {d e : PyData} (h1 : ds[i]? = some d) (h2 : es[i]? = some e) : (zipD ds es)[i]? = some (.tuple [d, e]) := by
  unfold zipD
  rw [List.getElem?_map, List.getElem?_zip_eq_some.mpr (show ds[i]? = some (d, e).1 ∧ es[i]? = some (d, e).2 from ⟨h1, h2⟩)]
  rfl
theorem zipD_len (ds es : List PyData) : (zipD ds es).length = min ds.length es.length := by
  unfold zipD
  simp
theorem zip_new {T : Addr} {x y : V} {d e : PyData} {G' H : Hp} (s2 : Same G' H) (hT : H T = none) (hx : Rp K G' x d) (hy : Rp K G' y e) :
    Same (upd G' T (.tup [x, y])) (upd H T (.tup [x, y])) ∧ Grow G' H (upd G' T (.tup [x, y])) (upd H T (.tup [x, y])) ∧ Rp K (upd G' T (.tup [x, y])) (.ref T) (.tuple [d, e]) := by
  have gb : Grow G' H (upd G' T (.tup [x, y])) (upd H T (.tup [x, y])) := Grow.both s2 hT
  exact ⟨same_both s2, gb, .tup (.inl (.inl upd_same)) (.cons (hx.mono gb.gg _ _) (.cons (hy.mono gb.gg _ _) .nil))⟩
theorem walks_zipL {a b : Addr} {xs ys : List V} {ds es : List PyData} (h : SqL K G a xs) (r : RpAll K G xs ds) (h' : SqL K G b ys) (r' : RpAll K G ys es) : Walks K G (Itz K a b) (zipD ds es) where
  go := fun i G' H s1 s2 hi => by
    rw [zipD_len] at hi
    obtain ⟨v, h1, _⟩ := r.getD (List.getElem?_eq_getElem (show i < ds.length by omega))
    obtain ⟨v', h1', _⟩ := r'.getD (List.getElem?_eq_getElem (show i < es.length by omega))
    exact ⟨xs, ys, v, v', sql_same s2 (sql_same s1 h), sql_same s2 (sql_same s1 h'), h1, h1'⟩
  yld := fun i G' H x H' s1 s2 hi hy => by
    obtain ⟨T, x1, y1, e1, hT, e2, k1, k2⟩ := hy
    subst e1 e2
    obtain ⟨d, q1, q2⟩ := r.get (k1 xs (sql_same s2 (sql_same s1 h)))
    obtain ⟨d', q1', q2'⟩ := r'.get (k2 ys (sql_same s2 (sql_same s1 h')))
    obtain ⟨z1, z2, z3⟩ := zip_new s2 hT (q2.mono s1 _ _) (q2'.mono s1 _ _)
    exact ⟨_, _, zipD_get q1 q1', z1, z2, z3⟩
  stop := fun G' H s1 s2 => ⟨xs, ys, sql_same s2 (sql_same s1 h), sql_same s2 (sql_same s1 h'), by rw [zipD_len, r.len, r'.len]; omega⟩
theorem walks_zipT {a b : Addr} {xs ys : List V} {ds es : List PyData} (h : SqT K G a xs) (r : RpAll K G xs ds) (h' : SqT K G b ys) (r' : RpAll K G ys es) : Walks K G (RZ.ItzT K a b) (zipD ds es) where
  go := fun i G' H s1 s2 hi => by
    rw [zipD_len] at hi
    obtain ⟨v, h1, _⟩ := r.getD (List.getElem?_eq_getElem (show i < ds.length by omega))
    obtain ⟨v', h1', _⟩ := r'.getD (List.getElem?_eq_getElem (show i < es.length by omega))
    exact ⟨xs, ys, v, v', sqt_same s2 (sqt_same s1 h), sqt_same s2 (sqt_same s1 h'), h1, h1'⟩
  yld := fun i G' H x H' s1 s2 hi hy => by
    obtain ⟨T, x1, y1, e1, hT, e2, k1, k2⟩ := hy
    subst e1 e2
    obtain ⟨d, q1, q2⟩ := r.get (k1 xs (sqt_same s2 (sqt_same s1 h)))
    obtain ⟨d', q1', q2'⟩ := r'.get (k2 ys (sqt_same s2 (sqt_same s1 h')))
    obtain ⟨z1, z2, z3⟩ := zip_new s2 hT (q2.mono s1 _ _) (q2'.mono s1 _ _)
    exact ⟨_, _, zipD_get q1 q1', z1, z2, z3⟩
  stop := fun G' H s1 s2 => ⟨xs, ys, sqt_same s2 (sqt_same s1 h), sqt_same s2 (sqt_same s1 h'), by rw [zipD_len, r.len, r'.len]; omega⟩
end
section
variable {X : Cx} {W : WX} {K : PySem.W.Frag} {tg a b : Expr} {te tb : TE} {ta : TA} {xa xb : XE} {xs : XA} {pos p : Pos}
/-- a list, a tuple or a text, by the value -/
def iSeq (K : PySem.W.Frag) (tl : TE) : TI := fun σ H R => tl σ H fun x H1 => (∃ a xs, x = .ref a ∧ SqL K H1 a xs ∧ R (Itl K a) H1) ∨ (∃ a xs, x = .ref a ∧ SqT K H1 a xs ∧ R (Itt K a) H1) ∨ ∃ z, x = .str z ∧ R (Its z) H1
theorem pi_seq (hl : PE X a te) : PI X tg a (iSeq X.K te) where
  run := fun pins s σ H R I h => by
    refine thn (hl.run pins s σ H _ I h) fun v s1 hh => ?_
    obtain ⟨x, H1, I1, r1, q1⟩ := hh
    have fresh1 : FpOk X pins H1 s1.heap.objs.size := I1.fpOk (Nat.le_refl _) (I1.hok.fresh (Nat.le_refl _))
    rcases q1 with ⟨l, xs, rfl, hq, q⟩ | ⟨l, xs, rfl, hq, q⟩ | ⟨z, rfl, q⟩
    · cases r1
      obtain ⟨its, rv, pl, _⟩ := I1.list hq
      exact wpAny_pyIter_list pl.isList ⟨s1.heap.objs.size, [s1.heap.objs.size], _, _, H1, rfl, I1.kept (t' := s1.toks) (fun b o e => Heap.get?_push_of_some _ e), turn_list l _, ⟨_, Heap.get?_push_size _ rfl, rfl, rfl⟩, (fun b hb => by
        rw [List.mem_singleton.mp hb]
        exact fresh1), q⟩
    · cases r1
      obtain ⟨its, rv, pl, _⟩ := I1.tuple hq
      exact wpAny_pyIter_tuple (show s1.heap.IsTuple l its.toArray from pl) ⟨s1.heap.objs.size, [s1.heap.objs.size], _, _, H1, rfl, I1.kept (t' := s1.toks) (fun b o e => Heap.get?_push_of_some _ e), turn_tuple l _, ⟨_, Heap.get?_push_size _ rfl, rfl, rfl⟩, (fun b hb => by
        rw [List.mem_singleton.mp hb]
        exact fresh1), q⟩
    · obtain ⟨t, rfl⟩ := r1
      cases ha : z.cps.all (· < 128)
      · exact wpAny_pyIter_wide ha (pi_one (tk := s1.toks) I1 _ (turn_str _ z t _ (Or.inr rfl)) ⟨_, Heap.get?_push_size _ rfl, rfl, rfl⟩ q)
      · exact wpAny_pyIter_ascii ha (pi_one (tk := s1.toks) I1 _ (turn_str _ z t _ (Or.inl rfl)) ⟨_, Heap.get?_push_size _ rfl, rfl, rfl⟩ q)
def ySeq (r : Rs) (q : List PyData → Prop) : Prop := r.stays = true ∧ match r.d with
  | .list ds => q ds
  | .tuple ds => q ds
  | .str z => q (strD z)
  | .dict [(.dict [], .list ds)] => q ds
  | _ => False
def xSeq (xa : XE) : XI := fun e q ex => xa e (fun r => ySeq r q) ex
theorem vi_seq (h : VE X W a te xa) : VI X W tg a (iSeq X.K te) (xSeq xa) := ⟨pi_seq h.pe, by
  intro G0 H0 G H σ e R q ex hs hx hq hw
  refine h.rf G0 H0 G H σ e _ _ ex hs hx (fun G1 H1 v r1 s1 g1 rr1 k1 => ?_) hw
  obtain ⟨st, k⟩ := k1
  obtain ⟨G2, s2, _, g2, rp, _⟩ := rr1.fix (G0 := G0) (H0 := H0) (σ := σ) (e := e) s1 g1 st
  generalize r1.d = d at k rp
  cases rp with
  | non => exact k.elim
  | bl b => exact k.elim
  | int i => exact k.elim
  | str z => exact .inr (.inr ⟨z, rfl, hq G2 H1 _ _ s2 g2 (walks_str z) k⟩)
  | lst h1 h2 => exact .inl ⟨_, _, rfl, sql_same s2 (SqL.of h1), hq G2 H1 _ _ s2 g2 (walks_list (SqL.of h1) h2) k⟩
  | tup h1 h2 => exact .inr (.inl ⟨_, _, rfl, sqt_same s2 h1, hq G2 H1 _ _ s2 g2 (walks_tup h1 h2) k⟩)
  | obj _ _ _ _ => exact k.elim
  | dck _ _ _ _ => exact k.elim
  | dct _ _ _ _ => exact k.elim
  | rfd => exact k.elim
  | scr h1 => exact .inl ⟨_, _, rfl, sql_same s2 h1, hq G2 H1 _ _ s2 g2 (walks_list h1 (RpAll.of_ints _)) k⟩⟩
def yRng1 (ds : List PyData) (q : List PyData → Prop) : Prop := match ds with
  | [.int j] => -(2 ^ 62) ≤ j ∧ j < 2 ^ 62 ∧ q (rngD 0 j.toNat 1)
  | _ => False
def yRng2 (ds : List PyData) (q : List PyData → Prop) : Prop := match ds with
  | [.int i, .int j] => (-(2 ^ 62) ≤ i ∧ i < 2 ^ 62 ∧ -(2 ^ 62) ≤ j ∧ j < 2 ^ 62) ∧ q (rngD i (j - i).toNat 1)
  | _ => False
def yRng3 (ds : List PyData) (q : List PyData → Prop) : Prop := match ds with
  | [.int i, .int j, .int c] => ∃ n, RgC i j c n ∧ q (rngD i n c)
  | _ => False
def xRng (y : List PyData → (List PyData → Prop) → Prop) (xs : XA) : XI := fun e q ex => xs e (fun rs => y (rs.map Rs.d) q) ex
theorem ref_rng {y : List PyData → (List PyData → Prop) → Prop} {r : List V → Hp → (It → Hp → Prop) → Prop} (h : ∀ (G H : Hp) vs ds R q, RpAll K H vs ds → y ds q → (∀ J items, Walks K G J items → q items → R J H) → r vs H R) (ha : RefA K W ta xs) :
    RefI K W (fun σ H R => ta σ H fun vs H1 => r vs H1 R) (xRng y xs) := by
  intro G0 H0 G H σ e R q ex hs hx hq hw
  refine ha G0 H0 G H σ e _ _ ex hs hx (fun G1 H1 vs rs s1 g1 pr k1 => ?_) hw
  exact h G1 H1 vs _ _ _ (paired_wk s1 pr) k1 fun J items w k => hq G1 H1 J items s1 g1 w k
theorem vi_rng1 (hg : Gl X "range") (hm : X.mg "range" = none) (ha : VA X W [a] ta xs) (hs : starEach [a] X.env = [(false, eval a X.env)] := by rfl) : VI X W tg (.Call (.Name "range" p) [a] [] pos) (iRng1 ta) (xRng yRng1 xs) :=
  ⟨pi_range1 hg hm ha.pa hs, ref_rng (r := fun vs H1 R => ∃ j : Int, vs = [.int j] ∧ -(2 ^ 62) ≤ j ∧ j < 2 ^ 62 ∧ R (Itr 0 j.toNat) H1) (fun G H vs ds R q hr hy hq => by
    unfold yRng1 at hy
    split at hy
    · cases hr with
      | cons h t =>
        cases t
        obtain rfl := rp_int h
        exact ⟨_, rfl, hy.1, hy.2.1, hq _ _ (walks_rng 0 _) hy.2.2⟩
    · exact hy.elim) ha.rf⟩
theorem vi_rng2 (hg : Gl X "range") (hm : X.mg "range" = none) (ha : VA X W [a, b] ta xs) (hs : starEach [a, b] X.env = [(false, eval a X.env), (false, eval b X.env)] := by rfl) (hs2 : starEach [b] X.env = [(false, eval b X.env)] := by rfl) : VI X W tg (.Call (.Name "range" p) [a, b] [] pos) (iRng2 ta) (xRng yRng2 xs) :=
  ⟨pi_range2 hg hm ha.pa hs hs2, ref_rng (r := fun vs H1 R => ∃ i j : Int, vs = [.int i, .int j] ∧ (-(2 ^ 62) ≤ i ∧ i < 2 ^ 62 ∧ -(2 ^ 62) ≤ j ∧ j < 2 ^ 62) ∧ R (Itr i (j - i).toNat) H1) (fun G H vs ds R q hr hy hq => by
    unfold yRng2 at hy
    split at hy
    · cases hr with
      | cons h t =>
        cases t with
        | cons h' t =>
          cases t
          obtain rfl := rp_int h
          obtain rfl := rp_int h'
          exact ⟨_, _, rfl, hy.1, hq _ _ (walks_rng _ _) hy.2⟩
    · exact hy.elim) ha.rf⟩
theorem vi_rng3 {c : Expr} (hg : Gl X "range") (hm : X.mg "range" = none) (ha : VA X W [a, b, c] ta xs) (hs : starEach [a, b, c] X.env = (false, eval a X.env) :: starEach [b, c] X.env := by rfl) (hpl : (backTo pos (starEach [b, c] X.env)).any (·.1) = false := by rfl) :
    VI X W tg (.Call (.Name "range" p) [a, b, c] [] pos) (iRng3 ta) (xRng yRng3 xs) :=
  ⟨pi_range3 hg hm ha.pa hs hpl, ref_rng (r := fun vs H1 R => ∃ (i j c : Int) (n : Nat), vs = [.int i, .int j, .int c] ∧ RgC i j c n ∧ R (Itc i c n) H1) (fun G H vs ds R q hr hy hq => by
    unfold yRng3 at hy
    split at hy
    · cases hr with
      | cons h t =>
        cases t with
        | cons h' t =>
          cases t with
          | cons h'' t =>
            cases t
            obtain rfl := rp_int h
            obtain rfl := rp_int h'
            obtain rfl := rp_int h''
            obtain ⟨n, k1, k2⟩ := hy
            exact ⟨_, _, _, n, rfl, k1, hq _ _ (walks_rngC _ _ _) k2⟩
    · exact hy.elim) ha.rf⟩
/-- zip of two lists, of two tuples -/
def yZip (rs : List Rs) (q : List PyData → Prop) : Prop := rs.all Rs.stays = true ∧ match rs.map Rs.d with
  | [.list ds, .list es] => q (zipD ds es)
  | [.tuple ds, .tuple es] => q (zipD ds es)
  | _ => False
def xZip (xs : XA) : XI := fun e q ex => xs e (fun rs => yZip rs q) ex
theorem vi_zip {tpos : Pos} {elts : List Expr} {kk : Nat} (hg : Gl X "zip") (hm : X.mg "zip" = none) (ha : VA X W [a, b] ta xs) (hs : starEach [a, b] X.env = (false, eval a X.env) :: starEach [b] X.env := by rfl) (hpl : (backTo pos (starEach [b] X.env)).any (·.1) = false := by rfl) :
    VI X W (.Tuple elts kk tpos) (.Call (.Name "zip" p) [a, b] [] pos) (RZ.iZipA X.K ta) (xZip xs) := ⟨RZ.pi_zipA hg hm ha.pa hs hpl, by
  intro G0 H0 G H σ e R q ex hs hx hq hw
  refine ha.rf G0 H0 G H σ e _ _ ex hs hx (fun G1 H1 vs rs s1 g1 pr k1 => ?_) hw
  obtain ⟨st, k⟩ := k1
  obtain ⟨G2, s2, g2, ra⟩ := fix_args s1 g1 pr st
  generalize rs.map Rs.d = ds at k ra
  split at k
  · cases ra with
    | cons h t =>
      cases t with
      | cons h' t =>
        cases t
        cases h with
        | lst h1 h2 =>
          cases h' with
          | lst h3 h4 => exact ⟨_, _, _, _, rfl, .inl ⟨sql_same s2 (SqL.of h1), sql_same s2 (SqL.of h3), hq G2 H1 _ _ s2 g2 (walks_zipL (SqL.of h1) h2 (SqL.of h3) h4) k⟩⟩
  · cases ra with
    | cons h t =>
      cases t with
      | cons h' t =>
        cases t
        cases h with
        | tup h1 h2 =>
          cases h' with
          | tup h3 h4 => exact ⟨_, _, _, _, rfl, .inr ⟨sqt_same s2 h1, sqt_same s2 h3, hq G2 H1 _ _ s2 g2 (walks_zipT h1 h2 h3 h4) k⟩⟩
  · exact k.elim⟩

/-! ### comprehensions -/
abbrev WX0 : WX := fun _ _ _ _ => False
def xLc (xi : XI) (y : YG) (xt : XT) (xe : XE) (vs : List Nat) : XE := fun e q ex => xi e (fun items => ∃ I : Nat → List PyData → Prop, I 0 [] ∧
  (∀ i d acc, items[i]? = some d → I i acc → y (.va d) (wipeE e vs) fun e2 => xt e2 (fun b => if b = true then xe e2 (fun r => (r.stays = true ∧ acc.length < sizeLine) ∧ I (i + 1) (acc ++ [r.d])) (fun _ => False) else I (i + 1) acc) fun _ => False) ∧
  ∀ acc, I items.length acc → q (.nw acc)) ex
theorem ref_lc {wi : TI} {g : TG} {tt : TT} {xi : XI} {y : YG} {xt : XT} {vs js : List Nat} (hjs : ∀ j ∈ js, j ∈ vs) (hi : RefI K W wi xi) (hg : RefG K g y js) (ht : RefT K WX0 tt xt) (he : RefE K WX0 te xa) : RefE K W (tLc wi g tt te vs) (xLc xi y xt xa vs) := by
  intro G0 H0 G H σ e Q q ex hs hx hq hw
  refine hi G0 H0 G H σ e _ _ ex hs hx (fun G1 H1 J items s1 g1 wk k1 => ?_) hw
  obtain ⟨I, i0, turn, fin⟩ := k1
  have hs1 := hs.grow g1 s1
  intro D hD
  have hH0 : H0 D = none := hs1.gr.hh.free hD
  refine ⟨fun i m Hc => m = items.length - i ∧ i ≤ items.length ∧ ∃ G2 acc accV, StR K G0 H0 G2 Hc σ e ∧ Same G1 G2 ∧ Grow G1 H1 G2 Hc ∧ Hc D = some (.lst accV) ∧ G2 D = none ∧ RpAll K G2 accV acc ∧ I i acc,
    ⟨items.length, by simp, Nat.zero_le _, G1, [], [], ?_, Same.refl _, Grow.out hD, upd_same, s1.free hD, .nil, i0⟩, ?_⟩
  · exact hs1.grow (Grow.out hD) (same_out s1 (s1.free hD))
  rintro i m Hc ⟨rfl, hle, G2, acc, accV, st, sg, gr, hDc, hGD, ra, inv⟩
  by_cases hlt : i < items.length
  · refine .inr ⟨wk.go i G2 Hc sg st.sub hlt, fun H' => i + 1 ≤ items.length ∧ ∃ G3 acc accV, StR K G0 H0 G3 H' σ e ∧ Same G1 G3 ∧ Grow G1 H1 G3 H' ∧ H' D = some (.lst accV) ∧ G3 D = none ∧ RpAll K G3 accV acc ∧ I (i + 1) acc,
      fun H' h => ⟨_, by omega, rfl, h⟩, fun x H' hy => ?_⟩
    obtain ⟨G3, d, hd, s3, g3, rx⟩ := wk.yld i G2 Hc x H' sg st.sub hlt hy
    have st3 := st.grow g3 s3
    have nD3 : G3 D = none := g3.nn D hGD (by rw [hDc]; exact Option.some_ne_none _)
    have hD3 : H' D = some (.lst accV) := g3.hh _ _ hDc
    refine hg G0 H0 G3 H' (wipe σ vs) (wipeE e vs) x (.va d) _ _ (st3.wipe vs) rx (turn i d acc hd inv) fun σ2 e2 st4 w4 k4 => ?_
    refine ⟨by rw [w4 vs hjs, wipe_wipe], ?_⟩
    refine ht G0 H0 G3 H' σ2 e2 _ _ _ st4 k4 (fun G4 H4 b s4 g4 k5 => ?_) fun _ _ _ _ _ _ _ _ z => z.elim
    have st5 := st4.grow g4 s4
    cases b with
    | false =>
      show i + 1 ≤ items.length ∧ _
      exact ⟨hlt, G4, acc, accV, st3.grow g4 s4, (sg.trans g3.gg).trans g4.gg, (gr.trans g3).trans g4, g4.hh _ _ hD3, g4.nn D nD3 (by rw [hD3]; exact Option.some_ne_none _), (ra.mono g3.gg _ _).mono g4.gg _ _, k5⟩
    | true =>
      refine he G0 H0 G4 H4 σ2 e2 _ _ _ st5 k5 (fun G5 H5 v r s5 g5 rr k6 => ?_) fun _ _ _ _ _ _ _ _ z => z.elim
      obtain ⟨⟨c1, c2⟩, c3⟩ := k6
      have hD4 : H4 D = some (.lst accV) := g4.hh _ _ hD3
      have nD4 : G4 D = none := g4.nn D nD3 (by rw [hD3]; exact Option.some_ne_none _)
      have hD5 : H5 D = some (.lst accV) := g5.hh _ _ hD4
      have nD5 : G5 D = none := g5.nn D nD4 (by rw [hD4]; exact Option.some_ne_none _)
      obtain ⟨G6, s6, g56, g46, rp, nn6⟩ := rr.fix (G0 := G0) (H0 := H0) (σ := σ2) (e := e2) s5 g5 c1
      have hv : v ≠ .ref D ∨ G5 D ≠ none ∨ G6 D = none := by
        by_cases hv : v = .ref D
        · cases r with
          | va d' =>
            right
            right
            have rr' : Rp K G5 v d' := rr
            exact g46.nn D nD4 (by rw [hD4]; exact Option.some_ne_none _)
          | nw ds' =>
            obtain ⟨p, ys, e1, e2', _⟩ := rr
            rw [e1] at hv
            cases hv
            rw [e2'] at hD4
            cases hD4
          | bo ds' => cases c1
          | bb c pre f ds => cases c1
          | bg k0 ds0 => cases c1
        · exact .inl hv
      have nD6 : G6 D = none := g46.nn D nD4 (by rw [hD4]; exact Option.some_ne_none _)
      have raF : RpAll K G6 accV acc := ((ra.mono g3.gg _ _).mono g4.gg _ _).mono (g46.gg) _ _
      refine ⟨accV, hD5, by rw [ra.len]; exact c2, hlt, G6, acc ++ [r.d], accV ++ [v], ?_, ((sg.trans g3.gg).trans g4.gg).trans g46.gg, ?_, upd_same, nD6, raF.append (.cons rp .nil), c3⟩
      · refine StR.poke (((st3.grow g4 s4).grow g46 s6)) hD5 (fun _ z => by cases z) nD6 hH0 (hs1.free (.inl hD))
      · have gg := ((gr.trans g3).trans g4).trans g46
        exact ⟨gg.gg, same_out gg.hh hD, gg.nn⟩
  · have e1 : i = items.length := by omega
    subst e1
    refine .inl ⟨wk.stop G2 Hc sg st.sub, ?_⟩
    exact hq G2 Hc _ (.nw acc) st.sub (g1.trans gr) ⟨D, accV, rfl, g1.hh.free hD, hDc, hGD, ra⟩ (fin acc inv)
def xYes : XT := fun _ q _ => q true
structure VTs (X : Cx) (W : WX) (ifs : List Expr) (t : TT) (x : XT) : Prop where
  pt : PTs X ifs t
  rf : RefT X.K W t x
theorem vts_nil : VTs X W [] tYes xYes := ⟨pts_nil, fun _ _ G H _ _ _ _ _ hs hx hq _ => hq G H true hs.sub .refl hx⟩
theorem vts_one {c : Expr} {t : TT} {x : XT} (h : VT X W c t x) : VTs X W [c] t x := ⟨pts_one h.pt, h.rf⟩
abbrev BF (α : Type) : Type := Shared → Hp → Addr → List (Str × Addr) → List Addr → α
theorem ve_lc {elt iter : Expr} {ifs : List Expr} {scope : Scope} {own : List (Str × Nat)} {wi : TI} {g : BF TG} {tt : BF TT} {te : BF TE} {xi : XI} {y : YG} {xt : XT} {js : List Nat} (hc : X.calm = true) (hN : X.N.Nodup) (hjs : ∀ j ∈ js, j ∈ own.map (·.2)) (hi : VI X W tg iter wi xi)
    (ok : BlkOk X.N X.env.scope scope own)
    (hg : ∀ (s : Shared) (H : Hp) (C : Addr) (cl : List (Str × Addr)) (fp : List Addr), VG (X.blk s H scope (compEnvC scope cl C X.env) fp) tg (g s H C cl fp) y js)
    (ht : ∀ (s : Shared) (H : Hp) (C : Addr) (cl : List (Str × Addr)) (fp : List Addr), VTs (X.blk s H scope (compEnvC scope cl C X.env) fp) WX0 ifs (tt s H C cl fp) xt)
    (he : ∀ (s : Shared) (H : Hp) (C : Addr) (cl : List (Str × Addr)) (fp : List Addr), VE (X.blk s H scope (compEnvC scope cl C X.env) fp) WX0 elt (te s H C cl fp) xa)
    (s0 : Shared) (H0 : Hp) (eg : ∀ s H C cl fp, g s H C cl fp = g s0 H0 0 [] [] := by intros; rfl) (et : ∀ s H C cl fp, tt s H C cl fp = tt s0 H0 0 [] [] := by intros; rfl) (ee : ∀ s H C cl fp, te s H C cl fp = te s0 H0 0 [] [] := by intros; rfl)
    (hs : ∀ x, foldedSetIterable iter X.env x = pure x := by intro _; rfl) : VE X W (.ListComp elt [⟨tg, iter, ifs, 0⟩] scope pos) (tLc wi (g s0 H0 0 [] []) (tt s0 H0 0 [] []) (te s0 H0 0 [] []) (own.map (·.2))) (xLc xi y xt xa (own.map (·.2))) :=
  ⟨pe_lc hc hN hi.pi ok (fun s H C cl fp => by rw [← eg s H C cl fp]; exact (hg s H C cl fp).pg) (fun s H C cl fp => by rw [← et s H C cl fp]; exact (ht s H C cl fp).pt) (fun s H C cl fp => by rw [← ee s H C cl fp]; exact (he s H C cl fp).pe) hs,
    ref_lc hjs hi.rf (hg s0 H0 0 [] []).rf (ht s0 H0 0 [] []).rf (he s0 H0 0 [] []).rf⟩
end
end Pv

namespace Pv
open PySem L2
section
variable {X : Cx} {W : WX} {K : PySem.W.Frag} {a b : Expr} {te tb : TE} {xa xb : XE} {pos : Pos}
/-! ### +, *, slices, by the values -/
def RefR (K : PySem.W.Frag) (r : R2) (y : PyData → PyData → (Rs → Prop) → Prop) : Prop := ∀ (Hs G H : Hp) (v w : V) (r1 r2 : Rs) (Q : VK) (q : Rs → Prop), Same G H → RsR K Hs G H v r1 → RsR K Hs G H w r2 → y r1.d r2.d q →
  (∀ G' H' v r, Same G' H' → Grow G H G' H' → RsR K H G' H' v r → q r → Q v H') → r v w H Q
def xR2 (y : PyData → PyData → (Rs → Prop) → Prop) (xa xb : XE) : XE := fun e q ex => xa e (fun r => xb e (fun s => y r.d s.d q) ex) ex
theorem ref_r2 {r : R2} {y : PyData → PyData → (Rs → Prop) → Prop} (h : RefR K r y) (ha : RefE K W te xa) (hb : RefE K W tb xb) : RefE K W (tOp r te tb) (xR2 y xa xb) := by
  intro G0 H0 G H σ e Q q ex hs hx hq hw
  refine ha G0 H0 G H σ e _ _ ex hs hx (fun G1 H1 v r1 s1 g1 rr1 k1 => ?_) hw
  refine hb G0 H0 G1 H1 σ e _ _ ex (hs.grow g1 s1) k1 (fun G2 H2 w' r2 s2 g2 rr2 k2 => ?_) fun G2 H2 cls d y s2 g2 => hw G2 H2 cls d y s2 (g1.trans g2)
  exact h H G2 H2 v w' r1 r2 Q q s2 (rr1.grow g2) (rr2.back g1.hh) k2 fun G3 H3 u r3 s3 g3 rr3 k3 => hq G3 H3 u r3 s3 ((g1.trans g2).trans g3) (rr3.back (g1.trans g2).hh) k3
def yPlus (a b : PyData) (q : Rs → Prop) : Prop := match a, b with
  | .int i, .int j => q (.va (.int (i + j)))
  | .str i, .str j => i.length + j.length ≤ sizeLine ∧ q (.va (.str (i ++ j)))
  | .list ds, .list es => ds.length + es.length ≤ sizeLine ∧ q (.nw (ds ++ es))
  | .tuple ds, .tuple es => ds.length + es.length ≤ sizeLine ∧ q (.va (.tuple (ds ++ es)))
  | _, _ => False
abbrev rPlus (K : PySem.W.Frag) : R2 := fun x y H Q => (rI0 fun i j => V.int (i + j)) x y H Q ∨ (fun x y H Q => (fun x y H Q => ∃ i j, x = V.str i ∧ y = V.str j ∧ i.length + j.length ≤ sizeLine ∧ Q (V.str (i ++ j)) H) x y H Q ∨ (fun x y H Q => rCat x y H Q ∨ rCatA K x y H Q) x y H Q) x y H Q
theorem rr_plus : RefR K (rPlus K) yPlus := by
  intro Hs G H v w r1 r2 Q q sub rr1 rr2 hy hq
  have w1 := rr1.wk sub
  have w2 := rr2.wk sub
  unfold yPlus at hy
  generalize hd1 : r1.d = d1 at hy w1
  generalize hd2 : r2.d = d2 at hy w2
  split at hy
  · obtain rfl := rp_int w1
    obtain rfl := rp_int w2
    exact .inl ⟨_, _, rfl, rfl, hq G H _ (.va _) sub .refl (.int _) hy⟩
  · obtain rfl := rp_str w1
    obtain rfl := rp_str w2
    exact .inr (.inl ⟨_, _, rfl, rfl, hy.1, hq G H _ (.va _) sub .refl (.str _) hy.2⟩)
  · obtain ⟨p, ys, rfl, h1, h2⟩ := rr1.list sub hd1
    obtain ⟨p', ys', rfl, h1', h2'⟩ := rr2.list sub hd2
    refine .inr (.inr (.inl ⟨p, p', ys, ys', rfl, rfl, h1, h1', by rw [h2.len, h2'.len]; exact hy.1, fun l hl => ?_⟩))
    exact hq G _ _ (.nw _) (same_out sub (sub.free hl)) (Grow.out hl) ⟨l, _, rfl, hl, upd_same, sub.free hl, h2.append h2'⟩ hy.2
  · obtain ⟨p, ys, rfl, h1, h2⟩ := rr1.tuple hd1
    obtain ⟨p', ys', rfl, h1', h2'⟩ := rr2.tuple hd2
    refine .inr (.inr (.inr ⟨p, p', ys, ys', rfl, rfl, sqt_same sub h1, sqt_same sub h1', by rw [h2.len, h2'.len]; exact hy.1, fun e1 => ?_, fun _ e2 => ?_, fun _ _ l hl => ?_⟩))
    · have h3 := h2.append h2'
      rw [e1, List.nil_append] at h3
      exact hq G H _ (.va _) sub .refl (.tup h1' h3) hy.2
    · have h3 := h2.append h2'
      rw [e2, List.append_nil] at h3
      exact hq G H _ (.va _) sub .refl (.tup h1 h3) hy.2
    · have gb : Grow G H (upd G l (.tup (ys ++ ys'))) (upd H l (.tup (ys ++ ys'))) := Grow.both sub hl
      exact hq _ _ _ (.va _) (same_both sub) gb (.tup (.inl (.inl upd_same)) ((h2.append h2').mono gb.gg _ _)) hy.2
  · exact hy.elim
theorem ve_plus (ha : VE X W a te xa) (hb : VE X W b tb xb) : VE X W (.BinOp a .Add b pos) (tOp (rPlus X.K) te tb) (xR2 yPlus xa xb) := ⟨pe_op (op_add.or (op_add_str.or (op_cat.or op_catA))) ha.pe hb.pe, ref_r2 rr_plus ha.rf hb.rf⟩
def yTimes (a b : PyData) (q : Rs → Prop) : Prop := match a, b with
  | .int i, .int j => CMul i j ∧ q (.va (.int (i * j)))
  | .list ds, .int k => -(2 ^ 63) ≤ k ∧ k < 2 ^ 63 ∧ ds.length * k.toNat ≤ sizeLine ∧ q (.nw (List.replicate k.toNat ds).flatten)
  | _, _ => False
theorem rr_times : RefR K (fun x y H Q => (rI CMul fun i j => V.int (i * j)) x y H Q ∨ rRep x y H Q) yTimes := by
  intro Hs G H v w r1 r2 Q q sub rr1 rr2 hy hq
  have w1 := rr1.wk sub
  have w2 := rr2.wk sub
  unfold yTimes at hy
  generalize hd1 : r1.d = d1 at hy w1
  generalize hd2 : r2.d = d2 at hy w2
  split at hy
  · obtain rfl := rp_int w1
    obtain rfl := rp_int w2
    exact .inl ⟨_, _, rfl, rfl, hy.1, hq G H _ (.va _) sub .refl (.int _) hy.2⟩
  · obtain ⟨p, ys, rfl, h1, h2⟩ := rr1.list sub hd1
    obtain rfl := rp_int w2
    refine .inr ⟨p, _, ys, rfl, rfl, h1, hy.1, hy.2.1, by rw [h2.len]; exact hy.2.2.1, fun l hl => ?_⟩
    exact hq G _ _ (.nw _) (same_out sub (sub.free hl)) (Grow.out hl) ⟨l, _, rfl, hl, upd_same, sub.free hl, h2.rep _⟩ hy.2.2.2
  · exact hy.elim
theorem ve_times (ha : VE X W a te xa) (hb : VE X W b tb xb) : VE X W (.BinOp a .Mult b pos) (tOp (fun x y H Q => (rI CMul fun i j => V.int (i * j)) x y H Q ∨ rRep x y H Q) te tb) (xR2 yTimes xa xb) := ⟨pe_op (op_mul.or op_rep) ha.pe hb.pe, ref_r2 rr_times ha.rf hb.rf⟩
def ySlice (a : PyData) (lo hi : Option Int) (q : Rs → Prop) : Prop := match a with
  | .list ds => q (.nw (cutD ds lo hi))
  | .tuple ds => q (.va (.tuple (cutD ds lo hi)))
  | .str z => z.length ≤ sizeLine ∧ q (.va (.str (cutS z lo hi)))
  | _ => False
variable {lo hi : Option Expr} {tl th : TO} {xl xh : XO} {p2 : Pos}
theorem ve_slice (ha : VE X W a te xa) (hl : VO X W lo tl xl) (hh : VO X W hi th xh) :
    VE X W (.Subscript a (.Slice lo hi none p2) pos) (tSl (fun x lo hi H Q => rSlL X.K x lo hi H Q ∨ (fun x lo hi H Q => rSlA X.K x lo hi H Q ∨ rSlS x lo hi H Q) x lo hi H Q) te tl th) (xSl ySlice xa xl xh) :=
  ⟨pe_slice (sl_list.or (sl_tupA.or sl_str)) ha.pe hl.po hh.po, ref_sl (fun Hs G H v s lo hi Q q sub rr k hq => by
    unfold ySlice at k
    have w := rr.wk sub
    generalize hd : s.d = d at k w
    cases d <;> first
      | exact False.elim k
      | skip
    · obtain rfl := rp_str w
      exact .inr (.inr ⟨_, rfl, k.1, hq G H _ (.va _) sub .refl (.str _) k.2⟩)
    · rename_i ds
      obtain ⟨p, ys, rfl, h1, h2⟩ := rr.list sub hd
      exact .inl ⟨p, ys, rfl, SqL.of h1, fun c hc => hq G _ _ (.nw _) (same_out sub (sub.free hc)) (Grow.out hc) ⟨c, _, rfl, hc, upd_same, sub.free hc, cut_rp h2 lo hi⟩ k⟩
    · rename_i ds
      obtain ⟨p, ys, rfl, h1, h2⟩ := rr.tuple hd
      have h3 := cut_rp h2 lo hi
      refine .inr (.inl ⟨p, ys, rfl, sqt_same sub h1, fun hw => ?_, fun _ c hc => ?_⟩)
      · rw [cut_whole ys lo hi hw] at h3
        exact hq G H _ (.va _) sub .refl (.tup h1 h3) k
      · have gb : Grow G H (upd G c (.tup (cutV ys lo hi))) (upd H c (.tup (cutV ys lo hi))) := Grow.both sub hc
        exact hq _ _ _ (.va _) (same_both sub) gb (.tup (.inl (.inl upd_same)) (h3.mono gb.gg _ _)) k) ha.rf hl.rf hh.rf⟩
/-- == and != of flat things or of anything -/
def yEqA : X2 := fun a b q => yEq a b q ∨ yEqD a b q
def yNeA : X2 := fun a b q => yNe a b q ∨ yNeD a b q
theorem r2_eqA : Ref2 K (fun x y H Q => rEq x y H Q ∨ rEqD K x y H Q) yEqA := fun H v w a b Q q ha hb hx hq => by
  rcases hx with hx | hx
  · exact .inl (r2_eq (K := K) H v w a b Q q ha hb hx hq)
  · exact .inr (r2_eqD H v w a b Q q ha hb hx hq)
theorem r2_neA : Ref2 K (fun x y H Q => rNe x y H Q ∨ rNeD K x y H Q) yNeA := fun H v w a b Q q ha hb hx hq => by
  rcases hx with hx | hx
  · exact .inl (r2_ne (K := K) H v w a b Q q ha hb hx hq)
  · exact .inr (r2_neD H v w a b Q q ha hb hx hq)

/-! ### chains of two comparisons -/
def xChain (x y : X2) (xa xb xc : XE) : XE := fun e q ex => xa e (fun r => xb e (fun s => x r.d s.d fun c => match c with
  | .bool k => if k = true then xc e (fun t => y s.d t.d fun c' => match c' with
    | .bool k' => q (.va (.bool k'))
    | _ => False) ex else q (.va (.bool false))
  | _ => False) ex) ex

/-! ### statements -/
def uNx : US := fun V e => V.nx e
def uSeq (u v : US) : US := fun V e => u { V with nx := v V } e
def uCut (u v : US) : US := fun V e => ∃ M : En → Prop, u { V with nx := M } e ∧ ∀ e', M e' → v V e'
theorem vss_nil : VSs X W [] tNext uNx := ⟨pss_nil, fun G0 H0 D V L G H σ e hs hu => L.nx G H σ e hs hu⟩
variable {st : Stmt} {rest ss1 ss2 : List Stmt} {t1 t2 : TS} {u1 u2 : US}
theorem vss_one (h : VS X W st t1 u1) : VSs X W [st] t1 u1 := ⟨pss_one h.ps, h.rf⟩
theorem vss_cons (h1 : VS X W st t1 u1) (h2 : VSs X W rest t2 u2) : VSs X W (st :: rest) (tSeq t1 t2) (uSeq u1 u2) := ⟨pss_cons h1.ps h2.ps, fun G0 H0 D V L G H σ e hs hu =>
  h1.rf G0 H0 { D with nx := t2 D } { V with nx := u2 V } ⟨fun G H σ e hs hu => h2.rf G0 H0 D V L G H σ e hs hu, L.rt, L.bk, L.ct, L.ex, L.rg⟩ G H σ e hs hu⟩
theorem vss_cut (h1 : VS X W st t1 u1) (h2 : VSs X W rest t2 u2) : VSs X W (st :: rest) (tSeq t1 t2) (uCut u1 u2) := ⟨pss_cons h1.ps h2.ps, fun G0 H0 D V L G H σ e hs hu => by
  obtain ⟨M, hu1, hu2⟩ := hu
  exact h1.rf G0 H0 { D with nx := t2 D } { V with nx := M } ⟨fun G H σ e hs hm => h2.rf G0 H0 D V L G H σ e hs (hu2 e hm), L.rt, L.bk, L.ct, L.ex, L.rg⟩ G H σ e hs hu1⟩
def uAsg (x : XE) (y : YG) : US := fun V e => x e (fun r => r.stays = true ∧ y r e V.nx) fun z => V.ex z e
theorem ref_asg {g : TG} {y : YG} {js : List Nat} (he : RefE K W te xa) (hg : RefG K g y js) : RefS K W (tAsg te g) (uAsg xa y) := by
  intro G0 H0 D V L G H σ e hs hu
  refine he G0 H0 G H σ e _ _ _ hs hu (fun G1 H1 v r s1 g1 rr k1 => ?_) fun G1 H1 cls d z s1 g1 xr k => L.ex G1 H1 σ e cls d z (hs.grow g1 s1) xr k
  obtain ⟨st, k⟩ := k1
  exact hg G0 H0 G1 H1 σ e v r _ _ (hs.grow g1 s1) (asn_of hs rr st) k fun σ' e' hs' _ k' => L.nx G1 H1 σ' e' hs' k'
theorem vs_asg {tg : Expr} {g : TG} {y : YG} {js : List Nat} (he : VE X W a te xa) (hg : VG X tg g y js) (hs : swapsWithSole [tg] a pos.line X.env = pure false := by rfl) (hw : swappedStores [tg] a X.env = pure none := by rfl) (h1 : (assignEach [tg] X.env).map (·.2) = [assign tg X.env] := by rfl) : VS X W (.Assign [tg] a pos) (tAsg te g) (uAsg xa y) :=
  ⟨ps_asg he.pe hg.pg hs hw h1, ref_asg he.rf hg.rf⟩
theorem vs_set (i : Nat) {x : Str} {pos' : Pos} (hN : X.N.Nodup) (he : VE X W a te xa) (hi : X.N[i]? = some x := by rfl) (hx : Loc X.env.scope x := by first | exact Or.inl rfl | exact Or.inr rfl) (hs : swapsWith a (some (.Name x pos')) pos.line X.env = pure false := by rfl)
    (hf : X.fn x = true ∨ X.env.scope.names.lookup x = some .local := by first | exact .inl rfl | exact .inr rfl) : VS X W (.Assign [.Name x pos'] a pos) (tAsg te (gName i)) (uAsg xa (yNm i)) := ⟨ps_set hN hi hx he.pe hs hf, ref_asg he.rf ref_nm⟩
theorem vs_setLc (i : Nat) {x : Str} {py : Pos} {elt tg iter : Expr} {ifs : List Expr} {scope : Scope} {own : List (Str × Nat)} {spos : Pos} {wi : TI} {g : BF TG} {tt : BF TT} {te : BF TE} {xi : XI} {y : YG} {xt : XT} {js : List Nat} (hc : X.calm = true) (hN : X.N.Nodup) (hjs : ∀ j ∈ js, j ∈ own.map (·.2)) (hi : VI X W tg iter wi xi)
    (ok : BlkOk X.N X.env.scope scope own)
    (hg : ∀ (s : Shared) (H : Hp) (C : Addr) (cl : List (Str × Addr)) (fp : List Addr), VG (X.blk s H scope (compEnvC scope cl C X.env) fp) tg (g s H C cl fp) y js)
    (ht : ∀ (s : Shared) (H : Hp) (C : Addr) (cl : List (Str × Addr)) (fp : List Addr), VTs (X.blk s H scope (compEnvC scope cl C X.env) fp) WX0 ifs (tt s H C cl fp) xt)
    (he : ∀ (s : Shared) (H : Hp) (C : Addr) (cl : List (Str × Addr)) (fp : List Addr), VE (X.blk s H scope (compEnvC scope cl C X.env) fp) WX0 elt (te s H C cl fp) xa)
    (s0 : Shared) (H0 : Hp) (eg : ∀ s H C cl fp, g s H C cl fp = g s0 H0 0 [] [] := by intros; rfl) (et : ∀ s H C cl fp, tt s H C cl fp = tt s0 H0 0 [] [] := by intros; rfl) (ee : ∀ s H C cl fp, te s H C cl fp = te s0 H0 0 [] [] := by intros; rfl)
    (hy : X.N[i]? = some x := by rfl) (hyl : X.env.scope.names.lookup x = some .local := by rfl)
    (hsw : swapsWith (.ListComp elt [⟨tg, iter, ifs, 0⟩] scope pos) (some (.Name x py)) spos.line X.env = pure true := by exact sw_true rfl rfl rfl (by decide +kernel)) (hs : ∀ x, foldedSetIterable iter X.env x = pure x := by intro _; rfl) :
    VS X W (.Assign [.Name x py] (.ListComp elt [⟨tg, iter, ifs, 0⟩] scope pos) spos) (tAsg (tLc wi (g s0 H0 0 [] []) (tt s0 H0 0 [] []) (te s0 H0 0 [] []) (own.map (·.2))) (gName i)) (uAsg (xLc xi y xt xa (own.map (·.2))) (yNm i)) :=
  ⟨ps_setLc hc hN hy hyl hsw hi.pi ok (fun s H C cl fp => by rw [← eg s H C cl fp]; exact (hg s H C cl fp).pg) (fun s H C cl fp => by rw [← et s H C cl fp]; exact (ht s H C cl fp).pt) (fun s H C cl fp => by rw [← ee s H C cl fp]; exact (he s H C cl fp).pe) hs,
    ref_asg (ref_lc hjs hi.rf (hg s0 H0 0 [] []).rf (ht s0 H0 0 [] []).rf (he s0 H0 0 [] []).rf) ref_nm⟩
/-- x op= e, ints -/
def uAug (i : Nat) (f : Int → Int → Int) (x : XE) : US := fun V e => match e[i]? with
  | some (.fz (.int a)) => x e (fun r => match r.d with
    | .int b => V.nx (e.set i (.fz (.int (f a b))))
    | _ => False) fun z => V.ex z e
  | _ => False
theorem ref_aug {i : Nat} {f : Int → Int → Int} (he : RefE K W te xa) : RefS K W (tAug i te (ipI f)) (uAug i f xa) := by
  intro G0 H0 D V L G H σ e hs hu
  unfold uAug at hu
  split at hu
  · rename_i n hn
    obtain ⟨v, h1, h2⟩ := hs.sl i _ hn
    obtain rfl := rp_int h2
    refine ⟨_, h1, he G0 H0 G H σ e _ _ _ hs hu (fun G1 H1 w r s1 g1 rr k1 => ?_) fun G1 H1 cls d z s1 g1 xr k => L.ex G1 H1 σ e cls d z (hs.grow g1 s1) xr k⟩
    have w1 := rr.wk s1
    generalize r.d = d at k1 w1
    cases w1 <;> first
      | exact False.elim k1
      | skip
    exact ⟨_, _, rfl, rfl, L.nx G1 H1 _ _ ((hs.grow g1 s1).setF i (.int _)) k1⟩
  · exact hu.elim
theorem vs_add (i : Nat) {x : Str} {pos' : Pos} (hN : X.N.Nodup) (he : VE X W a te xa) (hi : X.N[i]? = some x := by rfl) (hx : Loc X.env.scope x := by first | exact Or.inl rfl | exact Or.inr rfl) (hf : X.fn x = true ∨ X.env.scope.names.lookup x = some .local := by first | exact .inl rfl | exact .inr rfl) :
    VS X W (.AugAssign (.Name x pos') .Add a pos) (tAug i te (ipI fun i j => i + j)) (uAug i (fun i j => i + j) xa) := ⟨ps_aug hN hi hx he.pe ip_add hf, ref_aug he.rf⟩
theorem vs_sub (i : Nat) {x : Str} {pos' : Pos} (hN : X.N.Nodup) (he : VE X W a te xa) (hi : X.N[i]? = some x := by rfl) (hx : Loc X.env.scope x := by first | exact Or.inl rfl | exact Or.inr rfl) (hf : X.fn x = true ∨ X.env.scope.names.lookup x = some .local := by first | exact .inl rfl | exact .inr rfl) :
    VS X W (.AugAssign (.Name x pos') .Sub a pos) (tAug i te (ipI fun i j => i - j)) (uAug i (fun i j => i - j) xa) := ⟨ps_aug hN hi hx he.pe ip_sub hf, ref_aug he.rf⟩
def uRet (x : XE) : US := fun V e => x e (fun r => r.stays = true ∧ V.rt r e) fun z => V.ex z e
theorem vs_ret (he : VE X W a te xa) : VS X W (.Return (some a) pos) (tRet te) (uRet xa) := ⟨ps_ret he.pe, fun G0 H0 D V L G H σ e hs hu =>
  he.rf G0 H0 G H σ e _ _ _ hs hu (fun G1 H1 v r s1 g1 rr k1 => L.rt G1 H1 σ e v r (hs.grow g1 s1) (asn_of hs rr k1.1) k1.2) fun G1 H1 cls d z s1 g1 xr k => L.ex G1 H1 σ e cls d z (hs.grow g1 s1) xr k⟩
/-- return of a name -/
def uRetV (i : Nat) : US := fun V e => match e[i]? with
  | some (.fz d) => V.rt (.va d) e
  | some (.ow ds) => V.rt (.nw ds) (e.set i .no)
  | _ => False
theorem vs_retv (i : Nat) {x : Str} {p : Pos} (hN : X.N[i]? = some x := by rfl) (hv : Vis X.env.scope x := by first | exact Or.inl rfl | exact Or.inr (Or.inl rfl) | exact Or.inr (Or.inr rfl)) (hd : (x == ("__debug__" : Str)) = false := by decide)
    (hcd : (x == ("__classdict__" : Str)) = false := by decide) : VS X W (.Return (some (.Name x p)) pos) (tRet (tVar i)) (uRetV i) := ⟨ps_ret (pe_var hN hv hd hcd), fun G0 H0 D V L G H σ e hs hu => by
  unfold uRetV at hu
  split at hu
  · rename_i d hi
    obtain ⟨v, h1, h2⟩ := hs.sl i _ hi
    exact ⟨v, h1, L.rt G H σ e v (.va d) hs h2 hu⟩
  · rename_i ds hi
    obtain ⟨p, xs, h1, h2, h3, h4, h5⟩ := hs.sl i _ hi
    refine ⟨_, h1, L.rt G H σ _ _ (.nw ds) (hs.forget i) ⟨p, xs, rfl, h2, h3, h4, h5, fun j t hj hx => ?_⟩ hu⟩
    rw [set_get] at hj
    by_cases hc : i = j ∧ i < e.length
    · rw [if_pos hc] at hj
      cases hj
      exact hx.elim
    · rw [if_neg hc] at hj
      have hij : i ≠ j := fun z => hc ⟨z, (List.getElem?_eq_some_iff.mp hi).1⟩
      exact hs.dj i j _ _ p hij hi hj h1 hx
  · exact hu.elim⟩
def uRetN : US := fun V e => V.rt (.va .none) e
theorem vs_retN : VS X W (.Return none pos) tRetN uRetN := ⟨ps_retN, fun G0 H0 D V L G H σ e hs hu => L.rt G H σ e .non (.va .none) hs .non hu⟩
def uIf (x : XT) (u1 u2 : US) : US := fun V e => x e (fun b => (b = true → u1 V e) ∧ (b = false → u2 V e)) fun z => V.ex z e
theorem vs_if {c : Expr} {tc : TT} {xc : XT} (hc : VT X W c tc xc) (h1 : VSs X W ss1 t1 u1) (h2 : VSs X W ss2 t2 u2) : VS X W (.If c ss1 ss2 pos) (tIfS tc t1 t2) (uIf xc u1 u2) := ⟨ps_if hc.pt h1.ps h2.ps, fun G0 H0 D V L G H σ e hs hu => by
  refine hc.rf G0 H0 G H σ e _ _ _ hs hu (fun G1 H1 b s1 g1 k1 => ?_) fun G1 H1 cls d z s1 g1 xr k => L.ex G1 H1 σ e cls d z (hs.grow g1 s1) xr k
  cases b with
  | true => exact h1.rf G0 H0 D V L G1 H1 σ e (hs.grow g1 s1) (k1.1 rfl)
  | false => exact h2.rf G0 H0 D V L G1 H1 σ e (hs.grow g1 s1) (k1.2 rfl)⟩
def uDrop (x : XE) : US := fun V e => x e (fun _ => V.nx e) fun z => V.ex z e
theorem vs_expr (he : VE X W a te xa) (hs : swapsWith a none pos.line X.env = pure false := by rfl) : VS X W (.Expr a pos) (tDrop te) (uDrop xa) := ⟨ps_expr he.pe hs, fun G0 H0 D V L G H σ e hs hu =>
  he.rf G0 H0 G H σ e _ _ _ hs hu (fun G1 H1 v r s1 g1 rr k1 => L.nx G1 H1 σ e (hs.grow g1 s1) k1) fun G1 H1 cls d z s1 g1 xr k => L.ex G1 H1 σ e cls d z (hs.grow g1 s1) xr k⟩
theorem vs_pass : VS X W (.Pass pos) tNext uNx := ⟨ps_pass, fun G0 H0 D V L G H σ e hs hu => L.nx G H σ e hs hu⟩
def uBk : US := fun V e => V.bk e
def uCt : US := fun V e => V.ct e
theorem vs_break : VS X W (.Break pos) tBreak uBk := ⟨ps_break, fun G0 H0 D V L G H σ e hs hu => L.bk G H σ e hs hu⟩
theorem vs_continue : VS X W (.Continue pos) tCont uCt := ⟨ps_continue, fun G0 H0 D V L G H σ e hs hu => L.ct G H σ e hs hu⟩
/-- a way that is never taken -/
def uNo : US := fun _ _ => False
theorem vs_never : VS X W st tNever uNo := ⟨ps_never, fun _ _ _ _ _ _ _ _ _ _ h => h⟩
/-- ahead of a statement an own list is taken as one that stays -/
def uFrz (i : Nat) (u : US) : US := fun V e => match e[i]? with
  | some (.ow ds) => u V (e.set i (.fz (.list ds)))
  | _ => u V e
theorem vs_frz (i : Nat) (h : VS X W st t1 u1) : VS X W st t1 (uFrz i u1) := ⟨h.ps, fun G0 H0 D V L G H σ e hs hu => by
  unfold uFrz at hu
  split at hu
  · rename_i ds hi
    obtain ⟨G', _, hs'⟩ := hs.freeze hi
    exact h.rf G0 H0 D V L G' H σ _ hs' hu
  · exact h.rf G0 H0 D V L G H σ e hs hu⟩
def uWhile (x : XT) (u : US) : US := fun V e => ∃ I : Nat → En → Prop, (∃ m, I m e) ∧ ∀ m e, I m e → x e (fun b => (b = true → u { V with nx := fun e' => ∃ m', m' < m ∧ I m' e', ct := fun e' => ∃ m', m' < m ∧ I m' e', bk := V.nx } e) ∧ (b = false → V.nx e)) fun z => V.ex z e
theorem vs_while {c : Expr} {tc : TT} {xc : XT} (hp : PassesOwn (model X.prog X.w) X.A X.env X.xe) (hc : VT X W c tc xc) (h1 : VSs X W ss1 t1 u1) : VS X W (.While c ss1 [] pos) (tWhile tc t1) (uWhile xc u1) := ⟨ps_while hp hc.pt h1.ps, fun G0 H0 D V L G H σ e hs hu => by
  obtain ⟨I, ⟨m0, i0⟩, turn⟩ := hu
  refine ⟨fun m σ H => ∃ G e, StR X.K G0 H0 G H σ e ∧ I m e, ⟨m0, G, e, hs, i0⟩, ?_⟩
  rintro m σ H ⟨G, e, hs, inv⟩
  refine hc.rf G0 H0 G H σ e _ _ _ hs (turn m e inv) (fun G1 H1 b s1 g1 k1 => ?_) fun G1 H1 cls d z s1 g1 xr k => L.ex G1 H1 σ e cls d z (hs.grow g1 s1) xr k
  cases b with
  | false => exact L.nx G1 H1 σ e (hs.grow g1 s1) (k1.2 rfl)
  | true =>
    refine ⟨fun σ' H' => ∃ G' e', StR X.K G0 H0 G' H' σ' e' ∧ ∃ m', m' < m ∧ I m' e', fun σ' H' hh => ?_, ?_⟩
    · obtain ⟨G', e', hs', m', hm, inv'⟩ := hh
      exact ⟨m', hm, G', e', hs', inv'⟩
    · have go : ∀ (N : En → Prop) (NS : L2.St → Hp → Prop), (∀ G H σ e, StR X.K G0 H0 G H σ e → N e → NS σ H) → Link X.K G0 H0 W { D with nx := NS, ct := NS, bk := D.nx } { V with nx := N, ct := N, bk := V.nx } := fun N NS hn => ⟨hn, L.rt, L.nx, hn, L.ex, L.rg⟩
      exact h1.rf G0 H0 _ _ (go (fun e' => ∃ m', m' < m ∧ I m' e') _ fun G' H' σ' e' hs' k => ⟨G', e', hs', k⟩) G1 H1 σ e (hs.grow g1 s1) (k1.1 rfl)⟩
def uFor (xi : XI) (y : YG) (u : US) : US := fun V e => xi e (fun items => ∃ I : Nat → En → Prop, I 0 e ∧ (∀ i d e', items[i]? = some d → I i e' → y (.va d) e' fun e2 => u { V with nx := I (i + 1), ct := I (i + 1), bk := V.nx } e2) ∧ ∀ e', I items.length e' → V.nx e') fun z => V.ex z e
theorem vs_for {iter tg : Expr} {wi : TI} {xi : XI} {g : TG} {y : YG} {js : List Nat} (hp : PassesOwn (model X.prog X.w) X.A X.env X.xe) (hc : X.calm = true) (hi : VI X W tg iter wi xi) (hg : VG X tg g y js) (h1 : VSs X W ss1 t1 u1) (hs : ∀ x, foldedSetIterable iter X.env x = pure x := by intro _; rfl) :
    VS X W (.For tg iter ss1 [] pos) (tFor wi g t1) (uFor xi y u1) := ⟨ps_for hp hc hi.pi hg.pg h1.ps hs, fun G0 H0 D V L G H σ e hs hu => by
  refine hi.rf G0 H0 G H σ e _ _ _ hs hu (fun G1 H1 J items s1 g1 wk k1 => ?_) fun G1 H1 cls d z s1 g1 xr k => L.ex G1 H1 σ e cls d z (hs.grow g1 s1) xr k
  obtain ⟨I, i0, turn, fin⟩ := k1
  have hs1 := hs.grow g1 s1
  have back : ∀ {G H : Hp} {σ : L2.St} {e : En}, StR X.K G1 H0 G H σ e → StR X.K G0 H0 G H σ e := fun h => h.base hs1.gr.gg hs1.gr.nn
  have L1 : ∀ (N : En → Prop) (NS : L2.St → Hp → Prop), (∀ G H σ e, StR X.K G1 H0 G H σ e → N e → NS σ H) → Link X.K G1 H0 W { D with nx := NS, ct := NS, bk := D.nx } { V with nx := N, ct := N, bk := V.nx } := fun N NS hn =>
    ⟨hn, fun G H σ e v r st asn k => L.rt G H σ e v r (back st) asn k, fun G H σ e hs k => L.nx G H σ e (back hs) k, hn, fun G H σ e cls d z hs xr k => L.ex G H σ e cls d z (back hs) xr k, fun G H σ e v w st asn k => L.rg G H σ e v w (back st) asn k⟩
  refine ⟨fun i m σ H => m = items.length - i ∧ i ≤ items.length ∧ ∃ G e, StR X.K G1 H0 G H σ e ∧ I i e, ⟨items.length, by simp, Nat.zero_le _, G1, e, hs1.here, i0⟩, ?_⟩
  rintro i m σ H ⟨rfl, hle, G2, e2, st, inv⟩
  have sg := st.gr.gg
  by_cases hlt : i < items.length
  · refine .inr ⟨wk.go i G2 H sg st.sub hlt, fun σ' H' => i + 1 ≤ items.length ∧ ∃ G e, StR X.K G1 H0 G H' σ' e ∧ I (i + 1) e, fun σ' H' h => ⟨_, by omega, rfl, h⟩, fun x H' hy => ?_⟩
    obtain ⟨G3, d, hd, s3, g3, rx⟩ := wk.yld i G2 H x H' sg st.sub hlt hy
    refine hg.rf G1 H0 G3 H' σ e2 x (.va d) _ _ (st.grow g3 s3) rx (turn i d e2 hd inv) fun σ2 e3 st4 _ k4 => ?_
    exact h1.rf G1 H0 _ _ (L1 (I (i + 1)) _ fun G H σ e hs k => ⟨hlt, G, e, hs, k⟩) G3 H' σ2 e3 st4 k4
  · have e1 : i = items.length := by omega
    subst e1
    exact .inl ⟨wk.stop G2 H sg st.sub, L.nx G2 H σ e2 (back st) (fin e2 inv)⟩⟩
/-- xs.append(e) -/
def uApp (i : Nat) (x : XE) : US := fun V e => x e (fun r => r.stays = true ∧ match e[i]? with
  | some (.ow ds) => ds.length < sizeLine ∧ V.nx (e.set i (.ow (ds ++ [r.d])))
  | _ => False) fun z => V.ex z e
theorem ref_app {i : Nat} (he : RefE K W te xa) (hno : ∀ e q ex, xa e q ex → True) : RefS K W (tDrop (tBM K "list" rAppend (tVar i) (tCons te tNil))) (fun V e => (∃ ds, e[i]? = some (.ow ds)) ∧ uApp i xa V e) := by
  intro G0 H0 D V L G H σ e hs hu
  obtain ⟨⟨ds, hi⟩, hu⟩ := hu
  obtain ⟨p, xs, h1, h2, h3, h4, h5⟩ := hs.sl i _ hi
  refine ⟨_, h1, .inl ⟨rfl, xs, SqL.of h2⟩, ?_⟩
  refine he G0 H0 G H σ e _ _ _ hs hu (fun G1 H1 v r s1 g1 rr k1 => ?_) fun G1 H1 cls d z s1 g1 xr k => L.ex G1 H1 σ e cls d z (hs.grow g1 s1) xr k
  obtain ⟨st, k⟩ := k1
  rw [hi] at k
  obtain ⟨kz, k⟩ := k
  obtain ⟨G2, s2, g12, g2, rp, nn⟩ := rr.fix (G0 := G0) (H0 := H0) (σ := σ) (e := e) s1 g1 st
  have hs2 := hs.grow g2 s2
  refine ⟨p, xs, v, rfl, rfl, g1.hh _ _ h2, by rw [h5.len]; exact kz, ?_⟩
  refine L.nx G2 _ σ _ (hs2.write hi h1 ((h5.mono g2.gg _ _).append (.cons rp .nil))) k
theorem vs_app (i : Nat) {x : Str} {p apos cpos : Pos} (he : VE X W a te xa) (hN : X.N[i]? = some x := by rfl) (hv : Vis X.env.scope x := by first | exact Or.inl rfl | exact Or.inr (Or.inl rfl) | exact Or.inr (Or.inr rfl)) (hd : (x == ("__debug__" : Str)) = false := by decide) (hcd : (x == ("__classdict__" : Str)) = false := by decide)
    (hbase : attributeBase (.Name x p) "append" X.env (eval (.Name x p) X.env) = eval (.Name x p) X.env := by rfl)
    (hfew : ((backTo cpos (starEach [a] X.env)).all (fun x => !x.1) && (backToKw cpos (keywordEach [] X.env)).all (fun x => x.1.isSome) && decide ([a].length + ([] : List Keyword).length + (if ([] : List Keyword).isEmpty then 0 else 1) < 30)) = true := by rfl)
    (hline : (apos.endLine == cpos.line) = true := by rfl) (hst : starEach [a] X.env = (false, eval a X.env) :: starEach [] X.env := by rfl) (hpl : (backTo cpos (starEach [] X.env)).any (·.1) = false := by rfl)
    (hsw : swapsWith (.Call (.Attribute (.Name x p) "append" apos) [a] [] cpos) none pos.line X.env = pure false := by rfl) :
    VS X W (.Expr (.Call (.Attribute (.Name x p) "append" apos) [a] [] cpos) pos) (tDrop (tBM X.K "list" rAppend (tVar i) (tCons te tNil))) (fun V e => (∃ ds, e[i]? = some (.ow ds)) ∧ uApp i xa V e) :=
  ⟨ps_expr (pe_bm PySem.F.plainAttrs_list PySem.F.slot_list_append PySem.F.type_list_append mt_append (pe_var hN hv hd hcd) (pa_cons he.pe pa_nil hst) hbase hfew hline hst hpl) hsw, ref_app he.rf fun _ _ _ _ => trivial⟩
end
end Pv

namespace Pv
open PySem L2
section
variable {X : Cx} {W : WX} {K : PySem.W.Frag} {a b c : Expr} {te tb tc : TE} {xa xb xc : XE} {pos : Pos}
/-! ### x op= e of bounded products -/
def uAugC (i : Nat) (C : Int → Int → Prop) (f : Int → Int → Int) (x : XE) : US := fun V e => match e[i]? with
  | some (.fz (.int a)) => x e (fun r => match r.d with
    | .int b => C a b ∧ V.nx (e.set i (.fz (.int (f a b))))
    | _ => False) fun z => V.ex z e
  | _ => False
abbrev ipC (C : Int → Int → Prop) (f : Int → Int → Int) : TIp := fun x y H Q => ∃ i j, x = .int i ∧ y = .int j ∧ C i j ∧ Q (.int (f i j)) H
theorem ref_augC {i : Nat} {C : Int → Int → Prop} {f : Int → Int → Int} (he : RefE K W te xa) : RefS K W (tAug i te (ipC C f)) (uAugC i C f xa) := by
  intro G0 H0 D V L G H σ e hs hu
  unfold uAugC at hu
  split at hu
  · rename_i n hn
    obtain ⟨v, h1, h2⟩ := hs.sl i _ hn
    obtain rfl := rp_int h2
    refine ⟨_, h1, he G0 H0 G H σ e _ _ _ hs hu (fun G1 H1 w r s1 g1 rr k1 => ?_) fun G1 H1 cls d z s1 g1 xr k => L.ex G1 H1 σ e cls d z (hs.grow g1 s1) xr k⟩
    have w1 := rr.wk s1
    generalize r.d = d at k1 w1
    cases w1 <;> first
      | exact False.elim k1
      | skip
    exact ⟨_, _, rfl, rfl, k1.1, L.nx G1 H1 _ _ ((hs.grow g1 s1).setF i (.int _)) k1.2⟩
  · exact hu.elim
theorem ip_mul : PIp X .Mult (ipC CMul fun i j => i * j) := by
  intro pins s σ H x y v u Q I r1 r2 h
  obtain ⟨i, j, rfl, rfl, hc, q⟩ := h
  obtain ⟨t, rfl⟩ := r1
  obtain ⟨t', rfl⟩ := r2
  exact PySem.P.imul_int ⟨.int _, H, I.tok _, ⟨_, rfl⟩, q⟩ hc.ok
theorem vs_mul (i : Nat) {x : Str} {pos' : Pos} (hN : X.N.Nodup) (he : VE X W a te xa) (hi : X.N[i]? = some x := by rfl) (hx : Loc X.env.scope x := by first | exact Or.inl rfl | exact Or.inr rfl) (hf : X.fn x = true ∨ X.env.scope.names.lookup x = some .local := by first | exact .inl rfl | exact .inr rfl) :
    VS X W (.AugAssign (.Name x pos') .Mult a pos) (tAug i te (ipC CMul fun i j => i * j)) (uAugC i CMul (fun i j => i * j) xa) := ⟨ps_aug hN hi hx he.pe ip_mul hf, ref_augC he.rf⟩

/-! ### xs.append(e), xs.extend(e), xs[i] = e of a slot's own list -/
def uAp (i : Nat) (x : XE) : US := fun V e => match e[i]? with
  | some (.ow ds) => x e (fun r => (r.stays = true ∧ ds.length < sizeLine) ∧ V.nx (e.set i (.ow (ds ++ [r.d])))) fun z => V.ex z e
  | _ => False
theorem ref_ap {i : Nat} (he : RefE K W te xa) : RefS K W (tDrop (tBM K "list" rAppend (tVar i) (tCons te tNil))) (uAp i xa) := by
  intro G0 H0 D V L G H σ e hs hu
  unfold uAp at hu
  split at hu
  · rename_i ds hi
    obtain ⟨p, xs, h1, h2, h3, h4, h5⟩ := hs.sl i _ hi
    refine ⟨_, h1, .inl ⟨rfl, xs, SqL.of h2⟩, ?_⟩
    refine he G0 H0 G H σ e _ _ _ hs hu (fun G1 H1 v r s1 g1 rr k1 => ?_) fun G1 H1 cls d z s1 g1 xr k => L.ex G1 H1 σ e cls d z (hs.grow g1 s1) xr k
    obtain ⟨⟨st, kz⟩, k⟩ := k1
    obtain ⟨G2, s2, g12, g2, rp, nn⟩ := rr.fix (G0 := G0) (H0 := H0) (σ := σ) (e := e) s1 g1 st
    refine ⟨p, xs, v, rfl, rfl, g1.hh _ _ h2, by rw [h5.len]; exact kz, ?_⟩
    exact L.nx G2 _ σ _ ((hs.grow g2 s2).write hi h1 ((h5.mono g2.gg _ _).append (.cons rp .nil))) k
  · exact hu.elim
theorem vs_ap (i : Nat) {x : Str} {p apos cpos : Pos} (he : VE X W a te xa) (hN : X.N[i]? = some x := by rfl) (hv : Vis X.env.scope x := by first | exact Or.inl rfl | exact Or.inr (Or.inl rfl) | exact Or.inr (Or.inr rfl)) (hd : (x == ("__debug__" : Str)) = false := by decide) (hcd : (x == ("__classdict__" : Str)) = false := by decide)
    (hbase : attributeBase (.Name x p) "append" X.env (eval (.Name x p) X.env) = eval (.Name x p) X.env := by rfl)
    (hfew : ((backTo cpos (starEach [a] X.env)).all (fun x => !x.1) && (backToKw cpos (keywordEach [] X.env)).all (fun x => x.1.isSome) && decide ([a].length + ([] : List Keyword).length + (if ([] : List Keyword).isEmpty then 0 else 1) < 30)) = true := by rfl)
    (hline : (apos.endLine == cpos.line) = true := by rfl) (hst : starEach [a] X.env = (false, eval a X.env) :: starEach [] X.env := by rfl) (hpl : (backTo cpos (starEach [] X.env)).any (·.1) = false := by rfl)
    (hsw : swapsWith (.Call (.Attribute (.Name x p) "append" apos) [a] [] cpos) none pos.line X.env = pure false := by rfl) :
    VS X W (.Expr (.Call (.Attribute (.Name x p) "append" apos) [a] [] cpos) pos) (tDrop (tBM X.K "list" rAppend (tVar i) (tCons te tNil))) (uAp i xa) :=
  ⟨ps_expr (pe_bm PySem.F.plainAttrs_list PySem.F.slot_list_append PySem.F.type_list_append mt_append (pe_var hN hv hd hcd) (pa_cons he.pe pa_nil hst) hbase hfew hline hst hpl) hsw, ref_ap he.rf⟩
def uEx (i : Nat) (x : XE) : US := fun V e => match e[i]? with
  | some (.ow ds) => x e (fun r => match r.d with
    | .list es => (r.stays = true ∧ ds.length + es.length ≤ sizeLine) ∧ V.nx (e.set i (.ow (ds ++ es)))
    | _ => False) fun z => V.ex z e
  | _ => False
theorem ref_ex {i : Nat} (he : RefE K W te xa) : RefS K W (tDrop (tBM K "list" rExtend (tVar i) (tCons te tNil))) (uEx i xa) := by
  intro G0 H0 D V L G H σ e hs hu
  unfold uEx at hu
  split at hu
  · rename_i ds hi
    obtain ⟨p, xs, h1, h2, h3, h4, h5⟩ := hs.sl i _ hi
    refine ⟨_, h1, .inl ⟨rfl, xs, SqL.of h2⟩, ?_⟩
    refine he G0 H0 G H σ e _ _ _ hs hu (fun G1 H1 v r s1 g1 rr k1 => ?_) fun G1 H1 cls d z s1 g1 xr k => L.ex G1 H1 σ e cls d z (hs.grow g1 s1) xr k
    generalize hd : r.d = d at k1
    cases d <;> first
      | exact False.elim k1
      | skip
    rename_i es
    obtain ⟨⟨st, kz⟩, k⟩ := k1
    obtain ⟨q, ys, e1, h6, h7⟩ := rr.list s1 hd
    subst e1
    refine ⟨p, q, xs, ys, rfl, rfl, g1.hh _ _ h2, h6, by rw [h5.len, h7.len]; exact kz, ?_⟩
    exact L.nx G1 _ σ _ ((hs.grow g1 s1).write hi h1 ((h5.mono g1.gg _ _).append h7)) k
  · exact hu.elim
theorem vs_ex (i : Nat) {x : Str} {p apos cpos : Pos} (he : VE X W a te xa) (hN : X.N[i]? = some x := by rfl) (hv : Vis X.env.scope x := by first | exact Or.inl rfl | exact Or.inr (Or.inl rfl) | exact Or.inr (Or.inr rfl)) (hd : (x == ("__debug__" : Str)) = false := by decide) (hcd : (x == ("__classdict__" : Str)) = false := by decide)
    (hbase : attributeBase (.Name x p) "extend" X.env (eval (.Name x p) X.env) = eval (.Name x p) X.env := by rfl)
    (hfew : ((backTo cpos (starEach [a] X.env)).all (fun x => !x.1) && (backToKw cpos (keywordEach [] X.env)).all (fun x => x.1.isSome) && decide ([a].length + ([] : List Keyword).length + (if ([] : List Keyword).isEmpty then 0 else 1) < 30)) = true := by rfl)
    (hline : (apos.endLine == cpos.line) = true := by rfl) (hst : starEach [a] X.env = (false, eval a X.env) :: starEach [] X.env := by rfl) (hpl : (backTo cpos (starEach [] X.env)).any (·.1) = false := by rfl)
    (hsw : swapsWith (.Call (.Attribute (.Name x p) "extend" apos) [a] [] cpos) none pos.line X.env = pure false := by rfl) :
    VS X W (.Expr (.Call (.Attribute (.Name x p) "extend" apos) [a] [] cpos) pos) (tDrop (tBM X.K "list" rExtend (tVar i) (tCons te tNil))) (uEx i xa) :=
  ⟨ps_expr (pe_bm PySem.F.plainAttrs_list PySem.F.slot_list_extend PySem.F.type_list_extend mt_extend (pe_var hN hv hd hcd) (pa_cons he.pe pa_nil hst) hbase hfew hline hst hpl) hsw, ref_ex he.rf⟩
/-- xs[i] = e: e first, then the place -/
def uPut (k : Nat) (xi xv : XE) : US := fun V e => match e[k]? with
  | some (.ow ds) => xv e (fun r => xi e (fun s => match s.d with
    | .int i => ∃ j, ixN ds.length i = some j ∧ r.stays = true ∧ V.nx (e.set k (.ow (ds.set j r.d)))
    | _ => False) fun z => V.ex z e) fun z => V.ex z e
  | _ => False
theorem ref_put {k : Nat} (hi : RefE K W tb xb) (hv : RefE K W te xa) : RefS K W (tAsg te (gSub (tVar k) tb rSetL)) (uPut k xb xa) := by
  intro G0 H0 D V L G H σ e hs hu
  unfold uPut at hu
  split at hu
  · rename_i ds hk
    obtain ⟨p, xs, h1, h2, h3, h4, h5⟩ := hs.sl k _ hk
    refine hv G0 H0 G H σ e _ _ _ hs hu (fun G1 H1 v r s1 g1 rr k1 => ?_) fun G1 H1 cls d z s1 g1 xr k => L.ex G1 H1 σ e cls d z (hs.grow g1 s1) xr k
    refine ⟨_, h1, ?_⟩
    refine hi G0 H0 G1 H1 σ e _ _ _ (hs.grow g1 s1) k1 (fun G2 H2 w s s2 g2 rr2 k2 => ?_) fun G2 H2 cls d z s2 g2 xr k => L.ex G2 H2 σ e cls d z (hs.grow (g1.trans g2) s2) xr k
    have w2 := rr2.wk s2
    generalize s.d = d at k2 w2
    cases w2 <;> first
      | exact False.elim k2
      | skip
    obtain ⟨j, hj, st, kk⟩ := k2
    obtain ⟨G3, s3, g23, g3, rp, nn⟩ := (rr.grow g2).fix (G0 := G0) (H0 := H0) (σ := σ) (e := e) s2 (g1.trans g2) st
    refine ⟨p, xs, _, j, rfl, rfl, g2.hh _ _ (g1.hh _ _ h2), by rw [h5.len]; exact hj, ?_⟩
    exact L.nx G3 _ σ _ ((hs.grow g3 s3).write hk h1 (RpAll.set rp j (h5.mono g3.gg _ _))) kk
  · exact hu.elim
theorem vs_put (k : Nat) {x : Str} {p ipos : Pos} (hi : VE X W b tb xb) (hv : VE X W a te xa) (hN : X.N[k]? = some x := by rfl) (hvi : Vis X.env.scope x := by first | exact Or.inl rfl | exact Or.inr (Or.inl rfl) | exact Or.inr (Or.inr rfl)) (hd : (x == ("__debug__" : Str)) = false := by decide) (hcd : (x == ("__classdict__" : Str)) = false := by decide)
    (ha : ∀ v, assign (.Subscript (.Name x p) b ipos) X.env v = (do
      let ov ← holding [v] (eval (.Name x p) X.env)
      let iv ← holding [v, ov] (eval b X.env)
      standAt ipos
      holding [v, ov, iv] (setItem ov iv v)
      release [v, ov, iv] []) := by intro _; rfl)
    (hs : swapsWithSole [.Subscript (.Name x p) b ipos] a pos.line X.env = pure false := by rfl) (hw : swappedStores [.Subscript (.Name x p) b ipos] a X.env = pure none := by rfl)
    (h1 : (assignEach [.Subscript (.Name x p) b ipos] X.env).map (·.2) = [assign (.Subscript (.Name x p) b ipos) X.env] := by rfl) :
    VS X W (.Assign [.Subscript (.Name x p) b ipos] a pos) (tAsg te (gSub (tVar k) tb rSetL)) (uPut k xb xa) :=
  ⟨ps_asg hv.pe (pg_sub (pe_var hN hvi hd hcd) hi.pe set_list ha) hs hw h1, ref_put hi.rf hv.rf⟩

/-! ### a < b < c -/
theorem ref_chain {r r' : R2} {y y' : X2} (h : Ref2 K r y) (h' : Ref2 K r' y') (ha : RefE K W te xa) (hb : RefE K W tb xb) (hc : RefE K W tc xc) : RefE K W (tChain r r' te tb tc) (xChain y y' xa xb xc) := by
  intro G0 H0 G H σ e Q q ex hs hx hq hw
  refine ha G0 H0 G H σ e _ _ ex hs hx (fun G1 H1 v r1 s1 g1 rr1 k1 => ?_) hw
  refine hb G0 H0 G1 H1 σ e _ _ ex (hs.grow g1 s1) k1 (fun G2 H2 w' r2 s2 g2 rr2 k2 => ?_) fun G2 H2 cls d y s2 g2 => hw G2 H2 cls d y s2 (g1.trans g2)
  have g12 := g1.trans g2
  refine h H2 v w' _ _ _ _ ((rr1.grow g2).wk s2) (rr2.wk s2) k2 fun u z hz k3 => ?_
  have hz2 := hz H2
  cases hz2 <;> first
    | exact False.elim k3
    | skip
  rename_i k
  refine ⟨k, rfl, ?_⟩
  cases k with
  | false => exact hq G2 H2 _ (.va _) s2 g12 (.bl false) k3
  | true =>
    refine hc G0 H0 G2 H2 σ e _ _ ex (hs.grow g12 s2) k3 (fun G3 H3 w3 r3 s3 g3 rr3 k4 => ?_) fun G2 H2 cls d y s2 g2 => hw G2 H2 cls d y s2 (g12.trans g2)
    refine h' H3 w' w3 _ _ Q _ ((rr2.grow g3).wk s3) (rr3.wk s3) k4 fun u' z' hz' k5 => ?_
    have hz3 := hz' H3
    cases hz3 <;> first
      | exact False.elim k5
      | exact hq G3 H3 _ (.va _) s3 (g12.trans g3) (.bl _) k5
theorem ve_chain {op op' : CmpOp} {r r' : R2} {y y' : X2} (ho : OpR X (compareOp op) r) (ho' : OpR X (compareOp op') r') (h : Ref2 X.K r y) (h' : Ref2 X.K r' y') (ha : VE X W a te xa) (hb : VE X W b tb xb) (hc : VE X W c tc xc) (hm : lastMarks [op, op'] [b, c] = false := by with_unfolding_all rfl) :
    VE X W (.Compare a [op, op'] [b, c] pos) (tChain r r' te tb tc) (xChain y y' xa xb xc) := ⟨pe_chain ho ho' ha.pe hb.pe hc.pe hm, ref_chain h h' ha.rf hb.rf hc.rf⟩
theorem vt_chain {op op' : CmpOp} {r r' : R2} {y y' : X2} (ho : OpR X (compareOp op) r) (ho' : OpR X (compareOp op') r') (h : Ref2 X.K r y) (h' : Ref2 X.K r' y') (ha : VE X W a te xa) (hb : VE X W b tb xb) (hc : VE X W c tc xc) (hm : lastMarks [op, op'] [b, c] = false := by with_unfolding_all rfl) :
    VT X W (.Compare a [op, op'] [b, c] pos) (tTest (tChain r r' te tb tc)) (xB (xChain y y' xa xb xc)) := ⟨pt_chain ho ho' ha.pe hb.pe hc.pe hm, ref_test (ref_chain h h' ha.rf hb.rf hc.rf)⟩
/-- a tuple of the module's top -/
theorem ref_glT {p : Addr} {xs : List V} {ds : List PyData} (h : ∀ G, SqT K G p xs) (r : ∀ G, RpAll K G xs ds) : RefE K W (tC (.ref p)) (xC (.tuple ds)) := ref_c fun G => .tup (h G) (r G)
theorem ve_globT {x : Str} {p : Addr} {xs : List V} {ds : List PyData} (hg : Gl X x) (hm : X.mg x = some (.ref p)) (h : ∀ G, SqT X.K G p xs) (r : ∀ G, RpAll X.K G xs ds) (hd : (x == ("__debug__" : Str)) = false := by decide) : VE X W (.Name x pos) (tC (.ref p)) (xC (.tuple ds)) :=
  ⟨pe_glob hg hm (show RelV (.ref p) (.ref p) from rfl) hd, ref_glT h r⟩
end

/-! ### a def -/
open PySem.Spec PyProof.Rows
def enV (q : Rs → Prop) (ex : Xk) : EnV := ⟨fun _ => q (.va .none), fun r _ => q r, fun _ => False, fun _ => False, fun y _ => ex y, fun _ _ => False⟩
def en0 (n : Nat) (ds : List PyData) : En := ds.map .fz ++ List.replicate (n - ds.length) .no
/-- nothing comes out where nothing is wished -/
def Quiet (CX : CXT) : Prop := ∀ outer H s e s', CX outer H s (fun _ _ _ => False) e s' → False
theorem quiet0 : Quiet CX0 := fun _ _ _ _ _ h => h
section
variable {P : Program} {w : World} {K : PySem.W.Frag} {mg : Str → Option Value} {base : Heap} {x qual : Str} {params : Arguments} {body : List Stmt} {scope : Scope} {dvs : List V} {kws : List (Str × V)} {f : Addr} {fd : FuncData} {CX : CXT}
theorem spF_body {N : List Str} {Fs : Fn} {u : US} {W : WX} {t : TS} {vs : List V} {H : Hp} {Q : VK} {E : XK} (hW : ∀ cls d σ H, E cls d H → W cls d σ H) (h : RefS K W t u) (hu : ∀ ds q ex, Fs ds q ex → u (enV q ex) (en0 N.length ds)) (hs : spF K Fs vs H Q E) :
    t { nx := fun _ H' => Q .non H', rt := Q } (start N vs) H := by
  obtain ⟨G, ds, q, ex, sub, ra, hF, hq, hex⟩ := hs
  refine h G H _ (enV q ex) ⟨fun G' H' σ e hs k => ?_, fun G' H' σ e v r st asn k => hq G' H' v r st.sub st.gr asn.rsr k, fun _ _ _ _ _ k => k.elim, fun _ _ _ _ _ k => k.elim, fun G' H' σ e cls d y hs xr k => hW _ _ _ _ (hex G' H' cls d y hs.sub hs.gr xr k), fun _ _ _ _ _ _ _ _ k => k.elim⟩ G H _ _ (StR.start G H sub N ra) (hu ds q ex hF)
  exact hq G' H' .non (.va .none) hs.sub hs.gr .non k
/-- a def that lets nothing out -/
theorem def0 {N ps : List Str} {k : Nat} {Fs : Fn} {u : US} (F : FunD K x qual params body scope dvs kws f fd) (S : FnScope N ps scope) (hx : ∀ ds q ex, Fs ds q ex → ds.length = ps.length) (hu : ∀ ds q ex, Fs ds q ex → u (enV q ex) (en0 N.length ds))
    (hbody : ∀ (cdv : Value) (A : Around) (outer : List Env) (s : Shared) (H : Hp) (E : XK), Room k (A.deeper (envOfC qual scope s.heap.objs.size f cdv)) → ∃ t, VSs (cxOf CX P w K mg base N qual scope f cdv A outer s H E).nox WX0 body t u)
    (hne : ∀ ds q ex ex', Fs ds q ex → Fs ds q ex') : FnOk P w K mg base CX (k + 1) f fd ps (spF K Fs) := by
  refine F.ok S (fun vs H Q E h => ?_) fun cdv A outer s H vs Q E hr h => ?_
  · obtain ⟨G, ds, q, ex, sub, ra, hF, _⟩ := h
    rw [ra.len]
    exact hx ds q ex hF
  · obtain ⟨t, h1⟩ := hbody cdv A outer s H E hr
    refine ⟨t, PSs.nox h1.ps, ?_⟩
    obtain ⟨G, ds, q, ex, sub, ra, hF, hq, _⟩ := h
    exact spF_body (E := fun _ _ _ => False) (fun _ _ _ _ z => z.elim) h1.rf hu ⟨G, ds, q, fun _ => False, sub, ra, hne ds q ex _ hF, hq, fun _ _ _ _ _ _ _ _ z => z.elim⟩
theorem passQ {X : Cx} (hq : Quiet CX) : ∀ σ, PassesAt CX X σ (fun cls d H => WX0 cls d σ H) := fun σ pins H s e s' I h => (hq _ _ _ _ _ h).elim
end
end Pv

namespace Pv
open PySem L2 PySem.Spec PyProof.Rows
/-! ### == and != by the values -/
def yEqM : X2 := fun a b q => match a, b with
  | .int i, .int j => q (.bool (decide (i = j)))
  | .str i, .str j => q (.bool (decide (i = j)))
  | .bool i, .bool j => q (.bool (decide (i = j)))
  | .none, .none => q (.bool true)
  | .int _, .str _ => q (.bool false)
  | .str _, .int _ => q (.bool false)
  | .none, .int _ => q (.bool false)
  | .none, .str _ => q (.bool false)
  | .int _, .none => q (.bool false)
  | .str _, .none => q (.bool false)
  | a, b => yEqD a b q
def yNeM : X2 := fun a b q => match a, b with
  | .int i, .int j => q (.bool !(decide (i = j)))
  | .str i, .str j => q (.bool !(decide (i = j)))
  | .bool i, .bool j => q (.bool !(decide (i = j)))
  | .none, .none => q (.bool false)
  | .int _, .str _ => q (.bool true)
  | .str _, .int _ => q (.bool true)
  | .none, .int _ => q (.bool true)
  | .none, .str _ => q (.bool true)
  | .int _, .none => q (.bool true)
  | .str _, .none => q (.bool true)
  | a, b => yNeD a b q
section
variable {X : Cx} {W : WX} {K : PySem.W.Frag} {a : Expr} {te : TE} {xa : XE} {pos : Pos}
theorem r2_eqM : Ref2 K (fun x y H Q => rEq x y H Q ∨ rEqD K x y H Q) yEqM := fun H v w a b Q q ha hb hx hq => by
  unfold yEqM at hx
  split at hx <;> first
    | exact .inl (r2_eq (K := K) H v w _ _ Q q ha hb (show yEq _ _ q from hx) hq)
    | exact .inr (r2_eqD H v w _ _ Q q ha hb hx hq)
theorem r2_neM : Ref2 K (fun x y H Q => rNe x y H Q ∨ rNeD K x y H Q) yNeM := fun H v w a b Q q ha hb hx hq => by
  unfold yNeM at hx
  split at hx <;> first
    | exact .inl (r2_ne (K := K) H v w _ _ Q q ha hb (show yNe _ _ q from hx) hq)
    | exact .inr (r2_neD H v w _ _ Q q ha hb hx hq)
theorem ve_globI {x : Str} {i : Int} {pos : Pos} (hg : Gl X x) (hm : ∃ t, X.mg x = some (.int i t)) (hd : (x == ("__debug__" : Str)) = false := by decide) : VE X W (.Name x pos) (tC (.int i)) (xC (.int i)) := by
  obtain ⟨t, h⟩ := hm
  exact ⟨pe_glob hg h (show RelV (.int i) (.int i t) from ⟨t, rfl⟩) hd, ref_c fun _ => .int i⟩
/-- xs[::-1] of a list -/
def xRev (xa : XE) : XE := fun e q ex => xa e (fun r => match r.d with
  | .list ds => q (.nw ds.reverse)
  | _ => False) ex
theorem ve_rev {k : Nat} {p1 p2 p3 : Pos} (ha : VE X W a te xa) : VE X W (.Subscript a (.Slice none none (some (.UnaryOp .USub (.Constant (.int 1) k p1) p2)) p3) pos) (tRevL X.K te) (xRev xa) := ⟨pe_revL ha.pe, by
  intro G0 H0 G H σ e Q q ex hs hx hq hw
  refine ha.rf G0 H0 G H σ e _ _ ex hs hx (fun G1 H1 v r1 s1 g1 rr1 k1 => ?_) hw
  generalize hd : r1.d = d at k1
  cases d <;> first
    | exact False.elim k1
    | skip
  rename_i ds
  obtain ⟨p, ys, rfl, h1, h2⟩ := rr1.list s1 hd
  exact ⟨p, ys, rfl, SqL.of h1, fun l hl => hq G1 _ _ (.nw _) (same_out s1 (s1.free hl)) (g1.trans (Grow.out hl)) ⟨l, _, rfl, g1.hh.free hl, upd_same, s1.free hl, h2.reverse⟩ k1⟩⟩
end
/-! ### a def of the module's top -/
structure Dn (K : PySem.W.Frag) (mg : Str → Option Value) (x : Str) (st : Stmt) (ps : List Str) (f : Addr) (fd : FuncData) : Prop where
  F : FunD K x x (defArgs st) (defBody st) (defScope st) [] [] f fd
  gm : mg x = some (.ref f)
  b : Binds K fd ps []
theorem Dn.kp {K : PySem.W.Frag} {mg : Str → Option Value} {x : Str} {st : Stmt} {ps : List Str} {f : Addr} {fd : FuncData} (h : Dn K mg x st ps f fd) : PySem.W.keepIn K (.ref f) = true := h.F.kp
/-! ### items of rows -/
def rowI (n : Nat) (g : Nat → Int) : List PyData := (List.range n).map fun k => .int (g k)
theorem rowI_len (n : Nat) (g : Nat → Int) : (rowI n g).length = n := by
  unfold rowI
  simp
theorem rowI_get {n : Nat} {g : Nat → Int} {i : Nat} (h : i < n) : (rowI n g)[i]? = some (.int (g i)) := by
  unfold rowI
  rw [List.getElem?_map, List.getElem?_range h]
  rfl
theorem at_nat {α : Type} {xs : List α} {i : Int} {v : α} (h0 : 0 ≤ i) (h : xs[i.toNat]? = some v) : atI xs i = some v := by
  have e : atI xs ((i.toNat : Nat) : Int) = some v := atI_nat h
  rwa [Int.toNat_of_nonneg h0] at e
theorem rowI_at {n : Nat} {g : Nat → Int} {i : Int} (h0 : 0 ≤ i) (h : i < n) : atI (rowI n g) i = some (.int (g i.toNat)) := at_nat h0 (rowI_get (by omega))
theorem ints_at {ns : List Int} {i : Int} (h0 : 0 ≤ i) (h : i < ns.length) : atI (ns.map PyData.int) i = some (.int (ns.getD i.toNat 0)) := at_nat h0 (by
  have h1 : i.toNat < ns.length := by omega
  rw [List.getElem?_map, List.getElem?_eq_getElem h1, List.getD_eq_getElem?_getD, List.getElem?_eq_getElem h1]
  rfl)
theorem rowI_ints (n : Nat) (g : Nat → Int) : rowI n g = ((List.range n).map g).map .int := by
  unfold rowI
  rw [List.map_map]
  rfl
theorem rowI_succ (n : Nat) (g : Nat → Int) : rowI (n + 1) g = rowI n g ++ [.int (g n)] := by
  unfold rowI
  rw [List.range_succ, List.map_append]
  rfl
end Pv
namespace Pv
open PySem L2
theorem iteD {p : Prop} [Decidable p] {R S : Prop} (h1 : p → R) (h2 : ¬ p → S) : if decide p = true then R else S := by
  by_cases h : p
  · rw [if_pos (decide_eq_true h)]
    exact h1 h
  · rw [if_neg (by rw [decide_eq_true_iff]; exact h)]
    exact h2 h
theorem ifD {p : Prop} [Decidable p] {R S : Prop} (h1 : p → R) (h2 : ¬ p → S) : (decide p = true → R) ∧ (decide p = false → S) := ⟨fun h => h1 (of_decide_eq_true h), fun h => h2 (of_decide_eq_false h)⟩
theorem ifT {R S : Prop} (h : R) : (true = true → R) ∧ (true = false → S) := ⟨fun _ => h, fun z => by cases z⟩
theorem ifF {R S : Prop} (h : S) : (false = true → R) ∧ (false = false → S) := ⟨fun z => (by cases z), fun _ => h⟩
theorem ifB {b : Bool} {R S : Prop} (h1 : b = true → R) (h2 : b = false → S) : (b = true → R) ∧ (b = false → S) := ⟨h1, h2⟩
/-- a code that may stand in a text -/
def okC (c : Int) : Bool := (decide (32 ≤ c) && decide (c ≤ 36)) || (decide (38 ≤ c) && decide (c ≤ 126))
end Pv

namespace Pv
open PySem L2
theorem lc_i {items : List PyData} {f : Nat → PyData} {Q : List PyData → Prop} {T : Nat → PyData → List PyData → (Nat → List PyData → Prop) → Prop} (turn : ∀ i d, items[i]? = some d → T i d ((List.range i).map f) (fun i acc => acc = (List.range i).map f))
    (fin : Q ((List.range items.length).map f)) : ∃ I : Nat → List PyData → Prop, I 0 [] ∧ (∀ i d acc, items[i]? = some d → I i acc → T i d acc I) ∧ ∀ acc, I items.length acc → Q acc := by
  refine ⟨fun i acc => acc = (List.range i).map f, rfl, ?_, ?_⟩
  · rintro i d acc hd rfl
    exact turn i d hd
  · rintro acc rfl
    exact fin
theorem lc_n {n : Nat} {lo c : Int} {f : Nat → PyData} {Q : List PyData → Prop} {T : Nat → PyData → List PyData → (Nat → List PyData → Prop) → Prop} (turn : ∀ i, i < n → T i (.int (lo + (i : Nat) * c)) ((List.range i).map f) (fun i acc => acc = (List.range i).map f))
    (fin : Q ((List.range n).map f)) : ∃ I : Nat → List PyData → Prop, I 0 [] ∧ (∀ i d acc, (rngD lo n c)[i]? = some d → I i acc → T i d acc I) ∧ ∀ acc, I (rngD lo n c).length acc → Q acc := by
  refine lc_i (f := f) (fun i d hd => ?_) ?_
  · obtain ⟨hi, rfl⟩ := rngD_get hd
    exact turn i hi
  · rw [rngD_len]
    exact fin
theorem acc_i {f : Nat → PyData} {i : Nat} {x : PyData} (h : x = f i) : (List.range i).map f ++ [x] = (List.range (i + 1)).map f := by
  rw [List.range_succ, List.map_append, h]
  rfl
theorem acc_len {f : Nat → PyData} {i n : Nat} (h : i < n) (hn : n ≤ 16777216 := by omega) : ((List.range i).map f).length < sizeLine := by
  rw [List.length_map, List.length_range, sizeLine_eq]
  omega
theorem for_n {n : Nat} {lo c : Int} {e : En} {Q : En → Prop} {T : Nat → PyData → En → (Nat → En → Prop) → Prop} (I : Nat → En → Prop) (i0 : I 0 e) (turn : ∀ i e', i < n → I i e' → T i (.int (lo + (i : Nat) * c)) e' I)
    (fin : ∀ e', I n e' → Q e') : ∃ I : Nat → En → Prop, I 0 e ∧ (∀ i d e', (rngD lo n c)[i]? = some d → I i e' → T i d e' I) ∧ ∀ e', I (rngD lo n c).length e' → Q e' := by
  refine ⟨I, i0, fun i d e' hd h => ?_, fun e' h => ?_⟩
  · obtain ⟨hi, rfl⟩ := rngD_get hd
    exact turn i e' hi h
  · rw [rngD_len] at h
    exact fin e' h
theorem sz {n : Nat} (h : n ≤ 16777216) : n ≤ sizeLine := by
  rw [sizeLine_eq]
  exact h
theorem szl {n : Nat} (h : n < 16777216) : n < sizeLine := by
  rw [sizeLine_eq]
  exact h
theorem shaped_ints (ns : List Int) : SeqAt.shaped (.list (ns.map .int)) = true := by
  have h1 : PyData.canLayAll0 (ns.map PyData.int) = true := by
    induction ns with
    | nil => rfl
    | cons n ns ih => simpa [PyData.canLayAll0, PyData.canLay0] using ih
  have h2 : PyData.depthAll (ns.map PyData.int) ≤ 1 := by
    induction ns with
    | nil => simp [PyData.depthAll]
    | cons n ns ih =>
      simp only [List.map_cons, PyData.depthAll, PyData.depth]
      have := ih (by simpa [PyData.canLayAll0, PyData.canLay0] using h1)
      omega
  unfold SeqAt.shaped
  rw [PyData.canLay0, PyData.depth, h1, Bool.true_and]
  exact decide_eq_true (by omega)
theorem eqvAll_ints : ∀ xs ys : List Int, PyData.eqvAll (xs.map .int) (ys.map .int) = decide (xs = ys)
  | [], [] => by simp [PyData.eqvAll]
  | [], y :: ys => by simp [PyData.eqvAll]
  | x :: xs, [] => by simp [PyData.eqvAll]
  | x :: xs, y :: ys => by
    show PyData.eqvAll (.int x :: xs.map .int) (.int y :: ys.map .int) = _
    rw [PyData.eqvAll, eqvAll_ints xs ys]
    simp only [PyData.eqv]
    by_cases h1 : x = y
    · by_cases h2 : xs = ys
      · simp [h1, h2]
      · simp [h1, h2]
    · simp [h1]
theorem eqv_ints (xs ys : List Int) : PyData.eqv (.list (xs.map .int)) (.list (ys.map .int)) = decide (xs = ys) := by
  rw [PyData.eqv, eqvAll_ints]
end Pv
namespace Pv
open PySem L2
theorem cut_to {α : Type} {vs : List α} {f : α → PyData} {m : Int} (h0 : 0 ≤ m) : cutD (vs.map f) none (some m) = (vs.take m.toNat).map f := by
  unfold cutD
  show List.take (HT.sIx _ _ (some m) - 0) (List.drop 0 _) = _
  rw [List.drop_zero, Nat.sub_zero, List.map_take]
  show List.take (if m < 0 then _ else min m.toNat _) _ = _
  rw [if_neg (by omega)]
  by_cases h : m.toNat ≤ (vs.map f).length
  · rw [Nat.min_eq_left h]
  · rw [Nat.min_eq_right (by omega), List.take_of_length_le (Nat.le_refl _), List.take_of_length_le (by omega)]
theorem cut_from {α : Type} {vs : List α} {f : α → PyData} {m : Int} (h0 : 0 ≤ m) : cutD (vs.map f) (some m) none = (vs.drop m.toNat).map f := by
  unfold cutD
  show List.take ((vs.map f).length - (if m < 0 then _ else min m.toNat _)) (List.drop (if m < 0 then _ else min m.toNat _) _) = _
  rw [if_neg (by omega), List.map_drop]
  by_cases h : m.toNat ≤ (vs.map f).length
  · rw [Nat.min_eq_left h, List.take_of_length_le (by rw [List.length_drop]; omega)]
  · rw [Nat.min_eq_right (by omega), List.drop_of_length_le (Nat.le_refl _), List.drop_of_length_le (by omega)]
    simp
theorem part_of {vs : List Int} {i : Nat} (h : i < vs.length) : vs = vs.take i ++ [vs.getD i 0] ++ vs.drop (i + 1) := by
  rw [List.getD_eq_getElem?_getD, List.getElem?_eq_getElem h, List.append_assoc]
  show vs = vs.take i ++ (vs[i] :: vs.drop (i + 1))
  rw [← List.drop_eq_getElem_cons h, List.take_append_drop]
theorem sum_app (xs ys : List Int) : (xs ++ ys).sum = xs.sum + ys.sum := by
  induction xs with
  | nil => simp
  | cons x xs ih => simp only [List.cons_append, List.sum_cons, ih]; omega
end Pv
namespace Pv
open PySem L2
theorem ifIs {b : Bool} {R S : Prop} (hb : b = true) (h : R) : (b = true → R) ∧ (b = false → S) := by
  subst hb
  exact ifT h
theorem ifNot {b : Bool} {R S : Prop} (hb : b = false) (h : S) : (b = true → R) ∧ (b = false → S) := by
  subst hb
  exact ifF h
theorem iteIs {b : Bool} {R S : Prop} (hb : b = true) (h : R) : if b = true then R else S := by
  subst hb
  exact h
theorem iteNo {b : Bool} {R S : Prop} (hb : b = false) (h : S) : if b = true then R else S := by
  subst hb
  exact h
theorem nt {b : Bool} (h : b = true) : (!b) = false := by
  subst h
  rfl
theorem nf {b : Bool} (h : b = false) : (!b) = true := by
  subst h
  rfl
end Pv

namespace Pv
open PySem L2
/-! ### loops and comprehensions over mapped lists -/
theorem map_get {α : Type} {xs : List α} {G : α → PyData} {i : Nat} {d : PyData} (h : (xs.map G)[i]? = some d) : ∃ a, xs[i]? = some a ∧ d = G a := by
  rw [List.getElem?_map] at h
  cases e : xs[i]? with
  | none =>
    rw [e] at h
    cases h
  | some a =>
    rw [e] at h
    exact ⟨a, rfl, (Option.some.inj h).symm⟩
theorem take_snoc {α : Type} {xs : List α} {i : Nat} {a : α} (h : xs[i]? = some a) : xs.take (i + 1) = xs.take i ++ [a] := by
  rw [List.take_add_one, h]
  rfl
theorem get_lt {α : Type} {xs : List α} {i : Nat} {a : α} (h : xs[i]? = some a) : i < xs.length := (List.getElem?_eq_some_iff.mp h).1
theorem lc_map {α : Type} {xs : List α} {G f : α → PyData} {Q : List PyData → Prop} {T : Nat → PyData → List PyData → (Nat → List PyData → Prop) → Prop} (turn : ∀ i a, xs[i]? = some a → T i (G a) ((xs.take i).map f) (fun i acc => acc = (xs.take i).map f))
    (fin : Q (xs.map f)) : ∃ I : Nat → List PyData → Prop, I 0 [] ∧ (∀ i d acc, (xs.map G)[i]? = some d → I i acc → T i d acc I) ∧ ∀ acc, I (xs.map G).length acc → Q acc := by
  refine ⟨fun i acc => acc = (xs.take i).map f, rfl, ?_, ?_⟩
  · rintro i d acc hd rfl
    obtain ⟨a, h, rfl⟩ := map_get hd
    exact turn i a h
  · rintro acc rfl
    rw [List.length_map, List.take_length]
    exact fin
theorem acc_map {α : Type} {xs : List α} {f : α → PyData} {i : Nat} {a : α} {x : PyData} (h : xs[i]? = some a) (e : x = f a) : (xs.take i).map f ++ [x] = (xs.take (i + 1)).map f := by
  rw [take_snoc h, List.map_append, e]
  rfl
theorem acc_mlen {α : Type} {xs : List α} {f : α → PyData} {i : Nat} {a : α} (h : xs[i]? = some a) (hn : xs.length ≤ 16777216 := by omega) : ((xs.take i).map f).length < sizeLine := by
  have := get_lt h
  rw [List.length_map, List.length_take, sizeLine_eq]
  omega
theorem lc_filter {α : Type} {xs : List α} {G f : α → PyData} {p : α → Bool} {Q : List PyData → Prop} {T : Nat → PyData → List PyData → (Nat → List PyData → Prop) → Prop}
    (turn : ∀ i a, xs[i]? = some a → T i (G a) (((xs.take i).filter p).map f) (fun i acc => acc = ((xs.take i).filter p).map f)) (fin : Q ((xs.filter p).map f)) :
    ∃ I : Nat → List PyData → Prop, I 0 [] ∧ (∀ i d acc, (xs.map G)[i]? = some d → I i acc → T i d acc I) ∧ ∀ acc, I (xs.map G).length acc → Q acc := by
  refine ⟨fun i acc => acc = ((xs.take i).filter p).map f, rfl, ?_, ?_⟩
  · rintro i d acc hd rfl
    obtain ⟨a, h, rfl⟩ := map_get hd
    exact turn i a h
  · rintro acc rfl
    rw [List.length_map, List.take_length]
    exact fin
theorem acc_yes {α : Type} {xs : List α} {f : α → PyData} {p : α → Bool} {i : Nat} {a : α} {x : PyData} (h : xs[i]? = some a) (hp : p a = true) (e : x = f a) : ((xs.take i).filter p).map f ++ [x] = ((xs.take (i + 1)).filter p).map f := by
  rw [take_snoc h, List.filter_append, List.map_append, e]
  simp [hp]
theorem acc_no {α : Type} {xs : List α} {f : α → PyData} {p : α → Bool} {i : Nat} {a : α} (h : xs[i]? = some a) (hp : p a = false) : ((xs.take i).filter p).map f = ((xs.take (i + 1)).filter p).map f := by
  rw [take_snoc h, List.filter_append, List.map_append]
  simp [hp]
theorem acc_flen {α : Type} {xs : List α} {f : α → PyData} {p : α → Bool} {i : Nat} {a : α} (h : xs[i]? = some a) (hn : xs.length ≤ 16777216 := by omega) : (((xs.take i).filter p).map f).length < sizeLine := by
  have h1 := get_lt h
  have h2 := List.length_filter_le p (xs.take i)
  rw [List.length_take] at h2
  rw [List.length_map, sizeLine_eq]
  omega
theorem for_map {α : Type} {xs : List α} {G : α → PyData} {e : En} {Q : En → Prop} {T : Nat → PyData → En → (Nat → En → Prop) → Prop} (I : Nat → En → Prop) (i0 : I 0 e) (turn : ∀ i a e', xs[i]? = some a → I i e' → T i (G a) e' I)
    (fin : ∀ e', I xs.length e' → Q e') : ∃ I : Nat → En → Prop, I 0 e ∧ (∀ i d e', (xs.map G)[i]? = some d → I i e' → T i d e' I) ∧ ∀ e', I (xs.map G).length e' → Q e' := by
  refine ⟨I, i0, fun i d e' hd h => ?_, fun e' h => ?_⟩
  · obtain ⟨a, ha, rfl⟩ := map_get hd
    exact turn i a e' ha h
  · rw [List.length_map] at h
    exact fin e' h
theorem all_bools {α : Type} (xs : List α) (p : α → Bool) : (xs.map fun a => PyData.bool (p a)) = (xs.map p).map .bool := by
  rw [List.map_map]
  rfl
theorem all_id {α : Type} (xs : List α) (p : α → Bool) : (xs.map p).all id = xs.all p := by
  rw [List.all_map]
  rfl
theorem any_id {α : Type} (xs : List α) (p : α → Bool) : (xs.map p).any id = xs.any p := by
  rw [List.any_map]
  rfl
theorem setI (ns : List Int) (j : Nat) (v : Int) : (ns.map PyData.int).set j (.int v) = (ns.set j v).map .int := by
  rw [List.map_set]
theorem ixN_of {n : Nat} {i : Int} (h0 : 0 ≤ i) (h : i < n) : ixN n i = some i.toNat := by
  unfold ixN
  rw [if_pos h0, if_pos h]
/-- an item of a written list of ints -/
theorem menu_at {ms : List Int} {i : Int} (h0 : 0 ≤ i) (h : i < ms.length) : ∃ m, atI (ms.map PyData.int) i = some (.int m) ∧ m ∈ ms := by
  have h1 : i.toNat < ms.length := by omega
  refine ⟨ms.getD i.toNat 0, ints_at h0 h, ?_⟩
  rw [List.getD_eq_getElem?_getD, List.getElem?_eq_getElem h1]
  exact List.getElem_mem h1
theorem dLen {α : Type} {f : α → PyData} {xs : List α} : (((xs.map f).length : Nat) : Int) = xs.length := by rw [List.length_map]
end Pv

namespace Pv
open PySem L2
/-! ### is not None -/
def yNotN : X2 := fun a b q => match a, b with
  | .none, .none => q (.bool false)
  | .int _, .none => q (.bool true)
  | .str _, .none => q (.bool true)
  | .list _, .none => q (.bool true)
  | .tuple _, .none => q (.bool true)
  | .bool _, .none => q (.bool true)
  | _, _ => False
theorem r2_notN {K : PySem.W.Frag} : Ref2 K (fun x y H Q => y = .non ∧ Q (.bl (!decide (x = .non))) H) yNotN := by
  intro H v w a b Q q ha hb hx hq
  cases ha <;> cases hb <;> first
    | exact False.elim hx
    | exact ⟨rfl, hq _ _ (fun _ => .bl _) hx⟩

section
variable {X : Cx} {W : WX} {K : PySem.W.Frag} {a b o : Expr} {es : List Expr} {te tb to : TE} {ta : TA} {xa xb xo : XE} {xs : XA} {pos apos p : Pos}
/-! ### methods of texts -/
def xM (y : PyData → List PyData → (Rs → Prop) → Prop) (xo : XE) (xs : XA) : XE := fun e q ex => xo e (fun r => xs e (fun rs => y r.d (rs.map Rs.d) q) ex) ex
def xM0 (y : PyData → List PyData → (Rs → Prop) → Prop) (xo : XE) : XE := fun e q ex => xo e (fun r => y r.d [] q) ex
def RefM (K : PySem.W.Frag) (T : V → Hp → Prop) (r : V → List V → Hp → VK → Prop) (y : PyData → List PyData → (Rs → Prop) → Prop) : Prop :=
  ∀ (G H : Hp) (v : V) (vs : List V) (d : PyData) (ds : List PyData) (Q : VK) (q : Rs → Prop), Same G H → Rp K H v d → RpAll K H vs ds → y d ds q →
    (∀ G' H' v r, Same G' H' → Grow G H G' H' → RsR K H G' H' v r → q r → Q v H') → r v vs H Q
/-- of which only texts may be the owner -/
def StrY (y : PyData → List PyData → (Rs → Prop) → Prop) : Prop := ∀ d ds q, y d ds q → ∃ z, d = .str z
theorem ref_m0 {r : V → List V → Hp → VK → Prop} {y : PyData → List PyData → (Rs → Prop) → Prop} (hy : StrY y) (h : RefM K (fun _ _ => True) r y) (ho : RefE K W to xo) : RefE K W (tM0 r to) (xM0 y xo) := by
  intro G0 H0 G H σ e Q q ex hs hx hq hw
  refine ho G0 H0 G H σ e _ _ ex hs hx (fun G1 H1 v r1 s1 g1 rr1 k1 => ?_) hw
  have w1 := rr1.wk s1
  refine ⟨?_, h G1 H1 v [] r1.d [] Q q s1 w1 .nil k1 fun G2 H2 u r2 s2 g2 rr2 k2 => hq G2 H2 u r2 s2 (g1.trans g2) (rr2.back g1.hh) k2⟩
  obtain ⟨z, hz⟩ := hy _ _ _ k1
  rw [hz] at w1
  exact ⟨z, rp_str w1⟩
theorem ve_m0 {id : String} {name : Str} {r : V → List V → Hp → VK → Prop} {y : PyData → List PyData → (Rs → Prop) → Prop} (slot : Slot "str" name id) (ty : typeOf (.builtin id) = pure (.type "method_descriptor")) (rule : MtR X id r) (hy : StrY y) (hr : RefM X.K (fun _ _ => True) r y) (ho : VE X W o to xo)
    (hbase : attributeBase o name X.env (eval o X.env) = eval o X.env := by rfl) (hline : (apos.endLine == pos.line) = true := by rfl) : VE X W (.Call (.Attribute o name apos) [] [] pos) (tM0 r to) (xM0 y xo) :=
  ⟨pe_m0 slot ty rule ho.pe hbase hline, ref_m0 hy hr ho.rf⟩
theorem ref_m1 {r : V → List V → Hp → VK → Prop} {y : PyData → List PyData → (Rs → Prop) → Prop} (hy : ∀ d, (∀ z, d ≠ .str z) → ∀ ds q, ¬ y d ds q) (h : RefM K (fun _ _ => True) r y) (ho : RefE K W to xo) (ha : RefE K W te xa) :
    RefE K W (tM1 r to te) (fun e q ex => xo e (fun r => (∃ z, r.d = .str z) ∧ xa e (fun s => y r.d [s.d] q) ex) ex) := by
  intro G0 H0 G H σ e Q q ex hs hx hq hw
  refine ho G0 H0 G H σ e _ _ ex hs hx (fun G1 H1 v r1 s1 g1 rr1 k1 => ?_) hw
  have w1 := rr1.wk s1
  obtain ⟨⟨z, hz⟩, k1⟩ := k1
  refine ⟨by rw [hz] at w1; exact ⟨z, rp_str w1⟩, ?_⟩
  refine ha G0 H0 G1 H1 σ e _ _ ex (hs.grow g1 s1) k1 (fun G2 H2 w' r2 s2 g2 rr2 k2 => ?_) fun G2 H2 cls d y s2 g2 => hw G2 H2 cls d y s2 (g1.trans g2)
  exact h G2 H2 v [w'] r1.d [r2.d] Q q s2 ((rr1.grow g2).wk s2) (.cons (rr2.wk s2) .nil) k2 fun G3 H3 u r3 s3 g3 rr3 k3 => hq G3 H3 u r3 s3 ((g1.trans g2).trans g3) (rr3.back (g1.trans g2).hh) k3
def xM1 (y : PyData → List PyData → (Rs → Prop) → Prop) (xo xa : XE) : XE := fun e q ex => xo e (fun r => (∃ z, r.d = .str z) ∧ xa e (fun s => y r.d [s.d] q) ex) ex
theorem ve_m1 {id : String} {name : Str} {r : V → List V → Hp → VK → Prop} {y : PyData → List PyData → (Rs → Prop) → Prop} (slot : Slot "str" name id) (ty : typeOf (.builtin id) = pure (.type "method_descriptor")) (rule : MtR X id r) (hy : ∀ d, (∀ z, d ≠ .str z) → ∀ ds q, ¬ y d ds q)
    (hr : RefM X.K (fun _ _ => True) r y) (ho : VE X W o to xo) (ha : VE X W a te xa) (hs : starEach [a] X.env = [(false, eval a X.env)] := by rfl) (hbase : attributeBase o name X.env (eval o X.env) = eval o X.env := by rfl) (hline : (apos.endLine == pos.line) = true := by rfl) :
    VE X W (.Call (.Attribute o name apos) [a] [] pos) (tM1 r to te) (xM1 y xo xa) := ⟨pe_m1 slot ty rule ho.pe ha.pe hs hbase hline, ref_m1 hy hr ho.rf ha.rf⟩
def yUpper (a : PyData) (ds : List PyData) (q : Rs → Prop) : Prop := match a, ds with
  | .str z, [] => z.length ≤ 5592405 ∧ q (.va (.str (Txt.upper z)))
  | _, _ => False
theorem ve_upper (ho : VE X W o to xo) (hbase : attributeBase o "upper" X.env (eval o X.env) = eval o X.env := by rfl) (hline : (apos.endLine == pos.line) = true := by rfl) :
    VE X W (.Call (.Attribute o "upper" apos) [] [] pos) (tM0 (fun x xs H Q => ∃ a, x = .str a ∧ xs = [] ∧ a.length ≤ 5592405 ∧ Q (.str (Txt.upper a)) H) to) (xM0 yUpper xo) :=
  ve_m0 F.slot_str_upper F.type_str_upper mt_upper (fun d ds q h => by
    unfold yUpper at h
    split at h
    · exact ⟨_, rfl⟩
    · exact h.elim) (fun G H v vs d ds Q q s rv rs h hq => by
    unfold yUpper at h
    split at h
    · cases rs
      obtain rfl := rp_str rv
      exact ⟨_, rfl, rfl, h.1, hq G H _ (.va _) s .refl (.str _) h.2⟩
    · exact h.elim) ho hbase hline
def yStarts (a : PyData) (ds : List PyData) (q : Rs → Prop) : Prop := match a, ds with
  | .str z, [.str b] => q (.va (.bool (Txt.startswith z b)))
  | _, _ => False
theorem ve_starts (ho : VE X W o to xo) (ha : VE X W a te xa) (hs : starEach [a] X.env = [(false, eval a X.env)] := by rfl) (hbase : attributeBase o "startswith" X.env (eval o X.env) = eval o X.env := by rfl) (hline : (apos.endLine == pos.line) = true := by rfl) :
    VE X W (.Call (.Attribute o "startswith" apos) [a] [] pos) (tM1 (fun x xs H Q => ∃ a b, x = .str a ∧ xs = [.str b] ∧ Q (.bl (Txt.startswith a b)) H) to te) (xM1 yStarts xo xa) :=
  ve_m1 F.slot_str_startswith F.type_str_startswith mt_startswith (fun d hd ds q h => by
    unfold yStarts at h
    split at h
    · exact hd _ rfl
    · exact h.elim) (fun G H v vs d ds Q q s rv rs h hq => by
    unfold yStarts at h
    split at h
    · cases rs with
      | cons r1 rs =>
        cases rs
        obtain rfl := rp_str rv
        obtain rfl := rp_str r1
        exact ⟨_, _, rfl, rfl, hq G H _ (.va _) s .refl (.bl _) h⟩
    · exact h.elim) ho ha hs hbase hline
def yRstripC (a : PyData) (ds : List PyData) (q : Rs → Prop) : Prop := match a, ds with
  | .str z, [.str b] => z.length ≤ sizeLine ∧ q (.va (.str (Txt.rstripChars z b)))
  | _, _ => False
theorem ve_rstripC (ho : VE X W o to xo) (ha : VE X W a te xa) (hs : starEach [a] X.env = [(false, eval a X.env)] := by rfl) (hbase : attributeBase o "rstrip" X.env (eval o X.env) = eval o X.env := by rfl) (hline : (apos.endLine == pos.line) = true := by rfl) :
    VE X W (.Call (.Attribute o "rstrip" apos) [a] [] pos) (tM1 (fun x xs H Q => ∃ a b, x = .str a ∧ xs = [.str b] ∧ a.length ≤ sizeLine ∧ Q (.str (Txt.rstripChars a b)) H) to te) (xM1 yRstripC xo xa) :=
  ve_m1 F.slot_str_rstrip F.type_str_rstrip mt_rstripChars (fun d hd ds q h => by
    unfold yRstripC at h
    split at h
    · exact hd _ rfl
    · exact h.elim) (fun G H v vs d ds Q q s rv rs h hq => by
    unfold yRstripC at h
    split at h
    · cases rs with
      | cons r1 rs =>
        cases rs
        obtain rfl := rp_str rv
        obtain rfl := rp_str r1
        exact ⟨_, _, rfl, rfl, h.1, hq G H _ (.va _) s .refl (.str _) h.2⟩
    · exact h.elim) ho ha hs hbase hline
theorem rp_strs {G : Hp} : ∀ (ys : List Str), RpAll K G (ys.map V.str) (ys.map PyData.str)
  | [] => .nil
  | y :: ys => .cons (.str y) (rp_strs ys)
theorem strs_rp {G : Hp} : ∀ {vs : List V} (ys : List Str), RpAll K G vs (ys.map PyData.str) → vs = ys.map V.str
  | _, [], h => by cases h; rfl
  | _, y :: ys, h => by
    cases h with
    | cons h1 h2 =>
      obtain rfl := rp_str h1
      rw [strs_rp ys h2] <;> rfl
def ySplit (a : PyData) (ds : List PyData) (q : Rs → Prop) : Prop := match a, ds with
  | .str z, [.str b] => (b.length == 0) = false ∧ z.length + 2 ≤ sizeLine ∧ q (.nw ((Txt.split z b).map .str))
  | _, _ => False
theorem ve_split (ho : VE X W o to xo) (ha : VE X W a te xa) (hs : starEach [a] X.env = [(false, eval a X.env)] := by rfl) (hbase : attributeBase o "split" X.env (eval o X.env) = eval o X.env := by rfl) (hline : (apos.endLine == pos.line) = true := by rfl) :
    VE X W (.Call (.Attribute o "split" apos) [a] [] pos) (tM1 (fun x xs H Q => ∃ a b, x = .str a ∧ xs = [.str b] ∧ (b.length == 0) = false ∧ a.length + 2 ≤ sizeLine ∧ rNewStrs (Txt.split a b) H Q) to te) (xM1 ySplit xo xa) :=
  ve_m1 F.slot_str_split F.type_str_split mt_split (fun d hd ds q h => by
    unfold ySplit at h
    split at h
    · exact hd _ rfl
    · exact h.elim) (fun G H v vs d ds Q q s rv rs h hq => by
    unfold ySplit at h
    split at h
    · cases rs with
      | cons r1 rs =>
        cases rs
        obtain rfl := rp_str rv
        obtain rfl := rp_str r1
        refine ⟨_, _, rfl, rfl, h.1, h.2.1, fun l hl => ?_⟩
        exact hq G _ _ (.nw _) (same_out s (s.free hl)) (Grow.out hl) ⟨l, _, rfl, hl, upd_same, s.free hl, rp_strs _⟩ h.2.2
    · exact h.elim) ho ha hs hbase hline
def yWords (a : PyData) (ds : List PyData) (q : Rs → Prop) : Prop := match a, ds with
  | .str z, [] => z.length + 2 ≤ sizeLine ∧ q (.nw ((Txt.words z).map .str))
  | _, _ => False
theorem ve_words (ho : VE X W o to xo) (hbase : attributeBase o "split" X.env (eval o X.env) = eval o X.env := by rfl) (hline : (apos.endLine == pos.line) = true := by rfl) :
    VE X W (.Call (.Attribute o "split" apos) [] [] pos) (tM0 (fun x xs H Q => ∃ a, x = .str a ∧ xs = [] ∧ a.length + 2 ≤ sizeLine ∧ rNewStrs (Txt.words a) H Q) to) (xM0 yWords xo) :=
  ve_m0 F.slot_str_split F.type_str_split mt_words (fun d ds q h => by
    unfold yWords at h
    split at h
    · exact ⟨_, rfl⟩
    · exact h.elim) (fun G H v vs d ds Q q s rv rs h hq => by
    unfold yWords at h
    split at h
    · cases rs
      obtain rfl := rp_str rv
      refine ⟨_, rfl, rfl, h.1, fun l hl => ?_⟩
      exact hq G _ _ (.nw _) (same_out s (s.free hl)) (Grow.out hl) ⟨l, _, rfl, hl, upd_same, s.free hl, rp_strs _⟩ h.2
    · exact h.elim) ho hbase hline
def yJoin (a : PyData) (ds : List PyData) (q : Rs → Prop) : Prop := (∃ z, a = .str z) ∧ ∃ (z : Str) (ys : List Str), a = .str z ∧ (ds = [.list (ys.map .str)] ∨ ds = [.tuple (ys.map .str)]) ∧ (ys.map (·.length)).sum + ys.length * z.length ≤ 16777216 ∧ q (.va (.str (Txt.join z ys)))
theorem ve_join (ho : VE X W o to xo) (ha : VE X W a te xa) (hs : starEach [a] X.env = [(false, eval a X.env)] := by rfl) (hbase : attributeBase o "join" X.env (eval o X.env) = eval o X.env := by rfl) (hline : (apos.endLine == pos.line) = true := by rfl) :
    VE X W (.Call (.Attribute o "join" apos) [a] [] pos) (tM1 (fun x xs H Q => ∃ a p, ∃ ys : List Str, x = .str a ∧ xs = [.ref p] ∧ (SqL X.K H p (ys.map V.str) ∨ SqT X.K H p (ys.map V.str)) ∧
      (ys.map (·.length)).sum + ys.length * a.length ≤ 16777216 ∧ Q (.str (Txt.join a ys)) H) to te) (xM1 yJoin xo xa) :=
  ve_m1 F.slot_str_join F.type_str_join mt_join (fun d hd ds q h => by
    obtain ⟨⟨z, rfl⟩, _⟩ := h
    exact hd _ rfl) (fun G H v vs d ds Q q s rv rs h hq => by
    obtain ⟨_, z, ys, rfl, hd, hl, k⟩ := h
    obtain rfl := rp_str rv
    rcases hd with rfl | rfl
    · cases rs with
      | cons r1 rs =>
        cases rs
        cases r1 with
        | lst h1 h2 =>
          rw [strs_rp ys h2] at h1
          exact ⟨_, _, ys, rfl, rfl, .inl (SqL.of h1), hl, hq G H _ (.va _) s .refl (.str _) k⟩
    · cases rs with
      | cons r1 rs =>
        cases rs
        cases r1 with
        | tup h1 h2 =>
          rw [strs_rp ys h2] at h1
          exact ⟨_, _, ys, rfl, rfl, .inr h1, hl, hq G H _ (.va _) s .refl (.str _) k⟩) ho ha hs hbase hline

/-! ### list.index of flat things -/
def yIndex (a : PyData) (ds : List PyData) (q : Rs → Prop) : Prop := (∃ (ys : List Str) (y : Str) (j : Nat), a = .list (ys.map .str) ∧ ds = [.str y] ∧ ys[j]? = some y ∧ (∀ m z, m < j → ys[m]? = some z → z ≠ y) ∧ q (.va (.int (j : Nat)))) ∨
  ∃ (ys : List Int) (y : Int) (j : Nat), a = .list (ys.map .int) ∧ ds = [.int y] ∧ ys[j]? = some y ∧ (∀ m z, m < j → ys[m]? = some z → z ≠ y) ∧ q (.va (.int (j : Nat)))
theorem ref_bm {r : V → List V → Hp → VK → Prop} {y : PyData → List PyData → (Rs → Prop) → Prop} {T : String} (hy : ∀ (G H : Hp) v d ds q, Rp K H v d → y d ds q → tyV K T v H) (hd : ∀ d, (∀ ds, d ≠ .list ds) → ∀ ds q, ¬ y d ds q) (h : RefM K (fun _ _ => True) r y) (ho : RefE K W to xo) (ha : RefA K W ta xs) (hT : ∀ (v : V) (H : Hp) ds, Rp K H v (.list ds) → tyV K T v H) :
    RefE K W (tBM K T r to ta) (fun e q ex => xo e (fun r => (∃ ds, r.d = .list ds) ∧ xs e (fun rs => y r.d (rs.map Rs.d) q) ex) ex) := by
  intro G0 H0 G H σ e Q q ex hs hx hq hw
  refine ho G0 H0 G H σ e _ _ ex hs hx (fun G1 H1 v r1 s1 g1 rr1 k1 => ?_) hw
  have w1 := rr1.wk s1
  obtain ⟨⟨ds, hz⟩, k1⟩ := k1
  refine ⟨by rw [hz] at w1; exact hT v H1 ds w1, ?_⟩
  refine ha G0 H0 G1 H1 σ e _ _ ex (hs.grow g1 s1) k1 (fun G2 H2 vs rs s2 g2 pr k2 => ?_) fun G2 H2 cls d y s2 g2 => hw G2 H2 cls d y s2 (g1.trans g2)
  exact h G2 H2 v vs r1.d _ Q q s2 ((rr1.grow g2).wk s2) (paired_wk s2 pr) k2 fun G3 H3 u r3 s3 g3 rr3 k3 => hq G3 H3 u r3 s3 ((g1.trans g2).trans g3) (rr3.back (g1.trans g2).hh) k3
def xBM (y : PyData → List PyData → (Rs → Prop) → Prop) (xo : XE) (xs : XA) : XE := fun e q ex => xo e (fun r => (∃ ds, r.d = .list ds) ∧ xs e (fun rs => y r.d (rs.map Rs.d) q) ex) ex
theorem flat_strs (ys : List Str) : (ys.map V.str).all flatV = true := by
  rw [List.all_eq_true]
  intro v hv
  obtain ⟨y, _, rfl⟩ := List.mem_map.mp hv
  rfl
theorem flat_ints (ys : List Int) : (ys.map V.int).all flatV = true := by
  rw [List.all_eq_true]
  intro v hv
  obtain ⟨y, _, rfl⟩ := List.mem_map.mp hv
  rfl
theorem ve_index (ho : VE X W o to xo) (ha : VA X W (a :: es) ta xs) (hbase : attributeBase o "index" X.env (eval o X.env) = eval o X.env := by rfl)
    (hfew : ((backTo pos (starEach (a :: es) X.env)).all (fun x => !x.1) && (backToKw pos (keywordEach [] X.env)).all (fun x => x.1.isSome)
      && decide ((a :: es).length + ([] : List Keyword).length + (if ([] : List Keyword).isEmpty then 0 else 1) < 30)) = true := by rfl)
    (hline : (apos.endLine == pos.line) = true := by rfl) (hs : starEach (a :: es) X.env = (false, eval a X.env) :: starEach es X.env := by rfl) (hplain : (backTo pos (starEach es X.env)).any (·.1) = false := by rfl) :
    VE X W (.Call (.Attribute o "index" apos) (a :: es) [] pos) (tBM X.K "list" (rIndex X.K) to ta) (xBM yIndex xo xs) :=
  ⟨pe_bm PySem.F.plainAttrs_list PySem.F.slot_list_index PySem.F.type_list_index mt_index ho.pe ha.pa hbase hfew hline hs hplain, by
  refine ref_bm (y := yIndex) (fun G H v d ds q rv hy => ?_) (fun d hd ds q h => ?_) (fun G H v vs d ds Q q s rv rs h hq => ?_) ho.rf ha.rf (fun v H ds rv => ?_)
  · rcases hy with ⟨ys, y, j, rfl, _⟩ | ⟨ys, y, j, rfl, _⟩
    · cases rv with
      | lst h1 h2 => exact .inl ⟨rfl, _, SqL.of h1⟩
    · cases rv with
      | lst h1 h2 => exact .inl ⟨rfl, _, SqL.of h1⟩
  · rcases h with ⟨ys, y, j, rfl, _⟩ | ⟨ys, y, j, rfl, _⟩
    · exact hd _ rfl
    · exact hd _ rfl
  · rcases h with ⟨ys, y, j, rfl, rfl, h1, h2, k⟩ | ⟨ys, y, j, rfl, rfl, h1, h2, k⟩
    · cases rv with
      | lst e1 e2 =>
        rw [strs_rp ys e2] at e1
        cases rs with
        | cons r1 rs =>
          cases rs
          obtain rfl := rp_str r1
          refine ⟨_, ys.map V.str, .str y, j, .str y, rfl, rfl, SqL.of e1, rfl, flat_strs ys, by rw [List.getElem?_map, h1]; rfl, by simp [eqV], fun m z' hm hz => ?_, hq G H _ (.va _) s .refl (.int _) k⟩
          rw [List.getElem?_map] at hz
          cases e : ys[m]? with
          | none =>
            rw [e] at hz
            cases hz
          | some z =>
            rw [e] at hz
            cases hz
            have := h2 m z hm e
            simp [eqV, this]
    · cases rv with
      | lst e1 e2 =>
        rw [RpAll.ints e2] at e1
        cases rs with
        | cons r1 rs =>
          cases rs
          obtain rfl := rp_int r1
          refine ⟨_, ys.map V.int, .int y, j, .int y, rfl, rfl, SqL.of e1, rfl, flat_ints ys, by rw [List.getElem?_map, h1]; rfl, by simp [eqV], fun m z' hm hz => ?_, hq G H _ (.va _) s .refl (.int _) k⟩
          rw [List.getElem?_map] at hz
          cases e : ys[m]? with
          | none =>
            rw [e] at hz
            cases hz
          | some z =>
            rw [e] at hz
            cases hz
            have := h2 m z hm e
            simp [eqV, this]
  · cases rv with
    | lst h1 h2 => exact .inl ⟨rfl, _, SqL.of h1⟩⟩
end
end Pv

namespace Pv
open PySem L2 PySem.Spec PyProof.Rows
/-! ### tables of the module's top: read by key alone -/
def KDci (K : PySem.W.Frag) (a : Addr) (i : Int) (v : V) : Prop :=
  ∃ es n u, K.lookup a = some ⟨.type "dict", none, .dict es n, #[]⟩ ∧ (∀ e ∈ es, ∃ i t, e.key = Value.int i t ∧ e.hash = hashInt i) ∧ findBy Value.isInt es i = some u ∧ RelV v u
def rIxI (K : PySem.W.Frag) : R2 := fun x y H Q => ∃ p z v, x = .ref p ∧ y = .int z ∧ KDci K p z v ∧ Q v H
theorem mapOf_int {prog : Program} {w : World} {K : PySem.W.Frag} {h : Heap} {a : Addr} {es : Array DictEntry} {n : Nat} (X : K.In h) (hl : K.lookup a = some ⟨.type "dict", none, .dict es n, #[]⟩) (hk : ∀ e ∈ es, ∃ i t, e.key = Value.int i t ∧ e.hash = hashInt i) :
    h.MapOf (intKind prog w) a (fun k => findBy Value.isInt es k) :=
  ⟨_, es, n, X _ _ hl, ⟨rfl, rfl, rfl⟩, rfl, fun e he => by
    obtain ⟨x, t, e1, e2⟩ := hk e he
    exact ⟨x, by rw [e1]; exact intKind_is prog w x t, e2⟩, fun _ => rfl⟩
section
variable {X : Cx} {W : WX} {K : PySem.W.Frag} {b : Expr} {tb : TE} {xb : XE} {pos p2 : Pos}
theorem ix_int : IxR X (rIxI X.K) := by
  intro value slice pins s σ H x y v u Q I rx ry h hs
  obtain ⟨p, z, r, rfl, rfl, ⟨es, n, u0, hl, hk, e, ru⟩, q⟩ := h
  obtain rfl : v = Value.ref p := rx
  obtain ⟨t, rfl⟩ := ry
  have hm := mapOf_int (prog := X.prog) (w := X.w) I.kIn hl hk
  exact tail_any hm.typeIs slot_dict_getitem.lookup (wpAny_getItem_of (intKind_is X.prog X.w z t) hm e ⟨r, H, I.tok _, ru, q⟩) hs
/-- what a table says -/
def TabR (K : PySem.W.Frag) (w : World) (p : Addr) (D : List (PyData × PyData)) : Prop := ∀ b d, (b, d) ∈ D → ∃ v, (∀ G, Rp K G v d) ∧ ((∃ z, b = .str z ∧ KDct K w p z v) ∨ ∃ i, b = .int i ∧ KDci K p i v)
def yTab (D : List (PyData × PyData)) (b : PyData) (q : Rs → Prop) : Prop := ∃ d, (b, d) ∈ D ∧ q (.va d)
def xTab (D : List (PyData × PyData)) (xb : XE) : XE := fun e q ex => xb e (fun r => yTab D r.d q) ex
abbrev rTab (K : PySem.W.Frag) (w : World) : R2 := fun x y H Q => rIxD K w x y H Q ∨ rIxI K x y H Q
theorem ref_tab {w : World} {p : Addr} {D : List (PyData × PyData)} (T : TabR K w p D) (hb : RefE K W tb xb) : RefE K W (tOp (rTab K w) (tC (.ref p)) tb) (xTab D xb) := by
  intro G0 H0 G H σ e Q q ex hs hx hq hw
  refine hb G0 H0 G H σ e _ _ ex hs hx (fun G1 H1 v r1 s1 g1 rr1 k1 => ?_) hw
  obtain ⟨d, hd, k⟩ := k1
  obtain ⟨u, hu, hz⟩ := T _ _ hd
  have w1 := rr1.wk s1
  rcases hz with ⟨z, e1, hz⟩ | ⟨i, e1, hz⟩
  · rw [e1] at w1
    obtain rfl := rp_str w1
    exact .inl ⟨p, z, u, rfl, rfl, hz, hq G1 H1 u (.va d) s1 g1 (hu G1) k⟩
  · rw [e1] at w1
    obtain rfl := rp_int w1
    exact .inr ⟨p, i, u, rfl, rfl, hz, hq G1 H1 u (.va d) s1 g1 (hu G1) k⟩
theorem ve_tab {x : Str} {p : Addr} {D : List (PyData × PyData)} (hg : Gl X x) (hm : X.mg x = some (.ref p)) (T : TabR X.K X.w p D) (hb : VE X W b tb xb) (hs : PlainIx b := by intro _ _; rfl) (hd : (x == ("__debug__" : Str)) = false := by decide) :
    VE X W (.Subscript (.Name x p2) b pos) (tOp (rTab X.K X.w) (tC (.ref p)) tb) (xTab D xb) :=
  ⟨pe_ix (ix_kdict.or ix_int) (pe_glob hg hm (show RelV (.ref p) (.ref p) from rfl) hd) hb.pe hs, ref_tab T hb.rf⟩
end
theorem ve_globS {X : Cx} {W : WX} {x : Str} {i : Str} {pos : Pos} (hg : Gl X x) (hm : ∃ t, X.mg x = some (.str i t)) (hd : (x == ("__debug__" : Str)) = false := by decide) : VE X W (.Name x pos) (tC (.str i)) (xC (.str i)) := by
  obtain ⟨t, h⟩ := hm
  exact ⟨pe_glob hg h (show RelV (.str i) (.str i t) from ⟨t, rfl⟩) hd, ref_c fun _ => .str i⟩
/-! ### what is looked at: facts, defs, text tables, checks -/
def tabIB (x : Str) (kvs : List (Int × He.Dv)) (K : PySem.W.Frag) : Bool := match K.lookup (He.ga K x) with
  | some ⟨.type c, none, .dict es _, sl⟩ => decide (c = "dict") && (sl.isEmpty && ((es.toList.all fun e => match e.key with
      | .int i _ => decide (e.hash = hashInt i)
      | _ => false) && kvs.all fun q => match findBy Value.isInt es q.1 with
        | some u => He.relB (q.2.v K) u
        | none => false))
  | _ => false
theorem tabIB_ok {x : Str} {kvs : List (Int × He.Dv)} {K : PySem.W.Frag} (h : tabIB x kvs K = true) : ∀ q ∈ kvs, KDci K (He.ga K x) q.1 (q.2.v K) := by
  unfold tabIB at h
  cases q : K.lookup (He.ga K x) with
  | none =>
    rw [q] at h
    cases h
  | some o =>
    obtain ⟨oc, od, dt, osl⟩ := o
    rw [q] at h
    cases oc with
    | type c =>
      cases od with
      | none =>
        cases dt with
        | dict es n =>
          obtain ⟨h1, h2⟩ := Bool.and_eq_true_iff.mp h
          obtain ⟨h3, h4⟩ := Bool.and_eq_true_iff.mp h2
          obtain ⟨h5, h6⟩ := Bool.and_eq_true_iff.mp h4
          have e1 : c = "dict" := of_decide_eq_true h1
          have e2 : osl = #[] := Array.isEmpty_iff.mp h3
          subst e1 e2
          intro r hr
          have h7 := List.all_eq_true.mp h6 r hr
          cases e : findBy Value.isInt es r.1 with
          | none =>
            rw [e] at h7
            cases h7
          | some u =>
            rw [e] at h7
            refine ⟨es, n, u, q, fun z hz => ?_, e, He.relB_ok h7⟩
            have h8 := List.all_eq_true.mp h5 z (Array.mem_toList_iff.mpr hz)
            cases k : z.key with
            | int i t =>
              rw [k] at h8
              exact ⟨i, t, rfl, of_decide_eq_true h8⟩
            | _ =>
              rw [k] at h8
              cases h8
        | _ => cases h
      | some b => cases dt <;> cases h
    | _ => cases od <;> cases dt <;> cases h
abbrev AlX : Type := He.AlT × List Bool
def obsX (fa : List He.Fa) (fn : List He.DefD) (ts : List He.Tab) (bs : List (PySem.W.Frag → Bool)) (K : PySem.W.Frag) : AlX := (He.obsT fa fn ts K, bs.map fun b => b K)
def valX (fn : List He.DefD) (ts : List He.Tab) (bs : List (PySem.W.Frag → Bool)) (w : World) : AlX := (He.valT fn ts w, bs.map fun _ => true)
def obsXG (n : Nat) (fa : List He.Fa) (fn : List He.DefD) (ts : List He.Tab) (bs : List (PySem.W.Frag → Bool)) (g : Addr → Option Obj) : AlX := obsX fa fn ts bs (He.frG g (He.asD g n))
def SaysX (fa : List He.Fa) (fn : List He.DefD) (ts : List He.Tab) (bs : List (PySem.W.Frag → Bool)) (w : World) (K : PySem.W.Frag) : Prop := obsX fa fn ts bs K = valX fn ts bs w
def hookX (n : Nat) (fa : List He.Fa) (fn : List He.DefD) (ts : List He.Tab) (bs : List (PySem.W.Frag → Bool)) : PySem.W.Hook where
  α := AlX
  obs := fun s => obsXG n fa fn ts bs s.heap.get?
  val := fun w => valX fn ts bs w
  says := fun w h => ∃ K : PySem.W.Frag, K.In h ∧ SaysX fa fn ts bs w K
  of := fun _ _ e => ⟨_, He.frG_in, e⟩
  keeps := fun _ _ _ ⟨K, hK, c⟩ k => ⟨K, PySem.W.Frag.In.keeps hK k, c⟩
theorem obsXG_eq {n : Nat} {fa : List He.Fa} {fn : List He.DefD} {ts : List He.Tab} {bs : List (PySem.W.Frag → Bool)} {g : Addr → Option Obj} {s : Shared} (h : ∀ a, g a = s.heap.get? a) : obsXG n fa fn ts bs g = (hookX n fa fn ts bs).obs s := by
  have e : g = s.heap.get? := funext h
  rw [e] <;> rfl
section
variable {fa : List He.Fa} {fn : List He.DefD} {ts : List He.Tab} {bs : List (PySem.W.Frag → Bool)} {w : World} {K : PySem.W.Frag}
theorem SaysX.t (c : SaysX fa fn ts bs w K) : He.SaysT fa fn ts w K := congrArg (fun z : AlX => z.1) c
theorem SaysX.b (c : SaysX fa fn ts bs w K) (i : Nat) {b : PySem.W.Frag → Bool} (h : bs[i]? = some b := by rfl) : b K = true := by
  have e : bs.map (fun b => b K) = bs.map fun _ => true := congrArg (fun z : AlX => z.2) c
  have e2 : (bs.map fun b => b K)[i]? = (bs.map fun _ => true)[i]? := by rw [e]
  rw [List.getElem?_map, List.getElem?_map, h] at e2
  exact Option.some.inj e2
theorem tabS_ok {x : Str} {kvs : List (Str × He.Dv)} {es : Array DictEntry} {n : Nat} (D : KDict K w (He.ga K x) es n) (h : He.valsB K (He.ga K x) kvs = true) : ∀ q ∈ kvs, KDct K w (He.ga K x) q.1 (q.2.v K) := fun q hq => by
  obtain ⟨u, h1, h2⟩ := He.valsB_ok h hq
  exact ⟨es, n, u, D.at_, D.lit, h1, h2⟩
end
/-- the world, with its answer to one row of the text written out -/
def wAsk (row : String) (b : Bool) (w : World) : World := { w with params := { w.params with followText := fun r => match decide (r = row) with
  | true => b
  | false => w.params.followText r } }
theorem wAsk_eq (row : String) (w : World) : wAsk row (w.params.followText row) w = w := by
  have e : (fun r => match decide (r = row) with
    | true => w.params.followText row
    | false => w.params.followText r) = w.params.followText := by
    funext r
    by_cases h : r = row
    · rw [decide_eq_true h, h]
    · rw [decide_eq_false h]
  unfold wAsk
  rw [e]
theorem ask_row {P : World → Prop} (row : String) (h : ∀ b w, P (wAsk row b w)) (w : World) : P w := by
  have := h (w.params.followText row) w
  rwa [wAsk_eq] at this
/-- data of a written value -/
def dvD : He.Dv → PyData
  | .bl b => .bool b
  | .int i => .int i
  | .str x => .str x
  | _ => .none
def dvOk : He.Dv → Bool
  | .non => true
  | .bl _ => true
  | .int _ => true
  | .str _ => true
  | _ => false
theorem dv_rp {K : PySem.W.Frag} {v : He.Dv} (h : dvOk v = true) (G : Hp) : Rp K G (v.v K) (dvD v) := by
  cases v <;> first
    | cases h
    | skip
  · exact .non
  · exact .bl _
  · exact .int _
  · exact .str _
theorem dvs_rp {K : PySem.W.Frag} (G : Hp) : ∀ {vs : List He.Dv}, vs.all dvOk = true → RpAll K G (vs.map (He.Dv.v K)) (vs.map dvD)
  | [], _ => .nil
  | v :: vs, h => by
    rw [List.all_cons, Bool.and_eq_true] at h
    exact .cons (dv_rp h.1 G) (dvs_rp G h.2)
theorem tabR_s {K : PySem.W.Frag} {w : World} {p : Addr} {kvs : List (Str × He.Dv)} (h : ∀ q ∈ kvs, KDct K w p q.1 (q.2.v K)) (ok : (kvs.all fun q => dvOk q.2) = true) : TabR K w p (kvs.map fun q => (.str q.1, dvD q.2)) := by
  intro b d hm
  obtain ⟨q, hq, e⟩ := List.mem_map.mp hm
  cases e
  exact ⟨_, dv_rp (List.all_eq_true.mp ok q hq), .inl ⟨_, rfl, h q hq⟩⟩
theorem tabR_i {K : PySem.W.Frag} {w : World} {p : Addr} {kvs : List (Int × He.Dv)} (h : ∀ q ∈ kvs, KDci K p q.1 (q.2.v K)) (ok : (kvs.all fun q => dvOk q.2) = true) : TabR K w p (kvs.map fun q => (.int q.1, dvD q.2)) := by
  intro b d hm
  obtain ⟨q, hq, e⟩ := List.mem_map.mp hm
  cases e
  exact ⟨_, dv_rp (List.all_eq_true.mp ok q hq), .inr ⟨_, rfl, h q hq⟩⟩
end Pv

namespace Pv
open PySem L2
/-! ### items of mapped lists, texts -/
theorem map_at {α : Type} {f : α → PyData} {xs : List α} {i : Int} (h0 : 0 ≤ i) (h : i.toNat < xs.length) : atI (xs.map f) i = some (f (xs[i.toNat])) := at_nat h0 (by
  rw [List.getElem?_map, List.getElem?_eq_getElem h]
  rfl)
theorem map_atN {α : Type} {f : α → PyData} {xs : List α} {i : Nat} (h : i < xs.length) : atI (xs.map f) (0 + (i : Nat) * 1) = some (f (xs[i])) := at_nat (by omega) (by
  rw [show (0 + (i : Nat) * 1 : Int).toNat = i by omega, List.getElem?_map, List.getElem?_eq_getElem h]
  rfl)
theorem menuD {α : Type} {f : α → PyData} {ms : List α} {i : Int} (h0 : 0 ≤ i) (h : i < ms.length) : ∃ m, atI (ms.map f) i = some (f m) ∧ m ∈ ms := by
  have h1 : i.toNat < ms.length := by omega
  exact ⟨ms[i.toNat], map_at h0 h1, List.getElem_mem h1⟩
theorem setD {α : Type} {f : α → PyData} (xs : List α) (j : Nat) (v : α) : (xs.map f).set j (f v) = (xs.set j v).map f := by
  rw [List.map_set]
theorem for_mapE {α : Type} {items : List PyData} {xs : List α} {G : α → PyData} (he : items = xs.map G) {e : En} {Q : En → Prop} {T : Nat → PyData → En → (Nat → En → Prop) → Prop} (I : Nat → En → Prop) (i0 : I 0 e) (turn : ∀ i a e', xs[i]? = some a → I i e' → T i (G a) e' I)
    (fin : ∀ e', I xs.length e' → Q e') : ∃ I : Nat → En → Prop, I 0 e ∧ (∀ i d e', items[i]? = some d → I i e' → T i d e' I) ∧ ∀ e', I items.length e' → Q e' := by
  subst he
  exact for_map I i0 turn fin
theorem lc_mapE {α : Type} {items : List PyData} {xs : List α} {G f : α → PyData} (he : items = xs.map G) {Q : List PyData → Prop} {T : Nat → PyData → List PyData → (Nat → List PyData → Prop) → Prop} (turn : ∀ i a, xs[i]? = some a → T i (G a) ((xs.take i).map f) (fun i acc => acc = (xs.take i).map f))
    (fin : Q (xs.map f)) : ∃ I : Nat → List PyData → Prop, I 0 [] ∧ (∀ i d acc, items[i]? = some d → I i acc → T i d acc I) ∧ ∀ acc, I items.length acc → Q acc := by
  subst he
  exact lc_map turn fin
theorem lc_filterE {α : Type} {items : List PyData} {xs : List α} {G f : α → PyData} {p : α → Bool} (he : items = xs.map G) {Q : List PyData → Prop} {T : Nat → PyData → List PyData → (Nat → List PyData → Prop) → Prop}
    (turn : ∀ i a, xs[i]? = some a → T i (G a) (((xs.take i).filter p).map f) (fun i acc => acc = ((xs.take i).filter p).map f)) (fin : Q ((xs.filter p).map f)) :
    ∃ I : Nat → List PyData → Prop, I 0 [] ∧ (∀ i d acc, items[i]? = some d → I i acc → T i d acc I) ∧ ∀ acc, I items.length acc → Q acc := by
  subst he
  exact lc_filter turn fin
theorem cutD_len (xs : List PyData) (lo hi : Option Int) : (cutD xs lo hi).length ≤ xs.length := by
  unfold cutD
  rw [List.length_take, List.length_drop]
  omega
theorem str_len_toList (z : Str) : z.cps.toList.length = z.length := rfl
theorem cutS_len (z : Str) (lo hi : Option Int) : (cutS z lo hi).length ≤ z.length := by
  show ((z.cps.toList.drop _).take _).toArray.size ≤ z.cps.size
  rw [List.size_toArray, List.length_take, List.length_drop]
  have : z.cps.toList.length = z.cps.size := rfl
  omega
theorem app_len (a b : Str) : (a ++ b).length = a.length + b.length := by
  show (a.cps ++ b.cps).size = _
  rw [Array.size_append]
  rfl
theorem shaped_flat {c : Bool} {f : PyData → Bool} (hf : ∀ d, f d = true → PyData.canLay0 d = true ∧ PyData.depth d ≤ 1) (ds : List PyData) (h : ds.all f = true) : SeqAt.shaped (if c then .tuple ds else .list ds) = true := by
  have h1 : PyData.canLayAll0 ds = true := by
    induction ds with
    | nil => rfl
    | cons n ns ih =>
      rw [List.all_cons, Bool.and_eq_true] at h
      rw [PyData.canLayAll0, (hf n h.1).1, ih h.2] <;> rfl
  have h2 : PyData.depthAll ds ≤ 2 := by
    clear h1
    induction ds with
    | nil => simp [PyData.depthAll]
    | cons n ns ih =>
      rw [List.all_cons, Bool.and_eq_true] at h
      have a := (hf n h.1).2
      have b := ih h.2
      simp only [PyData.depthAll]
      omega
  cases c
  · unfold SeqAt.shaped
    rw [if_neg (by decide), PyData.canLay0, PyData.depth, h1, Bool.true_and]
    exact decide_eq_true (by omega)
  · unfold SeqAt.shaped
    rw [if_pos rfl, PyData.canLay0, PyData.depth, h1, Bool.true_and]
    exact decide_eq_true (by omega)
end Pv

namespace Pv
open PySem L2
/-! ### in: a list, a tuple, a sign in a text -/
def yInM (neg : Bool) : X2 := fun a b q => match b with
  | .list ds => (flD a && ds.all flD) = true ∧ q (.bool (if neg then !inD a ds else inD a ds))
  | .tuple ds => (flD a && ds.all flD) = true ∧ q (.bool (if neg then !inD a ds else inD a ds))
  | .str z => ∃ c : Nat, a = .str ⟨#[c]⟩ ∧ q (.bool (if neg then !decide (c ∈ z.cps.toList) else decide (c ∈ z.cps.toList)))
  | _ => False
theorem inM_split {neg : Bool} {a b : PyData} {q : PyData → Prop} (h : yInM neg a b q) : yIn neg a b q ∨ ∃ (c : Nat) (z : Str), a = .str ⟨#[c]⟩ ∧ b = .str z ∧ q (.bool (if neg then !decide (c ∈ z.cps.toList) else decide (c ∈ z.cps.toList))) := by
  unfold yInM at h
  split at h
  · exact .inl h
  · exact .inl h
  · obtain ⟨c, rfl, k⟩ := h
    exact .inr ⟨c, _, rfl, rfl, k⟩
  · exact h.elim
theorem r2_inM {K : PySem.W.Frag} : Ref2 K (fun x y H Q => rIn K false x y H Q ∨ (∃ (c : Nat) (z : Str), x = .str ⟨#[c]⟩ ∧ y = .str z ∧ Q (.bl (decide (c ∈ z.cps.toList))) H)) (yInM false) := fun H v w a b Q q ha hb hx hq => by
  rcases inM_split hx with h | ⟨c, z, rfl, rfl, k⟩
  · exact .inl (r2_in false H v w a b Q q ha hb h hq)
  · obtain rfl := rp_str ha
    obtain rfl := rp_str hb
    exact .inr ⟨c, z, rfl, rfl, hq _ _ (fun _ => .bl _) k⟩
theorem r2_notInM {K : PySem.W.Frag} : Ref2 K (fun x y H Q => rIn K true x y H Q ∨ (∃ (c : Nat) (z : Str), x = .str ⟨#[c]⟩ ∧ y = .str z ∧ Q (.bl (!decide (c ∈ z.cps.toList))) H)) (yInM true) := fun H v w a b Q q ha hb hx hq => by
  rcases inM_split hx with h | ⟨c, z, rfl, rfl, k⟩
  · exact .inl (r2_in true H v w a b Q q ha hb h hq)
  · obtain rfl := rp_str ha
    obtain rfl := rp_str hb
    exact .inr ⟨c, z, rfl, rfl, hq _ _ (fun _ => .bl _) k⟩
/-! ### a call without arguments -/
section
variable {X : Cx} {W : WX}
theorem pe_callSD0 {CX : CXT} {k : Nat} {f : Addr} {fd : FuncData} {ps : List Str} {sp : Sp} {E : L2.St → XK} {x : Str} {p pos : Pos} (F : FnOk X.prog X.w X.K X.mg X.base CX k f fd ps sp) (hr : Room k X.A) (hg : Gl X x) (hm : X.mg x = some (.ref f)) (hk : PySem.W.keepIn X.K (.ref f) = true)
    (hb : Binds X.K fd ps []) (hx : ∀ σ, PassesAt CX X σ (E σ)) (hdb : (x == ("__debug__" : Str)) = false := by decide) : PE X (.Call (.Name x p) [] [] pos) (tCallSD sp [] E tNil) := by
  refine ⟨fun pins s σ H Q I h => ?_⟩
  refine wpAny_Call_Name_kw (ld_glob I hg hm ?_ hdb)
  exact PySem.W.callWith_K0 I.kIn hk (run_fnSD (us := []) F hr hb .nil (hx σ) I .nil h)
theorem ve_call0 {CX : CXT} {k : Nat} {f : Addr} {fd : FuncData} {ps : List Str} {F : Fn} {x : Str} {p pos : Pos} (Fk : FnOk X.prog X.w X.K X.mg X.base CX k f fd ps (spF X.K F)) (hr : Room k X.A) (hg : Gl X x) (hm : X.mg x = some (.ref f)) (hk : PySem.W.keepIn X.K (.ref f) = true)
    (hb : Binds X.K fd ps []) (hx : ∀ σ, PassesAt CX X σ (fun cls d H => W cls d σ H)) (hdb : (x == ("__debug__" : Str)) = false := by decide) : VE X W (.Call (.Name x p) [] [] pos) (tCallSD (spF X.K F) [] (fun σ cls d H => W cls d σ H) tNil) (xCall F xNil) :=
  ⟨pe_callSD0 (E := fun σ cls d H => W cls d σ H) Fk hr hg hm hk hb hx hdb, ref_call (va_nil (X := X) (W := W)).rf⟩
end
/-! ### texts -/
theorem jL_ones : ∀ cs : List Nat, TL.joinL [] (cs.map fun c => [c]) = cs
  | [] => rfl
  | [c] => rfl
  | c :: d :: r => by
    show [c] ++ ([] ++ TL.joinL [] ((d :: r).map fun c => [c])) = _
    rw [jL_ones (d :: r)]
    rfl
theorem str_ext {x y : Str} (h : x.cps.toList = y.cps.toList) : x = y := by
  obtain ⟨x⟩ := x
  obtain ⟨y⟩ := y
  exact congrArg Str.mk (Array.toList_inj.mp h)
theorem join_singles (cs : List Nat) : Txt.join "" (cs.map fun c => (⟨#[c]⟩ : Str)) = ⟨cs.toArray⟩ := by
  refine str_ext ?_
  rw [TL.join_eq]
  have h := TL.tl_join ("" : Str) (cs.map fun c => (⟨#[c]⟩ : Str))
  rw [List.map_map] at h
  refine h.trans ?_
  show TL.joinL [] (cs.map fun c => [c]) = cs
  exact jL_ones cs
theorem join_le (y : Str) (ys : List Str) : (Txt.join y ys).length ≤ (ys.map (·.length)).sum + ys.length * y.length := by
  show (Builtin.Str.glued y ys).length ≤ _
  rw [StrLaws.glued_eq_join]
  exact StrLaws.join_length_le y ys
theorem sum_le {B : Nat} : ∀ ys : List Str, (∀ y ∈ ys, y.length ≤ B) → (ys.map (·.length)).sum ≤ ys.length * B
  | [], _ => by simp
  | y :: ys, h => by
    have h1 := h y (.head _)
    have h2 := sum_le ys fun z hz => h z (.tail _ hz)
    simp only [List.map_cons, List.sum_cons, List.length_cons, Nat.succ_mul]
    omega
theorem join_fits {B n : Nat} {y : Str} {ys : List Str} (h : ∀ z ∈ ys, z.length ≤ B) (hn : ys.length ≤ n) (hf : n * B + n * y.length ≤ 16777216) : (ys.map (·.length)).sum + ys.length * y.length ≤ 16777216 ∧ (Txt.join y ys).length ≤ n * B + n * y.length := by
  have h1 := sum_le ys h
  have h2 := join_le y ys
  have h3 : ys.length * B ≤ n * B := Nat.mul_le_mul_right _ hn
  have h4 : ys.length * y.length ≤ n * y.length := Nat.mul_le_mul_right _ hn
  exact ⟨by omega, by omega⟩
theorem split_few {z y : Str} (hy : 1 ≤ y.length) : (Txt.split z y).length ≤ z.length + 1 := by
  have := PyProof.Rows.split_weight z y hy
  omega
theorem split_short {z y s : Str} (h : s ∈ Txt.split z y) : s.length ≤ z.length := PyProof.Rows.part_short h
theorem sub_at (a b : Str) : Builtin.Str.subAt a b 0 = decide (a.cps.toList.take b.length = b.cps.toList) := by
  rw [StrLaws.subAt_eq, List.drop_zero]
  rw [Bool.eq_iff_iff, beq_iff_eq, decide_eq_true_iff]
theorem starts_iff (a b : Str) : Txt.startswith a b = decide (cutS a none (some (b.length : Int)) = b) := by
  rw [Bool.eq_iff_iff, decide_eq_true_iff]
  unfold Txt.startswith
  rw [Bool.and_eq_true, decide_eq_true_iff, sub_at, decide_eq_true_iff]
  have hl : a.cps.toList.length = a.length := rfl
  have hlb : b.cps.toList.length = b.length := rfl
  have e : (cutS a none (some (b.length : Int))).cps.toList = a.cps.toList.take (min b.length a.length) := by
    unfold cutS
    show (List.take (HT.sIx a.length a.length (some (b.length : Int)) - HT.sIx a.length 0 none) (List.drop (HT.sIx a.length 0 none) a.cps.toList)).toArray.toList = _
    have e1 : HT.sIx a.length 0 none = 0 := rfl
    have e2 : HT.sIx a.length a.length (some (b.length : Int)) = min b.length a.length := HT.sIx_nat _ _ _
    rw [e1, e2, List.drop_zero, Nat.sub_zero]
  have str_eq : ∀ x y : Str, x.cps.toList = y.cps.toList → x = y := by
    rintro ⟨x⟩ ⟨y⟩ h
    exact congrArg Str.mk (Array.toList_inj.mp h)
  have ee : (cutS a none (some (b.length : Int)) = b) ↔ (cutS a none (some (b.length : Int))).cps.toList = b.cps.toList := ⟨fun h => by rw [h], str_eq _ _⟩
  rw [ee, e]
  constructor
  · rintro ⟨h1, h2⟩
    rw [Nat.min_eq_left (by omega)]
    exact h2
  · intro h
    have h3 := congrArg List.length h
    rw [List.length_take, hl, hlb] at h3
    have h4 : b.length ≤ a.length := by omega
    refine ⟨by omega, ?_⟩
    rw [Nat.min_eq_left h4] at h
    exact h
end Pv

namespace Pv
open PySem L2
/-! ### {k: i, ..}[x] : a written table of text keys and ints, read at once -/
structure VPs (X : Cx) (pos : Pos) (keys : List (Option Expr)) (values : List Expr) (trs : List (TE × TE)) (D : List (Str × Int)) : Prop where
  pps : PPs X pos keys values trs
  ev : ∀ (σ : L2.St) (H : Hp) (Q : List (V × V) → Hp → Prop), Q (D.map fun q => (V.str q.1, V.int q.2)) H → tPairs trs σ H Q
structure VI1 (X : Cx) (e : Expr) (t : TE) (i : Int) : Prop where
  pe : PE X e t
  ev : ∀ (σ : L2.St) (H : Hp) (Q : VK), Q (.int i) H → t σ H Q
section
variable {X : Cx} {W : WX} {K : PySem.W.Frag} {b : Expr} {tb : TE} {xb : XE} {pos p1 p2 p3 : Pos}
theorem vi1_int {i : Int} {j p} : VI1 X (.Constant (.int i) j p) (tC (.int i)) i := ⟨pe_int, fun _ _ _ h => h⟩
theorem vi1_neg {i : Int} {e : Expr} {t : TE} {p} (h : VI1 X e t i) : VI1 X (.UnaryOp .USub e p) (tUn (rU fun i => .int (-i)) t) (-i) := ⟨pe_un un_neg h.pe, fun σ H Q k => h.ev σ H _ ⟨i, rfl, k⟩⟩
theorem vps_nil : VPs X pos [] [] [] [] := ⟨pps_nil, fun _ _ _ h => h⟩
theorem vps_cons {k : Str} {i : Int} {j p} {v : Expr} {ks : List (Option Expr)} {vs : List Expr} {tv : TE} {trs : List (TE × TE)} {D : List (Str × Int)} (hv : VI1 X v tv i) (hr : VPs X pos ks vs trs D) :
    VPs X pos (some (.Constant (.str k) j p) :: ks) (v :: vs) ((tC (.str k), tv) :: trs) ((k, i) :: D) := ⟨pps_cons pe_str hv.pe hr.pps, fun σ H Q h => hv.ev σ H _ (hr.ev σ H _ h)⟩
def dOk (D : List (Str × Int)) : Bool := decide (D.length ≤ 15) && D.all fun q => match valV (mergeK [] (D.map fun q => (Sum.inr q.1, V.int q.2))) (Sum.inr q.1) with
  | some (.int j) => decide (j = q.2)
  | _ => false
def xPick (D : List (Str × Int)) (xb : XE) : XE := fun e q ex => xb e (fun r => ∃ p ∈ D, r.d = .str p.1 ∧ q (.va (.int p.2))) ex
theorem grow_twice {G H : Hp} {p : Addr} {a b : HO} (h : H p = none) : Grow G H G (upd (upd H p a) p b) := ⟨Same.refl _, fun x u e => by
  rw [upd_ne (ne_of_none e h), upd_ne (ne_of_none e h)]
  exact e, fun _ h _ => h⟩
theorem ref_pick {keys : List (Option Expr)} {values : List Expr} {trs : List (TE × TE)} {D : List (Str × Int)} (hp : VPs X p1 keys values trs D) (ok : dOk D = true) (hb : RefE K W tb xb) : RefE K W (tDGet (tDisp trs) tb) (xPick D xb) := by
  intro G0 H0 G H σ e Q q ex hs hx hq hw
  intro p hpn
  refine hp.ev σ _ _ ⟨upd_same, D.map fun q => (Sum.inr q.1, V.int q.2), by rw [List.map_map]; rfl, ?_, ?_⟩
  · rw [List.length_map]
    exact of_decide_eq_true (Bool.and_eq_true_iff.mp ok).1
  have g0 : Grow G H G (upd (upd H p (.dK [])) p (.dK (mergeK [] (D.map fun q => (Sum.inr q.1, V.int q.2))))) := grow_twice hpn
  have s0 : Same G (upd (upd H p (.dK [])) p (.dK (mergeK [] (D.map fun q => (Sum.inr q.1, V.int q.2))))) := fun a u ea => g0.hh a u (hs.sub a u ea)
  refine hb G0 H0 _ _ σ e _ _ ex (hs.grow g0 s0) hx (fun G2 H2 v r2 s2 g2 rr2 k2 => ?_) fun G2 H2 cls d y s2 g2 => hw G2 H2 cls d y s2 (g0.trans g2)
  obtain ⟨r, hr, hd, k⟩ := k2
  have w2 := rr2.wk s2
  rw [hd] at w2
  obtain rfl := rp_str w2
  refine ⟨p, .int r.2, rfl, .inl ⟨_, Sum.inr r.1, .inl (g2.hh _ _ upd_same), rfl, ?_⟩, hq G2 H2 _ (.va (.int r.2)) s2 (g0.trans g2) (.int _) k⟩
  have h1 := List.all_eq_true.mp (Bool.and_eq_true_iff.mp ok).2 r hr
  split at h1
  · rename_i j hj
    rw [hj, of_decide_eq_true h1]
  · cases h1
theorem ve_pick {keys : List (Option Expr)} {values : List Expr} {trs : List (TE × TE)} {D : List (Str × Int)} (hu : X.A.units + 1 < cLine) (hp : VPs X p1 keys values trs D) (ok : dOk D = true) (hb : VE X W b tb xb) (hs : NoSl b := by intro _ _; rfl)
    (hall : keys.all (·.isSome) = true := by rfl) (hl : keys.length = values.length := by rfl) (h0 : keys ≠ [] := by exact List.cons_ne_nil _ _) (h15 : keys.length ≤ 15 := by decide) : VE X W (.Subscript (.Dict keys values p1) b pos) (tDGet (tDisp trs) tb) (xPick D xb) :=
  ⟨pe_dget hu (pe_disp hp.pps hall hl h0 h15) hb.pe hs, ref_pick hp ok hb.rf⟩
end
end Pv

namespace Pv
open PySem L2
/-- range(0, n * c, c) -/
theorem rg_steps {n : Nat} {c : Int} (hc : 0 < c) (hc2 : c ≤ 1000000) (hn : n ≤ 1000000000) : RgC 0 ((n : Int) * c) c n := by
  have h1 : (0 : Int) ≤ (n : Int) * c := Int.mul_nonneg (by omega) (by omega)
  have h2 : (n : Int) * c ≤ 1000000000 * 1000000 := Int.mul_le_mul (by omega) hc2 (by omega) (by decide)
  have hz : Builtin.Range.rangeSize 0 ((n : Int) * c) c = n := by
    unfold Builtin.Range.rangeSize
    rw [if_pos (by omega)]
    cases n with
    | zero => simp
    | succ n =>
      have h3 : ((n + 1 : Nat) : Int) * c = (n : Int) * c + c := by
        rw [Int.natCast_add, Int.add_mul]
        simp
      rw [h3]
      have h4 : (0 : Int) ≤ (n : Int) * c := Int.mul_nonneg (by omega) (by omega)
      rw [if_pos (by omega)]
      have h5 : (n : Int) * c + c - 0 - 1 = (c - 1) + (n : Int) * c := by omega
      rw [h5, Int.add_mul_ediv_right _ _ (by omega), Int.ediv_eq_zero_of_lt (by omega) (by omega)]
      omega
  refine ⟨by omega, by omega, ?_, hz⟩
  unfold Builtin.Range.small
  rw [hz, if_pos (show c > 0 by omega)]
  have fl : ∀ x : Int, 0 ≤ x → x ≤ 2000000000000000 → Builtin.Range.rangeFitsLong x = true := fun x h1 h2 => by
    simp only [Builtin.Range.rangeFitsLong, Bool.and_eq_true, decide_eq_true_eq]
    omega
  rw [fl 0 (by decide) (by decide), fl _ h1 (by omega), fl c (by omega) (by omega), fl n (by omega) (by omega), fl ((n : Int) * c + (c - 1)) (by omega) (by omega), Bool.or_true]
  rfl
/-- range(m - 1, -1, -1) -/
theorem rg_down {m : Int} (h0 : 0 ≤ m) (h : m ≤ 1000000000) : RgC (m - 1) (-1) (-1) m.toNat := by
  have e : (m - 1 - -1).toNat = m.toNat := by
    congr 1
    omega
  have := RgC.neg (i := m - 1) (j := -1) (by omega) (by omega) (by decide) (by decide)
  rwa [e] at this
/-! ### rows of equal length, one behind the other -/
theorem flat_len {α : Type} {w : Nat} {f : α → List Int} (hf : ∀ a, (f a).length = w) : ∀ xs : List α, (xs.flatMap f).length = xs.length * w
  | [] => by simp
  | x :: xs => by
    rw [List.flatMap_cons, List.length_append, hf, flat_len hf xs, List.length_cons, Nat.succ_mul]
    omega
theorem flat_get {α : Type} {w : Nat} {f : α → List Int} (hf : ∀ a, (f a).length = w) : ∀ (xs : List α) (k j : Nat) (h : k < xs.length), j < w → (xs.flatMap f).getD (k * w + j) 0 = (f xs[k]).getD j 0
  | [], k, j, h, _ => by simp at h
  | x :: xs, 0, j, h, hj => by
    rw [List.flatMap_cons, Nat.zero_mul, Nat.zero_add]
    simp only [List.getD_eq_getElem?_getD, List.getElem_cons_zero]
    rw [List.getElem?_append_left (by rw [hf]; exact hj)]
  | x :: xs, k + 1, j, h, hj => by
    have h2 := flat_get hf xs k j (by simpa using h) hj
    rw [List.flatMap_cons]
    simp only [List.getD_eq_getElem?_getD, List.getElem_cons_succ] at h2 ⊢
    rw [List.getElem?_append_right (by rw [hf, Nat.succ_mul]; omega), hf, show (k + 1) * w + j - w = k * w + j by rw [Nat.succ_mul]; omega]
    exact h2
theorem ext_getD {xs ys : List Int} (hl : xs.length = ys.length) (h : ∀ i, i < xs.length → xs.getD i 0 = ys.getD i 0) : xs = ys := by
  apply List.ext_getElem hl
  intro i h1 h2
  have := h i h1
  simpa [List.getD_eq_getElem?_getD, List.getElem?_eq_getElem h1, List.getElem?_eq_getElem h2] using this
/-- a def that is never called -/
theorem vss_never {X : Cx} {W : WX} {sts : List Stmt} : VSs X W sts tNever uNo := ⟨pss_never, fun _ _ _ _ _ _ _ _ _ _ h => h⟩
theorem flat_one (n : Nat) (v : Int) : (List.replicate n [PyData.int v]).flatten = (List.replicate n v).map .int := by
  induction n with
  | zero => rfl
  | succ n ih =>
    rw [List.replicate_succ, List.replicate_succ, List.flatten_cons, List.map_cons, ih]
    rfl
theorem lf_ints : ∀ vs : List Int, Pv.lf.lfs (vs.map PyData.int) = true
  | [] => rfl
  | v :: vs => by
    rw [List.map_cons]
    show (Pv.lf (.int v) && Pv.lf.lfs (vs.map PyData.int)) = true
    rw [lf_ints vs]
    rfl
theorem nw_ok (b : Bool) (vs : List Int) : ((Rs.nw (vs.map PyData.int)).stays && (b || (Rs.nw (vs.map PyData.int)).lf)) = true := by
  show (true && (b || Pv.lf.lfs (vs.map PyData.int))) = true
  rw [lf_ints, Bool.or_true]
  rfl
/-- a comprehension that keeps nothing -/
theorem for_none {α : Type} {xs : List α} {G : α → PyData} {Q : List PyData → Prop} {T : Nat → PyData → List PyData → (Nat → List PyData → Prop) → Prop}
    (turn : ∀ i a, xs[i]? = some a → T i (G a) [] (fun _ acc => acc = [])) (fin : Q []) :
    ∃ I : Nat → List PyData → Prop, I 0 [] ∧ (∀ i d acc, (xs.map G)[i]? = some d → I i acc → T i d acc I) ∧ ∀ acc, I (xs.map G).length acc → Q acc := by
  refine ⟨fun _ acc => acc = [], rfl, ?_, ?_⟩
  · rintro i d acc hd rfl
    obtain ⟨a, h, rfl⟩ := map_get hd
    exact turn i a h
  · rintro acc rfl
    exact fin
end Pv

namespace Pv
open PySem L2 PySem.Spec PyProof.Rows
/-! ### xs[lo:hi:st] of a list -/
def placesN (n : Nat) (lo hi : Option Int) (c : Int) : List Nat := sliceRange (sliceBounds lo hi (some c) n).1 (sliceBounds lo hi (some c) n).2.1 (sliceBounds lo hi (some c) n).2.2
def pickD {α : Type} (xs : List α) (lo hi : Option Int) (c : Int) : List α := (placesN xs.length lo hi c).filterMap (xs[·]?)
theorem pick_vals {xs : List V} {its : List Value} (r : Vals xs its) : ∀ ks : List Nat, Vals (ks.filterMap (xs[·]?)) (ks.filterMap (its[·]?))
  | [] => .nil
  | k :: ks => by
    have ih := pick_vals r ks
    rw [List.filterMap_cons, List.filterMap_cons]
    cases e : xs[k]? with
    | none =>
      have hl := r.length
      have h1 := List.getElem?_eq_none_iff.mp e
      have e2 : its[k]? = none := List.getElem?_eq_none_iff.mpr (by omega)
      rw [e2]
      exact ih
    | some x =>
      obtain ⟨u, e2, ru⟩ := r.get e
      rw [e2]
      exact .cons ru ih
theorem pick_rp {K : PySem.W.Frag} {G : Hp} {vs : List V} {ds : List PyData} (r : RpAll K G vs ds) : ∀ ks : List Nat, RpAll K G (ks.filterMap (vs[·]?)) (ks.filterMap (ds[·]?))
  | [] => .nil
  | k :: ks => by
    have ih := pick_rp r ks
    rw [List.filterMap_cons, List.filterMap_cons]
    cases e : vs[k]? with
    | none =>
      have hl := r.len
      have h1 := List.getElem?_eq_none_iff.mp e
      have e2 : ds[k]? = none := List.getElem?_eq_none_iff.mpr (by omega)
      rw [e2]
      exact ih
    | some x =>
      obtain ⟨d, e2, ru⟩ := r.get e
      rw [e2]
      exact .cons ru ih
theorem pick_slice (its : List Value) (lo hi : Option Int) (c : Int) : slicePick its.toArray lo hi (some c) = (pickD its lo hi c).toArray := by
  unfold slicePick pickD placesN
  rw [List.size_toArray]
  congr 2
  funext k
  simp
def tPick (K : PySem.W.Frag) (te : TE) (tl th ts : TO) : TE := fun σ H Q => te σ H fun x H1 => tl σ H1 fun lo H2 => th σ H2 fun hi H3 => ts σ H3 fun st H4 =>
  ∃ a xs c, x = .ref a ∧ st = some c ∧ c ≠ 0 ∧ SqL K H4 a xs ∧ (pickD xs lo hi c).length ≤ sizeLine ∧ ∀ p, H4 p = none → Q (.ref p) (upd H4 p (.lst (pickD xs lo hi c)))
section
variable {X : Cx} {W : WX} {K : PySem.W.Frag} {e : Expr} {te : TE} {xa : XE} {lo hi : Option Expr} {st : Expr} {tl th ts : TO} {xl xh xs : XO} {pos p2 : Pos}
theorem pe_pick (ha : PE X e te) (hl : PO X lo tl) (hh : PO X hi th) (hs : PO X (some st) ts) : PE X (.Subscript e (.Slice lo hi (some st) p2) pos) (tPick X.K te tl th ts) := by
  constructor
  intro pins s σ H Q inv hT
  refine Subscript_ (thn (ha.run pins s σ H _ inv hT) ?_)
  rintro v s1 ⟨x, H1, inv1, rx, q1⟩
  refine wpAny_Slice (thn (hl.run pins s1 σ H1 _ inv1 q1) ?_)
  rintro vl s2 ⟨l, H2, inv2, pl, q2⟩
  refine thn (hh.run pins s2 σ H2 _ inv2 q2) ?_
  rintro vu s3 ⟨u, H3, inv3, pu, q3⟩
  refine thn (hs.run pins s3 σ H3 _ inv3 q3) ?_
  rintro vs s4 ⟨o, H4, inv4, ps, q4⟩
  obtain ⟨a, ys, c, rfl, rfl, hc, hq, hsz, q⟩ := q4
  cases rx
  have inv5 : Inv X pins σ H4 { s4 with heap := s4.heap.push { cls := .type "slice", data := .fields #[vl, vu, vs] } } := inv4.kept (t' := s4.toks) fun _ _ z => Heap.get?_push_of_some _ z
  obtain ⟨its, rv, plain, hz⟩ := inv5.list hq
  have hlen := rv.length
  show wpAny (model X.prog X.w) X.A (subscriptTail e (.Slice lo hi (some st) p2) (.ref a) (.ref s4.heap.objs.size)) (EP X pins σ Q) X.xe _
  refine tail_any (ops := [.ref a, .ref s4.heap.objs.size]) plain.isList.typeIs PySem.slot_list_getitem.lookup ?_ (by with_unfolding_all rfl)
  have h0 : (some c : Option Int) ≠ some 0 := fun z => hc (Option.some.inj z)
  refine wpAny_getItem_list_slice plain.isList (Heap.IsSliceOf.new _ vl vu vs) pl pu ps h0 ?_ (by rw [List.size_toArray]; omega)
  rw [pick_slice]
  have hp : Vals (pickD ys l u c) (pickD its l u c) := by
    have e1 : placesN its.length l u c = placesN ys.length l u c := by rw [hlen]
    unfold pickD
    rw [e1]
    exact pick_vals rv _
  refine ⟨.ref _, _, inv5.laid (t' := s4.toks) (o := .lst (pickD ys l u c)) (fun _ _ z => Heap.get?_push_of_some _ z) (Nat.le_refl _) ?_, rfl, q _ (inv5.hok.fresh (Nat.le_refl _))⟩
  exact ⟨hsz, _, 0, hp, Heap.get?_push_size _ rfl⟩
def xPickSl (xa : XE) (xl xh xs : XO) : XE := fun e q ex => xa e (fun r => xl e (fun lo => xh e (fun hi => xs e (fun st => ∃ ds c, r.d = .list ds ∧ st = some c ∧ c ≠ 0 ∧ (pickD ds lo hi c).length ≤ sizeLine ∧ q (.nw (pickD ds lo hi c))) ex) ex) ex) ex
theorem ref_pickSl (ha : RefE K W te xa) (hl : RefO K W tl xl) (hh : RefO K W th xh) (hs : RefO K W ts xs) : RefE K W (tPick K te tl th ts) (xPickSl xa xl xh xs) := by
  intro G0 H0 G H σ e Q q ex st hx hq hw
  refine ha G0 H0 G H σ e _ _ ex st hx (fun G1 H1 v r1 s1 g1 rr1 k1 => ?_) hw
  have st1 := st.grow g1 s1
  refine hl G0 H0 G1 H1 σ e _ _ ex st1 k1 (fun G2 H2 lo s2 g2 k2 => ?_) fun G2 H2 cls d y s2 g2 => hw G2 H2 cls d y s2 (g1.trans g2)
  have st2 := st1.grow g2 s2
  refine hh G0 H0 G2 H2 σ e _ _ ex st2 k2 (fun G3 H3 hi s3 g3 k3 => ?_) fun G3 H3 cls d y s3 g3 => hw G3 H3 cls d y s3 ((g1.trans g2).trans g3)
  have st3 := st2.grow g3 s3
  refine hs G0 H0 G3 H3 σ e _ _ ex st3 k3 (fun G4 H4 o s4 g4 k4 => ?_) fun G4 H4 cls d y s4 g4 => hw G4 H4 cls d y s4 (((g1.trans g2).trans g3).trans g4)
  obtain ⟨ds, c, hd, rfl, hc, hz, k⟩ := k4
  have gg := ((g1.trans g2).trans g3).trans g4
  obtain ⟨p, ys, rfl, h1, h2⟩ := (((rr1.grow g2).grow g3).grow g4).list s4 hd
  have hp : RpAll K G4 (pickD ys lo hi c) (pickD ds lo hi c) := by
    have e1 : placesN ys.length lo hi c = placesN ds.length lo hi c := by rw [h2.len]
    unfold pickD
    rw [e1]
    exact pick_rp h2 _
  refine ⟨p, ys, c, rfl, rfl, hc, SqL.of h1, by rw [hp.len]; exact hz, fun l hl => ?_⟩
  exact hq G4 _ _ (.nw _) (same_out s4 (s4.free hl)) (gg.trans (Grow.out hl)) ⟨l, _, rfl, gg.hh.free hl, upd_same, s4.free hl, hp⟩ k
theorem ve_pickSl (ha : VE X W e te xa) (hl : VO X W lo tl xl) (hh : VO X W hi th xh) (hs : VO X W (some st) ts xs) : VE X W (.Subscript e (.Slice lo hi (some st) p2) pos) (tPick X.K te tl th ts) (xPickSl xa xl xh xs) :=
  ⟨pe_pick ha.pe hl.po hh.po hs.po, ref_pickSl ha.rf hl.rf hh.rf hs.rf⟩
end
abbrev byteL (st : List Int) : Prop := ∀ b ∈ st, 0 ≤ b ∧ b < 256
/-! ### the places of a plane -/
def cntN (L w p : Nat) : Nat := (L + w - 1 - p) / w
def planeN (L w p : Nat) : List Nat := (List.range (cntN L w p)).map fun j => p + j * w
theorem pick_plane {α : Type} (xs : List α) {w p : Nat} (hw : 0 < w) (hp : p < w) : pickD xs (some (p : Int)) none (w : Int) = (planeN xs.length w p).filterMap (xs[·]?) := by
  have hc : (w : Int) > 0 := by omega
  unfold pickD placesN
  congr 1
  have hb : sliceBounds (some (p : Int)) none (some (w : Int)) xs.length = (max 0 (min (p : Int) xs.length), (xs.length : Int), (w : Int)) := by
    unfold sliceBounds
    simp only [Option.getD_some, if_pos hc]
    rw [if_neg (by omega)]
  rw [hb]
  unfold sliceRange planeN
  simp only [if_pos hc]
  by_cases h : p < xs.length
  · have e1 : max 0 (min (p : Int) xs.length) = (p : Int) := by omega
    rw [e1, if_pos (by omega)]
    have e2 : (((xs.length : Int) - p + w - 1) / w).toNat = cntN xs.length w p := by
      unfold cntN
      have e3 : ((xs.length : Int) - p + w - 1) = ((xs.length + w - 1 - p : Nat) : Int) := by omega
      rw [e3, ← Int.natCast_ediv, Int.toNat_natCast]
    rw [e2]
    refine List.map_congr_left fun j _ => ?_
    have e4 : (p : Int) + (w : Int) * (j : Int) = ((p + j * w : Nat) : Int) := by
      rw [Int.natCast_add, Int.natCast_mul, Int.mul_comm]
    rw [e4, Int.toNat_natCast]
  · have e1 : max 0 (min (p : Int) xs.length) = (xs.length : Int) := by omega
    rw [e1, if_neg (by omega)]
    have e2 : cntN xs.length w p = 0 := Nat.div_eq_of_lt (by omega)
    rw [e2]
    rfl
end Pv

namespace Pv
open PySem L2 PySem.Spec PyProof.Rows HT
/-! ### t[::-1] of a tuple -/
theorem rev_places (items : Array Value) : (List.range items.size).filterMap (fun (k : Nat) => items[((items.size : Int) - 1 + (k : Int) * -1).toNat]?) = items.toList.reverse := by
  apply List.ext_getElem?
  intro i
  have key : ∀ n, n ≤ items.size → (List.range n).filterMap (fun (k : Nat) => items[((items.size : Int) - 1 + (k : Int) * -1).toNat]?) = items.toList.reverse.take n := by
    intro n
    induction n with
    | zero => intro _; rfl
    | succ n ih =>
      intro h
      have h1 : n < items.toList.reverse.length := by simp; omega
      rw [List.range_succ, List.filterMap_append, ih (by omega), List.take_add_one, List.getElem?_eq_getElem h1]
      congr 1
      have e : ((items.size : Int) - 1 + (n : Int) * -1).toNat = items.size - 1 - n := by omega
      rw [List.filterMap_cons, List.filterMap_nil, e]
      have h2 : items.size - 1 - n < items.size := by omega
      rw [Array.getElem?_eq_getElem h2]
      simp
  rw [key items.size (Nat.le_refl _), List.take_of_length_le (by simp)]
section
variable {prog : Program} {w : World} {A : Around} {E : Value → Shared → Prop} {s : Shared}
theorem applied_rev {sl : Addr} {vl vu vs : Value} {n : Nat} {Q : Int × Int × Nat → Shared → Prop} (hs : s.heap.IsSliceOf sl vl vu vs) (pl : IsPart vl none) (pu : IsPart vu none) (ps : IsPart vs (some (-1))) (h : Q ((n : Int) - 1, -1, n) s) :
    wpAny (model prog w) A (Builtin.Slice.sliceApplied (.ref sl) (pure (n : Int))) Q E s := by
  obtain ⟨o, ho, hc, hd⟩ := id hs
  unfold Builtin.Slice.sliceApplied Builtin.Slice.sliceFields
  refine wpAny_bind (wpAny_bind (wpAny_field ho hd (x := vl) rfl (wpAny_bind (wpAny_field ho hd (x := vu) rfl (wpAny_bind (wpAny_field ho hd (x := vs) rfl (wpAny_pure ?_)))))))
  refine wpAny_bind (slicePart_ ps ?_)
  show wpAny _ _ (if ((-1 : Int) == 0) = true then _ else _) _ _ s
  rw [if_neg (by decide)]
  refine wpAny_bind (slicePart_ pl ?_)
  refine wpAny_bind (slicePart_ pu ?_)
  refine wpAny_bind (wpAny_pure ?_)
  have e1 : Builtin.Slice.sliceAdjust none none (-1) (n : Int) = ((n : Int) - 1, -1) := rfl
  have e2 : Builtin.Slice.slicePlaces ((n : Int) - 1) (-1) (-1) = n := by
    unfold Builtin.Slice.slicePlaces
    simp
    try omega
  show wpAny _ _ (match Builtin.Slice.sliceAdjust none none (-1) (n : Int) with | (lo, hi) => pure (lo, (-1 : Int), Builtin.Slice.slicePlaces lo hi (-1))) _ _ s
  rw [e1]
  show wpAny _ _ (pure ((n : Int) - 1, (-1 : Int), Builtin.Slice.slicePlaces ((n : Int) - 1) (-1) (-1))) _ _ s
  rw [e2]
  exact wpAny_pure h
theorem item_tup_rev {t sl : Addr} {items : Array Value} {vl vu vs : Value} {Q : Value → Shared → Prop} (ht : IsTup s.heap t items) (hs : s.heap.IsSliceOf sl vl vu vs) (pl : IsPart vl none) (pu : IsPart vu none) (ps : IsPart vs (some (-1)))
    (h : Q (.ref s.heap.objs.size) { s with heap := s.heap.push { cls := .type "tuple", data := .seq items.toList.reverse.toArray } }) (hz : items.size ≤ sizeLine) : wpAny (model prog w) A (getItem (.ref t) (.ref sl)) Q E s := by
  have ok : sizeOk (.seq items.toList.reverse.toArray) := by
    show items.toList.reverse.toArray.size ≤ sizeLine
    simpa using hz
  obtain ⟨o, ho, hc, hd⟩ := id hs
  have isSl : s.TypeIs (.ref sl) "slice" := ⟨o, ho, hc⟩
  unfold getItem
  try with_reducible refine wpAny_holding ?_
  first
    | refine wpAny_bind (wpAny_pure ?_)
    | skip
  refine wpAny_bind (wpAny_sequenceKey ht.typeIs (by decide) ?_)
  refine wpAny_bind (wpAny_callSpecial?_slot (name := Str.ofString "__getitem__") ht.typeIs slot_tuple_getitem (wpAny_call_entry slot_tuple_getitem ht.typeIs entry_tuple_getitem ?_ (args_tuple_getitem _ _)))
  show wpAny (model _ _) _ (Builtin.Tuple.tupleItemsOf (Value.ref t) >>= _) _ _ _
  refine wpAny_bind (tupleItemsOf_ ht ?_)
  refine wpAny_bind (wpAny_typeOf isSl ?_)
  rw [if_pos (by decide)]
  refine wpAny_bind (applied_rev hs pl pu ps ?_)
  have no : ¬ (((items.size : Int) - 1 == 0 && (-1 : Int) == 1 && items.size == items.size) = true) := by
    intro z
    rw [Bool.and_eq_true, Bool.and_eq_true] at z
    exact absurd z.1.2 (by decide)
  show wpAny (model _ _) _ (if ((items.size : Int) - 1 == 0 && (-1 : Int) == 1 && items.size == items.size) = true then _ else _) _ _ s
  rw [if_neg no]
  rw [rev_places]
  first
    | exact wpAny_bind (m := Builtin.Tuple.tupleExact items.toList.reverse.toArray) (wpAny_newObj_type (wpAny_pure ⟨_, rfl, wpAny_pure h⟩) ok)
    | exact wpAny_bind (wpAny_bind (m := Builtin.Tuple.tupleExact items.toList.reverse.toArray) (wpAny_newObj_type (wpAny_pure (wpAny_pure ⟨_, rfl, wpAny_pure h⟩)) ok))
    | exact wpAny_bind (wpAny_bind (m := Builtin.Tuple.tupleExact items.toList.reverse.toArray) (wpAny_newObj_type (wpAny_pure ⟨_, rfl, wpAny_pure h⟩) ok))
end
def tRevT (K : PySem.W.Frag) (te : TE) : TE := fun σ H Q => te σ H fun x H1 => ∃ a ys, x = .ref a ∧ ((SqL K H1 a ys ∧ ∀ p, H1 p = none → Q (.ref p) (upd H1 p (.lst ys.reverse))) ∨ SqT K H1 a ys ∧ ∀ p, H1 p = none → Q (.ref p) (upd H1 p (.tup ys.reverse)))
section
variable {X : Cx} {W : WX} {K : PySem.W.Frag} {e : Expr} {te : TE} {xa : XE} {j : Nat} {p1 p2 p3 p4 : Pos}
theorem pe_revT (ha : PE X e te) : PE X (.Subscript e (.Slice none none (some (.UnaryOp .USub (.Constant (.int 1) j p1) p2)) p3) p4) (tRevT X.K te) := by
  constructor
  intro pins s σ H Q inv hT
  have part : PO X (some (.UnaryOp .USub (.Constant (.int 1) j p1) p2)) (tPart (tUn (rU fun i => .int (-i)) (tC (.int 1)))) := po_some (pe_un un_neg pe_int)
  refine Subscript_ (thn (ha.run pins s σ H _ inv hT) ?_)
  rintro v s1 ⟨x, H1, inv1, rx, a, ys, rfl, q1⟩
  cases rx
  refine wpAny_Slice (thn (po_none.run pins s1 σ H1 (fun o H2 => o = none ∧ H2 = H1) inv1 ⟨rfl, rfl⟩) ?_)
  rintro vl s2 ⟨l, H2, inv2, pl, rfl, rfl⟩
  refine thn (po_none.run pins s2 σ H2 (fun o H3 => o = none ∧ H3 = H2) inv2 ⟨rfl, rfl⟩) ?_
  rintro vu s3 ⟨u, H3, inv3, pu, rfl, rfl⟩
  refine thn (part.run pins s3 σ H3 (fun o H4 => o = some (-1) ∧ H4 = H3) inv3 ⟨1, rfl, -1, rfl, rfl, rfl⟩) ?_
  rintro vs s4 ⟨o, H4, inv4, ps, rfl, rfl⟩
  have inv5 : Inv X pins σ H4 { s4 with heap := s4.heap.push { cls := .type "slice", data := .fields #[vl, vu, vs] } } := inv4.kept (t' := s4.toks) fun _ _ z => Heap.get?_push_of_some _ z
  show wpAny (model X.prog X.w) X.A (subscriptTail e (.Slice none none (some (.UnaryOp .USub (.Constant (.int 1) j p1) p2)) p3) (.ref a) (.ref s4.heap.objs.size)) (EP X pins σ Q) X.xe _
  rcases q1 with ⟨hx, q⟩ | ⟨hx, q⟩
  · obtain ⟨its, rv, plain, hz⟩ := inv5.list hx
    have hlen := rv.length
    refine tail_any (ops := [.ref a, .ref s4.heap.objs.size]) plain.isList.typeIs PySem.slot_list_getitem.lookup ?_ (by with_unfolding_all rfl)
    have h0 : (some (-1) : Option Int) ≠ some 0 := by decide
    refine wpAny_getItem_list_slice plain.isList (Heap.IsSliceOf.new _ vl vu vs) pl pu ps h0 ?_ (by rw [List.size_toArray]; omega)
    rw [PySem.W.krv_pick]
    refine ⟨.ref _, _, inv5.laid (t' := s4.toks) (o := .lst ys.reverse) (fun _ _ z => Heap.get?_push_of_some _ z) (Nat.le_refl _) ?_, rfl, q _ (inv5.hok.fresh (Nat.le_refl _))⟩
    exact ⟨by rw [List.length_reverse]; exact hz, _, 0, rv.reverse, Heap.get?_push_size _ rfl⟩
  · obtain ⟨its, rv, plain, hz⟩ := inv5.tuple hx
    have hlen := rv.length
    refine tail_any (ops := [.ref a, .ref s4.heap.objs.size]) plain.typeIs PyProof.Rows.slot_tuple_getitem.lookup ?_ (by with_unfolding_all rfl)
    refine item_tup_rev plain (Heap.IsSliceOf.new _ vl vu vs) pl pu ps ?_ (by rw [List.size_toArray]; omega)
    refine ⟨.ref _, _, inv5.laid (t' := s4.toks) (o := .tup ys.reverse) (fun _ _ z => Heap.get?_push_of_some _ z) (Nat.le_refl _) ?_, rfl, q _ (inv5.hok.fresh (Nat.le_refl _))⟩
    exact ⟨by rw [List.length_reverse]; exact hz, _, rv.reverse, IsTup.new _ _⟩
def xRevM (xa : XE) : XE := fun e q ex => xa e (fun r => match r.d with
  | .list ds => q (.nw ds.reverse)
  | .tuple ds => q (.va (.tuple ds.reverse))
  | _ => False) ex
theorem ve_revM (ha : VE X W e te xa) : VE X W (.Subscript e (.Slice none none (some (.UnaryOp .USub (.Constant (.int 1) j p1) p2)) p3) p4) (tRevT X.K te) (xRevM xa) := ⟨pe_revT ha.pe, by
  intro G0 H0 G H σ e Q q ex hs hx hq hw
  refine ha.rf G0 H0 G H σ e _ _ ex hs hx (fun G1 H1 v r1 s1 g1 rr1 k1 => ?_) hw
  generalize hd : r1.d = d at k1
  cases d <;> first
    | exact False.elim k1
    | skip
  · obtain ⟨p, ys, rfl, h1, h2⟩ := rr1.list s1 hd
    exact ⟨p, ys, rfl, .inl ⟨SqL.of h1, fun l hl => hq G1 _ _ (.nw _) (same_out s1 (s1.free hl)) (g1.trans (Grow.out hl)) ⟨l, _, rfl, g1.hh.free hl, upd_same, s1.free hl, h2.reverse⟩ k1⟩⟩
  · obtain ⟨p, ys, rfl, h1, h2⟩ := rr1.tuple hd
    refine ⟨p, ys, rfl, .inr ⟨sqt_same s1 h1, fun l hl => ?_⟩⟩
    have gb : Grow G1 H1 (upd G1 l (.tup ys.reverse)) (upd H1 l (.tup ys.reverse)) := Grow.both s1 hl
    exact hq _ _ _ (.va _) (same_both s1) (g1.trans gb) (.tup (.inl (.inl upd_same)) (h2.reverse.mono gb.gg _ _)) k1⟩
end
end Pv

namespace Pv
open PySem L2 PySem.Spec PyProof.Rows
/-! ### < and >= of tuples of ints -/
theorem lex_ge (ns ms : List Int) : ∀ k i, i + k = min ns.length ms.length → Ob.lexAt (fun j => decide (ns.getD j 0 = ms.getD j 0)) (fun j => decide (ms.getD j 0 ≤ ns.getD j 0)) (decide (ns.length ≥ ms.length)) i k = !HT.lexLt (ns.drop i) (ms.drop i)
  | 0, i, h => by
    rw [Ob.lexAt_zero]
    by_cases h1 : i < ns.length
    · have h2 : ms.drop i = [] := List.drop_of_length_le (by omega)
      rw [h2, List.drop_eq_getElem_cons h1, decide_eq_true (by omega)]
      rfl
    · have h2 : ns.drop i = [] := List.drop_of_length_le (by omega)
      rw [h2]
      by_cases h3 : i < ms.length
      · rw [List.drop_eq_getElem_cons h3, decide_eq_false (by omega)]
        rfl
      · rw [List.drop_of_length_le (by omega), decide_eq_true (by omega)]
        rfl
  | k + 1, i, h => by
    have h1 : i < ns.length := by omega
    have h2 : i < ms.length := by omega
    rw [Ob.lexAt_succ, lex_ge ns ms k (i + 1) (by omega), List.drop_eq_getElem_cons h1, List.drop_eq_getElem_cons h2, HT.lexLt_cons]
    have e1 : ns.getD i 0 = ns[i] := by
      rw [List.getD_eq_getElem?_getD, List.getElem?_eq_getElem h1]
      rfl
    have e2 : ms.getD i 0 = ms[i] := by
      rw [List.getD_eq_getElem?_getD, List.getElem?_eq_getElem h2]
      rfl
    rw [e1, e2]
    by_cases h3 : ns[i] = ms[i]
    · rw [if_pos (decide_eq_true h3), if_pos h3]
    · rw [if_neg (by rw [decide_eq_true_iff]; exact h3), if_neg h3]
      by_cases h4 : ms[i] ≤ ns[i]
      · rw [decide_eq_true h4, decide_eq_false (by omega)]
        rfl
      · rw [decide_eq_false h4, decide_eq_true (by omega)]
        rfl
def rGeT (K : PySem.W.Frag) : R2 := fun x y H Q => ∃ (a b : Addr) (ns ms : List Int), x = .ref a ∧ y = .ref b ∧ SqT K H a (ns.map V.int) ∧ SqT K H b (ms.map V.int) ∧ Q (.bl (!HT.lexLt ns ms)) H
theorem op_geT {X : Cx} (hu : X.A.units < cLine) : OpR X (compareOp .GtE) (rGeT X.K) := by
  intro pins s σ H x y v u Q inv rx ry hh
  obtain ⟨a, b, ns, ms, rfl, rfl, ha, hb, fin⟩ := hh
  cases rx
  cases ry
  obtain ⟨xs, vx, tx, _⟩ := inv.tuple ha
  obtain ⟨ys, vy, ty, _⟩ := inv.tuple hb
  have ix : IntsAre xs ns := Vals.ints vx
  have iy : IntsAre ys ms := Vals.ints vy
  have lx : xs.toArray.size = ns.length := by
    rw [List.size_toArray]
    exact ix.length
  have ly : ys.toArray.size = ms.length := by
    rw [List.size_toArray]
    exact iy.length
  have gx : ∀ j (h1 : j < xs.toArray.size), ∃ t, xs.toArray[j] = .int (ns.getD j 0) t := fun j h1 => PyProof.Rows.IntsAre.int_at ix _ _ (by
    simp at h1
    simp [h1])
  have gy : ∀ j (h1 : j < ys.toArray.size), ∃ t, ys.toArray[j] = .int (ms.getD j 0) t := fun j h1 => PyProof.Rows.IntsAre.int_at iy _ _ (by
    simp at h1
    simp [h1])
  have R := Ob.RcOp.tuples_ge (A := X.A) (s := s) (e := fun j => decide (ns.getD j 0 = ms.getD j 0)) (r := fun j => decide (ms.getD j 0 ≤ ns.getD j 0)) tx ty hu
    (fun j h1 h2 => by
      obtain ⟨t, e1⟩ := gx j h1
      obtain ⟨t', e2⟩ := gy j h2
      rw [e1, e2]
      have hz : (ns.getD j 0 == ms.getD j 0) = decide (ns.getD j 0 = ms.getD j 0) := by
        by_cases hq : ns.getD j 0 = ms.getD j 0
        · rw [decide_eq_true hq]
          exact beq_iff_eq.mpr hq
        · rw [decide_eq_false hq]
          exact beq_eq_false_iff_ne.mpr hq
      rw [← hz]
      exact SeqAt.EqAt.int_int _ _ _ _)
    (fun j h1 h2 _ => by
      obtain ⟨t, e1⟩ := gx j h1
      obtain ⟨t', e2⟩ := gy j h2
      rw [e1, e2]
      exact Ob.RcOp.ge_int _ _ _ _)
  rw [lx, ly, lex_ge ns ms _ 0 (by omega)] at R
  exact R X.prog X.w X.xe (EP X pins σ Q) ⟨.bl _, H, inv, rfl, fin⟩
def tupsY (f : List Int → List Int → Bool) (a b : PyData) (q : PyData → Prop) : Prop := ∃ ns ms : List Int, a = .tuple (ns.map .int) ∧ b = .tuple (ms.map .int) ∧ q (.bool (f ns ms))
def yLtM : X2 := fun a b q => match a, b with
  | .int i, .int j => q (.bool (decide (i < j)))
  | a, b => tupsY HT.lexLt a b q
def yGeM : X2 := fun a b q => match a, b with
  | .int i, .int j => q (.bool (decide (j ≤ i)))
  | a, b => tupsY (fun ns ms => !HT.lexLt ns ms) a b q
theorem tup_rp {K : PySem.W.Frag} {G : Hp} {v : V} {ns : List Int} (h : Rp K G v (.tuple (ns.map .int))) : ∃ a, v = .ref a ∧ SqT K G a (ns.map V.int) := by
  cases h with
  | tup h1 h2 =>
    rw [h2.ints] at h1
    exact ⟨_, rfl, h1⟩
theorem r2_ltM {K : PySem.W.Frag} : Ref2 K (fun x y H Q => rI0 (fun i j => .bl (decide (i < j))) x y H Q ∨ rLtT K x y H Q) yLtM := fun H v w a b Q q ha hb hx hq => by
  unfold yLtM at hx
  split at hx
  · obtain rfl := rp_int ha
    obtain rfl := rp_int hb
    exact .inl ⟨_, _, rfl, rfl, hq _ _ (fun _ => .bl _) hx⟩
  · obtain ⟨ns, ms, rfl, rfl, k⟩ := hx
    obtain ⟨p, rfl, h1⟩ := tup_rp ha
    obtain ⟨p', rfl, h2⟩ := tup_rp hb
    exact .inr ⟨p, p', ns, ms, rfl, rfl, h1, h2, hq _ _ (fun _ => .bl _) k⟩
theorem r2_geM {K : PySem.W.Frag} : Ref2 K (fun x y H Q => rI0 (fun i j => .bl (decide (j ≤ i))) x y H Q ∨ rGeT K x y H Q) yGeM := fun H v w a b Q q ha hb hx hq => by
  unfold yGeM at hx
  split at hx
  · obtain rfl := rp_int ha
    obtain rfl := rp_int hb
    exact .inl ⟨_, _, rfl, rfl, hq _ _ (fun _ => .bl _) hx⟩
  · obtain ⟨ns, ms, rfl, rfl, k⟩ := hx
    obtain ⟨p, rfl, h1⟩ := tup_rp ha
    obtain ⟨p', rfl, h2⟩ := tup_rp hb
    exact .inr ⟨p, p', ns, ms, rfl, rfl, h1, h2, hq _ _ (fun _ => .bl _) k⟩
/-! ### index of a text in a text -/
section
variable {X : Cx} {W : WX} {a o : Expr} {te to : TE} {xa xo : XE} {pos apos : Pos}
def ySIndex (a : PyData) (ds : List PyData) (q : Rs → Prop) : Prop := match a, ds with
  | .str z, [.str b] => ∃ (i : Nat) (rest : List Nat), Builtin.Str.occurrences z b 0 z.length 1 = i :: rest ∧ q (.va (.int (i : Nat)))
  | _, _ => False
theorem ve_sindex (ho : VE X W o to xo) (ha : VE X W a te xa) (hs : starEach [a] X.env = [(false, eval a X.env)] := by rfl) (hbase : attributeBase o "index" X.env (eval o X.env) = eval o X.env := by rfl) (hline : (apos.endLine == pos.line) = true := by rfl) :
    VE X W (.Call (.Attribute o "index" apos) [a] [] pos) (tM1 (fun x xs H Q => ∃ a b i rest, x = .str a ∧ xs = [.str b] ∧ Builtin.Str.occurrences a b 0 a.length 1 = i :: rest ∧ Q (.int (i : Nat)) H) to te) (xM1 ySIndex xo xa) :=
  ve_m1 F.slot_str_index F.type_str_index mt_sindex (fun d hd ds q h => by
    unfold ySIndex at h
    split at h
    · exact hd _ rfl
    · exact h.elim) (fun G H v vs d ds Q q s rv rs h hq => by
    unfold ySIndex at h
    split at h
    · cases rs with
      | cons r1 rs =>
        cases rs
        obtain rfl := rp_str rv
        obtain rfl := rp_str r1
        obtain ⟨i, rest, h1, k⟩ := h
        exact ⟨_, _, i, rest, rfl, rfl, h1, hq G H _ (.va _) s .refl (.int _) k⟩
    · exact h.elim) ho ha hs hbase hline
end
end Pv

/-! PvW: an exception of a class whose __init__ says super().__init__("..") and keeps its arguments, made. -/
namespace Pv
open PySem PySem.W PySem.Calls PyProof.Rows
abbrev veNew : String := "ValueError.__new__"
abbrev veIni : String := "ValueError.__init__"
/-- self.f = f, .. -/
inductive Sto : List Stmt → List Str → Prop
  | nil : Sto [] []
  | cons {f : Str} {p1 p2 p3 p4 : Pos} {rest : List Stmt} {fs : List Str} : Sto rest fs → Sto (.Assign [.Attribute (.Name "self" p1) f p2] (.Name f p3) p4 :: rest) (f :: fs)

section
variable {prog : Program} {w : World} {A : Around} {E : Value → Shared → Prop} {h : Heap} {g : Array GenState} {d : Drawn} {t : Nat} {os : OsState}
variable {nm q : Str} {C N : Addr} {bs bm : List Value} {sn : List Str} {sub : List Value} {ab : Bool} {col : Option Bool} {dd : Option Addr} {k0 k1 k2 k3 k5 : Option Value}
/-- the bound __init__ of ValueError, called -/
theorem mwV_call {u e t0 : Addr} {rest : List Value} {Q : Value → Shared → Prop}
    (hC : h.get? C = some (excClassObj nm q C N bs bm true sn sub ab col dd k0 k1 k2 k3 k5 veNew)) (hx : h.get? e = some (HandSPX.excO C t0)) (hm : h.get? u = some (kxs_mw veIni e)) (hl : rest.length ≤ sizeLine)
    (hq : ∀ h' t1, (∀ b o, b ≠ e → h.get? b = some o → h'.get? b = some o) → h'.get? e = some (HandSPX.excO C t1) → Q .none ⟨h', g, d, t, os⟩) : wpAny (model prog w) A (call (.ref u) rest) Q E ⟨h, g, d, t, os⟩ := by
  refine wpAny_call (codeAny_of_tree ?_)
  show wpAny (model prog w) A.in1 (callAny (.ref u) { pos := rest, kw := [] }) _ _ _
  unfold callAny
  refine wpAny_bind (wpAny_load hm ?_)
  have b1 : (Value.type "method-wrapper" == Value.type "method" || Value.type "method-wrapper" == Value.type "builtin_function_or_method" || Value.type "method-wrapper" == Value.type "method-wrapper") = true := by decide
  simp only [kxs_mw, b1, if_true]
  refine KFB.if_so (by decide) (wpAny_bind (check_bound_init F.excBase_ValueError.toExcCallFacts hC hx rfl (wpAny_bind (wpAny_pure (wpAny_pure ⟨plainId_quiet F.excBase_ValueError.init.plain _, codeAny_builtin F.excBase_ValueError.initEntry ?_⟩)))))
  exact exc_init_tree (cls := .ref C) (t0 := t0) (dv := none) (c2 := .none) (c3 := .none) (b4 := .bool false) hx hl fun h' k e' _ => hq h' h.objs.size k e'
end

section
variable {prog : Program} {w : World} {A : Around} {E : Value → Shared → Prop} {h0 : Heap} {g : Array GenState} {d : Drawn} {t : Nat} {os : OsState} {K : Frag} {mg : Str → Option Value}
variable {C cc cda fI L e t0 : Addr} {qual tx : Str} {scope : Scope} {m : Str → Option Value}
/-- super().__init__("..") -/
theorem sup_run {body : List Stmt} {oc : Value} {od : Option Addr} {osl : Array (Option Value)} {fd : FuncData} {ar : Arg} {vs : Array Value} {file : Str} {tf : Tok} {c1 c2 : Value} {o1 o2 : Option Addr} {s1 s2 : Array (Option Value)}
    {nm q : Str} {N : Addr} {bs bm : List Value} {sn : List Str} {sub : List Value} {ab : Bool} {col : Option Bool} {dd : Option Addr} {k0 k1 k2 k3 k5 : Option Value} {p0 p1 p2 p3 p4 p5 : Pos} {j : Nat} {mb : Str → Option Value} {Q : Flow → Shared → Prop}
    (X : K.In h0) (he : h0.get? e = some (HandSPX.excO C t0)) (hns : h0.Ns L m) (hv : m ar.arg = some (.ref e))
    (hC : K.lookup C = some (excClassObj nm q C N bs bm true sn sub ab col dd k0 k1 k2 k3 k5 veNew)) (hf : K.lookup fI = some ⟨oc, od, .func fd, osl⟩) (hp : (fd.params.posonlyargs ++ fd.params.args).head? = some ar)
    (hcode : K.lookup cda = some ⟨c1, o1, .fields vs, s1⟩) (hvs : vs[2]? = some (.str file tf)) (hfile : ((prog.main.file : Str) == file) = true) (hcell : K.lookup cc = some ⟨c2, o2, .cell (some (.ref C)), s2⟩)
    (hks : scope.names.lookup ("super" : Str) = some .globalImplicit) (hkc : scope.names.lookup ("__class__" : Str) = some .free) (hka : scope.names.lookup ar.arg = some .local) (hk : scope.kind = .function)
    (htop : (prog.main.scope.names.lookup ("super" : Str)).isSome = false) (hg : h0.Ns mainGlobals mg) (hms : mg "super" = none) (hb : h0.Ns builtinsNs mb) (hbs : mb "super" = some (.type "super"))
    (hot : nsIn K cStatics "thirdparty.any" = some none) (hal : alongIn K "__init__" bm = some (some (.builtin veIni))) (hsv : subIn K (.ref C) (.type "ValueError") = some true)
    (hpos : (p2.endLine == p4.line) = true) (hq : ∀ h' t1 tk, (∀ b o, b ≠ e → h0.get? b = some o → h'.get? b = some o) → h'.get? e = some (HandSPX.excO C t1) → Q .next ⟨h', g, d, tk, os⟩) :
    PySem.wpAt (model prog w) A (.func body (ksEnv qual scope L fI (.ref cda) cc)) (exec (.Expr (.Call (.Attribute (.Call (.Name "super" p0) [] [] p1) "__init__" p2) [.Constant (.str tx) j p3] [] p4) p5) (ksEnv qual scope L fI (.ref cda) cc)) Q E ⟨h0, g, d, t, os⟩ := by
  have hCh := X _ _ hC
  have hcl : clsIn K C = some { name := nm, bases := bs, mro := .ref C :: bm, ns := N, qualname := q, hasDict := true, slotNames := sn, subclasses := sub, abstract := ab, collection := col, hasDel := false } := by
    unfold clsIn
    rw [hC]
  have hi : interactive (ksEnv qual scope L fI (.ref cda) cc) = false := by
    unfold interactive
    simp [envX, hk]
  refine ks_wpAt_Expr_any (ks_wpAt_MethodCall (pl := do return (← importBound (.Call (.Name "super" p0) [] [] p1) (ksEnv qual scope L fI (.ref cda) cc)).getD true) ?hh ?he) hi
  case he =>
    show (do
      let ov ← attributeBase (.Call (.Name "super" p0) [] [] p1) "__init__" (ksEnv qual scope L fI (.ref cda) cc) (eval (.Call (.Name "super" p0) [] [] p1) (ksEnv qual scope L fI (.ref cda) cc))
      standAt p2.atName
      methodCall (.Call (.Name "super" p0) [] [] p1) "__init__" p2 p4 (ksEnv qual scope L fI (.ref cda) cc) ov 1 (backTo p4 (starEach [.Constant (.str tx) j p3] (ksEnv qual scope L fI (.ref cda) cc))) []) = _
    have hform : methodCallForm 1 (backTo p4 (starEach [.Constant (.str tx) j p3] (ksEnv qual scope L fI (.ref cda) cc))) [] = true := rfl
    unfold methodCall methodCallPos
    simp only [hform, hpos, calleeOf, Bool.not_true, Bool.false_or, if_true, pure_bind]
  refine ks_wpAt_super_base (env := ksEnv qual scope L fI (.ref cda) cc) hks hkc (by decide) rfl (X _ _ hf) rfl hp rfl (X _ _ hcode) rfl hvs hfile htop ?_
  refine ks_loadName_global hk hks (loadGlobal_builtin (env := ksEnv qual scope L fI (.ref cda) cc) hg hms hb hbs ⟨rfl, ?_⟩)
  refine wpAny_loadName_free hk hkc rfl ⟨_, X _ _ hcell, rfl⟩ ?_
  refine wpAny_loadName_local hk hka hns hv ?_
  refine ks_wpAny_isType_cls hCh rfl ⟨rfl, ?_⟩
  have hself : mroIn K C (.ref C) = some true := by
    unfold mroIn
    rw [hcl, Option.bind_some]
    simp
  refine ks_wpAny_call_super hCh rfl he rfl (fun c z => by cases z) (looks_mroIn X hself) fun h1 e1 k1 => ?_
  have X1 : K.In h1 := fun b o z => k1 b o (X b o z)
  have hxC : e ≠ C := fun z => by
    rw [z, hCh] at he
    have := Option.some.inj he
    cases congrArg Obj.data this
  have he1 := k1 _ _ he
  have hI : Looks (model prog w) h1 (isInstance (.ref e) (.type "ValueError")) true := (InstAt.type (od := none) ⟨he1, rfl, rfl, trivial⟩).andThen (looks_subIn X1 hsv)
  refine kxs_getMethod (l₀ := .ref C :: bm) (l := bm) kxs_ValueError e1 (looks_opaque X1 hot) ((looks_clsIn X1 hcl).andThen .now) (by simp) X1 hal hI hxC (by decide) ?_
  refine kxs_callWith (i := veIni) (x := e) rfl (evalArgs_plain (Calls.spliced_cons (Calls.Constant_str (pos := p3) (k := j) (Calls.spliced_nil ⟨?_, ?_⟩))))
  · exact Heap.get?_push_size _ rfl
  · have he2 : (h1.push (kxs_mw veIni e)).get? e = some (HandSPX.excO C t0) := Heap.get?_push_of_some _ he1
    refine mwV_call (Heap.get?_push_of_some _ (X1 _ _ hC)) he2 (Heap.get?_push_size _ rfl) (by rw [sizeLine_eq]; simp) fun h' t1 k e' => ?_
    exact hq h' t1 _ (fun b o hb z => k b o hb (Heap.get?_push_of_some _ (k1 b o z))) e'
end

theorem look_put {f y : Str} {v : Value} {fs : List (Str × Value)} : ((f, v) :: fs).lookup y = if y = f then some v else fs.lookup y := by
  by_cases h : y = f
  · subst h
    simp [List.lookup]
  · have e : (y == f) = false := by simpa using h
    rw [if_neg h]
    simp [List.lookup, e]
theorem look_mem : ∀ {l : List (Str × Value)} {k : Str} {v : Value}, (l.map (·.1)).Nodup → (k, v) ∈ l → l.lookup k = some v
  | [], _, _, _, hm => by cases hm
  | (k', v') :: l, k, v, nd, hm => by
    rw [List.map_cons, List.nodup_cons] at nd
    rw [look_put]
    rcases List.mem_cons.mp hm with z | z
    · cases z
      rw [if_pos rfl]
    · have hn : k ≠ k' := fun y => nd.1 (List.mem_map.mpr ⟨_, z, y⟩)
      rw [if_neg hn]
      exact look_mem nd.2 z
theorem look_in : ∀ {l : List (Str × Value)} {k : Str} {v : Value}, l.lookup k = some v → k ∈ l.map (·.1)
  | [], _, _, h => by cases h
  | (k', v') :: l, k, v, h => by
    rw [look_put] at h
    by_cases e : k = k'
    · rw [e]
      exact List.mem_cons_self ..
    · rw [if_neg e] at h
      exact List.mem_cons_of_mem _ (look_in h)
theorem within_look (l : List (Str × Value)) : Within (fun y => l.lookup y) (l.map (·.1)) := fun y hy => by
  cases h : l.lookup y with
  | none => exact absurd h hy
  | some v => exact look_in h
/-- what stands of the exception that is being made -/
def XoSt (h0 h : Heap) (e C t1 : Addr) (done : List (Str × Value)) (od : Option Addr) : Prop :=
  h.get? e = some ({ cls := .ref C, dict := od, data := .fields #[.ref t1, .none, .none, .none, .bool false, .none] } : Obj) ∧ match od with
  | none => done = []
  | some dx => h0.get? dx = none ∧ @LT.lt Nat _ e dx ∧ h.Ns1 dx fun y => done.lookup y
section
variable {prog : Program} {w : World} {A : Around} {E : Value → Shared → Prop} {h0 : Heap} {g : Array GenState} {d : Drawn} {os : OsState} {K : Frag} {C e t1 : Addr} {m : Str → Option Value} {env : Env} {val : Str → Value} {Q : Flow → Shared → Prop}
theorem sto_run (T : L2.OexC K C) (X : K.In h0) (hns : h0.Ns env.locals m) (hne : env.locals ≠ e) (hk : env.scope.kind = .function) (hs : env.kindOf "self" = some .local) (hv : m "self" = some (.ref e)) (hCe : C ≠ e) (hKe : ∀ o, K.lookup e ≠ some o) :
    ∀ {body : List Stmt} {fs : List Str}, Sto body fs → (∀ f ∈ fs, env.kindOf f = some .local ∧ (f == ("__debug__" : Str)) = false ∧ findIn K (.ref C) f = some none ∧ m f = some (val f)) →
    ∀ {h : Heap} {t : Nat} {done : List (Str × Value)} {od : Option Addr}, (∀ b o, b ≠ e → h0.get? b = some o → h.get? b = some o) → XoSt h0 h e C t1 done od → done.length + fs.length ≤ 100 → (fs = [] → od ≠ none) →
      (∀ h' t' dx, (∀ b o, b ≠ e → h0.get? b = some o → h'.get? b = some o) → XoSt h0 h' e C t1 ((fs.map fun f => (f, val f)).reverse ++ done) (some dx) → Q .next ⟨h', g, d, t', os⟩) →
      wpAny (model prog w) A (execs body env) Q E ⟨h, g, d, t, os⟩
  | _, _, .nil, _, h, t, done, od, keep, st, _, hnz, hq => by
    cases od with
    | none => exact absurd rfl (hnz rfl)
    | some dx => exact wpAny_execs_nil (hq h t dx keep st)
  | _, _, .cons (f := f) (p1 := p1) (p2 := p2) (p3 := p3) (p4 := p4) (rest := rest) (fs := fs) S, hloc, h, t, done, od, keep, st, hl, hnz, hq => by
    obtain ⟨f1, f2, f3, f4⟩ := hloc f (List.mem_cons_self ..)
    have hnh : h.Ns env.locals m := by
      obtain ⟨oL, es, ep, hoL, r⟩ := hns
      exact ⟨oL, es, ep, keep _ _ hne hoL, r⟩
    have Xh : K.In h := fun b o z => keep b o (fun y => hKe o (y ▸ z)) (X b o z)
    obtain ⟨nm, q, N, bs, bm, sn, sub, ab, col, dd, k0, k1, k2, k3, k5, hC, hbm⟩ := T.cls
    have hcl : clsIn K C = some { name := nm, bases := bs, mro := .ref C :: bm, ns := N, qualname := q, hasDict := true, slotNames := sn, subclasses := sub, abstract := ab, collection := col, hasDel := false } := by
      unfold clsIn
      rw [hC]
    obtain ⟨he, hd⟩ := st
    have hlen : done.length + fs.length + 1 ≤ 100 := by simpa [Nat.add_assoc] using hl
    refine wpAny_execs_cons (plainObj_wpAny_Assign_Attribute (PySem.ESX.ldL hnh f4 (PySem.ESX.ldL hnh hv ?_ hk hs) hk f1 f2) rfl)
    have step : ∀ h' t' dx, (∀ b o, b ≠ e → h0.get? b = some o → h'.get? b = some o) → XoSt h0 h' e C t1 ((f, val f) :: done) (some dx) → wpAny (model prog w) A (execs rest env) Q E ⟨h', g, d, t', os⟩ := fun h' t' dx keep' st' => by
      refine sto_run T X hns hne hk hs hv hCe hKe S (fun z hz => hloc z (List.mem_cons_of_mem _ hz)) keep' st' (by rw [List.length_cons]; omega) (fun _ z => by cases z) fun h2 t2 dx2 k2 st2 => ?_
      refine hq h2 t2 dx2 k2 ?_
      have e1 : ((f :: fs).map fun f => (f, val f)).reverse ++ done = (fs.map fun f => (f, val f)).reverse ++ (f, val f) :: done := by simp
      rw [e1]
      exact st2
    cases od with
    | none =>
      have hd' : done = [] := hd
      subst hd'
      refine set_plain Xh (ox := { cls := .ref C, data := .fields _ }) (od := none) ⟨he, rfl, rfl, trivial⟩ T.sa (HandSPX.exc_osa Xh he hcl (show HandSPX.refsVE (.ref C :: bm) = true from hbm) rfl f3 fun h' tk' dx k dn dne hx hn => ?_)
      have h0n : h0.get? dx = none := by
        cases z : h0.get? dx with
        | none => rfl
        | some o =>
          exact absurd (Nat.lt_of_lt_of_le (Heap.lt_size (keep dx o dne z)) dn) (Nat.lt_irrefl _)
      refine step h' tk' dx (fun b o hb z => k b o hb (keep b o hb z)) ⟨hx, h0n, Nat.lt_of_lt_of_le (Heap.lt_size he) dn, ?_⟩
      have e1 : (fun y => ([(f, val f)] : List (Str × Value)).lookup y) = fun y => if y = f then some (val f) else none := by
        funext y
        exact look_put
      rw [e1]
      exact hn
    | some dx =>
      obtain ⟨h0n, dne, hn⟩ := hd
      obtain ⟨oD, esD, epD, hoD, hdD, hcD⟩ := hn.count (within_look done)
      refine set_plain Xh (ox := { cls := .ref C, dict := some dx, data := .fields _ }) (od := some oD) ⟨he, rfl, rfl, hoD⟩ T.sa (PySem.OEX.osa_old Xh he hn (within_look done) (by rw [List.length_map]; omega) hcl (show HandSPX.refsVE (.ref C :: bm) = true from hbm) rfl f3 fun h' tk' k hn' => ?_)
      refine step h' tk' dx (fun b o hb z => k b o (fun y => by rw [y, h0n] at z; cases z) (keep b o hb z)) ⟨k e _ (Nat.ne_of_lt dne) he, h0n, dne, ?_⟩
      have e1 : (fun y => ((f, val f) :: done).lookup y) = fun y => if y = f then some (val f) else done.lookup y := by
        funext y
        exact look_put
      rw [e1]
      exact hn'
end

/-! ### the class, its __init__ -/
def selfs (ps : List Str) : List Str := "self" :: ps
/-- what the written part says of the class at C and of its __init__ -/
structure XcK (P : Program) (K : Frag) (C : Addr) (ps : List Str) : Prop where
  T : L2.OexC K C
  sv : subIn K (.ref C) (.type "ValueError") = some true
  ot : nsIn K cStatics "thirdparty.any" = some none
  nf : ∀ f ∈ ps, findIn K (.ref C) f = some none ∧ (f == ("__debug__" : Str)) = false
  few : ps.length ≤ 90
  ne : ps ≠ []
  cls : ∃ nm q N bs bm sn sub ab col dd k0 k1 k2 k3 k5, K.lookup C = some (excClassObj nm q C N bs bm true sn sub ab col dd k0 k1 k2 k3 k5 veNew) ∧ HandSPX.refsVE bm = true ∧ alongIn K "__init__" bm = some (some (.builtin veIni))
  ini : ∃ (fI cda cc : Addr) (name qual tx : Str) (params : Arguments) (rest : List Stmt) (scope : Scope) (dV kV doc pm ct oc c1 c2 : Value) (an od o1 o2 : Option Addr) (osl s1 s2 : Array (Option Value)) (p0 p1 p2 p3 p4 p5 : Pos) (j : Nat) (ar : Arg) (vs : Array Value) (file : Str) (tf : Tok),
    findIn K (.ref C) "__init__" = some (some (.ref fI)) ∧ typeIn K (.ref fI) = some (.type "function") ∧
    K.lookup fI = some ⟨oc, od, .func (ksFn name qual params (.Expr (.Call (.Attribute (.Call (.Name "super" p0) [] [] p1) "__init__" p2) [.Constant (.str tx) j p3] [] p4) p5 :: rest) scope dV kV doc pm an (.ref cda) ct cc), osl⟩ ∧
    codeIn K (.ref cda) qual = true ∧ K.lookup cda = some ⟨c1, o1, .fields vs, s1⟩ ∧ vs[2]? = some (.str file tf) ∧ ((P.main.file : Str) == file) = true ∧ K.lookup cc = some ⟨c2, o2, .cell (some (.ref C)), s2⟩ ∧
    (P.main.scope.names.lookup ("super" : Str)).isSome = false ∧ (params.posonlyargs ++ params.args).head? = some ar ∧ ar.arg = "self" ∧ (p2.endLine == p4.line) = true ∧ Sto rest ps ∧
    (∀ us : List Value, us.length = (selfs ps).length → bindArgs (ksFn name qual params (.Expr (.Call (.Attribute (.Call (.Name "super" p0) [] [] p1) "__init__" p2) [.Constant (.str tx) j p3] [] p4) p5 :: rest) scope dV kV doc pm an (.ref cda) ct cc) ⟨us, []⟩ = pure ((selfs ps).zip us)) ∧
    (∀ f ∈ selfs ps, scope.names.lookup f = some .local) ∧ (selfs ps).Nodup ∧ scope.names.lookup ("super" : Str) = some .globalImplicit ∧ scope.names.lookup ("__class__" : Str) = some .free ∧
    (∀ x ∈ scope.names, x.2 ≠ .cell) ∧ scope.isCoroutine = false ∧ scope.isGenerator = false ∧ scope.kind = .function

theorem zip_fst : ∀ {ps : List Str} {us : List Value}, us.length = ps.length → (ps.zip us).map (·.1) = ps
  | [], [], _ => rfl
  | p :: ps, u :: us, h => by
    rw [List.zip_cons_cons, List.map_cons, zip_fst (by simpa using h)]
def valOf (ps : List Str) (us : List Value) (f : Str) : Value := ((ps.zip us).lookup f).getD .none
theorem zip_val {ps : List Str} {us : List Value} (nd : ps.Nodup) (hl : us.length = ps.length) : (ps.map fun f => (f, valOf ps us f)) = ps.zip us := by
  refine List.ext_getElem (by simp [hl]) fun i h1 h2 => ?_
  rw [List.getElem_map, List.getElem_zip]
  have hi : i < ps.length := by simpa using h1
  have hm : (ps[i], us[i]'(hl ▸ hi)) ∈ ps.zip us := List.mem_iff_getElem.mpr ⟨i, h2, by rw [List.getElem_zip]⟩
  unfold valOf
  rw [look_mem (by rw [zip_fst hl]; exact nd) hm]
  rfl
section
variable {prog : Program} {w : World} {A : Around} {R : Result → Shared → Prop} {hp : Heap} {g : Array GenState} {d : Drawn} {t : Nat} {os : OsState} {K : Frag} {mg mb : Str → Option Value} {C fI e t0 : Addr} {ps : List Str} {us : List Value}
theorem ini_run (I : XcK prog K C ps) (hfI : findIn K (.ref C) "__init__" = some (some (.ref fI))) (X : K.In hp) (lim : hp.NoLimit) (hroom : A.depth < recursionLimit) (hg : hp.Ns mainGlobals mg) (hms : mg "super" = none) (hb : hp.Ns builtinsNs mb)
    (hbs : mb "super" = some (.type "super")) (he : hp.get? e = some (HandSPX.excO C t0)) (hKe : ∀ o, K.lookup e ≠ some o) (hl : us.length = ps.length) (hge : mainGlobals ≠ e) (hbe : builtinsNs ≠ e)
    (hq : ∀ h' t' dx t1, (∀ b o, b ≠ e → hp.get? b = some o → h'.get? b = some o) → XoSt hp h' e C t1 (ps.zip us).reverse (some dx) → R (.ok (.ret .none)) ⟨h', g, d, t', os⟩) :
    codeAny (model prog w) A (.call (.ref fI) ⟨.ref e :: us, []⟩) R ⟨hp, g, d, t, os⟩ := by
  obtain ⟨nm, q, N, bs, bm, sn, sub, ab, col, dd, k0, k1, k2, k3, k5, hC, hbm, hal⟩ := I.cls
  obtain ⟨f2, cda, cc, name, qual, tx, params, rest, scope, dV, kV, doc, pm, ct, oc, c1, c2, an, od, o1, o2, osl, s1, s2, p0, p1, p2, p3, p4, p5, j, ar, vs, file, tf, i1, i2, i3, i4, i5, i6, i7, i8, i9, i10, i11, i12, i13, i14, i15, i16, i17, i18, i19, i20, i21, i22⟩ := I.ini
  rw [hfI] at i1
  obtain rfl : fI = f2 := by
    have := Option.some.inj (Option.some.inj i1)
    cases this
    rfl
  have hl2 : (Value.ref e :: us).length = (selfs ps).length := by
    show us.length + 1 = ps.length + 1
    rw [hl]
  have nd2 : ((selfs ps).zip (Value.ref e :: us)).map (·.1) = selfs ps := zip_fst hl2
  refine ks_codeAny_call_defAt (binds := (selfs ps).zip (Value.ref e :: us)) hroom (X _ _ i3) rfl lim (codeRec_of X i4) rfl (BindsTo.of_eq (i14 _ hl2)) i19 (fun x hx => i15 x.1 (by rw [← nd2]; exact List.mem_map_of_mem hx)) (fun h1 hns hk1 => ?_) i20 i21 i22
  have X1 : K.In h1 := fun b o z => hk1 b o (X b o z)
  have he1 := hk1 _ _ he
  have hL : e ≠ hp.objs.size := Nat.ne_of_lt (Heap.lt_size he)
  have ndr : ((((selfs ps).zip (Value.ref e :: us)).reverse).map (·.1)).Nodup := by
    rw [List.map_reverse, nd2]
    exact List.pairwise_reverse.mpr (i16.imp fun z => Ne.symm z)
  have getm : ∀ {k : Str} {v : Value}, (k, v) ∈ (selfs ps).zip (Value.ref e :: us) → (((selfs ps).zip (Value.ref e :: us)).reverse).lookup k = some v := fun hm => look_mem ndr (List.mem_reverse.mpr hm)
  have hself : (((selfs ps).zip (Value.ref e :: us)).reverse).lookup ("self" : Str) = some (.ref e) := getm (List.mem_cons_self ..)
  have hCe : C ≠ e := fun z => hKe _ (by rw [← z]; exact hC)
  have ngs : h1.Ns mainGlobals mg := by
    obtain ⟨oL, es, ep, hoL, r⟩ := hg
    exact ⟨oL, es, ep, hk1 _ _ hoL, r⟩
  have nbs : h1.Ns builtinsNs mb := by
    obtain ⟨oL, es, ep, hoL, r⟩ := hb
    exact ⟨oL, es, ep, hk1 _ _ hoL, r⟩
  refine ks_wpAt_execs_cons (sup_run X1 he1 hns (by rw [i11]; exact hself) hC i3 i10 i5 i6 i7 i8 i17 i18 (by rw [i11]; exact i15 _ (List.mem_cons_self ..)) i22 i9 ngs hms nbs hbs I.ot hal I.sv i12 fun h2 t1 tk k2 e2 => wpAt_of_wpAny ?_)
  have ndp : ps.Nodup := (List.nodup_cons.mp i16).2
  refine sto_run (env := ksEnv qual scope hp.objs.size fI (.ref cda) cc) (t1 := t1) (val := valOf ps us) (h0 := h1) I.T X1 hns (Ne.symm hL) i22 (i15 _ (List.mem_cons_self ..)) hself hCe hKe i13 (fun f hf => ?_) (done := []) (od := none) k2 ⟨e2, rfl⟩ (by have := I.few; rw [List.length_nil]; omega) (fun z => absurd z I.ne) fun h3 t3 dx k3 st => ?_
  · refine ⟨i15 _ (List.mem_cons_of_mem _ hf), (I.nf f hf).2, (I.nf f hf).1, getm ?_⟩
    obtain ⟨i, hi, ei⟩ := List.mem_iff_getElem.mp hf
    have hm : (f, valOf ps us f) ∈ ps.map fun f => (f, valOf ps us f) := List.mem_map.mpr ⟨f, hf, rfl⟩
    rw [zip_val ndp hl] at hm
    exact List.mem_cons_of_mem _ hm
  · rw [zip_val ndp hl, List.append_nil] at st
    refine hq h3 t3 dx t1 (fun b o hb z => k3 b o hb (hk1 b o z)) ⟨st.1, ?_, st.2.2.1, st.2.2.2⟩
    cases z : hp.get? dx with
    | none => rfl
    | some o =>
      have := st.2.1
      rw [hk1 _ _ z] at this
      cases this
end

end Pv
namespace Pv
open PySem PySem.Spec PyProof.Rows L2
theorem pair_app {α β : Type} {F : α → β → Prop} : ∀ {a c : List α} {b d : List β}, Paired F a b → Paired F c d → Paired F (a ++ c) (b ++ d)
  | _, _, _, _, .nil, q => q
  | _, _, _, _, .cons h t, q => .cons h (pair_app t q)
theorem pair_rev {α β : Type} {F : α → β → Prop} : ∀ {a : List α} {b : List β}, Paired F a b → Paired F a.reverse b.reverse
  | _, _, .nil => .nil
  | _, _, .cons h t => by
    rw [List.reverse_cons, List.reverse_cons]
    exact pair_app (pair_rev t) (.cons h .nil)
theorem kv_zip : ∀ {ps : List Str} {vs : List V} {us : List Value}, Vals vs us → KV (ps.zip vs) (ps.zip us)
  | [], _, _, _ => .nil
  | _ :: _, _, _, .nil => .nil
  | _ :: _, _, _, .cons h t => .cons ⟨rfl, h⟩ (kv_zip t)
theorem relO_kv {f : Str} : ∀ {l : List (Str × V)} {l' : List (Str × Value)}, KV l l' → RelO (l.lookup f) (l'.lookup f)
  | _, _, .nil => trivial
  | (k, v) :: l, (k', u) :: l', .cons h t => by
    obtain ⟨e, r⟩ := h
    have e : k = k' := e
    subst e
    rw [lookup_put, look_put]
    by_cases z : f = k
    · rw [if_pos z, if_pos z]
      exact r
    · rw [if_neg z, if_neg z]
      exact relO_kv t
/-- C(e, ..): its fields are its arguments -/
def tMkX (C : Addr) (ps : List Str) (ta : TA) : L2.St → Hp → XK → Prop := fun σ H Q => ta σ H fun vs H1 => vs.length = ps.length ∧ ∀ d, H1 d = none → Q (.ref C) (some d) (upd H1 d (.xd (ps.zip vs).reverse))
theorem pmk_x {X : Cx} {x : Str} {C : Addr} {ps : List Str} {e : Expr} {es : List Expr} {ta : TA} {p pos : Pos} (I : XcK X.prog X.K C ps) (hr : L2H.RoomH 1 X.A) (hg : Gl X x) (hm : X.mg x = some (.ref C)) (hms : X.mg "super" = none) (ha : PA X (e :: es) ta)
    (hdb : (x == ("__debug__" : Str)) = false := by decide) (hst : starEach (e :: es) X.env = (false, eval e X.env) :: starEach es X.env := by rfl) (hpl : (backTo pos (starEach es X.env)).any (·.1) = false := by rfl) : L2H.PMk5 X (.Call (.Name x p) (e :: es) [] pos) (tMkX C ps ta) := by
  intro pins s σ H Q J h
  obtain ⟨nm, q, N, bs, bm, sn, sub, ab, col, dd, k0, k1, k2, k3, k5, hC, hbm, hal⟩ := I.cls
  have II := I.ini
  obtain ⟨fI, cda, cc, name, qual, tx, params, rest, scope, dV, kV, doc, pm, ct, oc, c1, c2, an, od, o1, o2, osl, s1, s2, p0, p1, p2, p3, p4, p5, j, ar, vs0, file, tf, i1, i2, _⟩ := II
  refine wpAny_Call_Name_kw (ld_glob J hg hm ?_ hdb)
  refine PySem.W.callWith_K (h₀ := X.base) J.ok.mod.kin I.T.kC (thn (ha.run pos pins s σ H _ J h) fun us s1 ⟨vs, H1, I1, r1, hz, q1⟩ => ⟨I1.kIn, ?_⟩) hst hpl
  show wpAny _ _ (call (.ref C) us) _ _ _
  obtain ⟨hp, g, dr, tk, os⟩ := s1
  have hlen : us.length = ps.length := (Paired.length r1).symm.trans hz
  have bk : ∀ b o, X.base.get? b = some o → hp.get? b = some o := I1.bk
  have kk : ∀ b o, hp.get? b = some o → ((hp.push (PySem.W.kdv_tup us)).push (HandSPX.excO C hp.objs.size)).get? b = some o := fun b o z => Heap.get?_push_of_some _ (Heap.get?_push_of_some _ z)
  have hget : ((hp.push (PySem.W.kdv_tup us)).push (HandSPX.excO C hp.objs.size)).get? (hp.objs.size + 1) = some (HandSPX.excO C hp.objs.size) := by heap_get
  have hnone : ∀ o, hp.get? (hp.objs.size + 1) ≠ some o := fun o z => absurd (Heap.lt_size z) (by show ¬ (hp.objs.size + 1 < hp.objs.size); omega)
  have hneE : ∀ {b : Addr} {o : Obj}, hp.get? b = some o → b ≠ hp.objs.size + 1 := fun {b o} z y => hnone o (y ▸ z)
  have hus : us.length ≤ sizeLine := by
    have := I.few
    rw [sizeLine_eq]
    omega
  obtain ⟨mb, hb1, hb2⟩ := I1.ok.mod.blt
  have ngl : hp.Ns mainGlobals X.mg := I1.ok.mod.glob.keeps bk
  have nbl : hp.Ns builtinsNs mb := hb1.keeps bk
  refine wpAny_call (HandSPX.call_own F.excBase_ValueError (fun Y => HandSPX.refsVE_contains Y bm hbm) (I1.kIn _ _ hC) (PySem.W.looks_findIn I1.kIn i1) (fun self => PySem.W.bind_fn I1.kIn self i2) hus ?_)
  refine ini_run (mg := X.mg) (mb := mb) I i1 (I1.kIn.keeps kk) ((I1.ok.mod.nolimit.keeps bk).keeps kk) (hr.make C us []).depth (ngl.keeps kk) hms (nbl.keeps kk) ((hb2 _ (by decide)).trans (by first | rfl | decide +kernel | kernel_rfl)) hget
    (fun o z => hnone o (bk _ _ (I1.ok.mod.kin _ _ z))) hlen ?_ ?_ fun h' t' dx t1 keep st => ?_
  · obtain ⟨oL, es', ep, hoL, r⟩ := ngl
    exact hneE hoL
  · obtain ⟨oL, es', ep, hoL, r⟩ := nbl
    exact hneE hoL
  · obtain ⟨he', h0n, hlt, hns⟩ := st
    have hdx : hp.objs.size ≤ dx := Nat.le_of_lt (Nat.lt_trans (Nat.lt_succ_self _) hlt)
    have hdn : H1 dx = none := I1.hok.fresh hdx
    have hen : H1 (hp.objs.size + 1) = none := I1.hok.fresh (Nat.le_succ _)
    have hde : dx ≠ hp.objs.size + 1 := Nat.ne_of_gt hlt
    obtain ⟨G, g1, g2⟩ := restrict h' fun b => decide (b ≠ hp.objs.size + 1)
    have gk : ∀ b, b ≠ hp.objs.size + 1 → G.get? b = h'.get? b := fun b hb => g1 b (decide_eq_true hb)
    have ge : G.get? (hp.objs.size + 1) = none := g2 _ (by simp)
    have kG : ∀ b u, hp.get? b = some u → G.get? b = some u := fun b u z => (gk b (hneE z)).trans (keep b u (hneE z) (kk b u z))
    have new : ObjOk X.prog X.w (upd H1 dx (.xd (ps.zip vs).reverse)) G dx (.xd (ps.zip vs).reverse) := by
      refine ⟨_, hns.at fun o y => (gk dx hde).trans y, fun f => ?_⟩
      exact relO_kv (pair_rev (kv_zip r1))
    have J2 := I1.laid (t' := t') kG hdx new
    refine ⟨rfl, ⟨hp.objs.size + 1, _, _, _, _, .ref C, some dx, rfl, J2, fun b o z => ?_, ge, he', ⟨rfl, rfl, fun vs hv => ?_⟩, rfl, rfl, ?_, rfl, I1.bare, raises_own I.T.exC I.T.tyC, q1 dx hdn⟩, fun a oe vs ea2 hg2 hd2 => ?_⟩
    · have z' : G.get? b = some o := z
      by_cases hb : b = hp.objs.size + 1
      · rw [hb, ge] at z'
        cases z'
      · exact (gk b hb).symm.trans z'
    · cases hv
      rfl
    · rw [upd_ne (Ne.symm hde)]
      exact hen
    · cases ea2
      have hg3 : h'.get? (hp.objs.size + 1) = some oe := hg2
      rw [he'] at hg3
      cases hg3
      cases hd2
      show (4 : Nat) < 6
      decide
end Pv

/-! PvX: raise, try, what stands in an except suite. -/
namespace Pv
open PySem PySem.Spec PyProof.Rows L2
theorem quietN {P : Program} {w : World} : Quiet (L2N.CX P w) := fun outer H s e s' h => by
  obtain ⟨_, _, _, _, _, _, _, _, _, _, _, _, h⟩ := h
  exact h
theorem takesN {X : Cx} : L2N.Takes X WX0 := fun _ _ ⟨_, _, _, _, _, _, _, _, _, _, _, _, _, _, _, _, w⟩ => w.elim

/-! ### raise -/
def Rs.isV : Rs → Bool
  | .va _ => true
  | _ => false
theorem fs_zip {K : PySem.W.Frag} {Hs G H : Hp} : ∀ {ps : List Str} {vs : List V} {rs : List Rs}, Paired (RsR K Hs G H) vs rs → rs.all Rs.isV = true → FsR K G (ps.zip vs) (ps.zip (rs.map Rs.d))
  | [], _, _, _, _ => .nil
  | _ :: _, _, _, .nil, _ => .nil
  | _ :: _, _, r :: _, .cons h t, k => by
    rw [List.all_cons, Bool.and_eq_true] at k
    cases r with
    | va d => exact .cons ⟨rfl, h⟩ (fs_zip t k.2)
    | nw ds => cases k.1
    | bo ds => cases k.1
    | bb c pre f ds => cases k.1
    | bg k0 ds0 => cases k.1
def uRaise (x : Str) (ps : List Str) (xs : XA) : US := fun V e => xs e (fun rs => (rs.length = ps.length ∧ rs.all Rs.isV = true) ∧ V.ex ⟨x, (ps.zip (rs.map Rs.d)).reverse⟩ e) (fun y => V.ex y e)
section
variable {X : Cx} {W : WX} {K : PySem.W.Frag}
theorem ref_raise {x : Str} {ps : List Str} {ta : TA} {xs : XA} (ha : RefA K W ta xs) : RefS K W (fun _ σ H => tMkX (He.ga K x) ps ta σ H fun cls d H' => W cls d σ H') (uRaise x ps xs) := by
  intro G0 H0 D V hl G H σ e hs hu
  refine ha G0 H0 G H σ e _ _ _ hs hu (fun G1 H1 vs rs s1 g1 pr k => ?_) fun G1 H1 cls d y s1 g1 xr k => hl.ex G1 H1 σ e cls d y (hs.grow g1 s1) xr k
  obtain ⟨⟨k1, k2⟩, k3⟩ := k
  refine ⟨(Paired.length pr).trans k1, fun d hd => ?_⟩
  have hgd : G1 d = none := s1.free hd
  refine hl.ex _ _ σ e _ _ _ ((hs.grow g1 s1).grow (Grow.both s1 hd) (same_both s1)) ⟨rfl, _, upd_same, ?_⟩ k3
  exact FsR.mono (same_new hgd) (pair_rev (fs_zip pr k2))
theorem vs_raise {x : Str} {ps : List Str} {a : Expr} {es : List Expr} {ta : TA} {xs : XA} {k : Nat} {p pos pos2 : Pos} (hc : X.calm = true) (tk : L2N.Takes X W) (I : XcK X.prog X.K (He.ga X.K x) ps) (hr : Room k X.A) (hk : 1 ≤ k) (hg : Gl X x) (hm : X.mg x = some (.ref (He.ga X.K x)))
    (hms : X.mg "super" = none) (ha : VA X W (a :: es) ta xs) (hdb : (x == ("__debug__" : Str)) = false := by decide) (hst : starEach (a :: es) X.env = (false, eval a X.env) :: starEach es X.env := by rfl) (hpl : (backTo pos (starEach es X.env)).any (·.1) = false := by rfl) :
    VS X W (.Raise (some (.Call (.Name x p) (a :: es) [] pos)) none pos2) (fun _ σ H => tMkX (He.ga X.K x) ps ta σ H fun cls d H' => W cls d σ H') (uRaise x ps xs) :=
  ⟨L2N.ps_raise hc tk (L2H.PMk5.pmk (pmk_x I (L2H.roomH_of (hr.mono hk)) hg hm hms ha.pa hdb hst hpl)), ref_raise ha.rf⟩

/-! ### try: body, except c as n: suite -/
theorem StR.setX {G0 H0 G H : Hp} {σ : L2.St} {e : En} (hs : StR K G0 H0 G H σ e) (i : Nat) {o : Option V} {sl : Sl} (h : i < σ.length → SlR K H0 G H (some o) sl) (hw : ∀ y : Option (Option V) × Addr, ¬ sl.has y.1 y.2) : StR K G0 H0 G H (σ.set i o) (e.set i sl) where
  sub := hs.sub
  gr := hs.gr
  len := by rw [List.length_set, List.length_set, hs.len]
  sl := fun j s hj => by
    rw [set_get] at hj
    by_cases hc : i = j ∧ i < e.length
    · rw [if_pos hc] at hj
      cases hj
      have hi : i < σ.length := by rw [← hs.len]; exact hc.2
      rw [← hc.1, List.getElem?_set_self hi]
      exact h hi
    · rw [if_neg hc] at hj
      have hij : i ≠ j := fun z => hc ⟨z, by
        subst z
        exact (List.getElem?_eq_some_iff.mp hj).1⟩
      rw [List.getElem?_set_ne hij]
      exact hs.sl j s hj
  dj := hs.dj.set hs.len i _ _ fun x h => (hw (_, x) h).elim
/-- an except suite's ends: the name goes, nothing is raised -/
def EnV.suite (V : EnV) (i : Nat) : EnV := ⟨fun e => V.nx (e.set i .no), V.rt, fun e => V.bk (e.set i .no), fun e => V.ct (e.set i .no), fun _ _ => False, V.rg⟩
def EnV.caught (V : EnV) (isa : Str → Option Bool) (i : Nat) (us : Addr → Value → Option Addr → US) : EnV := ⟨V.nx, V.rt, V.bk, V.ct, fun y e' => match isa y.cls with
  | some true => ∀ a k d, us a k d (V.suite i) (e'.set i (.xn a k d y))
  | some false => V.ex y e'
  | none => False, V.rg⟩
def uTryAs (isa : Str → Option Bool) (i : Nat) (ub : US) (us : Addr → Value → Option Addr → US) : US := fun V e => ub (V.caught isa i us) e
def Isa (K : PySem.W.Frag) (c : Value) (isa : Str → Option Bool) : Prop := ∀ z b, isa z = some b → PySem.W.exmOne K (.ref (He.ga K z)) c = some b
theorem ref_tryAs {c : Value} {isa : Str → Option Bool} {i : Nat} {tb : WX → TS} {ts : Addr → Value → Option Addr → TS} {ub : US} {us : Addr → Value → Option Addr → US} (hm : Isa K c isa) (hb : ∀ W, RefS K W (tb W) ub) (hsu : ∀ a k d, RefS K WX0 (ts a k d) (us a k d)) :
    RefS K W (fun D σ H => tb (wAs K c i ts W D) D σ H) (uTryAs isa i ub us) := by
  intro G0 H0 D V hl G H σ e hs hu
  refine hb (wAs K c i ts W D) G0 H0 D (V.caught isa i us) ⟨hl.nx, hl.rt, hl.bk, hl.ct, fun G1 H1 σ1 e1 cls d y hs1 xr k => ?_, hl.rg⟩ G H σ e hs hu
  obtain ⟨x1, x2⟩ := xr
  have k' : (match isa y.cls with
    | some true => ∀ a k d, us a k d (V.suite i) (e1.set i (.xn a k d y))
    | some false => V.ex y e1
    | none => False) := k
  cases q : isa y.cls with
  | none =>
    rw [q] at k'
    exact k'.elim
  | some b =>
    rw [q] at k'
    refine ⟨b, x1 ▸ hm _ _ q, fun hb1 a ha => ?_, fun hb0 => ?_⟩
    · subst hb1
      have st : StR K G0 H0 G1 H1 (σ1.set i (some (.ref a))) (e1.set i (.xn a cls d y)) := hs1.setX i (fun _ => ⟨rfl, x1, x2⟩) (fun ds z => by cases z)
      refine hsu a cls d G0 H0 { nx := fun σ' H' => D.nx (σ'.set i none) H', rt := D.rt, bk := fun σ' H' => D.bk (σ'.set i none) H', ct := fun σ' H' => D.ct (σ'.set i none) H' } (V.suite i) ⟨fun G2 H2 σ2 e2 h2 k2 => hl.nx G2 H2 _ _ (h2.setX (o := none) (sl := .no) i (fun _ => trivial) (fun ds z => by cases z)) k2, hl.rt, fun G2 H2 σ2 e2 h2 k2 => hl.bk G2 H2 _ _ (h2.setX (o := none) (sl := .no) i (fun _ => trivial) (fun ds z => by cases z)) k2,
        fun G2 H2 σ2 e2 h2 k2 => hl.ct G2 H2 _ _ (h2.setX (o := none) (sl := .no) i (fun _ => trivial) (fun ds z => by cases z)) k2, fun _ _ _ _ _ _ _ _ _ z => z.elim, hl.rg⟩ G1 H1 _ _ st (k' a cls d)
    · subst hb0
      exact hl.ex G1 H1 σ1 e1 cls d y hs1 ⟨x1, x2⟩ k'
/-- the reading that u itself is -/
def rd (K : PySem.W.Frag) (W : WX) (u : US) : TS := fun D σ H => ∃ (G0 H0 G : Hp) (e : En) (V : EnV), Link K G0 H0 W D V ∧ StR K G0 H0 G H σ e ∧ u V e
theorem ref_rd {u : US} : RefS K W (rd K W u) u := fun G0 H0 D V hl G H σ e hs hu => ⟨G0, H0, G, e, V, hl, hs, hu⟩
theorem VSs.rd {sts : List Stmt} {t : TS} {u : US} (h : VSs X W sts t u) : PSs X sts (rd X.K W u) := ⟨fun pins s σ H D I ⟨G0, H0, G, e, V, hl, hs, hu⟩ => h.ps.run pins s σ H D I (h.rf G0 H0 D V hl G H σ e hs hu)⟩
theorem vs_tryAs {x n : Str} {c : Value} {i : Nat} {isa : Str → Option Bool} {body suite : List Stmt} {b0 : Stmt} {np pos pos' : Pos} {ub : US} {us : Addr → Value → Option Addr → US}
    (hs : X.stack = X.env :: X.outer) (hf : X.env.frame = some X.env.locals) (hN : X.N.Nodup) (hi : X.N[i]? = some n) (hln : X.env.kindOf n = some .local) (hc : Names X x c) (hm : Isa X.K c isa) (tk : L2N.Takes X W)
    (hb : ∀ (W' : WX) (pn : List (Addr × Obj)) (xe : Value → Shared → Prop), L2N.Takes (X.tr pn xe) W' → PassesOwn (model X.prog X.w) X.A X.env xe → ∃ t, VSs (X.tr pn xe) W' body t ub)
    (hsu : ∀ (a : Addr) (oe : Obj) (k : Value) (d : Option Addr) (pn : List (Addr × Obj)), L2N.Zn k d oe → (∃ vs, oe.data = .fields vs) → ∃ t, VSs (X.suite a ((a, oe) :: pn)) WX0 (b0 :: suite) t (us a k d)) :
    VS X W (.Try body [.ExceptHandler (some (.Name x np)) (some n) (b0 :: suite) pos'] [] [] pos) (fun D σ H => rd X.K (wAs X.K c i (fun a k d => rd X.K WX0 (us a k d)) W D) ub D σ H) (uTryAs isa i ub us) := by
  refine ⟨L2N.ps_try_as (tb := fun W' => rd X.K W' ub) (ts := fun a k d => rd X.K WX0 (us a k d)) hs hf hN hi hln hc tk (fun W' pn xe t p => ?_) fun a oe k d pn z f => ?_, ref_tryAs hm (fun W' => ref_rd) fun a k d => ref_rd⟩
  · obtain ⟨t, h⟩ := hb W' pn xe t p
    exact h.rd
  · obtain ⟨t, h⟩ := hsu a oe k d pn z f
    exact h.rd
end

/-! ### in the suite: e.f, isinstance(e, c), calls -/
section
variable {X : Cx} {W : WX} {K : PySem.W.Frag}
theorem fsr_lookup {G : Hp} {f : Str} {d : PyData} : ∀ {fs : List (Str × V)} {gs : List (Str × PyData)}, FsR K G fs gs → gs.lookup f = some d → ∃ v, fs.lookup f = some v ∧ Rp K G v d
  | _, _, .nil, h => by cases h
  | (k, v) :: fs, (k', d') :: gs, .cons h t, e => by
    obtain ⟨e1, r⟩ := h
    have e1 : k = k' := e1
    subst e1
    by_cases z : f = k
    · subst z
      simp [List.lookup] at e
      subst e
      exact ⟨v, by simp [List.lookup], r⟩
    · have z2 : (f == k) = false := by simpa using z
      simp [List.lookup, z2] at e
      obtain ⟨u, h1, h2⟩ := fsr_lookup t e
      exact ⟨u, by simp [List.lookup, z2]; exact h1, h2⟩
def xXf (i : Nat) (a : Addr) (k : Value) (d : Option Addr) (c f : Str) : XE := fun e q _ => match e[i]? with
  | some (.xn a' k' d' y) => (a' = a ∧ k' = k ∧ d' = d) ∧ y.cls = c ∧ (match y.fs.lookup f with
    | some v => q (.va v)
    | none => False)
  | _ => False
theorem ref_xf {i : Nat} {a : Addr} {k : Value} {d : Option Addr} {c f : Str} : RefE K W (tXf a k d (He.ga K c) f (tVar i)) (xXf i a k d c f) := by
  intro G0 H0 G H σ e Q q ex hs hx hq _
  unfold xXf at hx
  cases h : e[i]? with
  | none =>
    rw [h] at hx
    exact hx.elim
  | some s =>
    rw [h] at hx
    have hh := hs.sl i s h
    cases s with
    | no => exact hx.elim
    | fz d => exact hx.elim
    | ow ds => exact hx.elim
    | ob a p c pre f ds => exact hx.elim
    | gn w => exact hx.elim
    | mm d M => exact hx.elim
    | mb d M => exact hx.elim
    | xn a' k' d' y =>
      obtain ⟨⟨rfl, rfl, rfl⟩, rfl, hx⟩ := hx
      obtain ⟨h1, h2, h3⟩ := hh
      cases hl : y.fs.lookup f with
      | none =>
        have hx' : (match y.fs.lookup f with
          | some v => q (.va v)
          | none => False) := hx
        rw [hl] at hx'
        exact hx'.elim
      | some v =>
        have hx' : (match y.fs.lookup f with
          | some v => q (.va v)
          | none => False) := hx
        rw [hl] at hx'
        cases d' with
        | none =>
          have h3' : y.fs = [] := h3
          rw [h3'] at hl
          cases hl
        | some dd =>
          obtain ⟨fs, g1, g2⟩ := h3
          obtain ⟨u, l1, l2⟩ := fsr_lookup g2 hl
          exact ⟨_, h1, rfl, h2, dd, fs, u, rfl, hs.sub _ _ g1, l1, hq G H u (.va v) hs.sub .refl l2 hx'⟩
theorem ve_xf {a : Addr} {oe : Obj} {k : Value} {d : Option Addr} {pn : List (Addr × Obj)} {i : Nat} {n c f : Str} {p pos : Pos} (T : XfC X.K (He.ga X.K c)) (hno : PySem.W.findIn X.K (.ref (He.ga X.K c)) f = some none) (hz : L2N.Zn k d oe) (hf : ∃ vs, oe.data = .fields vs)
    (hv : PE (X.suite a ((a, oe) :: pn)) (.Name n p) (tVar i)) (hb : attributeBase (.Name n p) f X.env (eval (.Name n p) X.env) = eval (.Name n p) X.env := by rfl) :
    VE (X.suite a ((a, oe) :: pn)) W (.Attribute (.Name n p) f pos) (tXf a k d (He.ga X.K c) f (tVar i)) (xXf i a k d c f) := ⟨pe_xf T hno hz.zc hf hv hb, ref_xf⟩

def rIsX (K : PySem.W.Frag) (a : Addr) (k : Value) (d : Option Addr) : List V → Hp → VK → Prop := fun xs H Q => ∃ (D : Addr) (c : V) (cv : Value) (b : Bool), xs = [.ref a, c] ∧ k = .ref D ∧ ExcC K D ∧ (∀ u, RelV c u → u = cv) ∧ PySem.W.kitOne K (.ref D) cv = some b ∧
  (∀ dd, d = some dd → ∃ fs, H dd = some (.xd fs)) ∧ Q (.bl b) H
theorem call_isX {a : Addr} {k : Value} {d : Option Addr} {oe : Obj} {pn : List (Addr × Obj)} (hz : Zc k d oe) (hf : ∃ vs, oe.data = .fields vs) : CallR (X.suite a ((a, oe) :: pn)) (.builtin "isinstance") (rIsX X.K a k d) := by
  intro pins s σ H xs us Q I r h
  obtain ⟨D, c, cv, b, rfl, rfl, C, hcv, e, hdd, q⟩ := h
  cases r with
  | cons rx rr =>
    cases rr with
    | cons rt rr =>
      cases rr
      cases rx
      obtain rfl := hcv _ rt
      obtain ⟨hget, _⟩ := I.pin (a, oe) (List.mem_append.mpr (.inl List.mem_cons_self))
      obtain ⟨vs, hv⟩ := hf
      have hcl : (PySem.W.clsIn X.K D).isSome = true := by
        obtain ⟨cd, h1, _⟩ := PySem.W.any_some C.hd
        rw [h1]
        rfl
      have J : ∃ od, PySem.W.InstAt s.heap a oe D od := by
        obtain ⟨oc, od, oda, osl⟩ := oe
        obtain ⟨h1, h2⟩ := hz
        dsimp only at h1 h2 hv
        subst h1 h2 hv
        cases od with
        | none => exact ⟨none, hget, rfl, rfl, trivial⟩
        | some dd =>
          obtain ⟨fs, hfs⟩ := hdd dd rfl
          obtain ⟨mA, ⟨o, _, _, ho, _⟩, _⟩ := (show ObjOk X.prog X.w H s.heap dd (.xd fs) from I.hok dd _ hfs)
          exact ⟨some o, hget, rfl, rfl, ho⟩
      obtain ⟨od, J⟩ := J
      exact PySem.W.kia_one (PySem.W.kitx_exc hcl C.hg C.hk C.hs C.ha C.hn C.ht C.hm) I.kIn J e (fun z => nomatch z) fun tk => ⟨.bl b, H, I.kept (t' := tk) fun _ _ z => z, rfl, q⟩
def xIsX (i : Nat) (a : Addr) (k : Value) (d : Option Addr) (isa : Str → Option Bool) : XE := fun e q _ => match e[i]? with
  | some (.xn a' k' d' y) => (a' = a ∧ k' = k ∧ d' = d) ∧ (match isa y.cls with
    | some b => q (.va (.bool b))
    | none => False)
  | _ => False
def IsaI (K : PySem.W.Frag) (c : Str) (isa : Str → Option Bool) : Prop := ∀ z b, isa z = some b → ExcC K (He.ga K z) ∧ PySem.W.kitOne K (.ref (He.ga K z)) (.ref (He.ga K c)) = some b
theorem ve_isX {a : Addr} {oe : Obj} {k : Value} {d : Option Addr} {pn : List (Addr × Obj)} {i : Nat} {n c : Str} {isa : Str → Option Bool} {p p1 p2 pos : Pos} (hI : IsaI X.K c isa) (hz : L2N.Zn k d oe) (hf : ∃ vs, oe.data = .fields vs)
    (hg : Gl (X.suite a ((a, oe) :: pn)) "isinstance") (hm : X.mg "isinstance" = none) (hgc : Gl (X.suite a ((a, oe) :: pn)) c) (hmc : X.mg c = some (.ref (He.ga X.K c))) (hv : PE (X.suite a ((a, oe) :: pn)) (.Name n p1) (tVar i)) (hd : (c == ("__debug__" : Str)) = false := by decide)
    (h1 : starEach [.Name n p1, .Name c p2] X.env = (false, eval (.Name n p1) X.env) :: starEach [.Name c p2] X.env := by rfl) (h2 : starEach [.Name c p2] X.env = (false, eval (.Name c p2) X.env) :: starEach [] X.env := by rfl)
    (hpl : (backTo pos (starEach [.Name c p2] X.env)).any (·.1) = false := by rfl) :
    VE (X.suite a ((a, oe) :: pn)) W (.Call (.Name "isinstance" p) [.Name n p1, .Name c p2] [] pos) (tCB (rIsX X.K a k d) (tCons (tVar i) (tCons (tC (.ref (He.ga X.K c))) tNil))) (xIsX i a k d isa) :=
  ⟨pe_callB (call_isX hz.zc hf) hg hm (by decide +kernel) (pa_cons hv (pa_cons (pe_glob hgc hmc (show RelV (.ref (He.ga X.K c)) (.ref (He.ga X.K c)) from rfl) hd) pa_nil h2) h1) (by decide) (by decide) h1 hpl, by
    intro G0 H0 G H σ e Q q ex hs hx hq _
    unfold xIsX at hx
    cases h : e[i]? with
    | none =>
      rw [h] at hx
      exact hx.elim
    | some s =>
      rw [h] at hx
      have hh := hs.sl i s h
      cases s with
      | no => exact hx.elim
      | fz d => exact hx.elim
      | ow ds => exact hx.elim
      | ob a p c pre f ds => exact hx.elim
      | gn w => exact hx.elim
      | mm d M => exact hx.elim
      | mb d M => exact hx.elim
      | xn a' k' d' y =>
        obtain ⟨⟨rfl, rfl, rfl⟩, hx⟩ := hx
        obtain ⟨g1, g2, g3⟩ := hh
        have hx' : (match isa y.cls with
          | some b => q (.va (.bool b))
          | none => False) := hx
        cases hb : isa y.cls with
        | none =>
          rw [hb] at hx'
          exact hx'.elim
        | some b =>
          rw [hb] at hx'
          obtain ⟨C, kk⟩ := hI _ _ hb
          refine ⟨_, g1, He.ga X.K y.cls, _, _, b, rfl, g2, C, fun u r => r, kk, fun dd ed => ?_, hq G H _ (.va _) hs.sub .refl (.bl _) hx'⟩
          subst ed
          obtain ⟨fs, z, _⟩ := g3
          exact ⟨fs, hs.sub _ _ z⟩⟩
theorem ve_callH {CX : CXT} {k : Nat} {f : Addr} {fd : FuncData} {ps : List Str} {F : Fn} {x : Str} {p pos : Pos} {a : Expr} {es : List Expr} {ta : TA} {xs : XA} (Fk : L2H.FnH X.prog X.w X.K X.mg X.base CX k f fd ps (spF X.K F)) (hr : L2H.RoomH k X.A) (hot : L2H.HotC X) (hg : Gl X x) (hm : X.mg x = some (.ref f))
    (hk : PySem.W.keepIn X.K (.ref f) = true) (hb : Binds X.K fd ps []) (hx : ∀ σ, PassesAt CX X σ (fun cls d H => W cls d σ H)) (ha : VA X W (a :: es) ta xs) (hdb : (x == ("__debug__" : Str)) = false := by decide)
    (he : starEach (a :: es) X.env = (false, eval a X.env) :: starEach es X.env := by rfl) (hpl : (backTo pos (starEach es X.env)).any (·.1) = false := by rfl) : VE X W (.Call (.Name x p) (a :: es) [] pos) (tCallSD (spF X.K F) [] (fun σ cls d H => W cls d σ H) ta) (xCall F xs) := by
  refine ⟨⟨fun pins s σ H Q I h => ?_⟩, ref_call ha.rf⟩
  refine (L2H.pe_callH (E := fun σ cls d H => W cls d σ H) Fk hr hot hg hm hk hb hx ha.pa hdb he hpl).run pins s σ H Q I ?_
  have h' : ta σ H fun vs H1 => spF X.K F (vs ++ []) H1 Q fun cls d H => W cls d σ H := h
  have e : (fun (vs : List V) (H1 : Hp) => spF X.K F (vs ++ []) H1 Q fun cls d H => W cls d σ H) = fun vs H1 => spF X.K F vs H1 Q fun cls d H => W cls d σ H := by
    funext vs H1
    rw [List.append_nil]
  rw [e] at h'
  exact h'
end

/-! ### defs that raise; defs called in an except suite -/
section
variable {P : Program} {w : World} {K : PySem.W.Frag} {mg : Str → Option Value} {base : Heap} {x qual : Str} {params : Arguments} {body : List Stmt} {scope : Scope} {dvs : List V} {kws : List (Str × V)} {f : Addr} {fd : FuncData} {CX : CXT}
abbrev wOut (E : XK) : WX := fun cls d _ H => E cls d H
theorem defE {N ps : List Str} {k : Nat} {Fs : Fn} {u : US} (F : FunD K x qual params body scope dvs kws f fd) (S : FnScope N ps scope) (hx : ∀ ds q ex, Fs ds q ex → ds.length = ps.length) (hu : ∀ ds q ex, Fs ds q ex → u (enV q ex) (en0 N.length ds))
    (hbody : ∀ (cdv : Value) (A : Around) (outer : List Env) (s : Shared) (H : Hp) (E : XK), Room k (A.deeper (envOfC qual scope s.heap.objs.size f cdv)) → ∃ t, VSs (cxOf CX P w K mg base N qual scope f cdv A outer s H E) (wOut E) body t u) :
    FnOk P w K mg base CX (k + 1) f fd ps (spF K Fs) := by
  refine F.ok S (fun vs H Q E h => ?_) fun cdv A outer s H vs Q E hr h => ?_
  · obtain ⟨G, ds, q, ex, sub, ra, hF, _⟩ := h
    rw [ra.len]
    exact hx ds q ex hF
  · obtain ⟨t, h1⟩ := hbody cdv A outer s H E hr
    exact ⟨t, h1.ps, spF_body (E := E) (fun _ _ _ _ z => z) h1.rf hu h⟩
theorem defH {N ps : List Str} {k : Nat} {Fs : Fn} {u : US} (F : FunD K x qual params body scope dvs kws f fd) (S : FnScope N ps scope) (hx : ∀ ds q ex, Fs ds q ex → ds.length = ps.length) (hu : ∀ ds q ex, Fs ds q ex → u (enV q ex) (en0 N.length ds))
    (hbody : ∀ (cdv : Value) (A : Around) (outer : List Env) (s : Shared) (H : Hp) (E : XK) (p : Addr × Obj), L2H.RoomH k (A.deeper (envOfC qual scope s.heap.objs.size f cdv)) → L2H.HotC (L2H.cxH CX P w K mg base N qual scope f cdv A outer s H E p).nox →
      ∃ t, VSs (L2H.cxH CX P w K mg base N qual scope f cdv A outer s H E p).nox WX0 body t u)
    (hne : ∀ ds q ex ex', Fs ds q ex → Fs ds q ex') : L2H.FnH P w K mg base CX (k + 1) f fd ps (spF K Fs) := by
  obtain ⟨oc, od, dV, kV, doc, pm, an, cdv, ct, osl, rfl, lk, hcd, _, _⟩ := F.ex
  refine L2H.fn_ofH lk hcd S (fun vs H Q E h => ?_) fun A outer s H vs Q E p hot hr h => ?_
  · obtain ⟨G, ds, q, ex, sub, ra, hF, _⟩ := h
    rw [ra.len]
    exact hx ds q ex hF
  · obtain ⟨t, h1⟩ := hbody cdv A outer s H E p hr ⟨p, ⟨hot.1, hot.2⟩, List.mem_singleton.mpr rfl⟩
    refine ⟨t, PSs.nox h1.ps, ?_⟩
    obtain ⟨G, ds, q, ex, sub, ra, hF, hq, _⟩ := h
    exact spF_body (E := fun _ _ _ => False) (fun _ _ _ _ z => z.elim) h1.rf hu ⟨G, ds, q, fun _ => False, sub, ra, hne ds q ex _ hF, hq, fun _ _ _ _ _ _ _ _ z => z.elim⟩
/-- the suite's own heat -/
theorem hot_suite {X : Cx} {a : Addr} {oe : Obj} {k : Value} {d : Option Addr} {pn : List (Addr × Obj)} (hz : L2N.Zn k d oe) (hf : ∃ vs, oe.data = .fields vs) : L2H.HotC (X.suite a ((a, oe) :: pn)) := by
  obtain ⟨vs, hv⟩ := hf
  exact ⟨(a, oe), ⟨rfl, vs, hv, hz.2.2 vs hv⟩, List.mem_cons_self⟩
end
end Pv

/-! PvY: what the written part says of the exception classes. -/
namespace Pv
open PySem PySem.Spec PyProof.Rows L2
theorem dc {p : Prop} [Decidable p] (h : decide p = true) : p := of_decide_eq_true h
def clsB (K : PySem.W.Frag) (C : Addr) : Bool := match K.lookup C with
  | some ⟨.type "type", _, .cls cd, sl⟩ => (match cd.mro, sl.toList with
    | .ref C2 :: bm, [_, _, _, _, some (.builtin n), _] => decide (C2 = C) && (decide (n = veNew) && (!cd.hasDel && (cd.hasDict && (HandSPX.refsVE bm && decide (PySem.W.alongIn K "__init__" bm = some (some (.builtin veIni)))))))
    | _, _ => false)
  | _ => false
theorem clsB_ok {K : PySem.W.Frag} {C : Addr} (h : clsB K C = true) : ∃ nm q N bs bm sn sub ab col dd k0 k1 k2 k3 k5, K.lookup C = some (excClassObj nm q C N bs bm true sn sub ab col dd k0 k1 k2 k3 k5 veNew) ∧ HandSPX.refsVE bm = true ∧
    PySem.W.alongIn K "__init__" bm = some (some (.builtin veIni)) := by
  unfold clsB at h
  split at h
  · rename_i dd cd sl ho
    split at h
    · rename_i C2 bm k0 k1 k2 k3 n k5 hm hs
      obtain ⟨h2, h⟩ := Bool.and_eq_true_iff.mp h
      obtain ⟨h3, h⟩ := Bool.and_eq_true_iff.mp h
      obtain ⟨h4, h⟩ := Bool.and_eq_true_iff.mp h
      obtain ⟨h5, h⟩ := Bool.and_eq_true_iff.mp h
      obtain ⟨h6, h7⟩ := Bool.and_eq_true_iff.mp h
      obtain rfl := dc h2
      obtain rfl := dc h3
      obtain ⟨nm, bs, mro, ns, qn, hd, sn, sub, ab, col, del⟩ := cd
      dsimp only at hm h4 h5
      have h4' : del = false := by simpa using h4
      subst hm h5 h4'
      have hsl : sl = #[k0, k1, k2, k3, some (.builtin veNew), k5] := by
        obtain ⟨l⟩ := sl
        simp only at hs
        rw [hs]
      subst hsl
      exact ⟨_, _, _, _, _, _, _, _, _, _, _, _, _, _, _, ho, h6, dc h7⟩
    · cases h
  · cases h
/-- .. as a class over ValueError, told apart from its __init__ -/
def oexB (K : PySem.W.Frag) (C : Addr) : Bool := clsB K C && (decide (PySem.W.findIn K (.ref C) "__setattr__" = some (some (.builtin "object.__setattr__"))) && (decide (PySem.W.subIn K (.ref C) (.type "BaseException") = some true) && (decide (PySem.W.typeIn K (.ref C) = some (.type "type")) && PySem.W.keepIn K (.ref C))))
theorem oexB_ok {K : PySem.W.Frag} {C : Addr} (h : oexB K C = true) : OexC K C := by
  obtain ⟨h1, h⟩ := Bool.and_eq_true_iff.mp h
  obtain ⟨h2, h⟩ := Bool.and_eq_true_iff.mp h
  obtain ⟨h3, h⟩ := Bool.and_eq_true_iff.mp h
  obtain ⟨h4, h5⟩ := Bool.and_eq_true_iff.mp h
  obtain ⟨nm, q, N, bs, bm, sn, sub, ab, col, dd, k0, k1, k2, k3, k5, a, b, _⟩ := clsB_ok h1
  exact ⟨⟨nm, q, N, bs, bm, sn, sub, ab, col, dd, k0, k1, k2, k3, k5, a, b⟩, dc h2, dc h3, dc h4, h5⟩
def xcB (K : PySem.W.Frag) (C : Addr) (ps : List Str) : Bool := clsB K C && (oexB K C && (decide (PySem.W.subIn K (.ref C) (.type "ValueError") = some true) && (decide (PySem.W.nsIn K PySem.cStatics "thirdparty.any" = some none) && ((ps.all fun f => decide (PySem.W.findIn K (.ref C) f = some none) && !(f == ("__debug__" : Str))) &&
  (decide (ps.length ≤ 90) && !ps.isEmpty)))))
/-- its __init__, as it is told apart from where it lies -/
abbrev FnC : Type := Option (Str × Str × Arguments × FuncBody × Scope × Addr × List Str × Addr)
/-- the getter of a class's property -/
def pga (K : PySem.W.Frag) (C : Addr) (f : Str) : Addr := match PySem.W.recIn K (He.ma K C f) "property" with
  | some (.ref g :: _) => g
  | _ => 0
def fnA (K : PySem.W.Frag) (a : Addr) : FnC := match K.lookup a with
  | some ⟨_, _, .func fd, _⟩ => some (fd.name, fd.qualname, fd.params, fd.body, fd.scope, fd.globals, fd.closure.map (·.1), fd.builtins)
  | _ => none
def fnC (K : PySem.W.Frag) (x : Str) : FnC := fnA K (He.ma K (He.ga K x) "__init__")
structure InD where
  at_ : Str
  qual : Str
  params : Arguments
  body : List Stmt
  scope : Scope
  pr : Option Str
/-- where it lies: an __init__, a property's getter -/
def InD.ad (K : PySem.W.Frag) (d : InD) : Addr := match d.pr with
  | none => He.ma K (He.ga K d.at_) "__init__"
  | some f => pga K (He.ga K d.at_) f
def InD.val (d : InD) : FnC := match d.pr with
  | none => some ("__init__", d.qual, d.params, .stmts d.body, d.scope, mainGlobals, ["__class__"], builtinsNs)
  | some f => some (f, d.qual, d.params, .stmts d.body, d.scope, mainGlobals, [], builtinsNs)
def codB (file : Str) (K : PySem.W.Frag) : Value → Bool
  | .ref c => (match K.lookup c with
    | some ⟨_, _, .fields vs, _⟩ => (match vs[2]? with
      | some (Value.str f _) => file == f
      | _ => false)
    | _ => false)
  | _ => false
def celB (K : PySem.W.Frag) (C : Addr) : List (Str × Addr) → Bool
  | [(_, c)] => (match K.lookup c with
    | some ⟨_, _, .cell (some (.ref D)), _⟩ => decide (D = C)
    | _ => false)
  | _ => false
theorem celB_ok {K : PySem.W.Frag} {C : Addr} {l : List (Str × Addr)} (h : celB K C l = true) : ∃ nm cc c2 o2 s2, l = [(nm, cc)] ∧ K.lookup cc = some ⟨c2, o2, .cell (some (.ref C)), s2⟩ := by
  unfold celB at h
  split at h
  · rename_i nm cc
    split at h
    · rename_i c2 o2 D s2 hcc
      have e : D = C := dc h
      subst e
      exact ⟨nm, cc, c2, o2, s2, rfl, hcc⟩
    · cases h
  · cases h
theorem codB_ok {K : PySem.W.Frag} {fl : Str} {v : Value} (h : codB fl K v = true) : ∃ cda c1 o1 s1 vs file tf, v = .ref cda ∧ K.lookup cda = some ⟨c1, o1, .fields vs, s1⟩ ∧ vs[2]? = some (.str file tf) ∧ (fl == file) = true := by
  unfold codB at h
  split at h
  · rename_i c
    split at h
    · rename_i c1 o1 vs s1 hc
      split at h
      · rename_i f tf hv
        exact ⟨c, c1, o1, s1, vs, f, tf, rfl, hc, hv, h⟩
      · cases h
    · cases h
  · cases h
def iniB (file : Str) (K : PySem.W.Frag) (x qual : Str) : Bool := decide (PySem.W.findIn K (.ref (He.ga K x)) "__init__" = some (some (.ref (He.ma K (He.ga K x) "__init__")))) && (decide (PySem.W.typeIn K (.ref (He.ma K (He.ga K x) "__init__")) = some (.type "function")) &&
  (match K.lookup (He.ma K (He.ga K x) "__init__") with
    | some ⟨_, _, .func fd, _⟩ => PySem.W.codeIn K fd.code qual && ((match fd.defaults with
      | .none => true
      | _ => false) && (codB file K fd.code && celB K (He.ga K x) fd.closure))
    | _ => false))
/-- the text of such an __init__ -/
structure IniT (P : Program) (d : InD) (ps : List Str) : Prop where
  top : (P.main.scope.names.lookup ("super" : Str)).isSome = false
  body : ∃ (p0 p1 p2 p3 p4 p5 : Pos) (j : Nat) (tx : Str) (rest : List Stmt), d.body = .Expr (.Call (.Attribute (.Call (.Name "super" p0) [] [] p1) "__init__" p2) [.Constant (.str tx) j p3] [] p4) p5 :: rest ∧ (p2.endLine == p4.line) = true ∧ Sto rest ps
  arg : ∃ ar, (d.params.posonlyargs ++ d.params.args).head? = some ar ∧ ar.arg = "self"
  bind : ∀ (name : Str) (cl : List (Str × Addr)) (kV doc pm : Value) (an : Option Addr) (cdv ct : Value) (us : List Value), us.length = (selfs ps).length → bindArgs (PySem.W.fnX name d.qual d.params d.body d.scope cl .none kV doc pm an cdv ct) ⟨us, []⟩ = pure ((selfs ps).zip us)
  loc : ∀ f ∈ selfs ps, d.scope.names.lookup f = some .local
  nd : (selfs ps).Nodup
  sup : d.scope.names.lookup ("super" : Str) = some .globalImplicit
  cls : d.scope.names.lookup ("__class__" : Str) = some .free
  cel : ∀ x ∈ d.scope.names, x.2 ≠ .cell
  co : d.scope.isCoroutine = false
  ge : d.scope.isGenerator = false
  ki : d.scope.kind = .function
theorem xc_ok {P : Program} {K : PySem.W.Frag} {d : InD} {ps : List Str} (T : IniT P d ps) (e : fnA K (d.ad K) = d.val) (hp : d.pr = none) (c1 : xcB K (He.ga K d.at_) ps = true) (c2 : iniB P.main.file K d.at_ d.qual = true) : XcK P K (He.ga K d.at_) ps := by
  obtain ⟨x, qual, params, body, scope, pr⟩ := d
  dsimp only at hp
  subst hp
  obtain ⟨a1, h⟩ := Bool.and_eq_true_iff.mp c1
  obtain ⟨a2, h⟩ := Bool.and_eq_true_iff.mp h
  obtain ⟨a3, h⟩ := Bool.and_eq_true_iff.mp h
  obtain ⟨a4, h⟩ := Bool.and_eq_true_iff.mp h
  obtain ⟨a5, h⟩ := Bool.and_eq_true_iff.mp h
  obtain ⟨a6, a7⟩ := Bool.and_eq_true_iff.mp h
  obtain ⟨b1, h⟩ := Bool.and_eq_true_iff.mp c2
  obtain ⟨b2, h⟩ := Bool.and_eq_true_iff.mp h
  dsimp only at a1 a2 a3 a5 b1 b2 h ⊢
  have e : fnA K (He.ma K (He.ga K x) "__init__") = (some (("__init__" : Str), qual, params, FuncBody.stmts body, scope, mainGlobals, [("__class__" : Str)], builtinsNs) : FnC) := e
  have a8 : ps ≠ [] := fun z => by
    subst z
    cases a7
  refine ⟨oexB_ok a2, dc a3, dc a4, fun f hf => ?_, dc a6, a8, clsB_ok a1, ?_⟩
  · have q := List.all_eq_true.mp a5 f hf
    obtain ⟨q1, q2⟩ := Bool.and_eq_true_iff.mp q
    exact ⟨dc q1, by simpa using q2⟩
  · unfold fnA at e
    cases q : K.lookup (He.ma K (He.ga K x) "__init__") with
    | none =>
      rw [q] at h
      cases h
    | some o =>
      obtain ⟨oc, od, dt, osl⟩ := o
      rw [q] at h e
      cases dt with
      | func fd =>
        obtain ⟨n1, n2, n3, n4, n5, n6, n7, n8, n9, n10, n11, n12, n13, n14, n15⟩ := fd
        have e2 : (some (n1, n2, n3, n4, n5, n6, n7.map (·.1), n15) : FnC) = some (("__init__" : Str), qual, params, FuncBody.stmts body, scope, mainGlobals, [("__class__" : Str)], builtinsNs) := e
        simp only [Option.some.injEq, Prod.mk.injEq] at e2
        obtain ⟨h1, h2, h3, h4, h5, h6, h7, h8⟩ := e2
        subst h1 h2 h3 h4 h5 h6 h8
        obtain ⟨g1, h⟩ := Bool.and_eq_true_iff.mp h
        obtain ⟨g2, h⟩ := Bool.and_eq_true_iff.mp h
        obtain ⟨g3, g4⟩ := Bool.and_eq_true_iff.mp h
        have hd : n8 = .none := by
          dsimp only at g2
          cases n8 <;> first
            | rfl
            | cases g2
        subst hd
        obtain ⟨nm, cc, ec, o2, s2, en, hcc⟩ := celB_ok g4
        dsimp only at en
        subst en
        have h9 : nm = ("__class__" : Str) := by simpa using h7
        subst h9
        obtain ⟨cda, e1, o1, s1, vs, file, tf, en, k1, k2, k3⟩ := codB_ok g3
        dsimp only at en
        subst en
        obtain ⟨p0, p1, p2, p3, p4, p5, j, tx, rest, eb, k4, k5⟩ := T.body
        obtain ⟨ar, k6, k7⟩ := T.arg
        dsimp only at eb
        subst eb
        exact ⟨_, cda, cc, "__init__", n2, tx, n3, rest, n5, .none, n9, n10, n11, n14, oc, e1, ec, n12, od, o1, o2, osl, s1, s2, p0, p1, p2, p3, p4, p5, j, ar, vs, file, tf, dc b1, dc b2, q, g1, k1, k2, k3, hcc, T.top, k6, k7, k4, k5,
          fun us hu => T.bind "__init__" [(("__class__" : Str), cc)] n9 n10 n11 n12 (.ref cda) n14 us hu, T.loc, T.nd, T.sup, T.cls, T.cel, T.co, T.ge, T.ki⟩
      | _ => cases h

theorem _root_.L2H.RoomH.units {k : Nat} {A : Around} (r : L2H.RoomH k A) : A.units + 64 < cLine := by have := r.un; omega
/-- the first def of a class -/
def initOf (s : Stmt) : Stmt := match s with
  | .ClassDef _ _ _ b _ _ _ _ _ _ _ => b.headD (.Pass ⟨0, 0, 0, 0⟩)
  | _ => .Pass ⟨0, 0, 0, 0⟩

/-! ### which class is which -/
def isaL (tbl : List (Str × Bool)) : Str → Option Bool := fun z => tbl.lookup z
theorem lookup_memB : ∀ {l : List (Str × Bool)} {k : Str} {b : Bool}, l.lookup k = some b → (k, b) ∈ l
  | [], _, _, h => by cases h
  | (k', b') :: l, k, b, h => by
    by_cases z : k = k'
    · subst z
      simp [List.lookup] at h
      subst h
      exact List.mem_cons_self
    · have z2 : (k == k') = false := by simpa using z
      simp [List.lookup, z2] at h
      exact List.mem_cons_of_mem _ (lookup_memB h)
def isaB (c : Str) (tbl : List (Str × Bool)) (K : PySem.W.Frag) : Bool := tbl.all fun q => decide (PySem.W.exmOne K (.ref (He.ga K q.1)) (.ref (He.ga K c)) = some q.2)
theorem isaB_ok {K : PySem.W.Frag} {c : Str} {tbl : List (Str × Bool)} (h : isaB c tbl K = true) : Isa K (.ref (He.ga K c)) (isaL tbl) := fun z b e => dc (List.all_eq_true.mp h (z, b) (lookup_memB e))
def excCB (K : PySem.W.Frag) (D : Addr) : Bool := decide (PySem.W.findIn K (.ref D) "__getattribute__" = some (some (.builtin "BaseException.__getattribute__"))) && (decide (PySem.W.findIn K (.ref D) "__getattr__" = some none) && (decide (PySem.W.subIn K (.ref D) (.type "BaseException") = some true) && (PySem.W.hasDictIn K D &&
  (decide (PySem.W.findIn K (.ref D) "__class__" = some (some (.builtin "object.__class__"))) && (decide (PySem.W.specialIn K (.builtin "object.__class__") "__get__" = some (some (.builtin "getset_descriptor.__get__"))) && (decide (PySem.W.takesIn K (.builtin "object.__class__") = some true) && decide (PySem.W.mroIn K D (.type "object") = some true)))))))
theorem excCB_ok {K : PySem.W.Frag} {D : Addr} (h : excCB K D = true) : ExcC K D := by
  obtain ⟨h1, h⟩ := Bool.and_eq_true_iff.mp h
  obtain ⟨h2, h⟩ := Bool.and_eq_true_iff.mp h
  obtain ⟨h3, h⟩ := Bool.and_eq_true_iff.mp h
  obtain ⟨h4, h⟩ := Bool.and_eq_true_iff.mp h
  obtain ⟨h5, h⟩ := Bool.and_eq_true_iff.mp h
  obtain ⟨h6, h⟩ := Bool.and_eq_true_iff.mp h
  obtain ⟨h7, h8⟩ := Bool.and_eq_true_iff.mp h
  exact ⟨dc h1, dc h2, dc h3, h4, dc h5, dc h6, dc h7, dc h8⟩
def isaIB (c : Str) (tbl : List (Str × Bool)) (K : PySem.W.Frag) : Bool := tbl.all fun q => excCB K (He.ga K q.1) && decide (PySem.W.kitOne K (.ref (He.ga K q.1)) (.ref (He.ga K c)) = some q.2)
theorem isaIB_ok {K : PySem.W.Frag} {c : Str} {tbl : List (Str × Bool)} (h : isaIB c tbl K = true) : IsaI K c (isaL tbl) := fun z b e => by
  obtain ⟨h1, h2⟩ := Bool.and_eq_true_iff.mp (List.all_eq_true.mp h (z, b) (lookup_memB e))
  exact ⟨excCB_ok h1, dc h2⟩
/-- a field of a caught exception may be read -/
def xfFB (c : Str) (fs : List Str) (K : PySem.W.Frag) : Bool := xfB K (He.ga K c) && fs.all fun f => decide (PySem.W.findIn K (.ref (He.ga K c)) f = some none)
theorem xfFB_ok {K : PySem.W.Frag} {c : Str} {fs : List Str} (h : xfFB c fs K = true) : XfC K (He.ga K c) ∧ ∀ f ∈ fs, PySem.W.findIn K (.ref (He.ga K c)) f = some none := by
  obtain ⟨h1, h2⟩ := Bool.and_eq_true_iff.mp h
  exact ⟨xfB_ok h1, fun f hf => dc (List.all_eq_true.mp h2 f hf)⟩

/-! ### the Hook -/
abbrev AlY : Type := AlX × List FnC
def obsY (fa : List He.Fa) (fn : List He.DefD) (ts : List He.Tab) (bs : List (PySem.W.Frag → Bool)) (xs : List InD) (K : PySem.W.Frag) : AlY := (obsX fa fn ts bs K, xs.map fun d => fnA K (d.ad K))
def valY (fn : List He.DefD) (ts : List He.Tab) (bs : List (PySem.W.Frag → Bool)) (xs : List InD) (w : World) : AlY := (valX fn ts bs w, xs.map InD.val)
def obsYG (n : Nat) (fa : List He.Fa) (fn : List He.DefD) (ts : List He.Tab) (bs : List (PySem.W.Frag → Bool)) (xs : List InD) (g : Addr → Option Obj) : AlY := obsY fa fn ts bs xs (He.frG g (PySem.cStatics :: He.asD g n))
def SaysY (fa : List He.Fa) (fn : List He.DefD) (ts : List He.Tab) (bs : List (PySem.W.Frag → Bool)) (xs : List InD) (w : World) (K : PySem.W.Frag) : Prop := obsY fa fn ts bs xs K = valY fn ts bs xs w
def hookY (n : Nat) (fa : List He.Fa) (fn : List He.DefD) (ts : List He.Tab) (bs : List (PySem.W.Frag → Bool)) (xs : List InD) : PySem.W.Hook where
  α := AlY
  obs := fun s => obsYG n fa fn ts bs xs s.heap.get?
  val := fun w => valY fn ts bs xs w
  says := fun w h => ∃ K : PySem.W.Frag, K.In h ∧ SaysY fa fn ts bs xs w K
  of := fun _ _ e => ⟨_, He.frG_in, e⟩
  keeps := fun _ _ _ ⟨K, hK, c⟩ k => ⟨K, PySem.W.Frag.In.keeps hK k, c⟩
theorem obsYG_eq {n : Nat} {fa : List He.Fa} {fn : List He.DefD} {ts : List He.Tab} {bs : List (PySem.W.Frag → Bool)} {xs : List InD} {g : Addr → Option Obj} {s : Shared} (h : ∀ a, g a = s.heap.get? a) : obsYG n fa fn ts bs xs g = (hookY n fa fn ts bs xs).obs s := by
  have e : g = s.heap.get? := funext h
  rw [e] <;> rfl
section
variable {fa : List He.Fa} {fn : List He.DefD} {ts : List He.Tab} {bs : List (PySem.W.Frag → Bool)} {xs : List InD} {w : World} {K : PySem.W.Frag}
theorem SaysY.x (c : SaysY fa fn ts bs xs w K) : SaysX fa fn ts bs w K := congrArg (fun z : AlY => z.1) c
theorem SaysY.i (c : SaysY fa fn ts bs xs w K) (i : Nat) {d : InD} (h : xs[i]? = some d := by rfl) : fnA K (d.ad K) = d.val := by
  have e : xs.map (fun d => fnA K (d.ad K)) = xs.map InD.val := congrArg (fun z : AlY => z.2) c
  have e2 : (xs.map fun d => fnA K (d.ad K))[i]? = (xs.map InD.val)[i]? := by rw [e]
  rw [List.getElem?_map, List.getElem?_map, h] at e2
  exact Option.some.inj e2
end
end Pv

/-! PvZ: rows of drawn bytes. -/
namespace Pv
open PySem L2
def BytI (i : Nat) (acc : List PyData) : Prop := ∃ vs : List Int, vs.length = i ∧ byteL vs ∧ acc = vs.map PyData.int
theorem BytI.snoc {i : Nat} {acc : List PyData} {v : Int} (h : BytI i acc) (h0 : 0 ≤ v) (h1 : v < 256) : BytI (i + 1) (acc ++ [.int v]) := by
  obtain ⟨vs, a, b, rfl⟩ := h
  refine ⟨vs ++ [v], by rw [List.length_append, a]; rfl, fun e he => ?_, by rw [List.map_append]; rfl⟩
  rcases List.mem_append.mp he with z | z
  · exact b e z
  · rw [List.mem_singleton.mp z]
    exact ⟨h0, h1⟩
theorem BytI.lt {i n : Nat} {acc : List PyData} (h : BytI i acc) (hi : i < n) (hn : n ≤ 10000000 := by omega) : acc.length < sizeLine := by
  obtain ⟨vs, a, b, rfl⟩ := h
  rw [List.length_map]
  exact szl (by omega)
/-- [.. for k in range(n)], each a byte -/
theorem lc_bytes {n : Nat} {lo c : Int} {Q : List PyData → Prop} {T : Nat → PyData → List PyData → (Nat → List PyData → Prop) → Prop} (turn : ∀ i acc, i < n → BytI i acc → T i (.int (lo + (i : Nat) * c)) acc BytI) (fin : ∀ vs : List Int, vs.length = n → byteL vs → Q (vs.map PyData.int)) :
    ∃ I : Nat → List PyData → Prop, I 0 [] ∧ (∀ i d acc, (rngD lo n c)[i]? = some d → I i acc → T i d acc I) ∧ ∀ acc, I (rngD lo n c).length acc → Q acc := by
  refine ⟨BytI, ⟨[], rfl, (fun c hc => by cases hc), rfl⟩, ?_, ?_⟩
  · rintro i d acc hd inv
    obtain ⟨hi, rfl⟩ := rngD_get hd
    exact turn i acc hi inv
  · rintro acc ⟨vs, a, b, rfl⟩
    rw [rngD_len] at a
    exact fin vs a b
/-- [.. for v in xs], each a byte -/
theorem lc_bytesM {xs : List Int} {Q : List PyData → Prop} {T : Nat → PyData → List PyData → (Nat → List PyData → Prop) → Prop} (turn : ∀ i v acc, xs[i]? = some v → BytI i acc → T i (.int v) acc BytI) (fin : ∀ vs : List Int, vs.length = xs.length → byteL vs → Q (vs.map PyData.int)) :
    ∃ I : Nat → List PyData → Prop, I 0 [] ∧ (∀ i d acc, (xs.map PyData.int)[i]? = some d → I i acc → T i d acc I) ∧ ∀ acc, I (xs.map PyData.int).length acc → Q acc := by
  refine ⟨BytI, ⟨[], rfl, (fun c hc => by cases hc), rfl⟩, ?_, ?_⟩
  · rintro i d acc hd inv
    obtain ⟨a, h, rfl⟩ := map_get hd
    exact turn i a acc h inv
  · rintro acc ⟨vs, a, b, rfl⟩
    rw [List.length_map] at a
    exact fin vs a b
/-- an item of a written list of ints -/
theorem menu_k {ms : List Int} {i : Int} {Q : PyData → Prop} (h0 : 0 ≤ i) (h1 : i < ms.length) (h : ∀ m, m ∈ ms → Q (.int m)) : ∃ x, atI (ms.map PyData.int) i = some x ∧ Q x := by
  obtain ⟨m, hm, h2⟩ := menuD (f := PyData.int) (ms := ms) h0 h1
  exact ⟨_, hm, h m h2⟩
theorem emod_bd (a : Int) {b : Int} (h : 0 < b) : 0 ≤ a % b ∧ a % b < b := ⟨Int.emod_nonneg _ (by omega), Int.emod_lt_of_pos _ h⟩
end Pv

/-! PwA: objects that stay: made by an __init__ of rows self.f = e, fields, methods that let nothing out. -/
namespace Pv
open PySem L2 PySem.Spec PyProof.Rows
/-! ### fields -/
def getD (f : Str) : List PyData → List PyData → Option PyData
  | .str n :: ns, d :: ds => if n = f then some d else getD f ns ds
  | _, _ => none
def fldD (Cs : List Str) (f : Str) : PyData → Option PyData
  | .dict [(.list [.str c, .tuple ns], .list ds)] => if Cs.contains c = true then getD f ns ds else none
  | _ => none
def fldR (Cs : List Str) (f : Str) : Rs → Option Rs
  | .bb c pre g ds => if Cs.contains c = true then match pre.lookup f with
    | some d => some (.va d)
    | none => if g = f then some (.bo ds) else none
    else none
  | .bg _ _ => none
  | r => (fldD Cs f r.d).map .va
def FldOk (K : PySem.W.Frag) (Cs : List Str) (f : Str) : Prop := ∀ c ∈ Cs, Cls K (He.ga K c) ∧ NoAttr K (He.ga K c) f
def xFld (Cs : List Str) (f : Str) (xa : XE) : XE := fun e q ex => xa e (fun r => ∃ v, fldR Cs f r = some v ∧ q v) ex
theorem getD_ok {K : PySem.W.Frag} {G : Hp} {f : Str} {d : PyData} : ∀ {fs : List (Str × V)} {ds : List PyData}, RpAll K G (fs.map (·.2)) ds → getD f ((fs.map (·.1)).map .str) ds = some d → ∃ v, fs.lookup f = some v ∧ Rp K G v d
  | [], _, _, e => by cases e
  | (n, v) :: fs, [], h, e => by cases h
  | (n, v) :: fs, z :: ds, h, e => by
    have h' : RpAll K G (v :: fs.map (·.2)) (z :: ds) := h
    have e' : (if n = f then some z else getD f ((fs.map (·.1)).map .str) ds) = some d := e
    cases h' with
    | cons h1 h2 =>
      by_cases q : n = f
      · rw [if_pos q] at e'
        cases e'
        subst q
        exact ⟨v, by simp [List.lookup], h1⟩
      · rw [if_neg q] at e'
        obtain ⟨u, k1, k2⟩ := getD_ok h2 e'
        have z2 : (f == n) = false := by simpa using fun x => q x.symm
        exact ⟨u, by simp [List.lookup, z2]; exact k1, k2⟩
theorem rsr_ob {K : PySem.W.Frag} {Hs G H : Hp} {v : V} {r : Rs} {x : PyData} {y : List PyData} (h : RsR K Hs G H v r) (e : r.d = .dict [(.list y, x)]) (hn : (∀ c pre f ds, r ≠ .bb c pre f ds) ∧ ∀ k ds, r ≠ .bg k ds) : ∃ (a dx : Addr) (c : Str) (fs : List (Str × V)) (ds : List PyData), v = .ref a ∧ G a = some (.ins (He.ga K c) dx fs) ∧
    y = [.str c, .tuple ((fs.map (·.1)).map .str)] ∧ x = .list ds ∧ RpAll K G (fs.map (·.2)) ds := by
  cases r with
  | va d =>
    have e2 : d = .dict [(.list y, x)] := e
    subst e2
    have h' : Rp K G v (.dict [(.list y, x)]) := h
    cases h' with
    | obj h1 h2 h3 h4 =>
      subst h2 h3
      exact ⟨_, _, _, _, _, rfl, h1, rfl, rfl, h4⟩
  | nw ds' => cases e
  | bo ds' => cases e
  | bb c' pre f ds' => exact (hn.1 _ _ _ _ rfl).elim
  | bg k0 ds0 => exact (hn.2 _ _ rfl).elim
theorem rsr_obW {K : PySem.W.Frag} {Hs G H : Hp} {v : V} {r : Rs} {x : PyData} {y : List PyData} (h : RsR K Hs G H v r) (s : Same G H) (e : r.d = .dict [(.list y, x)]) : ∃ (a dx : Addr) (c : Str) (fs : List (Str × V)) (ds : List PyData), v = .ref a ∧ H a = some (.ins (He.ga K c) dx fs) ∧
    y = [.str c, .tuple ((fs.map (·.1)).map .str)] ∧ x = .list ds ∧ RpAll K H (fs.map (·.2)) ds := by
  have w := h.wk s
  rw [e] at w
  have h' : Rp K H v (.dict [(.list y, x)]) := w
  cases h' with
  | obj h1 h2 h3 h4 =>
    subst h2 h3
    exact ⟨_, _, _, _, _, rfl, h1, rfl, rfl, h4⟩
section
variable {X : Cx} {W : WX} {K : PySem.W.Frag} {a : Expr} {es : List Expr} {te : TE} {ta : TA} {xa : XE} {xs : XA} {pos : Pos}
theorem fsr_lk {G : Hp} {f : Str} {d : PyData} {more : List (Str × V)} : ∀ {fs : List (Str × V)} {gs : List (Str × PyData)}, FsR K G fs gs → gs.lookup f = some d → ∃ v, (fs ++ more).lookup f = some v ∧ Rp K G v d
  | _, _, .nil, h => by cases h
  | (k, v) :: fs, (k', d') :: gs, .cons h t, e => by
    obtain ⟨e1, r⟩ := h
    have e1 : k = k' := e1
    subst e1
    by_cases z : f = k
    · subst z
      simp [List.lookup] at e
      subst e
      exact ⟨v, by simp [List.lookup], r⟩
    · have z2 : (f == k) = false := by simpa using z
      simp [List.lookup, z2] at e
      obtain ⟨u, h1, h2⟩ := fsr_lk (more := more) t e
      exact ⟨u, by simpa [List.lookup, z2] using h1, h2⟩
theorem fsr_no {G : Hp} {f : Str} {more : List (Str × V)} : ∀ {fs : List (Str × V)} {gs : List (Str × PyData)}, FsR K G fs gs → gs.lookup f = none → (fs ++ more).lookup f = more.lookup f
  | _, _, .nil, h => rfl
  | (k, v) :: fs, (k', d') :: gs, .cons h t, e => by
    obtain ⟨e1, r⟩ := h
    have e1 : k = k' := e1
    subst e1
    by_cases z : f = k
    · subst z
      simp [List.lookup] at e
    · have z2 : (f == k) = false := by simpa using z
      simp [List.lookup, z2] at e
      have := fsr_no (more := more) t (by simpa using e)
      simpa [List.lookup, z2] using this
theorem ref_fld {Cs : List Str} {f : Str} (F : FldOk K Cs f) (h : RefE K W te xa) : RefE K W (tFld K te f) (xFld Cs f xa) := by
  intro G0 H0 G H σ e Q q ex hs hx hq hw
  refine h G0 H0 G H σ e _ _ ex hs hx (fun G1 H1 v r1 s1 g1 rr1 k1 => ?_) hw
  obtain ⟨z, hd, k⟩ := k1
  have key : ∀ d, fldD Cs f r1.d = some d → ((∀ c pre f ds, r1 ≠ .bb c pre f ds) ∧ ∀ k ds, r1 ≠ .bg k ds) → q (.va d) → ∃ (p : Addr) (cls : Addr) (dx : Addr) (fs : List (Str × V)) (u : V), v = .ref p ∧ H1 p = some (.ins cls dx fs) ∧ Cls K cls ∧ NoAttr K cls f ∧ fs.lookup f = some u ∧ Q u H1 := fun d hd hn k => by
    unfold fldD at hd
    split at hd
    · rename_i c ns ds hr
      obtain ⟨p, dx, c', fs, ds', rfl, h1, h2, h3, h4⟩ := rsr_ob rr1 hr hn
      injection h2 with h2 h2'
      injection h2 with h2
      injection h2' with h2'
      injection h2' with h2'
      injection h3 with h3
      subst h2 h2' h3
      by_cases hc : Cs.contains c = true
      · rw [if_pos hc] at hd
        obtain ⟨u, k1, k2⟩ := getD_ok h4 hd
        obtain ⟨F1, F2⟩ := F c (List.contains_iff_mem.mp hc)
        exact ⟨p, _, dx, fs, u, rfl, s1 _ _ h1, F1, F2, k1, hq G1 H1 u (.va d) s1 g1 k2 k⟩
      · rw [if_neg hc] at hd
        cases hd
    · cases hd
  cases r1 with
  | va d0 =>
    have hd' : (fldD Cs f d0).map Rs.va = some z := hd
    cases hz : fldD Cs f d0 with
    | none =>
      rw [hz] at hd'
      cases hd'
    | some d =>
      rw [hz] at hd'
      cases hd'
      exact key d hz ⟨(fun _ _ _ _ y => by cases y), fun _ _ y => by cases y⟩ k
  | nw ds => cases hd
  | bo ds => cases hd
  | bg k0 ds0 => cases hd
  | bb c pre g ds =>
    obtain ⟨a, p, rfl, ⟨dx, vs, xs, k1, k2, k3, k4⟩, n1, n2⟩ := rr1
    have hd' : (if Cs.contains c = true then match pre.lookup f with
      | some d => some (.va d)
      | none => if g = f then some (.bo ds) else none
      else none) = some z := hd
    by_cases hc : Cs.contains c = true
    · rw [if_pos hc] at hd'
      obtain ⟨F1, F2⟩ := F c (List.contains_iff_mem.mp hc)
      cases hl : pre.lookup f with
      | some d =>
        rw [hl] at hd'
        cases hd'
        obtain ⟨u, u1, u2⟩ := fsr_lk (more := [(g, .ref p)]) k2 hl
        exact ⟨a, _, dx, _, u, rfl, k1, F1, F2, u1, hq G1 H1 u (.va d) s1 g1 u2 k⟩
      | none =>
        rw [hl] at hd'
        have hd2 : (if g = f then some (Rs.bo ds) else none) = some z := hd'
        by_cases hg : g = f
        · rw [if_pos hg] at hd2
          cases hd2
          subst hg
          exact ⟨a, _, dx, _, .ref p, rfl, k1, F1, F2, by rw [fsr_no k2 hl]; simp [List.lookup], hq G1 H1 _ (.bo ds) s1 g1 ⟨p, xs, rfl, k3, k4⟩ k⟩
        · rw [if_neg hg] at hd2
          cases hd2
    · rw [if_neg hc] at hd'
      cases hd'
theorem ve_fld {Cs : List Str} {f : Str} (F : FldOk X.K Cs f) (h : VE X W a te xa) (hb : attributeBase a f X.env (eval a X.env) = eval a X.env := by rfl) : VE X W (.Attribute a f pos) (tFld X.K te f) (xFld Cs f xa) := ⟨pe_fld h.pe hb, ref_fld F h.rf⟩

/-! ### making -/
def uIni : List (Str × XE) → (List (Str × PyData) → Prop) → En → List (Str × PyData) → Prop
  | [], q, _, gs => q gs
  | (f, x) :: r, q, e, gs => x e (fun rs => rs.stays = true ∧ (gs.map (·.1)).contains f = false ∧ uIni r q e (gs ++ [(f, rs.d)])) (fun _ => False)
theorem fsr_put {G : Hp} {f : Str} {v : V} {d : PyData} (hv : Rp K G v d) : ∀ {fs : List (Str × V)} {gs : List (Str × PyData)}, FsR K G fs gs → (gs.map (·.1)).contains f = false → FsR K G (putF f v fs) (gs ++ [(f, d)])
  | _, _, .nil, _ => .cons ⟨rfl, hv⟩ .nil
  | (k, u) :: fs, (k', d') :: gs, .cons h t, n => by
    obtain ⟨h1, h2⟩ := h
    have h1 : k = k' := h1
    subst h1
    have n' : ¬ (f = k) ∧ (gs.map (·.1)).contains f = false := by simpa [List.contains_cons] using n
    have e : putF f v ((k, u) :: fs) = (k, u) :: putF f v fs := by
      show (if k = f then _ else _) = _
      rw [if_neg fun z => n'.1 z.symm]
    rw [e]
    exact .cons ⟨rfl, h2⟩ (fsr_put hv t n'.2)
theorem fsr_len {G : Hp} {fs : List (Str × V)} {gs : List (Str × PyData)} (h : FsR K G fs gs) : fs.length = gs.length := paired_len h
theorem fsr_keys {G : Hp} : ∀ {fs : List (Str × V)} {gs : List (Str × PyData)}, FsR K G fs gs → gs.map (·.1) = fs.map (·.1) ∧ RpAll K G (fs.map (·.2)) (gs.map (·.2))
  | _, _, .nil => ⟨rfl, .nil⟩
  | (k, u) :: fs, (k', d') :: gs, .cons h t => by
    obtain ⟨h1, h2⟩ := h
    have h1 : k = k' := h1
    subst h1
    obtain ⟨t1, t2⟩ := fsr_keys t
    exact ⟨by rw [List.map_cons, List.map_cons, t1], .cons h2 t2⟩
structure VIn (X : Cx) (c : Str) (sts : List Stmt) (rows : List (Str × XE)) : Prop where
  run : ∃ t : TS, PSs X sts t ∧ ∀ (G0 H0 : Hp) (D : Ends) (q : List (Str × PyData) → Prop) (G H : Hp) (σ : L2.St) (e : En) (x dx : Addr) (fs : List (Str × V)) (gs : List (Str × PyData)), StR X.K G0 H0 G H σ e → (σ[0]? = some (some (.ref x)) ∧ ∀ (i : Nat) (t : Sl), e[i]? = some t → ¬ t.has σ[i]? x) →
    H x = some (.ins (He.ga X.K c) dx fs) → G x = none → H0 x = none → FsR X.K G fs gs → gs.length + rows.length ≤ 900 → uIni rows q e gs →
    (∀ G' H' fs' gs', StR X.K G0 H0 G' H' σ e → H' x = some (.ins (He.ga X.K c) dx fs') → G' x = none → FsR X.K G' fs' gs' → q gs' → D.nx σ H') → t D σ H
theorem vin_nil {c : Str} : VIn X c [] [] := ⟨⟨tNext, pss_nil, fun G0 H0 D q G H σ e x dx fs gs hs _ hx hg _ hf _ hu hq => hq G H fs gs hs hx hg hf hu⟩⟩
theorem vin_cons {c f s : Str} {value : Expr} {sts : List Stmt} {rows : List (Str × XE)} {p p1 p2 : Pos} (C : Cls X.K (He.ga X.K c)) (nf : NoAttr X.K (He.ga X.K c) f) (hv : VE X WX0 value te xa) (hr : VIn X c sts rows) (hN : X.N[0]? = some s := by rfl)
    (hvi : Vis X.env.scope s := by first | exact Or.inl rfl | exact Or.inr (Or.inl rfl) | exact Or.inr (Or.inr rfl)) (hd : (s == ("__debug__" : Str)) = false := by decide) (hcd : (s == ("__classdict__" : Str)) = false := by decide)
    (hs : swapsWith value (some (.Attribute (.Name s p) f p1)) p2.line X.env = pure false := by rfl) : VIn X c (.Assign [.Attribute (.Name s p) f p1] value p2 :: sts) ((f, xa) :: rows) := by
  obtain ⟨t, ht, hrun⟩ := hr.run
  refine ⟨⟨tSeq (sFld X.K (tVar 0) te f) t, pss_cons (ps_fld (pe_var hN hvi hd hcd) hv.pe hs) ht, ?_⟩⟩
  intro G0 H0 D q G H σ e x dx fs gs st hx0 hx hg h0 hf hl hu hq
  have hu' : xa e (fun rs => rs.stays = true ∧ (gs.map (·.1)).contains f = false ∧ uIni rows q e (gs ++ [(f, rs.d)])) (fun _ => False) := hu
  refine hv.rf G0 H0 G H σ e _ _ _ st hu' (fun G1 H1 v r1 s1 g1 rr1 k1 => ?_) (fun _ _ _ _ _ _ _ _ z => z.elim)
  obtain ⟨stay, nk, k⟩ := k1
  have hx1 : H1 x = some (.ins (He.ga X.K c) dx fs) := g1.hh _ _ hx
  have hg1 : G1 x = none := g1.nn x hg (by rw [hx]; exact Option.some_ne_none _)
  obtain ⟨G2, s2, sg, g2, rp, hg2⟩ : ∃ G2, Same G2 H1 ∧ Same G1 G2 ∧ Grow G H G2 H1 ∧ Rp X.K G2 v r1.d ∧ G2 x = none := by
    cases r1 with
    | va d => exact ⟨G1, s1, Same.refl _, g1, rr1, hg1⟩
    | nw ds =>
      obtain ⟨G2, s2, sg, g2, rp, n⟩ := rr1.fix (G0 := G0) (H0 := H0) (σ := σ) (e := e) s1 g1 stay
      refine ⟨G2, s2, sg, g2, rp, n x hg1 (by rw [hx1]; exact Option.some_ne_none _) fun z => ?_⟩
      obtain ⟨p, xs', e1, _, e3, _, _⟩ := rr1
      rw [e1] at z
      cases z
      rw [hx1] at e3
      cases e3
    | bo ds => cases stay
    | bb c pre f ds => cases stay
    | bg k0 ds0 => cases stay
  have st1 := st.grow g2 s2
  have hf2 : FsR X.K G2 fs gs := hf.mono (g2.gg)
  have hlen := fsr_len hf
  refine ⟨_, hx0.1, x, _, dx, fs, rfl, hx1, C, nf, by simp at hl; omega, ?_⟩
  have st2 : StR X.K G0 H0 G2 (upd H1 x (.ins (He.ga X.K c) dx (putF f v fs))) σ e := st1.poke hx1 (fun _ z => by cases z) hg2 h0 hx0.2
  exact hrun G0 H0 D q G2 _ σ e x dx (putF f v fs) (gs ++ [(f, r1.d)]) st2 hx0 upd_same hg2 h0 (fsr_put rp hf2 nk) (by simp at hl ⊢; omega) k hq
abbrev FnI := List PyData → (List (Str × PyData) → Prop) → Prop
def spI (K : PySem.W.Frag) (c : Str) (I : FnI) : Sp := fun vs H Q E => ∃ (x dx : Addr) (ws : List V) (G H0 : Hp) (ds : List PyData) (q : List (Str × PyData) → Prop), vs = .ref x :: ws ∧ H x = some (.ins (He.ga K c) dx []) ∧ G x = none ∧ H0 x = none ∧ Same G H ∧ Same H0 H ∧ RpAll K G ws ds ∧ I ds q ∧
  ∀ G' H' fs gs, Same G' H' → Grow G H0 G' H' → H' x = some (.ins (He.ga K c) dx fs) → G' x = none → FsR K G' fs gs → q gs → Q .non H'
def enI (n : Nat) (ds : List PyData) : En := .no :: (ds.map .fz ++ List.replicate (n - 1 - ds.length) .no)
theorem enI_get {n : Nat} {ds : List PyData} {i : Nat} {s : Sl} (hi : (enI n ds)[i]? = some s) : s = .no ∨ ∃ d, s = .fz d := by
  unfold enI at hi
  cases i with
  | zero =>
    cases hi
    exact .inl rfl
  | succ i =>
    rw [List.getElem?_cons_succ] at hi
    by_cases hl : i < ds.length
    · rw [List.getElem?_append_left (by simpa using hl), List.getElem?_map] at hi
      have hd : ds[i]? = some ds[i] := List.getElem?_eq_getElem hl
      rw [hd] at hi
      cases hi
      exact .inr ⟨_, rfl⟩
    · rw [List.getElem?_append_right (by simpa using hl), List.getElem?_replicate] at hi
      split at hi
      · cases hi
        exact .inl rfl
      · cases hi
theorem enI_has {n : Nat} {ds : List PyData} {σ : L2.St} {x : Addr} (i : Nat) (t : Sl) (hi : (enI n ds)[i]? = some t) : ¬ t.has σ[i]? x := by
  rcases enI_get hi with rfl | ⟨d, rfl⟩ <;> exact fun z => z
theorem StR.startI {G H H0 : Hp} (sub : Same G H) (h0 : Same H0 H) {x : Addr} {vs : List V} {ds : List PyData} (N : List Str) (h : RpAll K G vs ds) : StR K G H0 G H (L2.start N (.ref x :: vs)) (enI N.length ds) := by
  have b := (StR.start G H sub N (RpAll.cons (Rp.non) h)).setX 0 (o := some (.ref x)) (sl := .no) (fun _ => trivial) (fun ds z => by cases z)
  have e1 : (L2.start N (.non :: vs)).set 0 (some (.ref x)) = L2.start N (.ref x :: vs) := rfl
  have e2 : ((PyData.none :: ds).map Sl.fz ++ List.replicate (N.length - (PyData.none :: ds).length) Sl.no).set 0 Sl.no = enI N.length ds := by
    show Sl.no :: _ = Sl.no :: _
    rw [List.length_cons, show N.length - (ds.length + 1) = N.length - 1 - ds.length from by omega] <;> rfl
  rw [e1, e2] at b
  refine ⟨b.sub, ⟨Same.refl _, h0, fun _ h _ => h⟩, b.len, fun i s hi => ?_, b.dj⟩
  have q := b.sl i s hi
  rcases enI_get hi with rfl | ⟨d, rfl⟩
  · trivial
  · exact q
theorem defI {P : Program} {w : World} {mg : Str → Option Value} {base : Heap} {x qual c : Str} {params : Arguments} {body : List Stmt} {scope : Scope} {dvs : List V} {kws : List (Str × V)} {f : Addr} {fd : FuncData} {CX : CXT} {N ps : List Str} {k : Nat} {I : FnI} {rows : List (Str × XE)}
    (F : FunD K x qual params body scope dvs kws f fd) (S : FnScope N ps scope) (hx : ∀ ds q, I ds q → ds.length + 1 = ps.length) (hu : ∀ ds q, I ds q → uIni rows q (enI N.length ds) []) (hr : rows.length ≤ 900)
    (hbody : ∀ (cdv : Value) (A : Around) (outer : List Env) (s : Shared) (H : Hp) (E : XK), Room k (A.deeper (envOfC qual scope s.heap.objs.size f cdv)) → VIn (cxOf CX P w K mg base N qual scope f cdv A outer s H E) c body rows) :
    FnOk P w K mg base CX (k + 1) f fd ps (spI K c I) := by
  refine F.ok S (fun vs H Q E h => ?_) fun cdv A outer s H vs Q E hR h => ?_
  · obtain ⟨x, dx, ws, G, H0, ds, q, rfl, _, _, _, _, _, ra, hI, _⟩ := h
    rw [List.length_cons, ra.len]
    exact hx ds q hI
  · obtain ⟨t, ht, hrun⟩ := (hbody cdv A outer s H E hR).run
    obtain ⟨x, dx, ws, G, H0, ds, q, rfl, h1, h2, h3, h4, h5, ra, hI, hq⟩ := h
    refine ⟨t, ht, ?_⟩
    refine hrun G H0 _ q G H _ _ x dx [] [] (StR.startI h4 h5 N ra) ⟨rfl, fun i t hi => enI_has i t hi⟩ h1 h2 h3 .nil (by simpa using hr) (hu ds q hI) fun G' H' fs' gs' st e1 e2 e3 k => ?_
    exact hq G' H' fs' gs' st.sub st.gr e1 e2 e3 k
def xMake (c : Str) (I : FnI) (xs : XA) : XE := fun e q ex => xs e (fun rs => rs.all Rs.stays = true ∧ I (rs.map Rs.d) (fun gs => q (.va (obD c (gs.map (·.1)) (gs.map (·.2)))))) ex
theorem ref_make {c : Str} {I : FnI} {E : XK} (h : RefA K W ta xs) : RefE K W (tMake (He.ga K c) (spI K c I) [] E ta) (xMake c I xs) := by
  intro G0 H0 G H σ e Q q ex hs hx hq hw
  refine h G0 H0 G H σ e _ _ ex hs hx (fun G1 H1 vs rs s1 g1 pr k1 => ?_) hw
  obtain ⟨hz, k⟩ := k1
  obtain ⟨G2, s2, g2, ra⟩ := fix_args s1 g1 pr hz
  intro x dx hx1 hdx ne
  have hx2 : (upd H1 dx (.own x)) x = none := by rw [upd_ne (Ne.symm ne)]; exact hx1
  have sH : Same H1 (upd (upd H1 dx (.own x)) x (.ins (He.ga K c) dx [])) := (same_new hdx).trans (same_new hx2)
  refine ⟨x, dx, vs, G2, H1, rs.map Rs.d, _, by rw [List.append_nil], upd_same, s2.free hx1, hx1, s2.trans sH, sH, ra, k, fun G' H' fs gs s3 g3 e1 e2 e3 k3 => ⟨rfl, ?_⟩⟩
  obtain ⟨e4, e5⟩ := fsr_keys e3
  have sg : Same G' (upd G' x (.ins (He.ga K c) dx fs)) := same_new e2
  have sub : Same (upd G' x (.ins (He.ga K c) dx fs)) H' := fun a u z => by
    by_cases ha : a = x
    · subst ha
      rw [upd_same] at z
      rw [e1]
      exact z
    · rw [upd_ne ha] at z
      exact s3 _ _ z
  have gr : Grow G2 H1 (upd G' x (.ins (He.ga K c) dx fs)) H' := ⟨g3.gg.trans sg, g3.hh, fun a z1 z2 => by
    have hn : a ≠ x := fun z => z2 (by rw [z]; exact hx1)
    rw [upd_ne hn]
    exact g3.nn a z1 z2⟩
  exact hq _ _ (.ref x) (.va _) sub (g2.trans gr) (.obj upd_same rfl e4 (e5.mono sg _ _)) k3
theorem ve_make {CX : CXT} {k : Nat} {f : Addr} {fd : FuncData} {ps : List Str} {I : FnI} {c : Str} {p : Pos} (M : Mk X.K (He.ga X.K c) f) (F : FnOk X.prog X.w X.K X.mg X.base CX k f fd ps (spI X.K c I)) (hr : Room (k + 1) X.A) (hg : Gl X c) (hm : X.mg c = some (.ref (He.ga X.K c))) (hb : Binds X.K fd ps []) (hqu : Quiet CX)
    (ha : VA X W (a :: es) ta xs) (hdb : (c == ("__debug__" : Str)) = false := by decide) (he : starEach (a :: es) X.env = (false, eval a X.env) :: starEach es X.env := by rfl) (hpl : (backTo pos (starEach es X.env)).any (·.1) = false := by rfl) :
    VE X W (.Call (.Name c p) (a :: es) [] pos) (tMake (He.ga X.K c) (spI X.K c I) [] (fun _ _ _ => False) ta) (xMake c I xs) :=
  ⟨pe_make M F hr hg hm hb .nil (fun _ _ _ _ _ _ _ z => (hqu _ _ _ _ _ z).elim) ha.pa hdb he hpl, ref_make ha.rf⟩

/-! ### methods that let nothing out -/
def methD (c m : Str) : PyData → Bool
  | .dict [(.list [.str c', .tuple ns], .list _)] => decide (c' = c) && ns.all fun n => match n with
    | .str z => !decide (z = m)
    | _ => false
  | _ => false
def xMeth (c m : Str) (F : Fn) (xa : XE) (xs : XA) : XE := fun e q ex => xa e (fun r => methD c m r.d = true ∧ xs e (fun rs => F (r.d :: rs.map Rs.d) (fun z => (z.stays && ((r :: rs).all Rs.stays || z.lf)) = true ∧ q z) (fun _ => False)) ex) ex
theorem methD_no {m : Str} : ∀ {fs : List (Str × V)}, (((fs.map (·.1)).map PyData.str).all fun n => match n with
    | .str z => !decide (z = m)
    | _ => false) = true → fs.lookup m = none
  | [], _ => rfl
  | (n, v) :: fs, h => by
    have h' : (!decide (n = m)) = true ∧ (((fs.map (·.1)).map PyData.str).all fun n => match n with
      | .str z => !decide (z = m)
      | _ => false) = true := Bool.and_eq_true_iff.mp h
    have z : (m == n) = false := by
      have := h'.1
      simp at this
      simpa using fun x => this x.symm
    simp only [List.lookup, z]
    exact methD_no h'.2
/-- a def is run on what has been handed -/
theorem call_core {F : Fn} {G H G1 H1 : Hp} {vs : List V} {rs : List Rs} {Q : VK} {E : XK} {q : Rs → Prop} (s1 : Same G1 H1) (g1 : Grow G H G1 H1) (pr : Paired (RsR K H G1 H1) vs rs)
    (k1 : F (rs.map Rs.d) (fun r => (r.stays && (rs.all Rs.stays || r.lf)) = true ∧ q r) (fun _ => False)) (hq : ∀ G' H' v r, Same G' H' → Grow G H G' H' → RsR K H G' H' v r → q r → Q v H') : spF K F vs H1 Q E := by
  obtain ⟨ps, bs, p1, p2, p3, p4⟩ := args_rep s1 pr
  have bsOf : ∀ {Gc : Hp}, Same (exth H1 G1 (ps ++ bs)) Gc → ∀ p ∈ bs, LoA (Gc p) := fun {Gc} sg p hp => by
    obtain ⟨_, u, e2, l⟩ := p2 p hp
    refine ⟨u, sg _ _ ?_, l⟩
    rw [exth_in (List.mem_append_right _ hp)]
    exact e2
  have sub : ∀ {Gc H2 : Hp}, Same Gc H2 → Same (hide bs Gc) H2 := fun {Gc H2} sg a o ea => by
    by_cases ha : a ∈ bs
    · rw [hide_in ha] at ea
      cases ea
    · rw [hide_ne ha] at ea
      exact sg a o ea
  have grow : ∀ {Gc H2 : Hp}, Grow (exth H1 G1 (ps ++ bs)) H1 Gc H2 → Grow G H (hide bs Gc) H2 := fun {Gc H2} g2 => ⟨fun a o ea => by
      have e1 := g1.gg a o ea
      have ha : a ∉ bs := fun z => by
        rw [(p2 a z).1] at e1
        cases e1
      rw [hide_ne ha]
      exact g2.gg a o (exth_up s1 a o e1), g1.hh.trans g2.hh, fun a k1 k2 => by
      by_cases ha : a ∈ bs
      · exact hide_in ha
      · rw [hide_ne ha]
        have hp : a ∉ ps := fun z => k2 (p1 a z)
        have hn : a ∉ ps ++ bs := fun z => by
          rcases List.mem_append.mp z with z | z
          · exact hp z
          · exact ha z
        refine g2.nn a ?_ fun z => k2 (g1.hh.free z)
        rw [exth_ne hn]
        exact g1.nn a k1 k2⟩
  refine ⟨exth H1 G1 (ps ++ bs), rs.map Rs.d, _, _, exth_sub s1, p4, k1, fun Gc H2 v r s2 g2 rr k2 => ?_, fun Gc H2 cls d y s2 g2 xr k2 => k2.elim⟩
  obtain ⟨kc, k⟩ := k2
  obtain ⟨c1, c2⟩ := Bool.and_eq_true_iff.mp kc
  refine hq (hide bs Gc) H2 v r (sub s2) (grow g2) ?_ k
  rcases Bool.or_eq_true_iff.mp c2 with c2 | c2
  · obtain rfl := p3 c2
    rw [hide_nil]
    exact rr.back g1.hh
  · exact (rsr_hide (bsOf g2.gg) rr c1 c2).back g1.hh
theorem ref_meth {c m : Str} {F : Fn} {E : XK} (h : RefE K W te xa) (hr : RefA K W ta xs) : RefE K W (tMeth (He.ga K c) m (spF K F) [] E te ta) (xMeth c m F xa xs) := by
  intro G0 H0 G H σ e Q q ex hs hx hq hw
  refine h G0 H0 G H σ e _ _ ex hs hx (fun G1 H1 v r1 s1 g1 rr1 k1 => ?_) hw
  obtain ⟨hd, k⟩ := k1
  have hd0 := hd
  unfold methD at hd
  split at hd
  · rename_i c1 ns ds hre
    obtain ⟨p, dx, c', fs, ds', rfl, h1, h2, h3, h4⟩ := rsr_obW rr1 s1 hre
    injection h2 with h2 h2'
    injection h2 with h2
    injection h2' with h2'
    injection h2' with h2'
    subst h2 h2'
    obtain ⟨hc, hn⟩ := Bool.and_eq_true_iff.mp hd
    have hc := of_decide_eq_true hc
    subst hc
    refine ⟨p, dx, fs, rfl, h1, methD_no hn, ?_⟩
    refine hr G0 H0 G1 H1 σ e _ _ ex (hs.grow g1 s1) k (fun G2 H2 vs rs s2 g2 pr k2 => ?_) fun G2 H2 cls d y s2 g2 => hw G2 H2 cls d y s2 (g1.trans g2)
    rw [List.append_nil]
    exact call_core (rs := r1 :: rs) s2 (g1.trans g2) (.cons (rr1.grow g2) (paired_back g1.hh pr)) k2 hq
  · cases hd
theorem ve_meth {CX : CXT} {k : Nat} {f : Addr} {fd : FuncData} {ps : List Str} {F : Fn} {c m : Str} {o : Expr} {apos : Pos} {pl : Sem Bool} (C : Cls X.K (He.ga X.K c)) (hm : Meth X.K (He.ga X.K c) m f) (Fk : FnOk X.prog X.w X.K X.mg X.base CX k f fd ps (spF X.K F)) (hr : Room k X.A) (hb : Binds X.K fd ps []) (hqu : Quiet CX)
    (ho : VE X W o te xa) (ha : VA X W (a :: es) ta xs) (hst : starEach (a :: es) X.env = (false, eval a X.env) :: starEach es X.env := by rfl) (hpl : (backTo pos (starEach es X.env)).any (·.1) = false := by rfl)
    (ht : eval (.Call (.Attribute o m apos) (a :: es) [] pos) X.env = (do
      let ov ← eval o X.env
      standAt apos.atName
      let (f, first) ← holding [ov] (getMethod ov m pl)
      callWith pos f first (backTo pos (starEach (a :: es) X.env)) (backToKw pos (keywordEach [] X.env))) := by rfl) :
    VE X W (.Call (.Attribute o m apos) (a :: es) [] pos) (tMeth (He.ga X.K c) m (spF X.K F) [] (fun _ _ _ => False) te ta) (xMeth c m F xa xs) :=
  ⟨pe_meth ho.pe C hm Fk hr hb .nil (fun _ _ _ _ _ _ _ z => (hqu _ _ _ _ _ z).elim) ha.pa hst hpl ht, ref_meth ho.rf ha.rf⟩
theorem ve_meth0 {CX : CXT} {k : Nat} {f : Addr} {fd : FuncData} {ps : List Str} {F : Fn} {c m : Str} {o : Expr} {apos : Pos} {pl : Sem Bool} (C : Cls X.K (He.ga X.K c)) (hm : Meth X.K (He.ga X.K c) m f) (Fk : FnOk X.prog X.w X.K X.mg X.base CX k f fd ps (spF X.K F)) (hr : Room k X.A) (hb : Binds X.K fd ps []) (hqu : Quiet CX)
    (ho : VE X W o te xa)
    (ht : eval (.Call (.Attribute o m apos) [] [] pos) X.env = (do
      let ov ← eval o X.env
      standAt apos.atName
      let (f, first) ← holding [ov] (getMethod ov m pl)
      callWith pos f first (backTo pos (starEach [] X.env)) (backToKw pos (keywordEach [] X.env))) := by rfl) :
    VE X W (.Call (.Attribute o m apos) [] [] pos) (tMeth (He.ga X.K c) m (spF X.K F) [] (fun _ _ _ => False) te tNil) (xMeth c m F xa xNil) :=
  ⟨pe_meth0 ho.pe C hm Fk hr hb .nil (fun _ _ _ _ _ _ _ z => (hqu _ _ _ _ _ z).elim) ht, ref_meth ho.rf (va_nil (X := X) (W := W)).rf⟩
end
/-- a statement of a class -/
def clsAt (s : Stmt) (j : Nat) : Stmt := match s with
  | .ClassDef _ _ _ b _ _ _ _ _ _ _ => b.getD j (.Pass ⟨0, 0, 0, 0⟩)
  | _ => .Pass ⟨0, 0, 0, 0⟩
/-- a method -/
structure Dm (K : PySem.W.Frag) (x qual : Str) (st : Stmt) (ps : List Str) (f : Addr) (fd : FuncData) : Prop where
  F : FunD K x qual (defArgs st) (defBody st) (defScope st) [] [] f fd
  b : Binds K fd ps []
theorem fldOk_nil {K : PySem.W.Frag} {f : Str} : FldOk K [] f := fun _ h => nomatch h
theorem fldOk_cons {K : PySem.W.Frag} {f c : Str} {Cs : List Str} (h1 : (He.Fa.cls c).ok K = true) (h2 : (He.Fa.noat c f).ok K = true) (h : FldOk K Cs f) : FldOk K (c :: Cs) f := fun z hz => by
  rcases List.mem_cons.mp hz with rfl | hz
  · exact ⟨He.cls_ok h1, He.noat_ok h2⟩
  · exact h z hz
/-! ### {i: j, ..}[x] -/
structure VPi (X : Cx) (pos : Pos) (keys : List (Option Expr)) (values : List Expr) (trs : List (TE × TE)) (D : List (Int × Int)) : Prop where
  pps : PPs X pos keys values trs
  ev : ∀ (σ : L2.St) (H : Hp) (Q : List (V × V) → Hp → Prop), Q (D.map fun q => (V.int q.1, V.int q.2)) H → tPairs trs σ H Q
section
variable {X : Cx} {W : WX} {K : PySem.W.Frag} {b : Expr} {tb : TE} {xb : XE} {pos p1 p2 p3 : Pos}
theorem vpi_nil : VPi X pos [] [] [] [] := ⟨pps_nil, fun _ _ _ h => h⟩
theorem vpi_cons {k i : Int} {j p} {v : Expr} {ks : List (Option Expr)} {vs : List Expr} {tv : TE} {trs : List (TE × TE)} {D : List (Int × Int)} (hv : VI1 X v tv i) (hr : VPi X pos ks vs trs D) :
    VPi X pos (some (.Constant (.int k) j p) :: ks) (v :: vs) ((tC (.int k), tv) :: trs) ((k, i) :: D) := ⟨pps_cons pe_int hv.pe hr.pps, fun σ H Q h => hv.ev σ H _ (hr.ev σ H _ h)⟩
def dOkI (D : List (Int × Int)) : Bool := decide (D.length ≤ 15) && D.all fun q => match valV (mergeK [] (D.map fun q => (Sum.inl q.1, V.int q.2))) (Sum.inl q.1) with
  | some (.int j) => decide (j = q.2)
  | _ => false
def xPickI (D : List (Int × Int)) (xb : XE) : XE := fun e q ex => xb e (fun r => ∃ p ∈ D, r.d = .int p.1 ∧ q (.va (.int p.2))) ex
theorem ref_pickI {keys : List (Option Expr)} {values : List Expr} {trs : List (TE × TE)} {D : List (Int × Int)} (hp : VPi X p1 keys values trs D) (ok : dOkI D = true) (hb : RefE K W tb xb) : RefE K W (tDGet (tDisp trs) tb) (xPickI D xb) := by
  intro G0 H0 G H σ e Q q ex hs hx hq hw
  intro p hpn
  refine hp.ev σ _ _ ⟨upd_same, D.map fun q => (Sum.inl q.1, V.int q.2), by rw [List.map_map]; rfl, ?_, ?_⟩
  · rw [List.length_map]
    exact of_decide_eq_true (Bool.and_eq_true_iff.mp ok).1
  have g0 : Grow G H G (upd (upd H p (.dK [])) p (.dK (mergeK [] (D.map fun q => (Sum.inl q.1, V.int q.2))))) := grow_twice hpn
  have s0 : Same G (upd (upd H p (.dK [])) p (.dK (mergeK [] (D.map fun q => (Sum.inl q.1, V.int q.2))))) := fun a u ea => g0.hh a u (hs.sub a u ea)
  refine hb G0 H0 _ _ σ e _ _ ex (hs.grow g0 s0) hx (fun G2 H2 v r2 s2 g2 rr2 k2 => ?_) fun G2 H2 cls d y s2 g2 => hw G2 H2 cls d y s2 (g0.trans g2)
  obtain ⟨r, hr, hd, k⟩ := k2
  have w2 := rr2.wk s2
  rw [hd] at w2
  obtain rfl := rp_int w2
  refine ⟨p, .int r.2, rfl, .inl ⟨_, Sum.inl r.1, .inl (g2.hh _ _ upd_same), rfl, ?_⟩, hq G2 H2 _ (.va (.int r.2)) s2 (g0.trans g2) (.int _) k⟩
  have h1 := List.all_eq_true.mp (Bool.and_eq_true_iff.mp ok).2 r hr
  split at h1
  · rename_i j hj
    rw [hj, of_decide_eq_true h1]
  · cases h1
theorem ve_pickI {keys : List (Option Expr)} {values : List Expr} {trs : List (TE × TE)} {D : List (Int × Int)} (hu : X.A.units + 1 < cLine) (hp : VPi X p1 keys values trs D) (ok : dOkI D = true) (hb : VE X W b tb xb) (hs : NoSl b := by intro _ _; rfl)
    (hall : keys.all (·.isSome) = true := by rfl) (hl : keys.length = values.length := by rfl) (h0 : keys ≠ [] := by exact List.cons_ne_nil _ _) (h15 : keys.length ≤ 15 := by decide) : VE X W (.Subscript (.Dict keys values p1) b pos) (tDGet (tDisp trs) tb) (xPickI D xb) :=
  ⟨pe_dget hu (pe_disp hp.pps hall hl h0 h15) hb.pe hs, ref_pickI hp ok hb.rf⟩
end
end Pv

/-! PwB: len of an object whose class has its own __len__; raise of a class without own __init__. -/
namespace Pv
open PySem L2 PySem.Spec PyProof.Rows
theorem spec_fn {prog : Program} {w : World} {K : PySem.W.Frag} {A : Around} {E : Value → Shared → Prop} {s : Shared} {a C f : Addr} {o : Obj} {name : Str} {Q : Option Value → Shared → Prop} (X : K.In s.heap) (ho : s.heap.get? a = some o) (hc : o.cls = .ref C) (hf : PySem.W.findIn K (.ref C) name = some (some (.ref f))) (hfn : PySem.W.isFn K (.ref f) = true)
    (hr : wpAny (model prog w) A (call (.ref f) [.ref a]) (fun v s' => Q (some v) s') E s) : wpAny (model prog w) A (callSpecial? (.ref a) name) Q E s := by
  unfold callSpecial? specialOf
  refine wpAny_bind (wpAny_bind ((_root_.NwA.type_at ho hc).here ((PySem.W.looks_findIn X hf).here ?_)))
  refine wpAny_holding ?_
  refine wpAny_bind ((PySem.W.bind_fn X _ (beq_iff_eq.mp hfn)).here ?_)
  exact wpAny_bind (wpAny_mono hr (fun v s' z => wpAny_pure z) fun _ _ z => z)
section
variable {X : Cx} {W : WX} {K : PySem.W.Frag} {a : Expr} {te : TE} {xa : XE} {pos : Pos}
def rLenO (X : Cx) (c : Str) (sp : Sp) : List V → Hp → VK → Prop := fun xs H Q => ∃ (a dx : Addr) (fs : List (Str × V)), xs = [.ref a] ∧ H a = some (.ins (He.ga X.K c) dx fs) ∧ sp [.ref a] H (fun v H' => ∃ n : Int, v = .int n ∧ 0 ≤ n ∧ n < 2 ^ 63 ∧ Q (.int n) H') (fun _ _ _ => False)
theorem call_lenO {CX : CXT} {k : Nat} {f : Addr} {fd : FuncData} {ps : List Str} {sp : Sp} {c : Str} (hm : Meth X.K (He.ga X.K c) "__len__" f) (F : FnOk X.prog X.w X.K X.mg X.base CX k f fd ps sp) (hr : Room (k + 1) X.A) (hb : Binds X.K fd ps []) (hqu : Quiet CX) : CallR X (.builtin "len") (rLenO X c sp) := by
  intro pins s σ H xs us Q I r h
  obtain ⟨y, dx, fs, rfl, hy, q⟩ := h
  cases r with
  | cons ru rn =>
    cases rn
    rename_i u
    obtain rfl : u = Value.ref y := ru
    obtain ⟨mA, O, _, _, _, _⟩ := ins_get I.hok hy
    refine Calls.call_function_entry PySem.kind_len PySem.plain_len PySem.entry_len (PySem.args_len1 _) ?_
    unfold Builtin.«len»
    refine wpAny_bind (m := oneArg "len" _) (wpAny_pure ?_)
    refine wpAny_bind (m := callSpecial? (.ref y) (PySem.Str.ofString "__len__")) (spec_fn I.kIn O.obj rfl hm.at_ hm.fn ?_)
    have hl : ([Value.ref y] : List Value).length = ps.length := F.len _ _ _ _ q
    refine wpAny_call (codeAny_mono (F.run X.A.in1 X.stack s H ⟨[.ref y], []⟩ [.ref y] [.ref y] _ _ hr.in1 I.env0.in1 (by have := hb s [.ref y] I.kIn (by rw [List.append_nil]; exact hl); rwa [List.append_nil] at this) (.cons rfl .nil) q) fun r s' hq => ?_)
    cases r with
    | error e => exact (hqu _ _ _ _ _ hq).elim
    | ok fl =>
      cases fl with
      | next => exact False.elim hq
      | brk => exact False.elim hq
      | cont => exact False.elim hq
      | ret u =>
        obtain ⟨w1, H', I', rv, n, rfl, n0, n1, qq⟩ := I.after hq
        obtain ⟨t, rfl⟩ := rv
        refine wpAny_bind (wpAny_holding (wpAny_pure ?_))
        refine wpAny_bind (wpAny_letGo ?_)
        show wpAny _ _ (if n < 0 then _ else _) _ _ _
        rw [if_neg (by omega)]
        show wpAny _ _ (if n ≥ 2 ^ 63 then _ else _) _ _ _
        rw [if_neg (by omega)]
        exact wpAny_bind (wpAny_mkInt (wpAny_pure ⟨_, rfl, ⟨.int n, H', I'.tok _, ⟨_, rfl⟩, qq⟩⟩))
def clsD (c : Str) : PyData → Bool
  | .dict [(.list [.str c', .tuple _], .list _)] => decide (c' = c)
  | _ => false
def xLenO (c : Str) (F : Fn) (xa : XE) : XE := fun e q ex => xa e (fun r => clsD c r.d = true ∧ F [r.d] (fun z => ∃ n : Int, z = .va (.int n) ∧ 0 ≤ n ∧ n < 2 ^ 63 ∧ q (.va (.int n))) (fun _ => False)) ex
theorem ref_lenO {c : Str} {F : Fn} (mono : ∀ ds q q' ex, (∀ r, q r → q' r) → F ds q ex → F ds q' ex) (h : RefE X.K W te xa) : RefE X.K W (tCB (rLenO X c (spF X.K F)) (tCons te tNil)) (xLenO c F xa) := by
  intro G0 H0 G H σ e Q q ex hs hx hq hw
  refine h G0 H0 G H σ e _ _ ex hs hx (fun G1 H1 v r1 s1 g1 rr1 k1 => ?_) hw
  obtain ⟨hd, k⟩ := k1
  unfold clsD at hd
  split at hd
  · rename_i c1 ns ds hre
    obtain ⟨p, dx, c', fs, ds', rfl, h1, h2, h3, h4⟩ := rsr_obW rr1 s1 hre
    injection h2 with h2 h2'
    injection h2 with h2
    have hc := of_decide_eq_true hd
    subst hc
    subst h2
    refine ⟨p, dx, fs, rfl, h1, ?_⟩
    refine call_core (rs := [r1]) (q := fun z => ∃ n : Int, z = .va (.int n) ∧ 0 ≤ n ∧ n < 2 ^ 63 ∧ q (.va (.int n))) s1 g1 (.cons rr1 .nil) ?_ (fun G' H' v r s2 g2 rr k2 => ?_)
    · refine mono _ _ _ _ (fun r hr => ⟨?_, hr⟩) k
      obtain ⟨n, rfl, _⟩ := hr
      exact Bool.or_true _
    · obtain ⟨n, rfl, n0, n1, kk⟩ := k2
      have rr' : Rp X.K G' v (.int n) := rr
      obtain rfl := rp_int rr'
      exact ⟨n, rfl, n0, n1, hq G' H' _ (.va (.int n)) s2 g2 (.int n) kk⟩
  · cases hd
theorem ve_lenO {CX : CXT} {k : Nat} {f : Addr} {fd : FuncData} {ps : List Str} {F : Fn} {c : Str} {p : Pos} (hm : Meth X.K (He.ga X.K c) "__len__" f) (Fk : FnOk X.prog X.w X.K X.mg X.base CX k f fd ps (spF X.K F)) (hr : Room (k + 1) X.A) (hb : Binds X.K fd ps []) (hqu : Quiet CX) (mono : ∀ ds q q' ex, (∀ r, q r → q' r) → F ds q ex → F ds q' ex)
    (hg : Gl X "len") (hml : X.mg "len" = none) (ha : VE X W a te xa) (he : starEach [a] X.env = (false, eval a X.env) :: starEach [] X.env := by rfl) (hpl : (backTo pos (starEach [] X.env)).any (·.1) = false := by rfl) :
    VE X W (.Call (.Name "len" p) [a] [] pos) (tCB (rLenO X c (spF X.K F)) (tCons te tNil)) (xLenO c F xa) :=
  ⟨pe_callB (call_lenO hm Fk hr hb hqu) hg hml (by decide +kernel) (pa_cons ha.pe pa_nil he) (by decide) (by decide) he hpl, ref_lenO mono ha.rf⟩

/-! ### raise C("..") of a class without own __init__ -/
def uRaise0 (x : Str) : US := fun V e => V.ex ⟨x, []⟩ e
theorem ref_raise0 {x : Str} : RefS K W (fun _ σ H => W (.ref (He.ga K x)) none σ H) (uRaise0 x) := fun G0 H0 D V hl G H σ e hs hu => hl.ex G H σ e _ none ⟨x, []⟩ hs ⟨rfl, rfl⟩ hu
theorem vs_raise0 {x m : Str} {j : Nat} {p p2 pos pos2 : Pos} (hc : X.calm = true) (tk : L2N.Takes X W) (hx : (He.Fa.exc x).ok X.K = true) (hg : Gl X x) (hm : X.mg x = some (.ref (He.ga X.K x))) (hdb : (x == ("__debug__" : Str)) = false := by decide) :
    VS X W (.Raise (some (.Call (.Name x p) [.Constant (.str m) j p2] [] pos)) none pos2) (fun _ σ H => W (.ref (He.ga X.K x)) none σ H) (uRaise0 x) := by
  obtain ⟨h1, h2, h3, h4⟩ := He.exc_ok hx
  exact ⟨L2N.ps_raise hc tk (L2N.pmk_own F.excBase_ValueError h1 hm h2 (raises_own h3 h4) hg hdb), ref_raise0⟩
end
/-! ### cuts -/
def cutG {α : Type} (vs : List α) (lo hi : Option Int) : List α := (vs.drop (HT.sIx vs.length 0 lo)).take (HT.sIx vs.length vs.length hi - HT.sIx vs.length 0 lo)
theorem cutG_map {α : Type} {vs : List α} {f : α → PyData} {lo hi : Option Int} : cutD (vs.map f) lo hi = (cutG vs lo hi).map f := by
  unfold cutD cutG
  rw [List.length_map, List.map_take, List.map_drop]
theorem cutG_len {α : Type} {vs : List α} {a n : Int} (h0 : 0 ≤ a) (h1 : 0 ≤ n) : (cutG vs (some a) (some (a + n))).length ≤ n.toNat := by
  unfold cutG
  rw [List.length_take]
  show min ((if a + n < 0 then _ else min (a + n).toNat vs.length) - (if a < 0 then _ else min a.toNat vs.length)) _ ≤ _
  rw [if_neg (by omega), if_neg (by omega)]
  omega
theorem cutG_first {vs : List Int} {a n : Int} (h0 : 0 ≤ a) (h : 0 < (cutG vs (some a) (some (a + n))).length) : a < vs.length ∧ (cutG vs (some a) (some (a + n))).getD 0 0 = vs.getD a.toNat 0 := by
  unfold cutG at h ⊢
  rw [List.length_take, List.length_drop] at h
  have e : HT.sIx vs.length 0 (some a) = min a.toNat vs.length := by
    show (if a < 0 then _ else min a.toNat vs.length) = _
    rw [if_neg (by omega)]
  rw [e] at h ⊢
  have h2 : a.toNat < vs.length := by omega
  refine ⟨by omega, ?_⟩
  have hm : min a.toNat vs.length = a.toNat := by omega
  rw [hm] at h ⊢
  rw [List.getD_eq_getElem?_getD, List.getD_eq_getElem?_getD, List.getElem?_take, if_pos (by omega), List.getElem?_drop, Nat.add_zero]
theorem cut_mid {α : Type} (a b c : List α) : cutG (a ++ b ++ c) (some (a.length : Int)) (some ((a.length : Int) + (b.length : Int))) = b := by
  unfold cutG
  rw [HT.sIx_nat, show ((a.length : Int) + (b.length : Int)) = ((a.length + b.length : Nat) : Int) by omega, HT.sIx_nat, Nat.min_eq_left (by simp only [List.length_append]; omega), Nat.min_eq_left (by simp only [List.length_append]; omega), List.append_assoc, List.drop_left' rfl,
    show a.length + b.length - a.length = b.length by omega]
  exact List.take_left' rfl
end Pv

/-! PwC: x = C(..); x.change(i, v): made, changed once, then it stays. -/
namespace Pv
open PySem L2 PySem.Spec PyProof.Rows
abbrev FnO := List PyData → (List PyData → Prop) → Prop
/-- __init__ of one row self.f = e, e a new list that nobody else holds -/
def spIo (K : PySem.W.Frag) (c f : Str) (I : FnO) : Sp := fun vs H Q E => ∃ (x dx : Addr) (ws : List V) (G H0 : Hp) (ds : List PyData) (q : List PyData → Prop), vs = .ref x :: ws ∧ H x = some (.ins (He.ga K c) dx []) ∧ G x = none ∧ H0 x = none ∧ Same G H ∧ Same H0 H ∧ RpAll K G ws ds ∧ I ds q ∧
  ∀ G' H' p xs es, Same G' H' → Grow G H0 G' H' → H' x = some (.ins (He.ga K c) dx [(f, .ref p)]) → G' x = none → H' p = some (.lst xs) → G' p = none → H0 p = none → RpAll K G' xs es → q es → Q .non H'
section
variable {X : Cx} {W : WX} {K : PySem.W.Frag} {a : Expr} {es : List Expr} {te : TE} {ta ta2 : TA} {xa : XE} {xs xs2 : XA} {pos : Pos}
structure VIo (X : Cx) (c f : Str) (sts : List Stmt) (x : XE) : Prop where
  run : ∃ t : TS, PSs X sts t ∧ ∀ (G0 H0 : Hp) (D : Ends) (q : List PyData → Prop) (G H : Hp) (σ : L2.St) (e : En) (x0 dx : Addr), StR X.K G0 H0 G H σ e → σ[0]? = some (some (.ref x0)) → H x0 = some (.ins (He.ga X.K c) dx []) → G x0 = none → H0 x0 = none →
    x e (fun r => ∃ ds, r = .nw ds ∧ q ds) (fun _ => False) →
    (∀ G' H' p xs ds, Same G' H' → Grow G0 H0 G' H' → H' x0 = some (.ins (He.ga X.K c) dx [(f, .ref p)]) → G' x0 = none → H' p = some (.lst xs) → G' p = none → H0 p = none → RpAll X.K G' xs ds → q ds → D.nx σ H') → t D σ H
theorem vio {c f s : Str} {value : Expr} {p p1 p2 : Pos} (C : Cls X.K (He.ga X.K c)) (nf : NoAttr X.K (He.ga X.K c) f) (hv : VE X WX0 value te xa) (hN : X.N[0]? = some s := by rfl)
    (hvi : Vis X.env.scope s := by first | exact Or.inl rfl | exact Or.inr (Or.inl rfl) | exact Or.inr (Or.inr rfl)) (hd : (s == ("__debug__" : Str)) = false := by decide) (hcd : (s == ("__classdict__" : Str)) = false := by decide)
    (hs : swapsWith value (some (.Attribute (.Name s p) f p1)) p2.line X.env = pure false := by rfl) : VIo X c f [.Assign [.Attribute (.Name s p) f p1] value p2] xa := by
  refine ⟨⟨_, pss_one (ps_fld (pe_var hN hvi hd hcd) hv.pe hs), ?_⟩⟩
  intro G0 H0 D q G H σ e x dx st hx0 hx hg h0 hu hq
  refine hv.rf G0 H0 G H σ e _ _ _ st hu (fun G1 H1 v r1 s1 g1 rr1 k1 => ?_) (fun _ _ _ _ _ _ _ _ z => z.elim)
  obtain ⟨ds, rfl, k⟩ := k1
  obtain ⟨p, ys, rfl, h2, h3, h4, h5⟩ := rr1
  have hx1 : H1 x = some (.ins (He.ga X.K c) dx []) := g1.hh _ _ hx
  have hg1 : G1 x = none := g1.nn x hg (by rw [hx]; exact Option.some_ne_none _)
  have npx : p ≠ x := fun z => by
    subst z
    rw [hx1] at h3
    cases h3
  refine ⟨_, hx0, x, _, dx, [], rfl, hx1, C, nf, by decide, ?_⟩
  have g01 := st.gr.trans g1
  exact hq G1 _ p ys ds (same_out s1 hg1) ⟨g01.gg, same_out g01.hh h0, g01.nn⟩ upd_same hg1 (by rw [upd_ne npx]; exact h3) h4 (st.gr.hh.free h2) h5 k
theorem defO {P : Program} {w : World} {mg : Str → Option Value} {base : Heap} {x qual c g : Str} {params : Arguments} {body : List Stmt} {scope : Scope} {dvs : List V} {kws : List (Str × V)} {f : Addr} {fd : FuncData} {CX : CXT} {N ps : List Str} {k : Nat} {I : FnO} {xr : XE}
    (F : FunD K x qual params body scope dvs kws f fd) (S : FnScope N ps scope) (hx : ∀ ds q, I ds q → ds.length + 1 = ps.length) (hu : ∀ ds q, I ds q → xr (enI N.length ds) (fun r => ∃ ds, r = .nw ds ∧ q ds) (fun _ => False))
    (hbody : ∀ (cdv : Value) (A : Around) (outer : List Env) (s : Shared) (H : Hp) (E : XK), Room k (A.deeper (envOfC qual scope s.heap.objs.size f cdv)) → VIo (cxOf CX P w K mg base N qual scope f cdv A outer s H E) c g body xr) :
    FnOk P w K mg base CX (k + 1) f fd ps (spIo K c g I) := by
  refine F.ok S (fun vs H Q E h => ?_) fun cdv A outer s H vs Q E hR h => ?_
  · obtain ⟨x, dx, ws, G, H0, ds, q, rfl, _, _, _, _, _, ra, hI, _⟩ := h
    rw [List.length_cons, ra.len]
    exact hx ds q hI
  · obtain ⟨t, ht, hrun⟩ := (hbody cdv A outer s H E hR).run
    obtain ⟨x, dx, ws, G, H0, ds, q, rfl, h1, h2, h3, h4, h5, ra, hI, hq⟩ := h
    refine ⟨t, ht, ?_⟩
    exact hrun G H0 _ q G H _ _ x dx (StR.startI h4 h5 N ra) rfl h1 h2 h3 (hu ds q hI) fun G' H' p xs es e1 e2 e3 e4 e5 e6 e7 e8 k => hq G' H' p xs es e1 e2 e3 e4 e5 e6 e7 e8 k
/-- self.f[i] = v -/
def spCh (K : PySem.W.Frag) (c f : Str) : Sp := fun vs H Q E => ∃ (x dx p : Addr) (xs : List V) (i : Int) (n : Nat) (v : V), vs = [.ref x, .int i, v] ∧ H x = some (.ins (He.ga K c) dx [(f, .ref p)]) ∧ H p = some (.lst xs) ∧ ixN xs.length i = some n ∧ Q .non (upd H p (.lst (xs.set n v)))
theorem defCh {P : Program} {w : World} {mg : Str → Option Value} {base : Heap} {x qual c f s si sv : Str} {params : Arguments} {scope : Scope} {dvs : List V} {kws : List (Str × V)} {fa : Addr} {fd : FuncData} {CX : CXT} {k : Nat} {p p1 p2 p3 p4 pos : Pos}
    (F : FunD K x qual params [.Assign [.Subscript (.Attribute (.Name s p) f p1) (.Name si p2) p3] (.Name sv p4) pos] scope dvs kws fa fd) (S : FnScope [s, si, sv] [s, si, sv] scope) (C : Cls K (He.ga K c)) (nf : NoAttr K (He.ga K c) f)
    (hbody : ∀ (cdv : Value) (A : Around) (outer : List Env) (s' : Shared) (H : Hp) (E : XK),
      ∃ X : Cx, X = cxOf CX P w K mg base [s, si, sv] qual scope fa cdv A outer s' H E ∧ PS X (.Assign [.Subscript (.Attribute (.Name s p) f p1) (.Name si p2) p3] (.Name sv p4) pos) (tAsg (tVar 2) (gSub (tFld K (tVar 0) f) (tVar 1) rSetL))) :
    FnOk P w K mg base CX (k + 1) fa fd [s, si, sv] (spCh K c f) := by
  refine F.ok S (fun vs H Q E h => ?_) fun cdv A outer s' H vs Q E hR h => ?_
  · obtain ⟨_, _, _, _, _, _, _, rfl, _⟩ := h
    rfl
  · obtain ⟨X, rfl, hp⟩ := hbody cdv A outer s' H E
    obtain ⟨x0, dx, q, xs, i, n, v, rfl, h1, h2, h3, hq⟩ := h
    refine ⟨_, pss_one hp, ?_⟩
    exact ⟨v, rfl, _, rfl, x0, _, dx, _, .ref q, rfl, h1, C, nf, by simp [List.lookup], _, rfl, q, xs, i, n, rfl, rfl, h2, h3, hq⟩

end
end Pv

/-! PwD: try with several clauses, none of them with a name. -/
namespace Pv
open PySem L2 PySem.Spec PyProof.Rows
abbrev Clause := (Str → Option Bool) × US
def catchM (V : EnV) : List Clause → Xn → En → Prop
  | [], y, e => V.ex y e
  | (isa, u) :: r, y, e => match isa y.cls with
    | some true => u { V with ex := fun _ _ => False } e
    | some false => catchM V r y e
    | none => False
def uTryM (cl : List Clause) (ub : US) : US := fun V e => ub { V with ex := catchM V cl } e
section
variable {X : Cx} {W : WX} {K : PySem.W.Frag}
/-- the clauses, what each catches, what its suite makes -/
inductive HdsV (X : Cx) : List ExceptHandler → List (Value × (Addr → Value → Option Addr → TS)) → List Clause → Prop
  | nil : HdsV X [] [] []
  | cons {x : Str} {c : Value} {b₀ : Stmt} {suite : List Stmt} {np pos' : Pos} {hds : List ExceptHandler} {l : List (Value × (Addr → Value → Option Addr → TS))} {cl : List Clause} {isa : Str → Option Bool} {u : US} (hc : Names X x c) (hm : Isa X.K c isa)
      (hsu : ∀ (a : Addr) (oe : Obj) (k : Value) (d : Option Addr) (pn : List (Addr × Obj)), L2N.Zn k d oe → (∃ vs, oe.data = .fields vs) → ∃ t, VSs (X.suite a ((a, oe) :: pn)) WX0 (b₀ :: suite) t u) (r : HdsV X hds l cl) :
      HdsV X (.ExceptHandler (some (.Name x np)) none (b₀ :: suite) pos' :: hds) ((c, fun _ _ _ => rd X.K WX0 u) :: l) ((isa, u) :: cl)
theorem HdsV.ok : ∀ {hds : List ExceptHandler} {l : List (Value × (Addr → Value → Option Addr → TS))} {cl : List Clause}, HdsV X hds l cl → L2N.HdsOk X hds l
  | _, _, _, .nil => .nil
  | _, _, _, .cons hc hm hsu r => .cons hc (fun a oe k d pn z f => by
    obtain ⟨t, h⟩ := hsu a oe k d pn z f
    exact h.rd) r.ok
theorem ref_catch {G0 H0 : Hp} {D : Ends} {V : EnV} (hl : Link X.K G0 H0 W D V) : ∀ {hds : List ExceptHandler} {l : List (Value × (Addr → Value → Option Addr → TS))} {cl : List Clause}, HdsV X hds l cl → ∀ (G H : Hp) (σ : L2.St) (e : En) (cls : Value) (d : Option Addr) (y : Xn),
    StR X.K G0 H0 G H σ e → XR X.K G H cls d y → catchM V cl y e → wMany X.K W D l cls d σ H
  | _, _, _, .nil, G, H, σ, e, cls, d, y, hs, xr, k => hl.ex G H σ e cls d y hs xr k
  | _, _, _, @HdsV.cons _ _ _ _ _ _ _ _ _ cl' isa u hc hm hsu r, G, H, σ, e, cls, d, y, hs, xr, k => by
    obtain ⟨x1, x2⟩ := xr
    have k' : (match isa y.cls with
      | some true => u { V with ex := fun _ _ => False } e
      | some false => catchM V cl' y e
      | none => False) := k
    cases q : isa y.cls with
    | none =>
      rw [q] at k'
      exact k'.elim
    | some b =>
      rw [q] at k'
      refine ⟨b, x1 ▸ hm _ _ q, fun hb1 a ha => ?_, fun hb0 => ?_⟩
      · subst hb1
        exact ⟨G0, H0, G, e, { V with ex := fun _ _ => False }, ⟨hl.nx, hl.rt, hl.bk, hl.ct, fun _ _ _ _ _ _ _ _ _ z => z.elim, hl.rg⟩, hs, k'⟩
      · subst hb0
        exact ref_catch hl r G H σ e cls d y hs ⟨x1, x2⟩ k'
theorem vs_tryM {cl : List Clause} {l : List (Value × (Addr → Value → Option Addr → TS))} {h₀ : ExceptHandler} {hds : List ExceptHandler} {body : List Stmt} {pos : Pos} {ub : US} (hs : X.stack = X.env :: X.outer) (hf : X.env.frame = some X.env.locals) (tk : L2N.Takes X W)
    (hb : ∀ (W' : WX) (pn : List (Addr × Obj)) (xe : Value → Shared → Prop), L2N.Takes (X.tr pn xe) W' → PassesOwn (model X.prog X.w) X.A X.env xe → ∃ t, VSs (X.tr pn xe) W' body t ub) (hh : HdsV X (h₀ :: hds) l cl) :
    VS X W (.Try body (h₀ :: hds) [] [] pos) (fun D σ H => rd X.K (wMany X.K W D l) ub D σ H) (uTryM cl ub) := by
  refine ⟨L2N.ps_try_many (tb := fun W' => rd X.K W' ub) hs hf tk (fun W' pn xe t p => ?_) hh.ok, fun G0 H0 D V hl G H σ e hs' hu => ?_⟩
  · obtain ⟨t, h⟩ := hb W' pn xe t p
    exact h.rd
  · exact ⟨G0, H0, G, e, { V with ex := catchM V cl }, ⟨hl.nx, hl.rt, hl.bk, hl.ct, fun G1 H1 σ1 e1 cls d y h1 xr k => ref_catch hl hh G1 H1 σ1 e1 cls d y h1 xr k, hl.rg⟩, hs', hu⟩
end
end Pv

/-! PwE: enumerate over a tuple. -/
namespace Pv
open PySem L2 PySem.Spec PyProof.Rows
section
open AutoSeq1 (wpAny_loadPart')
variable {prog : Program} {w : World} {A : Around} {E : Value → Shared → Prop} {s : Shared}
theorem nextOf_tup_item {it t : Addr} {i : Nat} {items : Array Value} {x : Value} {Q : Value → Shared → Prop} (hit : s.heap.IsTupleIter it t i) (ht : s.heap.IsTuple t items) (hx : items[i]? = some x)
    (hQ : ∀ h', h'.IsTupleIter it t (i + 1) → Heap.SameBut it s.heap h' → Q x { s with heap := h' }) : wpAny (model prog w) A (Builtin.SmallTypes.nextOf (.ref it)) Q E s := by
  obtain ⟨o, ho, hc, hd⟩ := id hit
  obtain ⟨ol, hol, _, nl, hdl⟩ := ht
  unfold Builtin.SmallTypes.nextOf
  refine wpAny_bind (wpAny_callSpecial?_slot (name := Str.ofString "__next__") hit.typeIs F.slot_tuple_iterator_next (wpAny_call_entry F.slot_tuple_iterator_next hit.typeIs F.entry_tuple_iterator_next ?_ (F.args_tuple_iterator_next_1 _)))
  show wpAny _ _ (field (.ref it) 0 >>= _) _ _ s
  refine wpAny_bind (wpAny_field ho hd (x := .ref t) rfl ?_)
  show wpAny _ _ (if (Value.ref t == Value.none) = true then _ else _) _ _ s
  rw [if_neg (show ¬ ((Value.ref t == Value.none) = true) from Bool.false_ne_true)]
  show wpAny _ _ (field (.ref it) 1 >>= _) _ _ s
  refine wpAny_bind (wpAny_field ho hd (x := .int i 0) rfl ?_)
  show wpAny _ _ (seqItems? (.ref t) >>= _) _ _ s
  refine wpAny_bind (wpAny_seqItems hol hdl ?_)
  simp only [Int.toNat_natCast, hx]
  refine wpAny_bind (wpAny_setField ho hd (by simp) (wpAny_pure ⟨x, rfl, wpAny_pure (hQ _ ?_ (Heap.SameBut.update ..))⟩))
  exact ⟨_, Heap.get?_update_self _ ho (Obj.isFreed_of_fields (Obj.data_mapFields hd _)), (Obj.cls_mapFields ..).trans hc, by
    rw [Obj.data_mapFields hd]; simp [rawInt]⟩
theorem nextOf_tup_end {it t : Addr} {i : Nat} {items : Array Value} {Q : Value → Shared → Prop} (hh : A.handled = none) (hit : s.heap.IsTupleIter it t i) (ht : s.heap.IsTuple t items) (hx : items[i]? = none)
    (hE : ∀ h' e, Heap.ExtBut it s.heap h' → (∃ o, h'.get? e = some o ∧ o.cls = .type "StopIteration") → E (.ref e) { s with heap := h' }) : wpAny (model prog w) A (Builtin.SmallTypes.nextOf (.ref it)) Q E s := by
  obtain ⟨o, ho, hc, hd⟩ := id hit
  obtain ⟨ol, hol, _, nl, hdl⟩ := ht
  unfold Builtin.SmallTypes.nextOf
  refine wpAny_bind (wpAny_callSpecial?_slot (name := Str.ofString "__next__") hit.typeIs F.slot_tuple_iterator_next (wpAny_call_entry F.slot_tuple_iterator_next hit.typeIs F.entry_tuple_iterator_next ?_ (F.args_tuple_iterator_next_1 _)))
  show wpAny _ _ (field (.ref it) 0 >>= _) _ _ s
  refine wpAny_bind (wpAny_field ho hd (x := .ref t) rfl ?_)
  show wpAny _ _ (if (Value.ref t == Value.none) = true then _ else _) _ _ s
  rw [if_neg (show ¬ ((Value.ref t == Value.none) = true) from Bool.false_ne_true)]
  show wpAny _ _ (field (.ref it) 1 >>= _) _ _ s
  refine wpAny_bind (wpAny_field ho hd (x := .int i 0) rfl ?_)
  show wpAny _ _ (seqItems? (.ref t) >>= _) _ _ s
  refine wpAny_bind (wpAny_seqItems hol hdl ?_)
  simp only [Int.toNat_natCast, hx]
  refine wpAny_bind (wpAny_rule (wpAny_bind (wpAny_setField ho hd (by simp) ?_)))
  show wpAny _ _ (newExc (.type "StopIteration") [] >>= _) _ _ _
  refine wpAny_bind ?_
  simp only [newExc, newTuple]
  refine wpAny_bind (wpAny_newObj_type ?_ (by size_fits))
  refine wpAny_bind (m := firstArgMember _ _) (wpAny_of_eq (a := Value.none) (by first | rfl | (simp only [firstArgMember]; rfl)) ?_)
  refine wpAny_newObj_type ?_ (by size_fits)
  simp only [raiseNew]
  refine wpAny_bind (wpAny_handled ?_)
  first | rw [show A.in1.handled = none from hh] | rw [hh]
  refine wpAny_bind (wpAny_pure (wpAny_throw ?_))
  exact hE _ _ (((Heap.SameBut.update ..).extBut.push _).push _) ⟨_, Heap.get?_push_size _ rfl, rfl⟩
theorem draws_tup (hh : A.handled = none) (it t : Addr) (hne : t ≠ it) (items : Array Value) :
    Draws prog w A it [it, t] items.size (fun i v => items[i]? = some v) (fun i h => h.IsTupleIter it t i ∧ h.IsTuple t items) where
  live := fun _ _ st => let ⟨o, ho, _⟩ := st.1; ⟨o, ho⟩
  frame := fun _ _ _ st hk => ⟨let ⟨o, ho, r⟩ := st.1; ⟨o, hk it (by simp) o ho, r⟩, let ⟨o, ho, r⟩ := st.2; ⟨o, hk t (by simp) o ho, r⟩⟩
  item := fun i s Q E hi st hQ => by
    refine nextOf_tup_item st.1 st.2 (x := items[i]) (by simp [hi]) fun h' hit' hs' => ?_
    exact hQ _ h' s.toks (by simp [hi]) ⟨hit', let ⟨o, ho, r⟩ := st.2; ⟨o, (hs'.2 t hne).trans ho, r⟩⟩ hs'
  done := fun s Q E st hE => nextOf_tup_end hh st.1 st.2 (by simp) hE
theorem enum_newT (t : Addr) (items : Array Value) (n : Nat) (dct : Option Addr) (sl : Array (Option Value)) :
    Meets (Builtin.«enumerate.__new__» ⟨[.type "enumerate", .ref t], []⟩) (fun _ R s => s.heap.get? t = some { cls := .type "tuple", dict := dct, data := .seq items n, slots := sl } ∧
      R (.ok (.ret (.ref (s.heap.push { cls := .type "tuple_iterator", data := .fields #[.ref t, .int 0 0] }).objs.size)))
        { s with heap := (s.heap.push { cls := .type "tuple_iterator", data := .fields #[.ref t, .int 0 0] }).push { cls := .type "enumerate", data := .fields #[.none, .bool false, .ref s.heap.objs.size, rawInt 0, .none, .none] } }) :=
  .of_wp fun prog w A R s h => by
    obtain ⟨hp, g, d, tk, os⟩ := s; obtain ⟨hl, h⟩ := h
    have hsub := sub_enumerate
    have hL : Heap.IsTuple (Shared.heap ⟨hp, g, d, tk, os⟩) t items := ⟨_, hl, rfl, n, rfl⟩
    wp_walk using wpAny_loadPart' hl
    refine wpAny_stack_any fun st => wpAny_pure ?_
    split
    · rename_i c _ _ _ _ _
      cases (c == Value.type "enumerate")
      · wp_walk using wpAny_loadPart' hl, wpAny_pyIter_tuple hL
        exact ⟨_, rfl, h⟩
      · wp_walk using wpAny_loadPart' hl, wpAny_pyIter_tuple hL
        exact ⟨_, rfl, h⟩
    · wp_walk using wpAny_loadPart' hl, wpAny_pyIter_tuple hL
      exact ⟨_, rfl, h⟩
theorem call_enumT {t : Addr} {items : Array Value} {Q : Value → Shared → Prop} (hL : s.heap.IsTuple t items)
    (h : ∀ h', IsEnum h' (s.heap.objs.size + 1) s.heap.objs.size 0 .none → h'.IsTupleIter s.heap.objs.size t 0 → h'.objs.size = s.heap.objs.size + 2 →
      (∀ b o, s.heap.get? b = some o → h'.get? b = some o) → Q (.ref (s.heap.objs.size + 1)) { s with heap := h' }) :
    wpAny (model prog w) A (call (.type "enumerate") [.ref t]) Q E s := by
  obtain ⟨⟨c, dct, dt, sl⟩, hl, hc, n, hd⟩ := hL
  replace hc : c = .type "tuple" := hc
  replace hd : dt = .seq items n := hd
  subst hc hd
  refine callType_new F.called_enumerate (by decide) (F.typeCall_enumerate_1 _) (F.newCall_enumerate_1 _) (fun obj => F.args_object_init_2 obj _) F.entry_enumerate_new (enum_newT t items n dct sl) ⟨hl, ?_⟩
  have hz : (s.heap.push { cls := .type "tuple_iterator", data := .fields #[.ref t, .int 0 0] }).objs.size = s.heap.objs.size + 1 := Heap.size_push ..
  show _ ∧ _
  rw [hz]
  have he : IsEnum ((s.heap.push { cls := .type "tuple_iterator", data := .fields #[.ref t, .int 0 0] }).push { cls := .type "enumerate", data := .fields #[.none, .bool false, .ref s.heap.objs.size, rawInt 0, .none, .none] }) (s.heap.objs.size + 1) s.heap.objs.size 0 .none := by
    have := Heap.get?_push_size (s.heap.push { cls := .type "tuple_iterator", data := .fields #[.ref t, .int 0 0] }) (o := { cls := .type "enumerate", data := .fields #[.none, .bool false, .ref s.heap.objs.size, rawInt 0, .none, .none] }) rfl
    rw [hz] at this; exact this
  refine ⟨⟨_, he, rfl⟩, h _ he ⟨_, Heap.get?_push_of_some _ (Heap.get?_push_size _ rfl), rfl, rfl⟩ (by rw [Heap.size_push, hz]) fun b o x => Heap.get?_push_of_some _ (Heap.get?_push_of_some _ x)⟩
end
/-- the tuple at a, each item in a new pair -/
def IteT (K : PySem.W.Frag) (a : Addr) : It :=
  ⟨fun i H => ∃ (xs : List V) (x : V), SqT K H a xs ∧ xs[i]? = some x, fun i H v H' => ∃ T x, v = .ref T ∧ H T = none ∧ H' = upd H T (.tup [.int (i : Nat), x]) ∧ ∀ xs, SqT K H a xs → xs[i]? = some x, fun i H => ∃ xs : List V, SqT K H a xs ∧ xs.length ≤ i⟩
theorem turn_enumT {P : Program} {w : World} {K : PySem.W.Frag} {elts : List Expr} {kk : Nat} {tpos : Pos} (a e it : Addr) (hai : a ≠ it) (hea : e ≠ a) :
    Turn P w K (.Tuple elts kk tpos) (IteT K a) [e, it] e (fun i h => (∃ old, IsEnum h e it ((i : Nat) : Int) old) ∧ h.IsTupleIter it a i ∧ e ≠ it) where
  mem := by simp
  obj := fun i h st b hb => by
    obtain ⟨⟨old, he⟩, ⟨o, ho, hc, hd⟩, _⟩ := st
    have e' : b = e ∨ b = it := by simpa using hb
    rcases e' with z | z
    · rw [z]; exact ⟨_, he, fun v q => nomatch q⟩
    · rw [z]; exact ⟨o, ho, fun v q => by rw [hd] at q; cases q⟩
  keep := fun i h h' st k => let ⟨⟨old, he⟩, ⟨o, ho, r⟩, hne⟩ := st; ⟨⟨old, k e (by simp) _ he⟩, ⟨o, k it (by simp) _ ho, r⟩, hne⟩
  item := by
    intro X hP hw hK hc i pins s σ H E I hf st hg
    subst hP hw hK
    obtain ⟨⟨old, he⟩, hit, hne⟩ := st
    obtain ⟨xs, x, hq, hx⟩ := hg
    obtain ⟨its, rv, p, hz⟩ := I.tuple hq
    obtain ⟨u, hu, ru⟩ := rv.get hx
    have hel : e < s.heap.objs.size := Heap.lt_size he
    have hil : it < s.heap.objs.size := by obtain ⟨_, q, _⟩ := hit; exact Heap.lt_size q
    have hlt : i < its.toArray.size := by
      rw [List.size_toArray]
      exact (List.getElem?_eq_some_iff.mp hu).1
    refine wpAny_pyNext_enum_itemD (draws_tup (show X.A.in1.handled = none from I.ok.hd hc) it a hai its.toArray) he ⟨hit, p⟩ hlt hne (by simp [hea, hne]) fun x' h' tk hx' ho hit' hT hsz hk => ?_
    have hxu : x' = u := by
      have h1 : its[i]? = some x' := by simpa using hx'
      rw [hu] at h1
      exact (Option.some.inj h1).symm
    subst hxu
    refine ⟨_, rfl, wpAny_letOwnedTupleGo_enum (s := { s with heap := h', toks := tk + 1 }) ho fun h'' he' sb => ?_⟩
    have hT2 : h''.get? s.heap.objs.size = some { cls := .type "tuple", data := .seq #[.int i tk, x'] } := (sb.2 _ (Nat.ne_of_gt hel)).trans hT
    have new : ObjOk X.prog X.w (upd H s.heap.objs.size (.tup [.int (i : Nat), x])) h'' s.heap.objs.size (.tup [.int (i : Nat), x]) :=
      ⟨by show 2 ≤ sizeLine; decide, [.int i tk, x'], .cons ⟨_, rfl⟩ (.cons ru .nil), ⟨_, hT2, rfl, _, rfl⟩⟩
    have I1 : Inv X pins σ (upd H s.heap.objs.size (.tup [.int (i : Nat), x])) { s with heap := h'', toks := tk + 1 } :=
      I.turnedNew (ch := [e, it]) (fun b ob hb q => (sb.2 b (fun z => hb (by simp [z]))).trans (hk b ob (fun z => hb (by simp [z])) (fun z => hb (by simp [z])) q)) hf (Nat.le_refl _) new
    refine ⟨.ref s.heap.objs.size, _, I1, rfl, ⟨_, x, rfl, I.hok.fresh (Nat.le_refl _), rfl, fun ys hy => by rw [I.tuple_inj hy hq]; exact hx⟩, ⟨⟨x', ?_⟩, ?_, hne⟩, fun b hb => ?_⟩
    · have e1 : ((i + 1 : Nat) : Int) = (i : Int) + 1 := by omega
      rw [e1]; exact he'
    · obtain ⟨⟨o, ho2, r⟩, _⟩ := hit'
      exact ⟨o, (sb.2 it (Ne.symm hne)).trans ho2, r⟩
    · have hb' : b < s.heap.objs.size := by
        have e' : b = e ∨ b = it := by simpa using hb
        rcases e' with z | z
        · rw [z]; exact hel
        · rw [z]; exact hil
      rw [upd_ne (Nat.ne_of_lt hb')]
      exact (hf b hb).1
  done := by
    intro X hP hw hK hc i pins s σ H E I hf st hg
    subst hP hw hK
    obtain ⟨⟨old, he⟩, hit, hne⟩ := st
    obtain ⟨xs, hq, hx⟩ := hg
    obtain ⟨its, rv, p, hz⟩ := I.tuple hq
    obtain ⟨f0, f1, f2, f3, f4, f5⟩ := hf it (by simp)
    have hl := rv.length
    have hT : s.TypeIs (.ref e) "enumerate" := ⟨_, he, rfl⟩
    unfold pyNext
    refine wpAny_bind (wpAny_attempt (wpAny_callSpecial?_slot (name := Str.ofString "__next__") hT F.slot_enumerate_next (wpAny_call_entry F.slot_enumerate_next hT F.entry_enumerate_next ?_ (F.args_enumerate_next_1 _))))
    show wpAny _ _ (field (.ref e) 2 >>= _) _ _ _
    refine wpAny_bind (wpAny_field he rfl (x := .ref it) rfl ?_)
    refine wpAny_bind (nextOf_tup_end (show X.A.in1.handled = none from I.ok.hd hc) hit p (by simp; omega) fun h' x he' hx' => ?_)
    obtain ⟨o, ho, hc⟩ := hx'
    refine wpAny_bind (wpAny_isInstance (T := "StopIteration") (b := true) ⟨o, ho, hc⟩ isSubtype_stop ?_)
    exact wpAny_pure ⟨rfl, I.turned (t' := s.toks) (fun b o hb q => he' b o hb q) f0 f1 f3 f4 f5⟩
  self := fun A i s Q E st h => let ⟨⟨_, he⟩, _⟩ := st; wpAny_pyIter_enum he h
def iEnumA (K : PySem.W.Frag) (ta : TA) : TI := fun σ H R => ta σ H fun vs H1 => ∃ a xs, vs = [.ref a] ∧ ((SqL K H1 a xs ∧ R (Ite K a) H1) ∨ (SqT K H1 a xs ∧ R (IteT K a) H1))
theorem pi_enumA {X : Cx} {e : Expr} {ta : TA} {p pos tpos : Pos} {elts : List Expr} {kk : Nat} (hg : Gl X "enumerate") (hm : X.mg "enumerate" = none) (ha : PA X [e] ta) (hs : starEach [e] X.env = [(false, eval e X.env)] := by rfl) :
    PI X (.Tuple elts kk tpos) (.Call (.Name "enumerate" p) [e] [] pos) (iEnumA X.K ta) := by
  refine ⟨fun pins s σ H R I h => ?_⟩
  refine Call_ (ld_blt I hg hm boot_enumerate (PyProof.Rows.callWith_type1 (thn (ha.run pos pins s σ H _ I h) fun us s1 ⟨vs, H1, I1, r1, q1⟩ => ?_) hs rfl))
  obtain ⟨a, xs, ex, q1⟩ := q1
  subst ex
  cases r1 with
  | cons r rr =>
    cases rr
    cases r
    have fin : ∀ b ∈ [s1.heap.objs.size + 1, s1.heap.objs.size], FpOk X pins H1 b := fun b hb => by
      have e' : b = s1.heap.objs.size + 1 ∨ b = s1.heap.objs.size := by simpa using hb
      have hle : s1.heap.objs.size ≤ b := by
        rcases e' with z | z
        · rw [z]; exact Nat.le_add_right _ _
        · rw [z]; exact Nat.le_refl _
      exact I1.fpOk hle (I1.hok.fresh hle)
    rcases q1 with ⟨hq, q⟩ | ⟨hq, q⟩
    · obtain ⟨its, rv, p', hz⟩ := I1.list hq
      refine call_enumerate_list p'.isList fun h' he hit hsz hk => wpAny_pyIter_enum he ?_
      have I2 : Inv X pins σ H1 { s1 with heap := h' } := I1.kept (t' := s1.toks) hk
      exact ⟨s1.heap.objs.size + 1, [s1.heap.objs.size + 1, s1.heap.objs.size], _, _, H1, rfl, I2, turn_enum a (s1.heap.objs.size + 1) s1.heap.objs.size, ⟨⟨.none, he⟩, hit, Nat.succ_ne_self _⟩, fin, q⟩
    · obtain ⟨its, rv, p', hz⟩ := I1.tuple hq
      have hal : a < s1.heap.objs.size := by obtain ⟨o, ho, _⟩ := p'; exact Heap.lt_size ho
      refine call_enumT p' fun h' he hit hsz hk => wpAny_pyIter_enum he ?_
      have I2 : Inv X pins σ H1 { s1 with heap := h' } := I1.kept (t' := s1.toks) hk
      exact ⟨s1.heap.objs.size + 1, [s1.heap.objs.size + 1, s1.heap.objs.size], _, _, H1, rfl, I2, turn_enumT a (s1.heap.objs.size + 1) s1.heap.objs.size (Nat.ne_of_lt hal) (Nat.ne_of_gt (Nat.lt_succ_of_lt hal)), ⟨⟨.none, he⟩, hit, Nat.succ_ne_self _⟩, fin, q⟩
/-! ### the rule on data -/
def enumD : Nat → List PyData → List PyData
  | _, [] => []
  | k, d :: ds => .tuple [.int (k : Nat), d] :: enumD (k + 1) ds
theorem enumD_len : ∀ (ds : List PyData) (k : Nat), (enumD k ds).length = ds.length
  | [], _ => rfl
  | _ :: ds, k => by rw [enumD, List.length_cons, List.length_cons, enumD_len ds]
theorem enumD_get : ∀ (ds : List PyData) (k i : Nat) (d : PyData), ds[i]? = some d → (enumD k ds)[i]? = some (.tuple [.int ((k + i : Nat) : Int), d])
  | [], _, _, _, h => by simp at h
  | x :: ds, k, 0, d, h => by
    have h' : x = d := by simpa using h
    subst h'
    rfl
  | x :: ds, k, i + 1, d, h => by
    have h' : ds[i]? = some d := by simpa using h
    have := enumD_get ds (k + 1) i d h'
    rw [enumD, List.getElem?_cons_succ, this]
    rw [show k + 1 + i = k + (i + 1) by omega]
section
variable {K : PySem.W.Frag} {G : Hp} {a : Addr} {xs : List V} {ds : List PyData}
theorem walks_enumL (h : SqL K G a xs) (r : RpAll K G xs ds) : Walks K G (Ite K a) (enumD 0 ds) where
  go := fun i G' H s1 s2 hi => by
    rw [enumD_len] at hi
    obtain ⟨v, h1, _⟩ := r.getD (List.getElem?_eq_getElem hi)
    exact ⟨xs, v, sql_same s2 (sql_same s1 h), h1⟩
  yld := fun i G' H x H' s1 s2 hi hy => by
    obtain ⟨T, x1, e1, hT, e2, k1⟩ := hy
    subst e1 e2
    obtain ⟨d, q1, q2⟩ := r.get (k1 xs (sql_same s2 (sql_same s1 h)))
    obtain ⟨z1, z2, z3⟩ := zip_new s2 hT (Rp.int (K := K) (G := G') (i : Nat)) (q2.mono s1 _ _)
    refine ⟨_, _, ?_, z1, z2, z3⟩
    rw [enumD_get ds 0 i d q1, Nat.zero_add]
  stop := fun G' H s1 s2 => ⟨xs, sql_same s2 (sql_same s1 h), by rw [enumD_len, r.len]; exact Nat.le_refl _⟩
theorem walks_enumT (h : SqT K G a xs) (r : RpAll K G xs ds) : Walks K G (IteT K a) (enumD 0 ds) where
  go := fun i G' H s1 s2 hi => by
    rw [enumD_len] at hi
    obtain ⟨v, h1, _⟩ := r.getD (List.getElem?_eq_getElem hi)
    exact ⟨xs, v, sqt_same s2 (sqt_same s1 h), h1⟩
  yld := fun i G' H x H' s1 s2 hi hy => by
    obtain ⟨T, x1, e1, hT, e2, k1⟩ := hy
    subst e1 e2
    obtain ⟨d, q1, q2⟩ := r.get (k1 xs (sqt_same s2 (sqt_same s1 h)))
    obtain ⟨z1, z2, z3⟩ := zip_new s2 hT (Rp.int (K := K) (G := G') (i : Nat)) (q2.mono s1 _ _)
    refine ⟨_, _, ?_, z1, z2, z3⟩
    rw [enumD_get ds 0 i d q1, Nat.zero_add]
  stop := fun G' H s1 s2 => ⟨xs, sqt_same s2 (sqt_same s1 h), by rw [enumD_len, r.len]; exact Nat.le_refl _⟩
end
def yEnum (rs : List Rs) (q : List PyData → Prop) : Prop := rs.all Rs.stays = true ∧ match rs.map Rs.d with
  | [.list ds] => q (enumD 0 ds)
  | [.tuple ds] => q (enumD 0 ds)
  | _ => False
def xEnum (xs : XA) : XI := fun e q ex => xs e (fun rs => yEnum rs q) ex
theorem vi_enum {X : Cx} {W : WX} {a : Expr} {ta : TA} {xs : XA} {p pos tpos : Pos} {elts : List Expr} {kk : Nat} (hg : Gl X "enumerate") (hm : X.mg "enumerate" = none) (ha : VA X W [a] ta xs) (hs : starEach [a] X.env = [(false, eval a X.env)] := by rfl) :
    VI X W (.Tuple elts kk tpos) (.Call (.Name "enumerate" p) [a] [] pos) (iEnumA X.K ta) (xEnum xs) := ⟨pi_enumA hg hm ha.pa hs, by
  intro G0 H0 G H σ e R q ex hs hx hq hw
  refine ha.rf G0 H0 G H σ e _ _ ex hs hx (fun G1 H1 vs rs s1 g1 pr k1 => ?_) hw
  obtain ⟨st, k⟩ := k1
  obtain ⟨G2, s2, g2, ra⟩ := fix_args s1 g1 pr st
  generalize rs.map Rs.d = ds at k ra
  split at k
  · cases ra with
    | cons h t =>
      cases t
      cases h with
      | lst h1 h2 => exact ⟨_, _, rfl, .inl ⟨sql_same s2 (SqL.of h1), hq G2 H1 _ _ s2 g2 (walks_enumL (SqL.of h1) h2) k⟩⟩
  · cases ra with
    | cons h t =>
      cases t
      cases h with
      | tup h1 h2 => exact ⟨_, _, rfl, .inr ⟨sqt_same s2 h1, hq G2 H1 _ _ s2 g2 (walks_enumT h1 h2) k⟩⟩
  · exact k.elim⟩
end Pv

/-! PwF: a tuple times an int. -/
namespace Pv
open PySem L2 PySem.Spec PyProof.Rows
open AutoSeq1 (wpAny_loadPart')
/-- times one: the tuple itself -/
theorem tup_mul1 (l : Addr) (items : Array Value) (n : Nat) (dd : Option Addr) (sl : Array (Option Value)) (u : Tok) :
    Meets (Builtin.«tuple.__mul__» ⟨[.ref l, .int 1 u], []⟩) (fun _ R s => s.heap.get? l = some { cls := .type "tuple", dict := dd, data := .seq items n, slots := sl } ∧ R (.ok (.ret (Value.ref l))) s) :=
  .of_wp fun prog w A R s h => by
    obtain ⟨hp, g, d, tk, os⟩ := s
    obtain ⟨hl, h⟩ := h
    have f1 := AutoSeq1.idx_int
    have c1 : (items.isEmpty || (1 : Int) == 1) = true := by simp
    wp_walk using wpAny_loadPart' hl
    repeat (first
      | (refine wpAny_ite_false (by decide) ?_; wp_walk using wpAny_loadPart' hl)
      | (refine wpAny_ite_true (by rw [c1]) ?_; wp_walk using wpAny_loadPart' hl))
    exact ⟨_, rfl, h⟩
def rRep1 (K : PySem.W.Frag) : R2 := fun x y H Q => ∃ l xs, x = .ref l ∧ y = .int 1 ∧ SqT K H l xs ∧ Q (.ref l) H
section
variable {X : Cx} {W : WX} {K : PySem.W.Frag} {a b : Expr} {te tb : TE} {xa xb : XE} {pos : Pos}
theorem op_rep1 : OpR X (binaryOp .Mult) (rRep1 X.K) := by
  intro pins s σ H x y v u Q I rx ry h
  obtain ⟨l, xs, rfl, rfl, hT, q⟩ := h
  cases rx
  obtain ⟨t, rfl⟩ := ry
  obtain ⟨its, r, ⟨⟨cls, dd, data, sl⟩, ho, hc, n, hd⟩, hs⟩ := I.tuple hT
  simp only at hc hd
  subst hc hd
  refine wpAny_binaryOp_repeat_ref (T := "tuple") (U := "int") (by decide) ⟨_, ho, rfl⟩ (fun s' => typeIs_int s' 1 t) noFill_tuple_mul F.fills_int_mul F.slot_int_rmul repeat_tuple F.slot_int_index.lookup
    (call_meets F.slot_int_rmul (typeIs_int s 1 t) F.entry_int_rmul (F.args_int_rmul_2 _ _) (int_rmul_tuple 1 t l its.toArray n dd sl)
      ⟨ho, rfl, ⟨_, ho, rfl⟩, call_meets F.slot_tuple_mul ⟨_, ho, rfl⟩ F.entry_tuple_mul (F.args_tuple_mul_2 _ _) (tup_mul1 l its.toArray n dd sl t) ⟨ho, ?_⟩⟩)
  exact ⟨.ref l, H, I, rfl, q⟩
def yTimesT (a b : PyData) (q : Rs → Prop) : Prop := match a, b with
  | .tuple ds, .int k => ds ≠ [] ∧ 1 ≤ k ∧ k ≤ 1000 ∧ ds.length ≤ 1000 ∧ q (.va (.tuple (List.replicate k.toNat ds).flatten))
  | _, _ => False
theorem rr_timesT : RefR K (fun x y H Q => rRepT K x y H Q ∨ rRep1 K x y H Q) yTimesT := by
  intro Hs G H v w r1 r2 Q q sub rr1 rr2 hy hq
  have w2 := rr2.wk sub
  unfold yTimesT at hy
  generalize hd1 : r1.d = d1 at hy
  generalize hd2 : r2.d = d2 at hy w2
  split at hy
  · rename_i ds k
    obtain ⟨hn, k1, k2, hl, k3⟩ := hy
    obtain rfl := rp_int w2
    obtain ⟨p, ys, rfl, h1, h2⟩ := rr1.tuple hd1
    by_cases h : k = 1
    · subst h
      have e : (List.replicate (1 : Int).toNat ds).flatten = ds := by simp
      rw [e] at k3
      exact .inr ⟨p, ys, rfl, rfl, sqt_same sub h1, hq G H _ (.va _) sub .refl (.tup h1 h2) k3⟩
    · refine .inl ⟨p, k, ys, rfl, rfl, sqt_same sub h1, fun z => hn ?_, by omega, k2, by rw [h2.len]; exact hl, fun l hl2 => ?_⟩
      · have := h2.len
        rw [z] at this
        exact List.eq_nil_of_length_eq_zero this.symm
      · have gb : Grow G H (upd G l (.tup (List.replicate k.toNat ys).flatten)) (upd H l (.tup (List.replicate k.toNat ys).flatten)) := Grow.both sub hl2
        exact hq _ _ _ (.va _) (same_both sub) gb (.tup (.inl (.inl upd_same)) ((h2.rep _).mono gb.gg _ _)) k3
  · exact hy.elim
theorem ve_timesT (ha : VE X W a te xa) (hb : VE X W b tb xb) : VE X W (.BinOp a .Mult b pos) (tOp (fun x y H Q => rRepT X.K x y H Q ∨ rRep1 X.K x y H Q) te tb) (xR2 yTimesT xa xb) := ⟨pe_op (op_repT.or op_rep1) ha.pe hb.pe, ref_r2 rr_timesT ha.rf hb.rf⟩
end
end Pv

/-! PwG: a comprehension with two fors (within it no own list is to be seen: freeze what it reads). -/
namespace Pv
open PySem L2
def cutO : Sl → Sl
  | .ow _ => .no
  | .ob _ _ _ _ _ _ => .no
  | .gn _ => .no
  | .mm d _ => .fz d
  | s => s
def noOw : En → Bool
  | [] => true
  | .ow _ :: _ => false
  | .ob _ _ _ _ _ _ :: _ => false
  | .gn _ :: _ => false
  | .mm _ _ :: _ => false
  | _ :: r => noOw r
theorem noOw_has {o : Option (Option V)} {x : Addr} {s : Sl} : ∀ {e : En} {j : Nat}, noOw e = true → e[j]? = some s → ¬ s.has o x
  | [], j, _, h => by simp at h
  | t :: r, 0, n, h => by
    have h' : t = s := by simpa using h
    subst h'
    cases t <;> first
      | exact fun z => z
      | cases n
  | t :: r, j + 1, n, h => by
    have h' : r[j]? = some s := by simpa using h
    have n' : noOw r = true := by
      cases t <;> first
        | exact n
        | cases n
    exact noOw_has n' h'
section
variable {X : Cx} {W : WX} {K : PySem.W.Frag}
theorem StR.cutO {G0 H0 G H : Hp} {σ : L2.St} {e : En} (hs : StR K G0 H0 G H σ e) : StR K G0 H0 G H σ (e.map Pv.cutO) where
  sub := hs.sub
  gr := hs.gr
  len := by rw [List.length_map]; exact hs.len
  sl := fun i s hi => by
    rw [List.getElem?_map] at hi
    cases h : e[i]? with
    | none =>
      rw [h] at hi
      cases hi
    | some t =>
      rw [h] at hi
      have hi' : Pv.cutO t = s := Option.some.inj hi
      have q := hs.sl i t h
      cases t <;> subst hi' <;> first
        | trivial
        | exact q
        | exact ⟨q.choose, q.choose_spec.1, q.choose_spec.2.1⟩
  dj := fun a b s s' x _ ha _ h1 _ => by
    rw [List.getElem?_map] at ha
    cases h : e[a]? with
    | none =>
      rw [h] at ha
      cases ha
    | some t =>
      rw [h] at ha
      have ha' : Pv.cutO t = s := Option.some.inj ha
      cases t <;> (subst ha'; exact h1.elim)
variable {te : TE} {xa : XE}
def xLc2 (xi : XI) (y : YG) (xt : XT) (xi1 : XI) (y1 : YG) (xt1 : XT) (xe : XE) (vs vs1 : List Nat) : XE := fun e q ex => xi e (fun items => ∃ I : Nat → List PyData → Prop, I 0 [] ∧
  (∀ i d acc, items[i]? = some d → I i acc → y (.va d) ((wipeE e vs).map Pv.cutO) fun e2 => noOw e2 = true ∧ xt e2 (fun b => if b = true then xi1 e2 (fun items1 => ∃ J : Nat → List PyData → Prop, J 0 acc ∧
    (∀ j d1 acc1, items1[j]? = some d1 → J j acc1 → y1 (.va d1) (wipeE e2 vs1) fun e3 => xt1 e3 (fun b => if b = true then xe e3 (fun r => (r.stays = true ∧ acc1.length < sizeLine) ∧ J (j + 1) (acc1 ++ [r.d])) (fun _ => False) else J (j + 1) acc1) fun _ => False) ∧
    ∀ acc1, J items1.length acc1 → I (i + 1) acc1) (fun _ => False) else I (i + 1) acc) fun _ => False) ∧
  ∀ acc, I items.length acc → q (.nw acc)) ex
theorem fix_new {G0 H0 G H : Hp} {σ : L2.St} {e : En} {Gs Hs : Hp} {v : V} {r : Rs} {D : Addr} {accV : List V} (rr : RsR K Hs G H v r) (s : Same G H) (g : Grow Gs Hs G H) (hr : r.stays = true) (hGD : Gs D = none) (hHD : Hs D = some (.lst accV)) :
    ∃ G', Same G' H ∧ Same G G' ∧ Grow Gs Hs G' H ∧ Rp K G' v r.d ∧ G' D = none := by
  obtain ⟨G', s', sg, g', rp, _⟩ := rr.fix (G0 := G0) (H0 := H0) (σ := σ) (e := e) s g hr
  exact ⟨G', s', sg, g', rp, g'.nn D hGD (by rw [hHD]; exact Option.some_ne_none _)⟩
theorem ref_lc2 {wi wi1 : TI} {g g1 : TG} {tt tt1 : TT} {xi xi1 : XI} {y y1 : YG} {xt xt1 : XT} {vs js vs1 js1 : List Nat} (hjs : ∀ j ∈ js, j ∈ vs) (hjs1 : ∀ j ∈ js1, j ∈ vs1) (hv1 : ∀ j ∈ vs1, j ∈ vs) (hi : RefI K W wi xi) (hg : RefG K g y js) (ht : RefT K WX0 tt xt)
    (hi1 : RefI K WX0 wi1 xi1) (hg1 : RefG K g1 y1 js1) (ht1 : RefT K WX0 tt1 xt1) (he : RefE K WX0 te xa) : RefE K W (tLc2 wi g tt wi1 g1 tt1 te vs vs1) (xLc2 xi y xt xi1 y1 xt1 xa vs vs1) := by
  intro G0 H0 G H σ e Q q ex hs hx hq hw
  refine hi G0 H0 G H σ e _ _ ex hs hx (fun G1 H1 J items s1 g1' wk k1 => ?_) hw
  obtain ⟨I, i0, turn, fin⟩ := k1
  have hs1 := hs.grow g1' s1
  intro D hD
  have hH0 : H0 D = none := hs1.gr.hh.free hD
  have hnD := hs1.free (.inl hD)
  refine ⟨fun i m Hc => m = items.length - i ∧ i ≤ items.length ∧ ∃ G2 acc accV, StR K G0 H0 G2 Hc σ e ∧ Same G1 G2 ∧ Grow G1 H1 G2 Hc ∧ Hc D = some (.lst accV) ∧ G2 D = none ∧ RpAll K G2 accV acc ∧ I i acc,
    ⟨items.length, by simp, Nat.zero_le _, G1, [], [], ?_, Same.refl _, Grow.out hD, upd_same, s1.free hD, .nil, i0⟩, ?_⟩
  · exact hs1.grow (Grow.out hD) (same_out s1 (s1.free hD))
  rintro i m Hc ⟨rfl, hle, G2, acc, accV, st, sg, gr, hDc, hGD, ra, inv⟩
  by_cases hlt : i < items.length
  · refine .inr ⟨wk.go i G2 Hc sg st.sub hlt, fun H' => i + 1 ≤ items.length ∧ ∃ G3 acc accV, StR K G0 H0 G3 H' σ e ∧ Same G1 G3 ∧ Grow G1 H1 G3 H' ∧ H' D = some (.lst accV) ∧ G3 D = none ∧ RpAll K G3 accV acc ∧ I (i + 1) acc,
      fun H' h => ⟨_, by omega, rfl, h⟩, fun x H' hy => ?_⟩
    obtain ⟨G3, d, hd, s3, g3, rx⟩ := wk.yld i G2 Hc x H' sg st.sub hlt hy
    have st3 := st.grow g3 s3
    have nD3 : G3 D = none := g3.nn D hGD (by rw [hDc]; exact Option.some_ne_none _)
    have hD3 : H' D = some (.lst accV) := g3.hh _ _ hDc
    refine hg G0 H0 G3 H' (wipe σ vs) ((wipeE e vs).map Pv.cutO) x (.va d) _ _ ((st3.wipe vs).cutO) rx (turn i d acc hd inv) fun σ2 e2 st4 w4 k4 => ?_
    obtain ⟨no2, k4⟩ := k4
    refine ⟨by rw [w4 vs hjs, wipe_wipe], ?_⟩
    refine ht G0 H0 G3 H' σ2 e2 _ _ _ st4 k4 (fun G4 H4 b s4 g4 k5 => ?_) fun _ _ _ _ _ _ _ _ z => z.elim
    have st5 := st4.grow g4 s4
    have nD4 : G4 D = none := g4.nn D nD3 (by rw [hD3]; exact Option.some_ne_none _)
    have hD4 : H4 D = some (.lst accV) := g4.hh _ _ hD3
    cases b with
    | false =>
      show i + 1 ≤ items.length ∧ _
      exact ⟨hlt, G4, acc, accV, st3.grow g4 s4, (sg.trans g3.gg).trans g4.gg, (gr.trans g3).trans g4, hD4, nD4, (ra.mono g3.gg _ _).mono g4.gg _ _, k5⟩
    | true =>
      refine hi1 G0 H0 G4 H4 σ2 e2 _ _ _ st5 k5 (fun G5 H5 J1 items1 s5 g5 wk1 k6 => ?_) fun _ _ _ _ _ _ _ _ z => z.elim
      obtain ⟨Jn, j0, turn1, fin1⟩ := k6
      have st6 := st5.grow g5 s5
      have nD5 : G5 D = none := g5.nn D nD4 (by rw [hD4]; exact Option.some_ne_none _)
      have hD5 : H5 D = some (.lst accV) := g5.hh _ _ hD4
      have out5 := ((gr.trans g3).trans g4).trans g5
      refine ⟨fun j k Hc => k = items1.length - j ∧ j ≤ items1.length ∧ ∃ G6 acc1 accV1, StR K G0 H0 G6 Hc σ e ∧ StR K G0 H0 G6 Hc σ2 e2 ∧ Same G5 G6 ∧ Grow G1 H1 G6 Hc ∧ Hc D = some (.lst accV1) ∧ G6 D = none ∧ RpAll K G6 accV1 acc1 ∧ Jn j acc1,
        ⟨items1.length, by simp, Nat.zero_le _, G5, acc, accV, (st3.grow g4 s4).grow g5 s5, st6, Same.refl _, out5, hD5, nD5, ((ra.mono g3.gg _ _).mono g4.gg _ _).mono g5.gg _ _, j0⟩, ?_⟩
      rintro j k Hd ⟨rfl, hle1, G6, acc1, accV1, stA, stB, sg1, gr1, hDd, nD6, ra1, inv1⟩
      by_cases hlt1 : j < items1.length
      · refine .inr ⟨wk1.go j G6 Hd sg1 stA.sub hlt1, fun H' => j + 1 ≤ items1.length ∧ ∃ G7 acc1 accV1, StR K G0 H0 G7 H' σ e ∧ StR K G0 H0 G7 H' σ2 e2 ∧ Same G5 G7 ∧ Grow G1 H1 G7 H' ∧ H' D = some (.lst accV1) ∧ G7 D = none ∧ RpAll K G7 accV1 acc1 ∧ Jn (j + 1) acc1,
          fun H' h => ⟨_, by omega, rfl, h⟩, fun x1 H6 hy1 => ?_⟩
        obtain ⟨G7, d1, hd1, s7, g7, rx1⟩ := wk1.yld j G6 Hd x1 H6 sg1 stA.sub hlt1 hy1
        have nD7 : G7 D = none := g7.nn D nD6 (by rw [hDd]; exact Option.some_ne_none _)
        have hD7 : H6 D = some (.lst accV1) := g7.hh _ _ hDd
        have stA7 := stA.grow g7 s7
        have stB7 := stB.grow g7 s7
        refine hg1 G0 H0 G7 H6 (wipe σ2 vs1) (wipeE e2 vs1) x1 (.va d1) _ _ (stB7.wipe vs1) rx1 (turn1 j d1 acc1 hd1 inv1) fun σ3 e3 st8 w8 k8 => ?_
        refine ⟨by rw [w8 vs1 hjs1, wipe_wipe], ?_⟩
        refine ht1 G0 H0 G7 H6 σ3 e3 _ _ _ st8 k8 (fun G8 H8 b s8 g8 k9 => ?_) fun _ _ _ _ _ _ _ _ z => z.elim
        have nD8 : G8 D = none := g8.nn D nD7 (by rw [hD7]; exact Option.some_ne_none _)
        have hD8 : H8 D = some (.lst accV1) := g8.hh _ _ hD7
        cases b with
        | false =>
          show j + 1 ≤ items1.length ∧ _
          exact ⟨hlt1, G8, acc1, accV1, stA7.grow g8 s8, stB7.grow g8 s8, (sg1.trans g7.gg).trans g8.gg, (gr1.trans g7).trans g8, hD8, nD8, (ra1.mono g7.gg _ _).mono g8.gg _ _, k9⟩
        | true =>
          refine he G0 H0 G8 H8 σ3 e3 _ _ _ (st8.grow g8 s8) k9 (fun G9 H9 v r s9 g9 rr k10 => ?_) fun _ _ _ _ _ _ _ _ z => z.elim
          obtain ⟨⟨c1, c2⟩, c3⟩ := k10
          obtain ⟨Ga, sa, g9a, g8a, rp, nDa⟩ := fix_new (G0 := G0) (H0 := H0) (σ := σ3) (e := e3) rr s9 g9 c1 nD8 hD8
          have hD9 : H9 D = some (.lst accV1) := g9.hh _ _ hD8
          have raF : RpAll K Ga accV1 acc1 := ((ra1.mono g7.gg _ _).mono g8.gg _ _).mono (g8a.gg) _ _
          have gg := ((gr1.trans g7).trans g8).trans g8a
          refine ⟨accV1, hD9, by rw [ra1.len]; exact c2, hlt1, Ga, acc1 ++ [r.d], accV1 ++ [v], ?_, ?_, ((sg1.trans g7.gg).trans g8.gg).trans g8a.gg, ⟨gg.gg, same_out gg.hh hD, gg.nn⟩, upd_same, nDa, raF.append (.cons rp .nil), c3⟩
          · exact StR.poke ((stA7.grow g8 s8).grow g8a sa) hD9 (fun _ z => by cases z) nDa hH0 hnD
          · exact StR.poke ((stB7.grow g8 s8).grow g8a sa) hD9 (fun _ z => by cases z) nDa hH0 fun l s hl => noOw_has no2 hl
      · have e1 : j = items1.length := by omega
        subst e1
        refine .inl ⟨wk1.stop G6 Hd sg1 stA.sub, ?_⟩
        exact ⟨hlt, G6, acc1, accV1, stA, ((((sg.trans g3.gg).trans g4.gg).trans g5.gg).trans sg1), gr1, hDd, nD6, ra1, fin1 acc1 inv1⟩
  · have e1 : i = items.length := by omega
    subst e1
    refine .inl ⟨wk.stop G2 Hc sg st.sub, ?_⟩
    exact hq G2 Hc _ (.nw acc) st.sub (g1'.trans gr) ⟨D, accV, rfl, g1'.hh.free hD, hDc, hGD, ra⟩ (fin acc inv)
theorem ve_lc2 {elt tg iter tg1 iter1 : Expr} {ifs ifs1 : List Expr} {scope : Scope} {own : List (Str × Nat)} {wi : TI} {g : BF TG} {tt : BF TT} {wi1 : BF TI} {g1 : BF TG} {tt1 : BF TT} {te : BF TE} {xi xi1 : XI} {y y1 : YG} {xt xt1 : XT} {js js1 vs1 : List Nat} {pos : Pos} (hc : X.calm = true) (hN : X.N.Nodup) (hjs : ∀ j ∈ js, j ∈ own.map (·.2)) (hjs1 : ∀ j ∈ js1, j ∈ vs1) (hv1 : ∀ j ∈ vs1, j ∈ own.map (·.2)) (hi : VI X W tg iter wi xi)
    (ok : BlkOk X.N X.env.scope scope own)
    (hg : ∀ (s : Shared) (H : Hp) (C : Addr) (cl : List (Str × Addr)) (fp : List Addr), VG (X.blk s H scope (compEnvC scope cl C X.env) fp) tg (g s H C cl fp) y js)
    (ht : ∀ (s : Shared) (H : Hp) (C : Addr) (cl : List (Str × Addr)) (fp : List Addr), VTs (X.blk s H scope (compEnvC scope cl C X.env) fp) WX0 ifs (tt s H C cl fp) xt)
    (hi1 : ∀ (s : Shared) (H : Hp) (C : Addr) (cl : List (Str × Addr)) (fp : List Addr), VI (X.blk s H scope (compEnvC scope cl C X.env) fp) WX0 tg1 iter1 (wi1 s H C cl fp) xi1)
    (hg1 : ∀ (s : Shared) (H : Hp) (C : Addr) (cl : List (Str × Addr)) (fp : List Addr), VG (X.blk s H scope (compEnvC scope cl C X.env) fp) tg1 (g1 s H C cl fp) y1 js1)
    (ht1 : ∀ (s : Shared) (H : Hp) (C : Addr) (cl : List (Str × Addr)) (fp : List Addr), VTs (X.blk s H scope (compEnvC scope cl C X.env) fp) WX0 ifs1 (tt1 s H C cl fp) xt1)
    (he : ∀ (s : Shared) (H : Hp) (C : Addr) (cl : List (Str × Addr)) (fp : List Addr), VE (X.blk s H scope (compEnvC scope cl C X.env) fp) WX0 elt (te s H C cl fp) xa)
    (s0 : Shared) (H0 : Hp) (eg : ∀ s H C cl fp, g s H C cl fp = g s0 H0 0 [] [] := by intros; rfl) (et : ∀ s H C cl fp, tt s H C cl fp = tt s0 H0 0 [] [] := by intros; rfl) (ei1 : ∀ s H C cl fp, wi1 s H C cl fp = wi1 s0 H0 0 [] [] := by intros; rfl) (eg1 : ∀ s H C cl fp, g1 s H C cl fp = g1 s0 H0 0 [] [] := by intros; rfl) (et1 : ∀ s H C cl fp, tt1 s H C cl fp = tt1 s0 H0 0 [] [] := by intros; rfl) (ee : ∀ s H C cl fp, te s H C cl fp = te s0 H0 0 [] [] := by intros; rfl)
    (hs : ∀ x, foldedSetIterable iter X.env x = pure x := by intro _; rfl) (hs1 : ∀ env x, foldedSetIterable iter1 env x = pure x := by intro _ _; rfl) : VE X W (.ListComp elt [⟨tg, iter, ifs, 0⟩, ⟨tg1, iter1, ifs1, 0⟩] scope pos) (tLc2 wi (g s0 H0 0 [] []) (tt s0 H0 0 [] []) (wi1 s0 H0 0 [] []) (g1 s0 H0 0 [] []) (tt1 s0 H0 0 [] []) (te s0 H0 0 [] []) (own.map (·.2)) vs1) (xLc2 xi y xt xi1 y1 xt1 xa (own.map (·.2)) vs1) :=
  ⟨pe_lc2 hc hN hi.pi ok hv1 (fun s H C cl fp => by rw [← eg s H C cl fp]; exact (hg s H C cl fp).pg) (fun s H C cl fp => by rw [← et s H C cl fp]; exact (ht s H C cl fp).pt) (fun s H C cl fp => by rw [← ei1 s H C cl fp]; exact (hi1 s H C cl fp).pi) (fun s H C cl fp => by rw [← eg1 s H C cl fp]; exact (hg1 s H C cl fp).pg) (fun s H C cl fp => by rw [← et1 s H C cl fp]; exact (ht1 s H C cl fp).pt) (fun s H C cl fp => by rw [← ee s H C cl fp]; exact (he s H C cl fp).pe) hs hs1, (ref_lc2 hjs hjs1 hv1 hi.rf (hg s0 H0 0 [] []).rf (ht s0 H0 0 [] []).rf (hi1 s0 H0 0 [] []).rf (hg1 s0 H0 0 [] []).rf (ht1 s0 H0 0 [] []).rf (he s0 H0 0 [] []).rf)⟩
theorem vs_setLc2 (i : Nat) {x : Str} {py spos : Pos} {elt tg iter tg1 iter1 : Expr} {ifs ifs1 : List Expr} {scope : Scope} {own : List (Str × Nat)} {wi : TI} {g : BF TG} {tt : BF TT} {wi1 : BF TI} {g1 : BF TG} {tt1 : BF TT} {te : BF TE} {xi xi1 : XI} {y y1 : YG} {xt xt1 : XT} {js js1 vs1 : List Nat} {pos : Pos} (hc : X.calm = true) (hN : X.N.Nodup) (hjs : ∀ j ∈ js, j ∈ own.map (·.2)) (hjs1 : ∀ j ∈ js1, j ∈ vs1) (hv1 : ∀ j ∈ vs1, j ∈ own.map (·.2)) (hi : VI X W tg iter wi xi)
    (ok : BlkOk X.N X.env.scope scope own)
    (hg : ∀ (s : Shared) (H : Hp) (C : Addr) (cl : List (Str × Addr)) (fp : List Addr), VG (X.blk s H scope (compEnvC scope cl C X.env) fp) tg (g s H C cl fp) y js)
    (ht : ∀ (s : Shared) (H : Hp) (C : Addr) (cl : List (Str × Addr)) (fp : List Addr), VTs (X.blk s H scope (compEnvC scope cl C X.env) fp) WX0 ifs (tt s H C cl fp) xt)
    (hi1 : ∀ (s : Shared) (H : Hp) (C : Addr) (cl : List (Str × Addr)) (fp : List Addr), VI (X.blk s H scope (compEnvC scope cl C X.env) fp) WX0 tg1 iter1 (wi1 s H C cl fp) xi1)
    (hg1 : ∀ (s : Shared) (H : Hp) (C : Addr) (cl : List (Str × Addr)) (fp : List Addr), VG (X.blk s H scope (compEnvC scope cl C X.env) fp) tg1 (g1 s H C cl fp) y1 js1)
    (ht1 : ∀ (s : Shared) (H : Hp) (C : Addr) (cl : List (Str × Addr)) (fp : List Addr), VTs (X.blk s H scope (compEnvC scope cl C X.env) fp) WX0 ifs1 (tt1 s H C cl fp) xt1)
    (he : ∀ (s : Shared) (H : Hp) (C : Addr) (cl : List (Str × Addr)) (fp : List Addr), VE (X.blk s H scope (compEnvC scope cl C X.env) fp) WX0 elt (te s H C cl fp) xa)
    (s0 : Shared) (H0 : Hp) (eg : ∀ s H C cl fp, g s H C cl fp = g s0 H0 0 [] [] := by intros; rfl) (et : ∀ s H C cl fp, tt s H C cl fp = tt s0 H0 0 [] [] := by intros; rfl) (ei1 : ∀ s H C cl fp, wi1 s H C cl fp = wi1 s0 H0 0 [] [] := by intros; rfl) (eg1 : ∀ s H C cl fp, g1 s H C cl fp = g1 s0 H0 0 [] [] := by intros; rfl) (et1 : ∀ s H C cl fp, tt1 s H C cl fp = tt1 s0 H0 0 [] [] := by intros; rfl) (ee : ∀ s H C cl fp, te s H C cl fp = te s0 H0 0 [] [] := by intros; rfl)
    (hy : X.N[i]? = some x := by rfl) (hyl : X.env.scope.names.lookup x = some .local := by rfl)
    (hsw : swapsWith (.ListComp elt [⟨tg, iter, ifs, 0⟩, ⟨tg1, iter1, ifs1, 0⟩] scope pos) (some (.Name x py)) spos.line X.env = pure true := by exact sw_true rfl rfl rfl (by decide +kernel)) (hs : ∀ x, foldedSetIterable iter X.env x = pure x := by intro _; rfl) (hs1 : ∀ env x, foldedSetIterable iter1 env x = pure x := by intro _ _; rfl) :
    VS X W (.Assign [.Name x py] (.ListComp elt [⟨tg, iter, ifs, 0⟩, ⟨tg1, iter1, ifs1, 0⟩] scope pos) spos) (tAsg (tLc2 wi (g s0 H0 0 [] []) (tt s0 H0 0 [] []) (wi1 s0 H0 0 [] []) (g1 s0 H0 0 [] []) (tt1 s0 H0 0 [] []) (te s0 H0 0 [] []) (own.map (·.2)) vs1) (gName i)) (uAsg (xLc2 xi y xt xi1 y1 xt1 xa (own.map (·.2)) vs1) (yNm i)) :=
  ⟨ps_setLc2 hc hN hy hyl hsw hi.pi ok hv1 (fun s H C cl fp => by rw [← eg s H C cl fp]; exact (hg s H C cl fp).pg) (fun s H C cl fp => by rw [← et s H C cl fp]; exact (ht s H C cl fp).pt) (fun s H C cl fp => by rw [← ei1 s H C cl fp]; exact (hi1 s H C cl fp).pi) (fun s H C cl fp => by rw [← eg1 s H C cl fp]; exact (hg1 s H C cl fp).pg) (fun s H C cl fp => by rw [← et1 s H C cl fp]; exact (ht1 s H C cl fp).pt) (fun s H C cl fp => by rw [← ee s H C cl fp]; exact (he s H C cl fp).pe) hs hs1, ref_asg (ref_lc2 hjs hjs1 hv1 hi.rf (hg s0 H0 0 [] []).rf (ht s0 H0 0 [] []).rf (hi1 s0 H0 0 [] []).rf (hg1 s0 H0 0 [] []).rf (ht1 s0 H0 0 [] []).rf (he s0 H0 0 [] []).rf) ref_nm⟩
end
end Pv

/-! PwH: del e[lo:] of a list. -/
namespace Pv
open PySem PySem.Spec PyProof.Rows L2
/-- which places a slice takes -/
def picks (start stop step : Int) (i : Nat) : Bool :=
  if step > 0 then start ≤ i && i < stop && (i - start) % step == 0
  else stop < i && i ≤ start && (start - i) % (-step) == 0
theorem picks_one {c n : Nat} {k : Nat} : picks (c : Int) (n : Int) 1 k = (decide (c ≤ k) && decide (k < n)) := by
  unfold picks
  rw [if_pos (by decide)]
  have h : (((k : Int) - (c : Int)) % 1 == 0) = true := by
    simp [Int.emod_one]
  rw [h, Bool.and_true]
  have e1 : decide ((c : Int) ≤ (k : Int)) = decide (c ≤ k) := decide_eq_decide.mpr (by omega)
  have e2 : decide ((k : Int) < (n : Int)) = decide (k < n) := decide_eq_decide.mpr (by omega)
  rw [e1, e2]
theorem left_of {c n : Nat} : ∀ (its : List Value) (j : Nat), j + its.length = n → (its.zipIdx j).filterMap (fun y => if picks (c : Int) (n : Int) 1 y.2 = true then none else some y.1) = its.take (c - j)
  | [], j, _ => by simp
  | x :: its, j, h => by
    rw [List.zipIdx_cons, List.filterMap_cons]
    have ih := left_of (c := c) (n := n) its (j + 1) (by rw [List.length_cons] at h; omega)
    have hj : j < n := by rw [List.length_cons] at h; omega
    by_cases hc : c ≤ j
    · have hp : picks (c : Int) (n : Int) 1 j = true := by
        rw [picks_one, decide_eq_true hc, decide_eq_true hj] <;> rfl
      simp only [hp, if_true]
      rw [ih, show c - (j + 1) = 0 by omega, show c - j = 0 by omega] <;> rfl
    · have hp : picks (c : Int) (n : Int) 1 j = false := by
        rw [picks_one, decide_eq_false hc] <;> rfl
      simp only [hp, Bool.false_eq_true, if_false]
      rw [ih, show c - j = (c - (j + 1)) + 1 by omega, List.take_succ_cons]
section
variable {prog : Program} {w : World} {A : Around} {E : Value → Shared → Prop} {s : Shared}
theorem bounds_from {c n : Nat} (hc : c ≤ n) : sliceBounds (some (c : Int)) none none n = ((c : Int), (n : Int), 1) := by
  simp only [sliceBounds, Option.getD_none]
  have h1 : ¬ ((c : Int) < 0) := by omega
  simp only [h1, if_false, show (1 : Int) > 0 by decide, if_true]
  congr 1
  omega
theorem delItem_from {l sl : Addr} {items : Array Value} {n : Nat} {vl : Value} {c : Nat} {Q : Unit → Shared → Prop} (e : s.heap.get? l = some { cls := .type "list", data := .seq items n })
    (hs : s.heap.IsSliceOf sl vl .none .none) (pl : IsPart vl (some (c : Int))) (hc : c ≤ items.size) (hsz : items.size ≤ sizeLine)
    (h : Q () { s with heap := s.heap.update l (Obj.mapSeq fun xs => (xs.toList.zipIdx.filterMap fun (x, k) => if picks (c : Int) (items.size : Int) 1 k then none else some x).toArray) }) :
    wpAny (model prog w) A (delItem (.ref l) (.ref sl)) Q E s := by
  have hl : s.heap.IsList l items := PySem.IsL.isList e
  obtain ⟨os, hos, hcs, hds⟩ := id hs
  have hTs : s.TypeIs (.ref sl) "slice" := ⟨os, hos, hcs⟩
  have hstep : ¬ ((rawPart none == rawInt 0) = true) := Bool.false_ne_true
  have hz' : ((fun xs : Array Value => (xs.toList.zipIdx.filterMap fun (x, k) => if picks (c : Int) (items.size : Int) 1 k then none else some x).toArray) items).size ≤ sizeLine + 1 := by
    show (List.filterMap _ items.toList.zipIdx).toArray.size ≤ _
    rw [List.size_toArray]
    have := List.length_filterMap_le (fun (x, k) => if picks (c : Int) (items.size : Int) 1 k then none else some x) items.toList.zipIdx
    rw [List.length_zipIdx] at this
    simp at this
    simp
    omega
  refine wpAny_delItem_slot hl.typeIs (by decide) F.slot_list_delitem (wpAny_call_entry F.slot_list_delitem hl.typeIs F.entry_list_delitem ?_ (F.args_list_delitem_2 _ _))
  show wpAny _ _ (Builtin.List.listSubscript? (.ref sl) >>= _) _ _ s
  refine wpAny_bind ?_
  unfold Builtin.List.listSubscript?
  refine wpAny_bind (wpAny_specialOf hTs slice_no_index ?_)
  simp only [Option.isNone_none, if_true]
  refine wpAny_pure ?_
  show wpAny _ _ (typeOf (.ref sl) >>= _) _ _ s
  refine wpAny_bind (wpAny_typeOf hTs ?_)
  first
    | rw [if_neg (by decide)]
    | refine PySem.W.KFB.if_not (by decide) ?_
  rw [listSliceParts_eq]
  refine wpAny_bind (wpAny_bind (wpAny_field hos hds (x := .none) rfl (wpAny_bind (wpAny_listPart .none ?_))))
  rw [if_neg hstep]
  refine wpAny_bind (wpAny_field hos hds (x := vl) rfl (wpAny_bind (wpAny_listPart pl ?_)))
  refine wpAny_bind (wpAny_field hos hds (x := .none) rfl (wpAny_bind (wpAny_listPart .none (wpAny_pure ?_))))
  unfold Builtin.List.listItems
  refine wpAny_bind (wpAny_bind (wpAny_seqItems e rfl (wpAny_pure ?_)))
  refine wpAny_bind (wpAny_of_eq ((sliceIndices_raw (some (c : Int)) none none items.size (by simp)).trans (congrArg (pure : Int × Int × Int → Sem (Int × Int × Int)) (bounds_from hc))) ?_)
  refine wpAny_bind (wpAny_rule ?_)
  show wpAny _ _ (updateSeq l (fun xs => (xs.toList.zipIdx.filterMap fun (x, k) => if picks (c : Int) (items.size : Int) 1 k then none else some x).toArray) >>= _) _ _ s
  refine wpAny_bind (wpAny_updateSeq (hz := hsz) (_hz' := hz') e rfl ?_)
  refine wpAny_bind (wpAny_letGo ?_)
  first
    | exact wpAny_bind (wpAny_pure (wpAny_pure h))
    | exact wpAny_pure ⟨.none, rfl, h⟩
    | exact wpAny_bind (wpAny_pure h)
end
section
variable {X : Cx} {o lo : Expr} {to tl : TE} {pos tpos p2 : Pos}
/-- del xs[lo:] -/
def tDelF (to tl : TE) : TS := fun D σ H => to σ H fun x H1 => tl σ H1 fun y H2 => ∃ (l : Addr) (xs : List V) (c : Nat), x = .ref l ∧ y = .int (c : Int) ∧ H2 l = some (.lst xs) ∧ c ≤ xs.length ∧ D.nx σ (upd H2 l (.lst (xs.take c)))
theorem ps_delF (ho : PE X o to) (hl : PE X lo tl) : PS X (.Delete [.Subscript o (.Slice (some lo) none none p2) tpos] pos) (tDelF to tl) := by
  refine ⟨fun pins s σ H D I h => ?_⟩
  refine wpAny_Delete (wpAny_deleteEach_cons (wpAny_delete_Subscript (thn (ho.run pins s σ H _ I h) fun u s1 ⟨x, H1, I1, rx, q1⟩ => ?_)))
  refine wpAny_Slice ?_
  rw [evalPart_some, evalPart_none]
  refine thn (hl.run pins s1 σ H1 _ I1 q1) fun vl s2 ⟨y, H2, I2, ry, q2⟩ => ?_
  refine wpAny_pure (wpAny_pure ?_)
  obtain ⟨l, xs, c, rfl, rfl, hH, hc, q⟩ := q2
  cases (show u = Value.ref l from rx)
  obtain ⟨t, rfl⟩ := (show ∃ t, vl = Value.int (c : Int) t from ry)
  have I4 : Inv X pins σ H2 { s2 with heap := s2.heap.push { cls := .type "slice", data := .fields #[.int (c : Int) t, .none, .none] } } := I2.kept (t' := s2.toks) fun b ob q => Heap.get?_push_of_some _ q
  obtain ⟨z, its, n, r, hl2, e⟩ := I4.lstM hH
  refine delItem_from (c := c) e (Heap.IsSliceOf.new ..) (.int _ _) (by rw [List.size_toArray]; omega) (by rw [List.size_toArray]; omega) (wpAny_deleteEach_nil ⟨σ, _, ?_, q⟩)
  refine I4.lset (its' := its.take c) (t' := s2.toks) hH e ?_ (r.take _) ?_
  · show (List.filterMap _ its.toArray.toList.zipIdx).toArray = _
    rw [List.size_toArray, List.toList_toArray, left_of its 0 (by omega)]
    rfl
  · rw [List.length_take]
    omega
end
end Pv

/-! PwI: objects that change: made into a slot, changed by methods and defs. -/
namespace Pv
open PySem L2 PySem.Spec PyProof.Rows
abbrev Pre := List (Str × PyData)
/-- what a def that changes its first argument makes of the object's fields and of the other data -/
abbrev FnM := Pre → List PyData → List PyData → (Pre → List PyData → PyData → Prop) → (Pre → List PyData → Xn → Prop) → Prop
abbrev XES := En → (PyData → En → Prop) → (Xn → En → Prop) → Prop
abbrev XTS := En → (Bool → En → Prop) → (Xn → En → Prop) → Prop
def RefES (K : PySem.W.Frag) (W : WX) (te : TE) (x : XES) : Prop := ∀ (G0 H0 G H : Hp) (σ : L2.St) (e : En) (Q : VK) (q : PyData → En → Prop) (ex : Xn → En → Prop), StR K G0 H0 G H σ e → x e q ex →
  (∀ G' H' v d e', StR K G0 H0 G' H' σ e' → Rp K G' v d → q d e' → Q v H') →
  (∀ G' H' cls d y e', StR K G0 H0 G' H' σ e' → XR K G' H' cls d y → ex y e' → W cls d σ H') → te σ H Q
def RefTS (K : PySem.W.Frag) (W : WX) (tt : TT) (x : XTS) : Prop := ∀ (G0 H0 G H : Hp) (σ : L2.St) (e : En) (Q : Bool → Hp → Prop) (q : Bool → En → Prop) (ex : Xn → En → Prop), StR K G0 H0 G H σ e → x e q ex →
  (∀ G' H' b e', StR K G0 H0 G' H' σ e' → q b e' → Q b H') →
  (∀ G' H' cls d y e', StR K G0 H0 G' H' σ e' → XR K G' H' cls d y → ex y e' → W cls d σ H') → tt σ H Q
structure VES (X : Cx) (W : WX) (e : Expr) (t : TE) (x : XES) : Prop where
  pe : PE X e t
  rf : RefES X.K W t x
structure VTS (X : Cx) (W : WX) (e : Expr) (t : TT) (x : XTS) : Prop where
  pt : PT X e t
  rf : RefTS X.K W t x
section
variable {X : Cx} {W : WX} {K : PySem.W.Frag} {G0 H0 G H : Hp} {σ : L2.St} {e : En} {a : Expr} {es : List Expr} {te tb : TE} {ta : TA} {xa xb : XE} {xs : XA} {xS : XES} {pos : Pos}
theorem StR.setOb (hs : StR K G0 H0 G H σ e) (i : Nat) {x p : Addr} {c f : Str} {pre : Pre} {ds : List PyData} (h : ObH K G H x p c pre f ds) (n : G x = none ∧ G p = none) (n0 : H0 x = none ∧ H0 p = none)
    (fr : ∀ (j : Nat) (t : Sl), e[j]? = some t → ¬ t.has σ[j]? x ∧ ¬ t.has σ[j]? p) : StR K G0 H0 G H (σ.set i (some (.ref x))) (e.set i (.ob x p c pre f ds)) where
  sub := hs.sub
  gr := hs.gr
  len := by rw [List.length_set, List.length_set, hs.len]
  sl := fun j s hj => by
    rw [set_get] at hj
    rw [set_get, ← hs.len]
    by_cases hc : i = j ∧ i < e.length
    · rw [if_pos hc] at hj ⊢
      cases hj
      exact ⟨rfl, h, n, n0.1, n0.2⟩
    · rw [if_neg hc] at hj ⊢
      exact hs.sl j s hj
  dj := hs.dj.set hs.len i _ _ fun y hy j t hj => by
    have hy' : y = x ∨ y = p := hy
    rcases hy' with rfl | rfl
    · exact (fr j t hj).1
    · exact (fr j t hj).2
/-- the own list of an object is changed -/
theorem StR.writeP (hs : StR K G0 H0 G H σ e) {i : Nat} {x p : Addr} {c f : Str} {pre : Pre} {ds ds' : List PyData} {xs' : List V} (hi : e[i]? = some (.ob x p c pre f ds)) (h : RpAll K G xs' ds') : StR K G0 H0 G (upd H p (.lst xs')) σ (e.set i (.ob x p c pre f ds')) := by
  obtain ⟨k1, ⟨dx, vs, us, k2, k3, k4, k5⟩, ⟨k6, k7⟩, k8, k9⟩ := hs.sl i _ hi
  have npx : x ≠ p := fun z => by
    subst z
    rw [k2] at k4
    cases k4
  refine ⟨same_out hs.sub k7, ⟨hs.gr.gg, same_out hs.gr.hh k9, hs.gr.nn⟩, by rw [List.length_set, hs.len], fun j s hj => ?_, hs.dj.le fun j s y hj hy => ?_⟩
  · rw [set_get] at hj
    by_cases hc : i = j ∧ i < e.length
    · rw [if_pos hc] at hj
      cases hj
      rw [← hc.1]
      exact ⟨k1, ⟨dx, vs, xs', by rw [upd_ne npx]; exact k2, k3, upd_same, h⟩, ⟨k6, k7⟩, k8, k9⟩
    · rw [if_neg hc] at hj
      have hij : i ≠ j := fun z => hc ⟨z, (List.getElem?_eq_some_iff.mp hi).1⟩
      exact (hs.sl j s hj).away _ (fun z => hs.dj i j _ _ p hij hi hj (.inr rfl) z) (fun xs z => by rw [k4] at z; cases z) k9
  · rw [set_get] at hj
    by_cases hc : i = j ∧ i < e.length
    · rw [if_pos hc] at hj
      cases hj
      obtain ⟨rfl, _⟩ := hc
      exact ⟨_, hi, hy⟩
    · rw [if_neg hc] at hj
      exact ⟨_, hj, hy⟩
/-- behind a call that changed a slot's object -/
theorem StR.called (hs : StR K G0 H0 G H σ e) {i : Nat} {x p p' : Addr} {c f : Str} {pre pre' : Pre} {ds ds' : List PyData} {G' H' : Hp} (hi : e[i]? = some (.ob x p c pre f ds)) (g : Grow G (hide [x, p] H) G' H') (sub : Same G' H')
    (o : ObH K G' H' x p' c pre' f ds') (n : G' x = none ∧ G' p' = none) (hp : p' = p ∨ H p' = none) : StR K G0 H0 G' H' σ (e.set i (.ob x p' c pre' f ds')) := by
  obtain ⟨k1, k2, ⟨k6, k7⟩, k8, k9⟩ := hs.sl i _ hi
  have nin : ∀ y, y ≠ x → y ≠ p → hide [x, p] H y = H y := fun y h1 h2 => hide_ne (by simp [h1, h2])
  have p0 : H0 p' = none := by
    rcases hp with rfl | hp
    · exact k9
    · exact hs.gr.hh.free hp
  refine ⟨sub, ⟨hs.gr.gg.trans g.gg, fun y u hy => ?_, fun y h1 h2 => ?_⟩, by rw [List.length_set, hs.len], fun j s hj => ?_, fun j l s s' y hjl hj hl h1 h2 => ?_⟩
  · refine g.hh y u ?_
    rw [nin y (fun z => by rw [z, k8] at hy; cases hy) (fun z => by rw [z, k9] at hy; cases hy)]
    exact hs.gr.hh y u hy
  · refine g.nn y (hs.gr.nn y h1 h2) ?_
    rw [nin y (fun z => h2 (by rw [z]; exact k8)) (fun z => h2 (by rw [z]; exact k9))]
    exact fun z => h2 (hs.gr.hh.free z)
  · rw [set_get] at hj
    by_cases hc : i = j ∧ i < e.length
    · rw [if_pos hc] at hj
      cases hj
      rw [← hc.1]
      exact ⟨k1, o, n, k8, p0⟩
    · rw [if_neg hc] at hj
      have hij : i ≠ j := fun z => hc ⟨z, (List.getElem?_eq_some_iff.mp hi).1⟩
      have q := hs.sl j s hj
      have away : ∀ y, s.has σ[j]? y → y ≠ x ∧ y ≠ p := fun y hy => ⟨fun z => hs.dj i j _ _ y hij hi hj (.inl z) hy, fun z => hs.dj i j _ _ y hij hi hj (.inr z) hy⟩
      have keep : ∀ y u, s.has σ[j]? y → H y = some u → H' y = some u := fun y u hy hu => g.hh y u (by rw [nin y (away y hy).1 (away y hy).2]; exact hu)
      have keepN : ∀ y u, s.has σ[j]? y → H y = some u → G y = none → G' y = none := fun y u hy hu hn => g.nn y hn (by rw [nin y (away y hy).1 (away y hy).2, hu]; exact Option.some_ne_none _)
      cases s with
      | no => trivial
      | fz d =>
        obtain ⟨v, q1, q2⟩ := q
        exact ⟨v, q1, q2.mono g.gg _ _⟩
      | xn a1 k1 d1 y1 => exact ⟨q.1, q.2.1, q.2.2.mono g.gg⟩
      | gn w =>
        obtain ⟨v, q1, q2, q3⟩ := q
        refine ⟨v, q1, w.up q2 g.gg fun y u hy hz => g.hh y u ?_, fun y hy => ⟨g.nn y (q3 y hy).1 ?_, (q3 y hy).2⟩⟩
        · rcases hz with hz | ⟨xs, rfl⟩
          · rw [nin y (away y hz).1 (away y hz).2]
            exact hy
          · obtain ⟨dx, vs, us, r1, _, r3, _⟩ := k2
            rw [nin y (fun z => by rw [z, r1] at hy; cases hy) (fun z => by rw [z, r3] at hy; cases hy)]
            exact hy
        · rw [nin y (away y hy).1 (away y hy).2]
          exact w.lo q2 y hy
      | mm d M =>
        obtain ⟨v, q1, q2, q3⟩ := q
        refine ⟨v, q1, q2.mono g.gg _ _, fun y n hm => ?_⟩
        obtain ⟨r1, r2, r3⟩ := q3 y n hm
        have hy : (Sl.mm d M).has σ[j]? y := by
          show mget M y ≠ none
          rw [hm]
          exact Option.some_ne_none _
        obtain ⟨u, r4, _⟩ := r1.lo
        exact ⟨r1.mono g.gg ((keep y u hy r4).trans r4.symm), keepN y u hy r4 r2, r3⟩
      | mb d M =>
        obtain ⟨v, q1, q2, q3⟩ := q
        refine ⟨v, q1, q2.mono g.gg _ _, fun y n hm => ?_⟩
        obtain ⟨r1, r3⟩ := q3 y n hm
        obtain ⟨u, r4, _⟩ := r1.lo
        have e1 : H' y = some u := g.hh y u (by rw [nin y (fun z => r3 (by rw [z]; exact k8)) (fun z => r3 (by rw [z]; exact k9))]; exact r4)
        exact ⟨r1.mono g.gg (e1.trans r4.symm), r3⟩
      | ow ds2 =>
        obtain ⟨p2, xs2, q1, q2, q3, q4, q5⟩ := q
        exact ⟨p2, xs2, q1, keep p2 _ q1 q2, keepN p2 _ q1 q2 q3, q4, q5.mono g.gg _ _⟩
      | ob a2 p2 c2 pre2 f2 ds2 =>
        obtain ⟨q1, ⟨dx, vs, us, r1, r2, r3, r4⟩, ⟨q3, q4⟩, q5⟩ := q
        exact ⟨q1, ⟨dx, vs, us, keep a2 _ (.inl rfl) r1, r2.mono g.gg, keep p2 _ (.inr rfl) r3, r4.mono g.gg _ _⟩, ⟨keepN a2 _ (.inl rfl) r1 q3, keepN p2 _ (.inr rfl) r3 q4⟩, q5⟩
  · have cl : ∀ (m : Nat) (t : Sl), i ≠ m → e[m]? = some t → t.has σ[m]? y → y = x ∨ y = p' → False := fun m t him hm ht hy => by
      rcases hy with hy | hy
      · exact hs.dj i m _ _ y him hi hm (.inl hy) ht
      · rcases hp with hp | hp
        · exact hs.dj i m _ _ y him hi hm (.inr (hy.trans hp)) ht
        · exact ((hs.sl m t hm).foot ht).1 (by rw [hy]; exact hp)
    rw [set_get] at hj hl
    have hil := (List.getElem?_eq_some_iff.mp hi).1
    by_cases c1 : i = j
    · subst c1
      rw [if_pos ⟨rfl, hil⟩] at hj
      rw [if_neg (fun z => hjl z.1)] at hl
      cases hj
      exact cl l s' hjl hl h2 h1
    · rw [if_neg (fun z => c1 z.1)] at hj
      by_cases c2 : i = l
      · subst c2
        rw [if_pos ⟨rfl, hil⟩] at hl
        cases hl
        exact cl j s c1 hj h1 h2
      · rw [if_neg (fun z => c2 z.1)] at hl
        exact hs.dj j l s s' y hjl hj hl h1 h2

/-! ### a def or method that changes its first argument -/
def spC (K : PySem.W.Frag) (c f : Str) (F : FnM) : Sp := fun vs H Q E => ∃ (x p : Addr) (ws : List V) (G : Hp) (pre : Pre) (ds as : List PyData) (q : Pre → List PyData → PyData → Prop) (ex : Pre → List PyData → Xn → Prop), vs = .ref x :: ws ∧ ObH K G H x p c pre f ds ∧ (G x = none ∧ G p = none) ∧ Same G H ∧ RpAll K G ws as ∧ F pre ds as q ex ∧
  (∀ G' H' p' v d pre' ds', Same G' H' → Grow G (hide [x, p] H) G' H' → ObH K G' H' x p' c pre' f ds' → (G' x = none ∧ G' p' = none) → (p' = p ∨ H p' = none) → Rp K G' v d → q pre' ds' d → Q v H') ∧
  (∀ G' H' p' cls d y pre' ds', Same G' H' → Grow G (hide [x, p] H) G' H' → ObH K G' H' x p' c pre' f ds' → (G' x = none ∧ G' p' = none) → (p' = p ∨ H p' = none) → XR K G' H' cls d y → ex pre' ds' y → E cls d H')
def enC (n : Nat) (x p : Addr) (c : Str) (pre : Pre) (f : Str) (ds as : List PyData) : En := .ob x p c pre f ds :: (as.map .fz ++ List.replicate (n - 1 - as.length) .no)
theorem same_hide {ps : List Addr} {H : Hp} : Same (hide ps H) H := fun a o h => by
  by_cases ha : a ∈ ps
  · rw [hide_in ha] at h
    cases h
  · rw [hide_ne ha] at h
    exact h
theorem StR.startC (sub : Same G H) {x p : Addr} {c f : Str} {pre : Pre} {ds as : List PyData} {vs : List V} (N : List Str) (o : ObH K G H x p c pre f ds) (n : G x = none ∧ G p = none) (h : RpAll K G vs as) :
    StR K G (hide [x, p] H) G H (L2.start N (.ref x :: vs)) (enC N.length x p c pre f ds as) := by
  have b := (StR.startI sub (same_hide (ps := [x, p])) (x := x) N h).setOb 0 o n ⟨hide_in (by simp), hide_in (by simp)⟩ fun j t hj => ⟨enI_has j t hj, enI_has j t hj⟩
  exact b
def obAt (x : Addr) (c f : Str) (q : Pre → List PyData → Prop) : Option Sl → Prop
  | some (.ob x' _ c' pre f' ds) => (x' = x ∧ c' = c ∧ f' = f) ∧ q pre ds
  | _ => False
def enVC (x : Addr) (c f : Str) (q : Pre → List PyData → PyData → Prop) (ex : Pre → List PyData → Xn → Prop) : EnV :=
  ⟨fun e => obAt x c f (fun pre ds => q pre ds .none) e[0]?, fun r e => match r with
    | .va d => obAt x c f (fun pre ds => q pre ds d) e[0]?
    | _ => False, fun _ => False, fun _ => False, fun y e => obAt x c f (fun pre ds => ex pre ds y) e[0]?, fun _ _ => False⟩
theorem obAt_ok {H1 : Hp} {x p : Addr} {c f : Str} {q : Pre → List PyData → Prop} (hs : StR K G0 (hide [x, p] H1) G H σ e) (h : obAt x c f q e[0]?) : ∃ p' pre ds, ObH K G H x p' c pre f ds ∧ (G x = none ∧ G p' = none) ∧ (p' = p ∨ H1 p' = none) ∧ q pre ds := by
  unfold obAt at h
  split at h
  · rename_i x' p' c' pre f' ds he
    obtain ⟨⟨rfl, rfl, rfl⟩, hq⟩ := h
    obtain ⟨k1, k2, k3, k4, k5⟩ := hs.sl 0 _ he
    refine ⟨p', pre, ds, k2, k3, ?_, hq⟩
    obtain ⟨dx, vs, us, r1, _, r3, _⟩ := k2
    by_cases hp : p' ∈ [x', p]
    · rcases List.mem_cons.mp hp with z | z
      · exfalso
        rw [z, r1] at r3
        cases r3
      · exact .inl (List.mem_singleton.mp z)
    · rw [hide_ne hp] at k5
      exact .inr k5
  · exact h.elim
theorem spC_body {c f : Str} {N : List Str} {F : FnM} {u : US} {W : WX} {t : TS} {vs : List V} {H : Hp} {Q : VK} {E : XK} (hW : ∀ cls d σ H, E cls d H → W cls d σ H) (h : RefS K W t u) (hu : ∀ x p pre ds as q ex, F pre ds as q ex → u (enVC x c f q ex) (enC N.length x p c pre f ds as)) (hs : spC K c f F vs H Q E) :
    t { nx := fun _ H' => Q .non H', rt := Q } (L2.start N vs) H := by
  obtain ⟨x, p, ws, G, pre, ds, as, q, ex, rfl, o, n, sub, ra, hF, hq, hex⟩ := hs
  refine h G (hide [x, p] H) _ (enVC x c f q ex) ⟨fun G' H' σ e st k => ?_, fun G' H' σ e v r st asn k => ?_, fun _ _ _ _ _ k => k.elim, fun _ _ _ _ _ k => k.elim, fun G' H' σ e cls d y st xr k => ?_, fun _ _ _ _ _ _ _ _ k => k.elim⟩ G H _ _ (StR.startC sub N o n ra) (hu x p pre ds as q ex hF)
  · obtain ⟨p', pre', ds', o', n', hp, k'⟩ := obAt_ok st k
    exact hq G' H' p' .non .none pre' ds' st.sub st.gr o' n' hp .non k'
  · cases r with
    | va d =>
      obtain ⟨p', pre', ds', o', n', hp, k'⟩ := obAt_ok st k
      exact hq G' H' p' v d pre' ds' st.sub st.gr o' n' hp asn k'
    | nw ds => exact k.elim
    | bo ds => exact k.elim
    | bb c pre f ds => exact k.elim
    | bg k0 ds0 => exact k.elim
  · obtain ⟨p', pre', ds', o', n', hp, k'⟩ := obAt_ok st k
    exact hW _ _ _ _ (hex G' H' p' cls d y pre' ds' st.sub st.gr o' n' hp xr k')
end
section
variable {P : Program} {w : World} {K : PySem.W.Frag} {mg : Str → Option Value} {base : Heap} {x qual c g : Str} {params : Arguments} {body : List Stmt} {scope : Scope} {dvs : List V} {kws : List (Str × V)} {f : Addr} {fd : FuncData} {CX : CXT}
theorem defC0 {N ps : List Str} {k : Nat} {Fs : FnM} {u : US} (F : FunD K x qual params body scope dvs kws f fd) (S : FnScope N ps scope) (hx : ∀ pre ds as q ex, Fs pre ds as q ex → as.length + 1 = ps.length)
    (hu : ∀ x p pre ds as q ex, Fs pre ds as q ex → u (enVC x c g q ex) (enC N.length x p c pre g ds as))
    (hbody : ∀ (cdv : Value) (A : Around) (outer : List Env) (s : Shared) (H : Hp) (E : XK), Room k (A.deeper (envOfC qual scope s.heap.objs.size f cdv)) → ∃ t, VSs (cxOf CX P w K mg base N qual scope f cdv A outer s H E).nox WX0 body t u)
    (hne : ∀ pre ds as q ex ex', Fs pre ds as q ex → Fs pre ds as q ex') : FnOk P w K mg base CX (k + 1) f fd ps (spC K c g Fs) := by
  refine F.ok S (fun vs H Q E h => ?_) fun cdv A outer s H vs Q E hr h => ?_
  · obtain ⟨x, p, ws, G, pre, ds, as, q, ex, rfl, o, n, sub, ra, hF, _⟩ := h
    rw [List.length_cons, ra.len]
    exact hx pre ds as q ex hF
  · obtain ⟨t, h1⟩ := hbody cdv A outer s H E hr
    refine ⟨t, PSs.nox h1.ps, ?_⟩
    obtain ⟨x, p, ws, G, pre, ds, as, q, ex, rfl, o, n, sub, ra, hF, hq, _⟩ := h
    exact spC_body (E := fun _ _ _ => False) (fun _ _ _ _ z => z.elim) h1.rf hu ⟨x, p, ws, G, pre, ds, as, q, fun _ _ _ => False, rfl, o, n, sub, ra, hne pre ds as q ex _ hF, hq, fun _ _ _ _ _ _ _ _ _ _ _ _ _ _ z => z.elim⟩
theorem defCE {N ps : List Str} {k : Nat} {Fs : FnM} {u : US} (F : FunD K x qual params body scope dvs kws f fd) (S : FnScope N ps scope) (hx : ∀ pre ds as q ex, Fs pre ds as q ex → as.length + 1 = ps.length)
    (hu : ∀ x p pre ds as q ex, Fs pre ds as q ex → u (enVC x c g q ex) (enC N.length x p c pre g ds as))
    (hbody : ∀ (cdv : Value) (A : Around) (outer : List Env) (s : Shared) (H : Hp) (E : XK), Room k (A.deeper (envOfC qual scope s.heap.objs.size f cdv)) → ∃ t, VSs (cxOf CX P w K mg base N qual scope f cdv A outer s H E) (wOut E) body t u) :
    FnOk P w K mg base CX (k + 1) f fd ps (spC K c g Fs) := by
  refine F.ok S (fun vs H Q E h => ?_) fun cdv A outer s H vs Q E hr h => ?_
  · obtain ⟨x, p, ws, G, pre, ds, as, q, ex, rfl, o, n, sub, ra, hF, _⟩ := h
    rw [List.length_cons, ra.len]
    exact hx pre ds as q ex hF
  · obtain ⟨t, h1⟩ := hbody cdv A outer s H E hr
    exact ⟨t, h1.ps, spC_body (E := E) (fun _ _ _ _ z => z) h1.rf hu h⟩
end
/-! ### calls that change a slot's object -/
section
variable {X : Cx} {W : WX} {K : PySem.W.Frag} {a b : Expr} {es : List Expr} {te tb : TE} {tt : TT} {ta : TA} {xa xb : XE} {xs : XA} {xS : XES} {pos : Pos}
def xChg (i : Nat) (c f : Str) (F : FnM) (xs : XA) : XES := fun e q ex => match e[i]? with
  | some (.ob x p c' pre f' ds) => (c' = c ∧ f' = f) ∧ xs e (fun rs => rs.all Rs.stays = true ∧ F pre ds (rs.map Rs.d) (fun pre' ds' d => ∀ p', q d (e.set i (.ob x p' c pre' f ds'))) (fun pre' ds' y => ∀ p', ex y (e.set i (.ob x p' c pre' f ds')))) (fun y => ex y e)
  | _ => False
theorem chg_core {G0 H0 G H G1 H1 : Hp} {σ : L2.St} {e : En} {i : Nat} {x p : Addr} {c f : Str} {pre : Pre} {ds : List PyData} {F : FnM} {ws : List V} {rs : List Rs} {Q : VK} {E : XK} {q : PyData → En → Prop} {ex : Xn → En → Prop} (hs : StR K G0 H0 G H σ e) (hi : e[i]? = some (.ob x p c pre f ds)) (s1 : Same G1 H1) (g1 : Grow G H G1 H1) (pr : Paired (RsR K H G1 H1) ws rs) (hz : rs.all Rs.stays = true)
    (k : F pre ds (rs.map Rs.d) (fun pre' ds' d => ∀ p', q d (e.set i (.ob x p' c pre' f ds'))) (fun pre' ds' y => ∀ p', ex y (e.set i (.ob x p' c pre' f ds'))))
    (hq : ∀ G' H' v d e', StR K G0 H0 G' H' σ e' → Rp K G' v d → q d e' → Q v H') (hw : ∀ G' H' cls d y e', StR K G0 H0 G' H' σ e' → XR K G' H' cls d y → ex y e' → E cls d H') : spC K c f F (.ref x :: ws) H1 Q E := by
  obtain ⟨G2, s2, g2, ra⟩ := fix_args s1 g1 pr hz
  have st2 := hs.grow g2 s2
  obtain ⟨k1, o, n, _⟩ := st2.sl i _ hi
  refine ⟨x, p, ws, G2, pre, ds, rs.map Rs.d, _, _, rfl, o, n, s2, ra, k, fun G' H' p' v d pre' ds' s3 g3 o' n' hp r k3 => ?_, fun G' H' p' cls d y pre' ds' s3 g3 o' n' hp xr k3 => ?_⟩
  · exact hq G' H' v d _ (st2.called hi g3 s3 o' n' hp) r (k3 p')
  · exact hw G' H' cls d y _ (st2.called hi g3 s3 o' n' hp) xr (k3 p')
/-- the fields of an object of a class bear no method's name -/
def xMChg (i : Nat) (c f m : Str) (F : FnM) (xs : XA) : XES := fun e q _ => (match e[i]? with
  | some (.ob _ _ _ pre f' _) => (pre.map (·.1) ++ [f']).contains m = false
  | _ => False) ∧ xChg i c f F xs e q (fun _ _ => False)
theorem ref_chgM' {i : Nat} {c f m : Str} {F : FnM} (hr : RefA K W ta xs) : RefES K W (tMeth (He.ga K c) m (spC K c f F) [] (fun _ _ _ => False) (tVar i) ta) (xMChg i c f m F xs) := by
  intro G0 H0 G H σ e Q q ex hs hx hq hw
  obtain ⟨hm, hx⟩ := hx
  unfold xChg at hx
  split at hx
  · rename_i x p c' pre f' ds hi
    rw [hi] at hm
    obtain ⟨⟨rfl, rfl⟩, k⟩ := hx
    obtain ⟨k1, ⟨dx, vs, us, k2, k3, k4, k5⟩, _⟩ := hs.sl i _ hi
    refine ⟨_, k1, x, dx, _, rfl, k2, ?_, ?_⟩
    · obtain ⟨e1, _⟩ := fsr_obj k3
      have hc : ∀ (l : List (Str × V)), (l.map (·.1)).contains m = false → l.lookup m = none := fun l => by
        induction l with
        | nil => intro _; rfl
        | cons z l ih =>
          intro h
          rw [List.map_cons, List.contains_cons, Bool.or_eq_false_iff] at h
          obtain ⟨n, v⟩ := z
          simp only [List.lookup]
          have h1 : (m == n) = false := h.1
          rw [h1]
          exact ih h.2
      refine hc _ ?_
      rw [List.map_append, ← e1]
      exact hm
    · refine hr G0 H0 G H σ e _ _ _ hs k (fun G1 H1 ws rs s1 g1 pr k1 => ?_) fun _ _ _ _ _ _ _ _ z => z.elim
      obtain ⟨hz, kk⟩ := k1
      rw [List.append_nil]
      exact chg_core (ex := fun _ _ => False) hs hi s1 g1 pr hz kk hq fun _ _ _ _ _ _ _ _ z => z.elim
  · exact hx.elim
theorem ves_meth {CX : CXT} {k : Nat} {fm : Addr} {fd : FuncData} {ps : List Str} {F : FnM} {c f m x : Str} {i : Nat} {p2 apos : Pos} {pl : Sem Bool} (C : Cls X.K (He.ga X.K c)) (hm : Meth X.K (He.ga X.K c) m fm) (Fk : FnOk X.prog X.w X.K X.mg X.base CX k fm fd ps (spC X.K c f F)) (hr : Room k X.A) (hb : Binds X.K fd ps []) (hqu : Quiet CX)
    (ha : VA X W (a :: es) ta xs) (hi : X.N[i]? = some x := by rfl) (hv : Vis X.env.scope x := by first | exact Or.inl rfl | exact Or.inr (Or.inl rfl) | exact Or.inr (Or.inr rfl)) (hd : (x == ("__debug__" : Str)) = false := by decide) (hcd : (x == ("__classdict__" : Str)) = false := by decide)
    (hst : starEach (a :: es) X.env = (false, eval a X.env) :: starEach es X.env := by rfl) (hpl : (backTo pos (starEach es X.env)).any (·.1) = false := by rfl)
    (ht : eval (.Call (.Attribute (.Name x p2) m apos) (a :: es) [] pos) X.env = (do
      let ov ← eval (.Name x p2) X.env
      standAt apos.atName
      let (f, first) ← holding [ov] (getMethod ov m pl)
      callWith pos f first (backTo pos (starEach (a :: es) X.env)) (backToKw pos (keywordEach [] X.env))) := by rfl) :
    VES X W (.Call (.Attribute (.Name x p2) m apos) (a :: es) [] pos) (tMeth (He.ga X.K c) m (spC X.K c f F) [] (fun _ _ _ => False) (tVar i) ta) (xMChg i c f m F xs) :=
  ⟨pe_meth (pe_var (pos := p2) hi hv hd hcd) C hm Fk hr hb .nil (fun _ _ _ _ _ _ _ z => (hqu _ _ _ _ _ z).elim) ha.pa hst hpl ht, ref_chgM' ha.rf⟩
/-- g(x, ..) -/
theorem ref_chgF {i : Nat} {c f : Str} {F : FnM} (hr : RefA K W ta xs) : RefES K W (tCallSD (spC K c f F) [] (fun σ cls d H => W cls d σ H) (tCons (tVar i) ta)) (xChg i c f F xs) := by
  intro G0 H0 G H σ e Q q ex hs hx hq hw
  unfold xChg at hx
  split at hx
  · rename_i x p c' pre f' ds hi
    obtain ⟨⟨rfl, rfl⟩, k⟩ := hx
    obtain ⟨k1, _⟩ := hs.sl i _ hi
    refine ⟨_, k1, ?_⟩
    refine hr G0 H0 G H σ e _ _ _ hs k (fun G1 H1 ws rs s1 g1 pr k1 => ?_) fun G1 H1 cls d y s1 g1 xr k => hw G1 H1 cls d y e (hs.grow g1 s1) xr k
    obtain ⟨hz, kk⟩ := k1
    rw [List.append_nil]
    exact chg_core hs hi s1 g1 pr hz kk hq hw
  · exact hx.elim
theorem ves_call {CX : CXT} {k : Nat} {fa : Addr} {fd : FuncData} {ps : List Str} {F : FnM} {c f g x : Str} {i : Nat} {p p2 : Pos} (Fk : FnOk X.prog X.w X.K X.mg X.base CX k fa fd ps (spC X.K c f F)) (hr : Room k X.A) (hg : Gl X g) (hm : X.mg g = some (.ref fa)) (hk : PySem.W.keepIn X.K (.ref fa) = true)
    (hb : Binds X.K fd ps []) (hx : ∀ σ, PassesAt CX X σ (fun cls d H => W cls d σ H)) (ha : VA X W es ta xs) (hi : X.N[i]? = some x := by rfl) (hv : Vis X.env.scope x := by first | exact Or.inl rfl | exact Or.inr (Or.inl rfl) | exact Or.inr (Or.inr rfl)) (hd : (x == ("__debug__" : Str)) = false := by decide) (hcd : (x == ("__classdict__" : Str)) = false := by decide)
    (hdb : (g == ("__debug__" : Str)) = false := by decide) (he : starEach (.Name x p2 :: es) X.env = (false, eval (.Name x p2) X.env) :: starEach es X.env := by rfl)
    (hpl : (backTo pos (starEach es X.env)).any (·.1) = false := by rfl) : VES X W (.Call (.Name g p) (.Name x p2 :: es) [] pos) (tCallSD (spC X.K c f F) [] (fun σ cls d H => W cls d σ H) (tCons (tVar i) ta)) (xChg i c f F xs) :=
  ⟨pe_callSD (E := fun σ cls d H => W cls d σ H) Fk hr hg hm hk hb .nil hx (pa_cons (pe_var hi hv hd hcd) ha.pa he) hdb he hpl, ref_chgF ha.rf⟩

/-! ### where such a call may stand -/
def uAsgC (i : Nat) (x : XES) : US := fun V e => x e (fun d e' => V.nx (e'.set i (.fz d))) V.ex
def uDropC (x : XES) : US := fun V e => x e (fun _ e' => V.nx e') V.ex
def uRetC (x : XES) : US := fun V e => x e (fun d e' => V.rt (.va d) e') V.ex
theorem vss_asg (i : Nat) {x : Str} {pos' : Pos} (hN : X.N.Nodup) (he : VES X W a te xS) (hi : X.N[i]? = some x := by rfl) (hx : Loc X.env.scope x := by first | exact Or.inl rfl | exact Or.inr rfl) (hs : swapsWith a (some (.Name x pos')) pos.line X.env = pure false := by rfl)
    (hf : X.fn x = true ∨ X.env.scope.names.lookup x = some .local := by first | exact .inl rfl | exact .inr rfl) : VS X W (.Assign [.Name x pos'] a pos) (tAsg te (gName i)) (uAsgC i xS) := ⟨ps_set hN hi hx he.pe hs hf, fun G0 H0 D V L G H σ e hs hu =>
  he.rf G0 H0 G H σ e _ _ _ hs hu (fun G1 H1 v d e1 s1 r k1 => L.nx G1 H1 _ _ (s1.setF i r) k1) fun G1 H1 cls d y e1 s1 xr k => L.ex G1 H1 σ e1 cls d y s1 xr k⟩
theorem vss_expr (he : VES X W a te xS) (hs : swapsWith a none pos.line X.env = pure false := by rfl) : VS X W (.Expr a pos) (tDrop te) (uDropC xS) := ⟨ps_expr he.pe hs, fun G0 H0 D V L G H σ e hs hu =>
  he.rf G0 H0 G H σ e _ _ _ hs hu (fun G1 H1 v d e1 s1 r k1 => L.nx G1 H1 σ e1 s1 k1) fun G1 H1 cls d y e1 s1 xr k => L.ex G1 H1 σ e1 cls d y s1 xr k⟩
theorem vss_ret (he : VES X W a te xS) : VS X W (.Return (some a) pos) (tRet te) (uRetC xS) := ⟨ps_ret he.pe, fun G0 H0 D V L G H σ e hs hu =>
  he.rf G0 H0 G H σ e _ _ _ hs hu (fun G1 H1 v d e1 s1 r k1 => L.rt G1 H1 σ e1 v (.va d) s1 r k1) fun G1 H1 cls d y e1 s1 xr k => L.ex G1 H1 σ e1 cls d y s1 xr k⟩
def xOpC (y : X2) (xa : XES) (xb : XE) : XES := fun e q ex => xa e (fun d e' => xb e' (fun s => y d s.d fun c => q c e') (fun z => ex z e')) ex
theorem ref_opC {r : R2} {y : X2} (h : Ref2 K r y) (ha : RefES K W te xS) (hb : RefE K W tb xb) : RefES K W (tOp r te tb) (xOpC y xS xb) := by
  intro G0 H0 G H σ e Q q ex hs hx hq hw
  refine ha G0 H0 G H σ e _ _ ex hs hx (fun G1 H1 v d e1 s1 r1 k1 => ?_) hw
  refine hb G0 H0 G1 H1 σ e1 _ _ _ s1 k1 (fun G2 H2 w' r2 s2 g2 rr2 k2 => ?_) fun G2 H2 cls d y s2 g2 xr k => hw G2 H2 cls d y e1 (s1.grow g2 s2) xr k
  exact h H2 v w' _ _ Q _ (Rp.mono s2 _ _ (Rp.mono g2.gg _ _ r1)) (rr2.wk s2) k2 fun u c hc qc => hq G2 H2 u c e1 (s1.grow g2 s2) (hc G2) qc
def xBC (x : XES) : XTS := fun e q ex => x e (fun d e' => match d with
  | .bool k => q k e'
  | _ => False) ex
theorem ref_testC (h : RefES K W te xS) : RefTS K W (tTest te) (xBC xS) := by
  intro G0 H0 G H σ e Q q ex hs hx hq hw
  refine h G0 H0 G H σ e _ _ ex hs hx (fun G1 H1 v d e1 s1 r1 k1 => ?_) hw
  cases r1 <;> first
    | exact False.elim k1
    | exact ⟨_, rfl, hq G1 H1 _ e1 s1 k1⟩
theorem vts_cmp {op : CmpOp} {r : R2} {x : X2} (ho : OpR X (compareOp op) r) (h : Ref2 X.K r x) (ha : VES X W a te xS) (hb : VE X W b tb xb) (hm : behindInMarks op b = false) : VTS X W (.Compare a [op] [b] pos) (tTest (tOp r te tb)) (xBC (xOpC x xS xb)) :=
  ⟨pt_cmpR ho ha.pe hb.pe hm, ref_testC (ref_opC h ha.rf hb.rf)⟩
theorem ves_cmp {op : CmpOp} {r : R2} {x : X2} (ho : OpR X (compareOp op) r) (h : Ref2 X.K r x) (ha : VES X W a te xS) (hb : VE X W b tb xb) (hm : behindInMarks op b = false) : VES X W (.Compare a [op] [b] pos) (tOp r te tb) (xOpC x xS xb) :=
  ⟨pe_cmpR ho ha.pe hb.pe hm, ref_opC h ha.rf hb.rf⟩
variable {tA tB' : TT} {xA : XTS} {xB' : XT} {rest : List Expr}
def xOrC (t : XTS) (u : XT) : XTS := fun e q ex => t e (fun b e' => if b = true then q true e' else u e' (fun b => q b e') (fun z => ex z e')) ex
theorem vts_or (ha : VTS X W a tA xA) (hb : VW X W (.BoolOp .Or (b :: rest) pos) tB' xB') : VTS X W (.BoolOp .Or (a :: b :: rest) pos) (tOr tA tB') (xOrC xA xB') := ⟨(pw_or ha.pt hb.pw).pt, by
  intro G0 H0 G H σ e Q q ex hs hx hq hw
  refine ha.rf G0 H0 G H σ e _ _ ex hs hx (fun G1 H1 c e1 s1 k1 => ?_) hw
  cases c with
  | true => exact hq G1 H1 _ e1 s1 k1
  | false => exact hb.rf G0 H0 G1 H1 σ e1 _ _ _ s1 k1 (fun G2 H2 b s2 g2 => hq G2 H2 b e1 (s1.grow g2 s2)) fun G2 H2 cls d y s2 g2 xr k => hw G2 H2 cls d y e1 (s1.grow g2 s2) xr k⟩
def xAndC (t : XTS) (u : XT) : XTS := fun e q ex => t e (fun b e' => if b = true then u e' (fun b => q b e') (fun z => ex z e') else q false e') ex
theorem vts_and (ha : VTS X W a tA xA) (hb : VW X W (.BoolOp .And (b :: rest) pos) tB' xB') : VTS X W (.BoolOp .And (a :: b :: rest) pos) (tAnd tA tB') (xAndC xA xB') := ⟨(pw_and ha.pt hb.pw).pt, by
  intro G0 H0 G H σ e Q q ex hs hx hq hw
  refine ha.rf G0 H0 G H σ e _ _ ex hs hx (fun G1 H1 c e1 s1 k1 => ?_) hw
  cases c with
  | false => exact hq G1 H1 _ e1 s1 k1
  | true => exact hb.rf G0 H0 G1 H1 σ e1 _ _ _ s1 k1 (fun G2 H2 b s2 g2 => hq G2 H2 b e1 (s1.grow g2 s2)) fun G2 H2 cls d y s2 g2 xr k => hw G2 H2 cls d y e1 (s1.grow g2 s2) xr k⟩
def xAndVC (xa : XES) (xb : XE) : XES := fun e q ex => xa e (fun d e' => match d with
  | .bool c => if c = true then xb e' (fun r => match r with
    | .va d => q d e'
    | _ => False) (fun z => ex z e') else q (.bool false) e'
  | _ => False) ex
theorem ves_and (ha : VES X W a te xS) (hb : VE X W (.BoolOp .And (b :: rest) pos) tb xb) : VES X W (.BoolOp .And (a :: b :: rest) pos) (tAndV te tb) (xAndVC xS xb) := ⟨pe_and ha.pe hb.pe, by
  intro G0 H0 G H σ e Q q ex hs hx hq hw
  refine ha.rf G0 H0 G H σ e _ _ ex hs hx (fun G1 H1 v d e1 s1 r1 k1 => ?_) hw
  cases r1 <;> first
    | exact False.elim k1
    | skip
  rename_i c
  refine ⟨c, rfl, ?_⟩
  cases c with
  | false => exact hq G1 H1 _ _ e1 s1 (.bl false) k1
  | true => exact hb.rf G0 H0 G1 H1 σ e1 _ _ _ s1 k1 (fun G2 H2 b r s2 g2 rr k2 => by
      cases r with
      | va d => exact hq G2 H2 b d e1 (s1.grow g2 s2) rr k2
      | nw ds => exact k2.elim
      | bo ds => exact k2.elim
      | bb c pre f ds => exact k2.elim
      | bg k0 ds0 => exact k2.elim) fun G2 H2 cls d y s2 g2 xr k => hw G2 H2 cls d y e1 (s1.grow g2 s2) xr k⟩
def uIfC (x : XTS) (u1 u2 : US) : US := fun V e => x e (fun b e' => (b = true → u1 V e') ∧ (b = false → u2 V e')) V.ex
theorem vss_if {c : Expr} {tc : TT} {xc : XTS} {ss1 ss2 : List Stmt} {t1 t2 : TS} {u1 u2 : US} (hc : VTS X W c tc xc) (h1 : VSs X W ss1 t1 u1) (h2 : VSs X W ss2 t2 u2) : VS X W (.If c ss1 ss2 pos) (tIfS tc t1 t2) (uIfC xc u1 u2) := ⟨ps_if hc.pt h1.ps h2.ps, fun G0 H0 D V L G H σ e hs hu => by
  refine hc.rf G0 H0 G H σ e _ _ _ hs hu (fun G1 H1 b e1 s1 k1 => ?_) fun G1 H1 cls d z e1 s1 xr k => L.ex G1 H1 σ e1 cls d z s1 xr k
  cases b with
  | true => exact h1.rf G0 H0 D V L G1 H1 σ e1 s1 (k1.1 rfl)
  | false => exact h2.rf G0 H0 D V L G1 H1 σ e1 s1 (k1.2 rfl)⟩
end
end Pv

/-! PwJ: rows on self.f of a changing object; x = C(..); displays and append with a changing call. -/
namespace Pv
open PySem L2 PySem.Spec PyProof.Rows
section
variable {X : Cx} {W : WX} {K : PySem.W.Frag} {a b : Expr} {es : List Expr} {te tb : TE} {tt : TT} {ta : TA} {xa xb : XE} {xs : XA} {xS : XES} {pos : Pos}
/-- the own field of slot i's object -/
def uFEx (i : Nat) (c f : Str) (x : XE) : US := fun V e => match e[i]? with
  | some (.ob y p c' pre f' ds) => ((c' = c ∧ f' = f) ∧ pre.lookup f = none) ∧ x e (fun r => match r.d with
    | .list es => (r.stays = true ∧ ds.length + es.length ≤ sizeLine) ∧ V.nx (e.set i (.ob y p c' pre f' (ds ++ es)))
    | _ => False) fun z => V.ex z e
  | _ => False
theorem ref_fex {i : Nat} {c f : Str} (C : Cls K (He.ga K c)) (nf : NoAttr K (He.ga K c) f) (he : RefE K W te xa) : RefS K W (tDrop (tBM K "list" rExtend (tFld K (tVar i) f) (tCons te tNil))) (uFEx i c f xa) := by
  intro G0 H0 D V L G H σ e hs hu
  unfold uFEx at hu
  split at hu
  · rename_i y p c' pre f' ds hi
    obtain ⟨⟨⟨rfl, rfl⟩, hl⟩, hu⟩ := hu
    obtain ⟨k1, ⟨dx, vs, us, k2, k3, k4, k5⟩, k6, k7⟩ := hs.sl i _ hi
    refine ⟨_, k1, y, _, dx, _, .ref p, rfl, k2, C, nf, by rw [fsr_no k3 hl]; simp [List.lookup], .inl ⟨rfl, us, SqL.of k4⟩, ?_⟩
    refine he G0 H0 G H σ e _ _ _ hs hu (fun G1 H1 v r s1 g1 rr k1 => ?_) fun G1 H1 cls d z s1 g1 xr k => L.ex G1 H1 σ e cls d z (hs.grow g1 s1) xr k
    generalize hd : r.d = d at k1
    cases d <;> first
      | exact False.elim k1
      | skip
    rename_i es
    obtain ⟨⟨st, kz⟩, k⟩ := k1
    obtain ⟨q, ys, e1, h6, h7⟩ := rr.list s1 hd
    subst e1
    refine ⟨p, q, us, ys, rfl, rfl, g1.hh _ _ k4, h6, by rw [k5.len, h7.len]; exact kz, ?_⟩
    exact L.nx G1 _ σ _ ((hs.grow g1 s1).writeP hi ((k5.mono g1.gg _ _).append h7)) k
  · exact hu.elim
theorem vs_fex (i : Nat) {c f x : Str} {p fpos apos cpos : Pos} (C : Cls X.K (He.ga X.K c)) (nf : NoAttr X.K (He.ga X.K c) f) (he : VE X W a te xa) (hN : X.N[i]? = some x := by rfl) (hv : Vis X.env.scope x := by first | exact Or.inl rfl | exact Or.inr (Or.inl rfl) | exact Or.inr (Or.inr rfl)) (hd : (x == ("__debug__" : Str)) = false := by decide) (hcd : (x == ("__classdict__" : Str)) = false := by decide)
    (hb : attributeBase (.Name x p) f X.env (eval (.Name x p) X.env) = eval (.Name x p) X.env := by rfl)
    (hbase : attributeBase (.Attribute (.Name x p) f fpos) "extend" X.env (eval (.Attribute (.Name x p) f fpos) X.env) = eval (.Attribute (.Name x p) f fpos) X.env := by rfl)
    (hfew : ((backTo cpos (starEach [a] X.env)).all (fun x => !x.1) && (backToKw cpos (keywordEach [] X.env)).all (fun x => x.1.isSome) && decide ([a].length + ([] : List Keyword).length + (if ([] : List Keyword).isEmpty then 0 else 1) < 30)) = true := by rfl)
    (hline : (apos.endLine == cpos.line) = true := by rfl) (hst : starEach [a] X.env = (false, eval a X.env) :: starEach [] X.env := by rfl) (hpl : (backTo cpos (starEach [] X.env)).any (·.1) = false := by rfl)
    (hsw : swapsWith (.Call (.Attribute (.Attribute (.Name x p) f fpos) "extend" apos) [a] [] cpos) none pos.line X.env = pure false := by rfl) :
    VS X W (.Expr (.Call (.Attribute (.Attribute (.Name x p) f fpos) "extend" apos) [a] [] cpos) pos) (tDrop (tBM X.K "list" rExtend (tFld X.K (tVar i) f) (tCons te tNil))) (uFEx i c f xa) :=
  ⟨ps_expr (pe_bm PySem.F.plainAttrs_list PySem.F.slot_list_extend PySem.F.type_list_extend mt_extend (pe_fld (pe_var hN hv hd hcd) hb) (pa_cons he.pe pa_nil hst) hbase hfew hline hst hpl) hsw, ref_fex C nf he.rf⟩
/-- del self.f[lo:] -/
def uFDel (i : Nat) (c f : Str) (x : XE) : US := fun V e => match e[i]? with
  | some (.ob y p c' pre f' ds) => ((c' = c ∧ f' = f) ∧ pre.lookup f = none) ∧ x e (fun r => match r.d with
    | .int n => (0 ≤ n ∧ n ≤ ds.length) ∧ V.nx (e.set i (.ob y p c' pre f' (ds.take n.toNat)))
    | _ => False) fun z => V.ex z e
  | _ => False
theorem ref_fdel {i : Nat} {c f : Str} (C : Cls K (He.ga K c)) (nf : NoAttr K (He.ga K c) f) (he : RefE K W te xa) : RefS K W (tDelF (tFld K (tVar i) f) te) (uFDel i c f xa) := by
  intro G0 H0 D V L G H σ e hs hu
  unfold uFDel at hu
  split at hu
  · rename_i y p c' pre f' ds hi
    obtain ⟨⟨⟨rfl, rfl⟩, hl⟩, hu⟩ := hu
    obtain ⟨k1, ⟨dx, vs, us, k2, k3, k4, k5⟩, k6, k7⟩ := hs.sl i _ hi
    refine ⟨_, k1, y, _, dx, _, .ref p, rfl, k2, C, nf, by rw [fsr_no k3 hl]; simp [List.lookup], ?_⟩
    refine he G0 H0 G H σ e _ _ _ hs hu (fun G1 H1 v r s1 g1 rr k1 => ?_) fun G1 H1 cls d z s1 g1 xr k => L.ex G1 H1 σ e cls d z (hs.grow g1 s1) xr k
    have w1 := rr.wk s1
    generalize hd : r.d = d at k1 w1
    cases w1 <;> first
      | exact False.elim k1
      | skip
    rename_i n
    obtain ⟨⟨n0, n1⟩, k⟩ := k1
    refine ⟨p, us, n.toNat, rfl, by rw [Int.toNat_of_nonneg n0], g1.hh _ _ k4, by rw [k5.len]; omega, ?_⟩
    exact L.nx G1 _ σ _ ((hs.grow g1 s1).writeP hi ((k5.mono g1.gg _ _).take _)) k
  · exact hu.elim
theorem vs_fdel (i : Nat) {c f x : Str} {p fpos tpos p2 : Pos} (C : Cls X.K (He.ga X.K c)) (nf : NoAttr X.K (He.ga X.K c) f) (he : VE X W a te xa) (hN : X.N[i]? = some x := by rfl) (hv : Vis X.env.scope x := by first | exact Or.inl rfl | exact Or.inr (Or.inl rfl) | exact Or.inr (Or.inr rfl)) (hd : (x == ("__debug__" : Str)) = false := by decide) (hcd : (x == ("__classdict__" : Str)) = false := by decide)
    (hb : attributeBase (.Name x p) f X.env (eval (.Name x p) X.env) = eval (.Name x p) X.env := by rfl) :
    VS X W (.Delete [.Subscript (.Attribute (.Name x p) f fpos) (.Slice (some a) none none p2) tpos] pos) (tDelF (tFld X.K (tVar i) f) te) (uFDel i c f xa) :=
  ⟨ps_delF (pe_fld (pe_var hN hv hd hcd) hb) he.pe, ref_fdel C nf he.rf⟩
/-- self.f[i] = v: v first, then the place -/
def uFPut (k : Nat) (c f : Str) (xi xv : XE) : US := fun V e => match e[k]? with
  | some (.ob y p c' pre f' ds) => ((c' = c ∧ f' = f) ∧ pre.lookup f = none) ∧ xv e (fun r => xi e (fun s => match s.d with
    | .int i => ∃ j, ixN ds.length i = some j ∧ r.stays = true ∧ V.nx (e.set k (.ob y p c' pre f' (ds.set j r.d)))
    | _ => False) fun z => V.ex z e) fun z => V.ex z e
  | _ => False
theorem ref_fput {k : Nat} {c f : Str} (C : Cls K (He.ga K c)) (nf : NoAttr K (He.ga K c) f) (hi : RefE K W tb xb) (hv : RefE K W te xa) : RefS K W (tAsg te (gSub (tFld K (tVar k) f) tb rSetL)) (uFPut k c f xb xa) := by
  intro G0 H0 D V L G H σ e hs hu
  unfold uFPut at hu
  split at hu
  · rename_i y p c' pre f' ds hk
    obtain ⟨⟨⟨rfl, rfl⟩, hl⟩, hu⟩ := hu
    obtain ⟨k1, ⟨dx, vs, us, k2, k3, k4, k5⟩, k6, k7⟩ := hs.sl k _ hk
    refine hv G0 H0 G H σ e _ _ _ hs hu (fun G1 H1 v r s1 g1 rr k1' => ?_) fun G1 H1 cls d z s1 g1 xr k => L.ex G1 H1 σ e cls d z (hs.grow g1 s1) xr k
    refine ⟨_, k1, y, _, dx, _, .ref p, rfl, g1.hh _ _ k2, C, nf, by rw [fsr_no k3 hl]; simp [List.lookup], ?_⟩
    refine hi G0 H0 G1 H1 σ e _ _ _ (hs.grow g1 s1) k1' (fun G2 H2 w s s2 g2 rr2 k2' => ?_) fun G2 H2 cls d z s2 g2 xr k => L.ex G2 H2 σ e cls d z (hs.grow (g1.trans g2) s2) xr k
    have w2 := rr2.wk s2
    generalize s.d = d at k2' w2
    cases w2 <;> first
      | exact False.elim k2'
      | skip
    obtain ⟨j, hj, st, kk⟩ := k2'
    obtain ⟨G3, s3, g23, g3, rp, nn⟩ := (rr.grow g2).fix (G0 := G0) (H0 := H0) (σ := σ) (e := e) s2 (g1.trans g2) st
    refine ⟨p, us, _, j, rfl, rfl, g2.hh _ _ (g1.hh _ _ k4), by rw [k5.len]; exact hj, ?_⟩
    exact L.nx G3 _ σ _ ((hs.grow g3 s3).writeP hk (RpAll.set rp j (k5.mono g3.gg _ _))) kk
  · exact hu.elim
theorem vs_fput (k : Nat) {c f x : Str} {p fpos ipos : Pos} (C : Cls X.K (He.ga X.K c)) (nf : NoAttr X.K (He.ga X.K c) f) (hi : VE X W b tb xb) (hv : VE X W a te xa) (hN : X.N[k]? = some x := by rfl) (hvi : Vis X.env.scope x := by first | exact Or.inl rfl | exact Or.inr (Or.inl rfl) | exact Or.inr (Or.inr rfl)) (hd : (x == ("__debug__" : Str)) = false := by decide) (hcd : (x == ("__classdict__" : Str)) = false := by decide)
    (hb : attributeBase (.Name x p) f X.env (eval (.Name x p) X.env) = eval (.Name x p) X.env := by rfl)
    (ha : ∀ v, assign (.Subscript (.Attribute (.Name x p) f fpos) b ipos) X.env v = (do
      let ov ← holding [v] (eval (.Attribute (.Name x p) f fpos) X.env)
      let iv ← holding [v, ov] (eval b X.env)
      standAt ipos
      holding [v, ov, iv] (setItem ov iv v)
      release [v, ov, iv] []) := by intro _; rfl)
    (hs : swapsWithSole [.Subscript (.Attribute (.Name x p) f fpos) b ipos] a pos.line X.env = pure false := by rfl) (hw : swappedStores [.Subscript (.Attribute (.Name x p) f fpos) b ipos] a X.env = pure none := by rfl)
    (h1 : (assignEach [.Subscript (.Attribute (.Name x p) f fpos) b ipos] X.env).map (·.2) = [assign (.Subscript (.Attribute (.Name x p) f fpos) b ipos) X.env] := by rfl) :
    VS X W (.Assign [.Subscript (.Attribute (.Name x p) f fpos) b ipos] a pos) (tAsg te (gSub (tFld X.K (tVar k) f) tb rSetL)) (uFPut k c f xb xa) :=
  ⟨ps_asg hv.pe (pg_sub (pe_fld (pe_var hN hvi hd hcd) hb) hi.pe set_list ha) hs hw h1, ref_fput C nf hi.rf hv.rf⟩

/-! ### x = C(..) -/
def uMkO (i : Nat) (c g : Str) (I : FnO) (xs : XA) : US := fun V e => e[i]?.isSome = true ∧ xs e (fun rs => I (rs.map Rs.d) (fun cs => (rs.all Rs.stays || lf.lfs cs) = true ∧ ∀ x p, V.nx (e.set i (.ob x p c [] g cs)))) (fun y => V.ex y e)
theorem ref_mkO {i : Nat} {c f : Str} {I : FnO} {E : XK} (h : RefA K W ta xs) : RefS K W (tAsg (tMake (He.ga K c) (spIo K c f I) [] E ta) (gName i)) (uMkO i c f I xs) := by
  intro G0 H0 D V L G H σ e hs hu
  obtain ⟨hi, hu⟩ := hu
  refine h G0 H0 G H σ e _ _ _ hs hu (fun G1 H1 vs rs s1 g1 pr k => ?_) fun G1 H1 cls d z s1 g1 xr k => L.ex G1 H1 σ e cls d z (hs.grow g1 s1) xr k
  obtain ⟨ps, bs, p1, p2, p3, p4⟩ := args_rep s1 pr
  intro x dx hx1 hdx ne
  have hx2 : (upd H1 dx (.own x)) x = none := by rw [upd_ne (Ne.symm ne)]; exact hx1
  have sH : Same H1 (upd (upd H1 dx (.own x)) x (.ins (He.ga K c) dx [])) := (same_new hdx).trans (same_new hx2)
  refine ⟨x, dx, vs, exth H1 G1 (ps ++ bs), H1, rs.map Rs.d, _, by rw [List.append_nil], upd_same, (exth_sub s1).free hx1, hx1, (exth_sub s1).trans sH, sH, p4, k, fun G3 H3 p ys cs s3 g3 e1 e2 e3 e4 e5 e6 k3 => ⟨rfl, ?_⟩⟩
  obtain ⟨kz, k3⟩ := k3
  -- what was lent is hidden again
  have bsOf : ∀ q ∈ bs, LoA (G3 q) := fun q hq => by
    obtain ⟨_, u, e2, l⟩ := p2 q hq
    refine ⟨u, g3.gg _ _ ?_, l⟩
    rw [exth_in (List.mem_append_right _ hq)]
    exact e2
  have sub : Same (hide bs G3) H3 := same_hide.trans s3
  have gr : Grow G H (hide bs G3) H3 := ⟨fun a o ea => by
      have e1 := g1.gg a o ea
      have ha : a ∉ bs := fun z => by
        rw [(p2 a z).1] at e1
        cases e1
      rw [hide_ne ha]
      exact g3.gg a o (exth_up s1 a o e1), g1.hh.trans g3.hh, fun a k1 k2 => by
      by_cases ha : a ∈ bs
      · exact hide_in ha
      · rw [hide_ne ha]
        have hp : a ∉ ps := fun z => k2 (p1 a z)
        have hn : a ∉ ps ++ bs := fun z => by
          rcases List.mem_append.mp z with z | z
          · exact hp z
          · exact ha z
        refine g3.nn a ?_ fun z => k2 (g1.hh.free z)
        rw [exth_ne hn]
        exact g1.nn a k1 k2⟩
  have ra : RpAll K (hide bs G3) ys cs := by
    rcases Bool.or_eq_true_iff.mp kz with c2 | c2
    · obtain rfl := p3 c2
      rw [hide_nil]
      exact e6
    · exact RpAll.hide bsOf cs _ c2 e6
  have st := hs.grow gr sub
  have nx : hide bs G3 x = none := by
    by_cases ha : x ∈ bs
    · exact hide_in ha
    · rw [hide_ne ha]
      exact e2
  have np : hide bs G3 p = none := by
    by_cases ha : p ∈ bs
    · exact hide_in ha
    · rw [hide_ne ha]
      exact e4
  have hx : H x = none := g1.hh.free hx1
  have hp : H p = none := g1.hh.free e5
  have fr : ∀ (y : Addr), H y = none → ∀ (j : Nat) (t : Sl), e[j]? = some t → ¬ t.has σ[j]? y := fun y hy => hs.free (.inl hy)
  exact L.nx _ _ _ _ (st.setOb i ⟨dx, [], ys, e1, .nil, e3, ra⟩ ⟨nx, np⟩ ⟨hs.gr.hh.free hx, hs.gr.hh.free hp⟩ fun j t hj => ⟨fr x hx j t hj, fr p hp j t hj⟩) (k3 x p)
theorem vs_mkO {CX : CXT} {k : Nat} {f : Addr} {fd : FuncData} {ps : List Str} {I : FnO} {c g x : Str} {i : Nat} {p p1 pos1 : Pos} (M : Mk X.K (He.ga X.K c) f) (F : FnOk X.prog X.w X.K X.mg X.base CX k f fd ps (spIo X.K c g I)) (hr : Room (k + 1) X.A) (hg : Gl X c) (hm : X.mg c = some (.ref (He.ga X.K c))) (hb : Binds X.K fd ps []) (hqu : Quiet CX) (hN : X.N.Nodup)
    (ha : VA X W (a :: es) ta xs) (hi : X.N[i]? = some x := by rfl) (hx : Loc X.env.scope x := by first | exact Or.inl rfl | exact Or.inr rfl)
    (hs : swapsWith (.Call (.Name c p) (a :: es) [] pos) (some (.Name x p1)) pos1.line X.env = pure false := by rfl) (hf : X.fn x = true ∨ X.env.scope.names.lookup x = some .local := by first | exact .inl rfl | exact .inr rfl)
    (hdb : (c == ("__debug__" : Str)) = false := by decide) (he : starEach (a :: es) X.env = (false, eval a X.env) :: starEach es X.env := by rfl) (hpl : (backTo pos (starEach es X.env)).any (·.1) = false := by rfl) :
    VS X W (.Assign [.Name x p1] (.Call (.Name c p) (a :: es) [] pos) pos1) (tAsg (tMake (He.ga X.K c) (spIo X.K c g I) [] (fun _ _ _ => False) ta) (gName i)) (uMkO i c g I xs) :=
  ⟨ps_set hN hi hx (pe_make M F hr hg hm hb .nil (fun _ _ _ _ _ _ _ z => (hqu _ _ _ _ _ z).elim) ha.pa hdb he hpl) hs hf, ref_mkO ha.rf⟩
/-- C(..) of lent lists, the object stays -/
def xMakeO (c g : Str) (I : FnO) (xs : XA) : XE := fun e q ex => xs e (fun rs => I (rs.map Rs.d) (fun cs => (rs.all Rs.stays || lf.lfs cs) = true ∧ q (.va (obD c [g] [.list cs])))) ex
theorem ref_makeO {c f : Str} {I : FnO} {E : XK} (h : RefA K W ta xs) : RefE K W (tMake (He.ga K c) (spIo K c f I) [] E ta) (xMakeO c f I xs) := by
  intro G0 H0 G H σ e Q q ex hs hx hq hw
  refine h G0 H0 G H σ e _ _ ex hs hx (fun G1 H1 vs rs s1 g1 pr k => ?_) hw
  obtain ⟨ps, bs, p1, p2, p3, p4⟩ := args_rep s1 pr
  intro x dx hx1 hdx ne
  have hx2 : (upd H1 dx (.own x)) x = none := by rw [upd_ne (Ne.symm ne)]; exact hx1
  have sH : Same H1 (upd (upd H1 dx (.own x)) x (.ins (He.ga K c) dx [])) := (same_new hdx).trans (same_new hx2)
  refine ⟨x, dx, vs, exth H1 G1 (ps ++ bs), H1, rs.map Rs.d, _, by rw [List.append_nil], upd_same, (exth_sub s1).free hx1, hx1, (exth_sub s1).trans sH, sH, p4, k, fun G3 H3 p ys cs s3 g3 e1 e2 e3 e4 e5 e6 k3 => ⟨rfl, ?_⟩⟩
  obtain ⟨kz, k3⟩ := k3
  have bsOf : ∀ q ∈ bs, LoA (G3 q) := fun q hq => by
    obtain ⟨_, u, e2, l⟩ := p2 q hq
    refine ⟨u, g3.gg _ _ ?_, l⟩
    rw [exth_in (List.mem_append_right _ hq)]
    exact e2
  have gr0 : Grow G H (hide bs G3) H3 := ⟨fun a o ea => by
      have e1 := g1.gg a o ea
      have ha : a ∉ bs := fun z => by
        rw [(p2 a z).1] at e1
        cases e1
      rw [hide_ne ha]
      exact g3.gg a o (exth_up s1 a o e1), g1.hh.trans g3.hh, fun a k1 k2 => by
      by_cases ha : a ∈ bs
      · exact hide_in ha
      · rw [hide_ne ha]
        have hp : a ∉ ps := fun z => k2 (p1 a z)
        have hn : a ∉ ps ++ bs := fun z => by
          rcases List.mem_append.mp z with z | z
          · exact hp z
          · exact ha z
        refine g3.nn a ?_ fun z => k2 (g1.hh.free z)
        rw [exth_ne hn]
        exact g1.nn a k1 k2⟩
  have ra : RpAll K (hide bs G3) ys cs := by
    rcases Bool.or_eq_true_iff.mp kz with c2 | c2
    · obtain rfl := p3 c2
      rw [hide_nil]
      exact e6
    · exact RpAll.hide bsOf cs _ c2 e6
  have nx : hide bs G3 x = none := by
    by_cases ha : x ∈ bs
    · exact hide_in ha
    · rw [hide_ne ha]
      exact e2
  have np : hide bs G3 p = none := by
    by_cases ha : p ∈ bs
    · exact hide_in ha
    · rw [hide_ne ha]
      exact e4
  have npx : x ≠ p := fun z => by
    subst z
    rw [e1] at e3
    cases e3
  have hxH : H x = none := g1.hh.free hx1
  have hpH : H p = none := g1.hh.free e5
  obtain ⟨G4, hG4⟩ : ∃ G4, G4 = upd (upd (hide bs G3) p (.lst ys)) x (.ins (He.ga K c) dx [(f, .ref p)]) := ⟨_, rfl⟩
  have sg : Same (hide bs G3) G4 := by
    rw [hG4]
    exact (same_new np).trans (same_new (by rw [upd_ne npx]; exact nx))
  have sub : Same G4 H3 := fun a o ea => by
    rw [hG4] at ea
    by_cases h1 : a = x
    · subst h1
      rw [upd_same] at ea
      rw [e1]
      exact ea
    · rw [upd_ne h1] at ea
      by_cases h2 : a = p
      · subst h2
        rw [upd_same] at ea
        rw [e3]
        exact ea
      · rw [upd_ne h2] at ea
        exact s3 _ _ (same_hide _ _ ea)
  have gr : Grow G H G4 H3 := ⟨gr0.gg.trans sg, gr0.hh, fun a k1 k2 => by
    rw [hG4, upd_ne (fun z => k2 (by rw [z]; exact hxH)), upd_ne (fun z => k2 (by rw [z]; exact hpH))]
    exact gr0.nn a k1 k2⟩
  refine hq G4 H3 (.ref x) (.va _) sub gr ?_ k3
  refine .obj (fs := [(f, .ref p)]) (by rw [hG4]; exact upd_same) rfl rfl (.cons (.lst (xs := ys) ?_ (ra.mono sg _ _)) .nil)
  rw [hG4, upd_ne (Ne.symm npx)]
  exact upd_same
theorem ve_makeO {CX : CXT} {k : Nat} {f : Addr} {fd : FuncData} {ps : List Str} {I : FnO} {c g : Str} {p : Pos} (M : Mk X.K (He.ga X.K c) f) (F : FnOk X.prog X.w X.K X.mg X.base CX k f fd ps (spIo X.K c g I)) (hr : Room (k + 1) X.A) (hg : Gl X c) (hm : X.mg c = some (.ref (He.ga X.K c))) (hb : Binds X.K fd ps []) (hqu : Quiet CX)
    (ha : VA X W (a :: es) ta xs) (hdb : (c == ("__debug__" : Str)) = false := by decide) (he : starEach (a :: es) X.env = (false, eval a X.env) :: starEach es X.env := by rfl) (hpl : (backTo pos (starEach es X.env)).any (·.1) = false := by rfl) :
    VE X W (.Call (.Name c p) (a :: es) [] pos) (tMake (He.ga X.K c) (spIo X.K c g I) [] (fun _ _ _ => False) ta) (xMakeO c g I xs) :=
  ⟨pe_make M F hr hg hm hb .nil (fun _ _ _ _ _ _ _ z => (hqu _ _ _ _ _ z).elim) ha.pa hdb he hpl, ref_makeO ha.rf⟩

/-! ### more places of a changing call -/
theorem ves_meth0 {CX : CXT} {k : Nat} {fm : Addr} {fd : FuncData} {ps : List Str} {F : FnM} {c f m x : Str} {i : Nat} {p2 apos : Pos} {pl : Sem Bool} (C : Cls X.K (He.ga X.K c)) (hm : Meth X.K (He.ga X.K c) m fm) (Fk : FnOk X.prog X.w X.K X.mg X.base CX k fm fd ps (spC X.K c f F)) (hr : Room k X.A) (hb : Binds X.K fd ps []) (hqu : Quiet CX)
    (hi : X.N[i]? = some x := by rfl) (hv : Vis X.env.scope x := by first | exact Or.inl rfl | exact Or.inr (Or.inl rfl) | exact Or.inr (Or.inr rfl)) (hd : (x == ("__debug__" : Str)) = false := by decide) (hcd : (x == ("__classdict__" : Str)) = false := by decide)
    (ht : eval (.Call (.Attribute (.Name x p2) m apos) [] [] pos) X.env = (do
      let ov ← eval (.Name x p2) X.env
      standAt apos.atName
      let (f, first) ← holding [ov] (getMethod ov m pl)
      callWith pos f first (backTo pos (starEach [] X.env)) (backToKw pos (keywordEach [] X.env))) := by rfl) :
    VES X W (.Call (.Attribute (.Name x p2) m apos) [] [] pos) (tMeth (He.ga X.K c) m (spC X.K c f F) [] (fun _ _ _ => False) (tVar i) tNil) (xMChg i c f m F xNil) :=
  ⟨pe_meth0 (pe_var (pos := p2) hi hv hd hcd) C hm Fk hr hb .nil (fun _ _ _ _ _ _ _ z => (hqu _ _ _ _ _ z).elim) ht, ref_chgM' (va_nil (X := X) (W := W)).rf⟩
/-- a tuple whose first item is such a call -/
def xTupC (xa : XES) (xs : XA) : XES := fun e q ex => xa e (fun d e' => xs e' (fun rs => (rs.all Rs.stays && decide (rs.length + 1 ≤ sizeLine)) = true ∧ q (.tuple (d :: rs.map Rs.d)) e') (fun y => ex y e')) ex
theorem ves_tup {x1} (ha : VES X W a te xS) (hr : VA X W es ta xs) (hst : starEach (a :: es) X.env = (false, eval a X.env) :: starEach es X.env := by rfl) : VES X W (.Tuple (a :: es) x1 pos) (tTup (tCons te ta)) (xTupC xS xs) := ⟨pe_tup (pa_cons ha.pe hr.pa hst), by
  intro G0 H0 G H σ e Q q ex hs hx hq hw
  refine ha.rf G0 H0 G H σ e _ _ ex hs hx (fun G1 H1 v d e1 s1 r1 k1 => ?_) hw
  refine hr.rf G0 H0 G1 H1 σ e1 _ _ _ s1 k1 (fun G2 H2 vs rs s2 g2 pr k2 => ?_) fun G2 H2 cls d y s2 g2 xr k => hw G2 H2 cls d y e1 (s1.grow g2 s2) xr k
  obtain ⟨hz, k⟩ := k2
  obtain ⟨z1, z2⟩ := Bool.and_eq_true_iff.mp hz
  obtain ⟨G3, s3, g3, ra⟩ := fix_args s2 g2 pr z1
  refine ⟨by rw [List.length_cons, paired_len pr]; exact of_decide_eq_true z2, fun p hp => ?_⟩
  have gb : Grow G3 H2 (upd G3 p (.tup (v :: vs))) (upd H2 p (.tup (v :: vs))) := Grow.both s3 hp
  have r2 : Rp X.K G3 v d := Rp.mono g3.gg _ _ r1
  exact hq _ _ _ _ e1 (s1.grow (g3.trans gb) (same_both s3)) (.tup (.inl (.inl upd_same)) (RpAll.mono gb.gg _ _ (.cons r2 ra))) k⟩
/-- xs.append(e) -/
def uApC (i : Nat) (x : XES) : US := fun V e => (match e[i]? with
  | some (.ow _) => True
  | _ => False) ∧ x e (fun d e' => match e'[i]? with
  | some (.ow ds) => ds.length < sizeLine ∧ V.nx (e'.set i (.ow (ds ++ [d])))
  | _ => False) V.ex
theorem ref_apC {i : Nat} (he : RefES K W te xS) : RefS K W (tDrop (tBM K "list" rAppend (tVar i) (tCons te tNil))) (uApC i xS) := by
  intro G0 H0 D V L G H σ e hs hu
  obtain ⟨h0, hu⟩ := hu
  split at h0
  · rename_i ds0 hi0
    obtain ⟨p0, xs0, h1, h2, h3, h4, h5⟩ := hs.sl i _ hi0
    refine ⟨_, h1, .inl ⟨rfl, xs0, SqL.of h2⟩, ?_⟩
    refine he G0 H0 G H σ e _ _ _ hs hu (fun G1 H1 v d e1 s1 r k1 => ?_) fun G1 H1 cls d z e1 s1 xr k => L.ex G1 H1 σ e1 cls d z s1 xr k
    split at k1
    · rename_i ds hi
      obtain ⟨p, xs, q1, q2, q3, q4, q5⟩ := s1.sl i _ hi
      rw [h1] at q1
      cases q1
      refine ⟨p0, xs, v, rfl, rfl, q2, by rw [q5.len]; exact k1.1, ?_⟩
      exact L.nx G1 _ σ _ (s1.write hi h1 (q5.append (.cons r .nil))) k1.2
    · exact k1.elim
  · exact h0.elim
theorem vs_apC (i : Nat) {x : Str} {p apos cpos : Pos} (he : VES X W a te xS) (hN : X.N[i]? = some x := by rfl) (hv : Vis X.env.scope x := by first | exact Or.inl rfl | exact Or.inr (Or.inl rfl) | exact Or.inr (Or.inr rfl)) (hd : (x == ("__debug__" : Str)) = false := by decide) (hcd : (x == ("__classdict__" : Str)) = false := by decide)
    (hbase : attributeBase (.Name x p) "append" X.env (eval (.Name x p) X.env) = eval (.Name x p) X.env := by rfl)
    (hfew : ((backTo cpos (starEach [a] X.env)).all (fun x => !x.1) && (backToKw cpos (keywordEach [] X.env)).all (fun x => x.1.isSome) && decide ([a].length + ([] : List Keyword).length + (if ([] : List Keyword).isEmpty then 0 else 1) < 30)) = true := by rfl)
    (hline : (apos.endLine == cpos.line) = true := by rfl) (hst : starEach [a] X.env = (false, eval a X.env) :: starEach [] X.env := by rfl) (hpl : (backTo cpos (starEach [] X.env)).any (·.1) = false := by rfl)
    (hsw : swapsWith (.Call (.Attribute (.Name x p) "append" apos) [a] [] cpos) none pos.line X.env = pure false := by rfl) :
    VS X W (.Expr (.Call (.Attribute (.Name x p) "append" apos) [a] [] cpos) pos) (tDrop (tBM X.K "list" rAppend (tVar i) (tCons te tNil))) (uApC i xS) :=
  ⟨ps_expr (pe_bm PySem.F.plainAttrs_list PySem.F.slot_list_append PySem.F.type_list_append mt_append (pe_var hN hv hd hcd) (pa_cons he.pe pa_nil hst) hbase hfew hline hst hpl) hsw, ref_apC he.rf⟩
end
end Pv

/-! PwK: in a suite: o.m(..), len(o). -/
namespace Pv
open PySem L2 PySem.Spec PyProof.Rows
section
variable {X : Cx} {W : WX} {K : PySem.W.Frag} {a : Expr} {es : List Expr} {te : TE} {ta : TA} {xa : XE} {xs : XA} {pos : Pos}
theorem ref_methH {c m : Str} {F : Fn} {E : L2.St → XK} (h : RefE K W te xa) (hr : RefA K W ta xs) : RefE K W (L2H.tMethH (He.ga K c) m (spF K F) E te ta) (xMeth c m F xa xs) := by
  intro G0 H0 G H σ e Q q ex hs hx hq hw
  refine h G0 H0 G H σ e _ _ ex hs hx (fun G1 H1 v r1 s1 g1 rr1 k1 => ?_) hw
  obtain ⟨hd, k⟩ := k1
  unfold methD at hd
  split at hd
  · rename_i c1 ns ds hre
    obtain ⟨p, dx, c', fs, ds', rfl, h1, h2, h3, h4⟩ := rsr_obW rr1 s1 hre
    injection h2 with h2 h2'
    injection h2 with h2
    injection h2' with h2'
    injection h2' with h2'
    subst h2 h2'
    obtain ⟨hc, hn⟩ := Bool.and_eq_true_iff.mp hd
    have hc := of_decide_eq_true hc
    subst hc
    refine ⟨p, dx, fs, rfl, h1, methD_no hn, ?_⟩
    refine hr G0 H0 G1 H1 σ e _ _ ex (hs.grow g1 s1) k (fun G2 H2 vs rs s2 g2 pr k2 => ?_) fun G2 H2 cls d y s2 g2 => hw G2 H2 cls d y s2 (g1.trans g2)
    exact call_core (rs := r1 :: rs) s2 (g1.trans g2) (.cons (rr1.grow g2) (paired_back g1.hh pr)) k2 hq
  · cases hd
theorem ve_methH {CX : CXT} {k : Nat} {f : Addr} {fd : FuncData} {ps : List Str} {F : Fn} {c m : Str} {o : Expr} {apos : Pos} {pl : Sem Bool} (C : Cls X.K (He.ga X.K c)) (hm : Meth X.K (He.ga X.K c) m f) (Fk : L2H.FnH X.prog X.w X.K X.mg X.base CX k f fd ps (spF X.K F)) (hr : L2H.RoomH k X.A) (hot : L2H.HotC X) (hb : Binds X.K fd ps [])
    (hx : ∀ σ, PassesAt CX X σ (fun cls d H => W cls d σ H)) (ho : VE X W o te xa) (ha : VA X W (a :: es) ta xs) (hst : starEach (a :: es) X.env = (false, eval a X.env) :: starEach es X.env := by rfl) (hpl : (backTo pos (starEach es X.env)).any (·.1) = false := by rfl)
    (ht : eval (.Call (.Attribute o m apos) (a :: es) [] pos) X.env = (do
      let ov ← eval o X.env
      standAt apos.atName
      let (f, first) ← holding [ov] (getMethod ov m pl)
      callWith pos f first (backTo pos (starEach (a :: es) X.env)) (backToKw pos (keywordEach [] X.env))) := by rfl) :
    VE X W (.Call (.Attribute o m apos) (a :: es) [] pos) (L2H.tMethH (He.ga X.K c) m (spF X.K F) (fun σ cls d H => W cls d σ H) te ta) (xMeth c m F xa xs) :=
  ⟨L2H.pe_methH (E := fun σ cls d H => W cls d σ H) ho.pe C hm Fk hr hot hb hx ha.pa hst hpl ht, ref_methH ho.rf ha.rf⟩
theorem roomH_in1 {k : Nat} {A : Around} (r : L2H.RoomH (k + 1) A) : L2H.RoomH k A.in1 :=
  ⟨by have := r.dp; show A.depth + 3 * k + 5 < _; omega, by have := r.un; show A.units + 1 + 16 * k + 200 < _; omega⟩
theorem call_lenOH {CX : CXT} {k : Nat} {f : Addr} {fd : FuncData} {ps : List Str} {sp : Sp} {c : Str} (hm : Meth X.K (He.ga X.K c) "__len__" f) (F : L2H.FnH X.prog X.w X.K X.mg X.base CX k f fd ps sp) (hr : L2H.RoomH (k + 1) X.A) (hot : L2H.HotC X) (hb : Binds X.K fd ps []) (hqu : Quiet CX) : CallR X (.builtin "len") (rLenO X c sp) := by
  intro pins s σ H xs us Q I r h
  obtain ⟨y, dx, fs, rfl, hy, q⟩ := h
  cases r with
  | cons ru rn =>
    cases rn
    rename_i u
    obtain rfl : u = Value.ref y := ru
    obtain ⟨mA, O, _, _, _, _⟩ := ins_get I.hok hy
    refine Calls.call_function_entry PySem.kind_len PySem.plain_len PySem.entry_len (PySem.args_len1 _) ?_
    unfold Builtin.«len»
    refine wpAny_bind (m := oneArg "len" _) (wpAny_pure ?_)
    refine wpAny_bind (m := callSpecial? (.ref y) (PySem.Str.ofString "__len__")) (spec_fn I.kIn O.obj rfl hm.at_ hm.fn ?_)
    have hl : ([Value.ref y] : List Value).length = ps.length := F.len _ _ _ _ q
    obtain ⟨p, ht, hp⟩ := hot
    have P1 := I.pin p (List.mem_append_left _ hp)
    have hpin : L2H.PinOk X.stack H s p := ⟨P1.1, P1.2.1, fun hm => (List.mem_cons.mp (I.stkSub p.1 hm)).elim P1.2.2.1 P1.2.2.2.1, P1.2.2.2.2⟩
    refine wpAny_call (codeAny_mono (F.run X.A.in1 X.stack s H ⟨[.ref y], []⟩ [.ref y] [.ref y] _ _ p (roomH_in1 hr) ht hpin I.env0.in1 (by have := hb s [.ref y] I.kIn (by rw [List.append_nil]; exact hl); rwa [List.append_nil] at this) (.cons rfl .nil) q) fun r s' hq => ?_)
    cases r with
    | error e => exact (hqu _ _ _ _ _ hq).elim
    | ok fl =>
      cases fl with
      | next => exact False.elim hq
      | brk => exact False.elim hq
      | cont => exact False.elim hq
      | ret u =>
        obtain ⟨w1, H', I', rv, n, rfl, n0, n1, qq⟩ := I.after hq
        obtain ⟨t, rfl⟩ := rv
        refine wpAny_bind (wpAny_holding (wpAny_pure ?_))
        refine wpAny_bind (wpAny_letGo ?_)
        show wpAny _ _ (if n < 0 then _ else _) _ _ _
        rw [if_neg (by omega)]
        show wpAny _ _ (if n ≥ 2 ^ 63 then _ else _) _ _ _
        rw [if_neg (by omega)]
        exact wpAny_bind (wpAny_mkInt (wpAny_pure ⟨_, rfl, ⟨.int n, H', I'.tok _, ⟨_, rfl⟩, qq⟩⟩))
theorem ve_lenOH {CX : CXT} {k : Nat} {f : Addr} {fd : FuncData} {ps : List Str} {F : Fn} {c : Str} {p : Pos} (hm : Meth X.K (He.ga X.K c) "__len__" f) (Fk : L2H.FnH X.prog X.w X.K X.mg X.base CX k f fd ps (spF X.K F)) (hr : L2H.RoomH (k + 1) X.A) (hot : L2H.HotC X) (hb : Binds X.K fd ps []) (hqu : Quiet CX) (mono : ∀ ds q q' ex, (∀ r, q r → q' r) → F ds q ex → F ds q' ex)
    (hg : Gl X "len") (hml : X.mg "len" = none) (ha : VE X W a te xa) (he : starEach [a] X.env = (false, eval a X.env) :: starEach [] X.env := by rfl) (hpl : (backTo pos (starEach [] X.env)).any (·.1) = false := by rfl) :
    VE X W (.Call (.Name "len" p) [a] [] pos) (tCB (rLenO X c (spF X.K F)) (tCons te tNil)) (xLenO c F xa) :=
  ⟨pe_callB (call_lenOH hm Fk hr hot hb hqu) hg hml (by decide +kernel) (pa_cons ha.pe pa_nil he) (by decide) (by decide) he hpl, ref_lenO mono ha.rf⟩
end
end Pv

/-! PwL: try with several clauses, each `as` a name. -/
namespace Pv
open PySem PySem.Spec PyProof.Rows L2
abbrev TsX := Addr → Value → Option Addr → TS
/-- what the clauses wish, one behind the other -/
def wNmd (K : PySem.W.Frag) (Wo : WX) (D : Ends) : List (Value × Nat × TsX) → WX
  | [] => Wo
  | (c, i, ts) :: r => wAs K c i ts (wNmd K Wo D r) D
inductive HdsA (X : Cx) : List ExceptHandler → List (Value × Nat × TsX) → Prop
  | nil : HdsA X [] []
  | cons {x n : Str} {c : Value} {i : Nat} {ts : TsX} {st0 : Stmt} {sts : List Stmt} {p1 p2 : Pos} {hr : List ExceptHandler} {lr : List (Value × Nat × TsX)} (hi : X.N[i]? = some n) (hl : X.env.kindOf n = some .local) (hn : Names X x c)
      (hsu : ∀ (a : Addr) (ob : Obj) (k : Value) (d : Option Addr) (pn : List (Addr × Obj)), L2N.Zn k d ob → (∃ us, ob.data = .fields us) → PSs (X.suite a ((a, ob) :: pn)) (st0 :: sts) (ts a k d)) (r : HdsA X hr lr) :
      HdsA X (.ExceptHandler (some (.Name x p1)) (some n) (st0 :: sts) p2 :: hr) ((c, i, ts) :: lr)
section
variable {X : Cx}
theorem ps_try_named {body : List Stmt} {hd1 : ExceptHandler} {hdr : List ExceptHandler} {l : List (Value × Nat × TsX)} {pos : Pos} {tb : WX → TS} {Wo : WX} (hst : X.stack = X.env :: X.outer) (hfr : X.env.frame = some X.env.locals) (hN : X.N.Nodup) (tk : L2N.Takes X Wo)
    (hbo : ∀ (W : WX) (pn : List (Addr × Obj)) (xe : Value → Shared → Prop), L2N.Takes (X.tr pn xe) W → PassesOwn (model X.prog X.w) X.A X.env xe → PSs (X.tr pn xe) body (tb W)) (hh : HdsA X (hd1 :: hdr) l) :
    PS X (.Try body (hd1 :: hdr) [] [] pos) (fun D σ H => tb (wNmd X.K Wo D l) D σ H) := by
  refine ⟨fun pns sa σ0 Ha D Ia hw => ?_⟩
  have okX := Ia.ok
  have frA : X.A.frames = some (X.env :: X.outer) := by rw [okX.frames, hst]
  refine wpAny_Try_except ?_
  have B0 := (hbo (wNmd X.K Wo D l) (X.pn ++ pns) (fun ev s1 => wpAny (model X.prog X.w) X.A (noteFrame ev X.env) (fun _ s2 => wpAny (model X.prog X.w) X.A (setFlight ev none) (fun _ s3 => wpAny (model X.prog X.w) X.A (handleBy ev X.env (hd1 :: hdr)) (SP X pns D) X.xe s3) X.xe s2) X.xe s1)
    (fun uv sb xx => by
      obtain ⟨a, B, sI, pns', σ1, H1, k, d, rfl, Jt, nb, up1, sky1, na, os, ag, w⟩ := xx
      have Ja : Inv X pns σ1 H1 sI := Jt.ofTry okX
      have skyX : Sky B (X.env :: X.outer) a (L2N.Zn k d) X.env.locals sb.heap := by rw [← hst]; exact sky1
      show wpAny (model X.prog X.w) X.A (noteFrame (.ref a) X.env) _ _ _
      refine L2N.Sky.land L2N.Zn.steady frA hfr skyX fun hp fl up2 => ?_
      have Jb : Inv X pns σ1 H1 { sb with heap := hp } := Ja.landed nb fl.1 (up1.trans up2) os ag
      obtain ⟨ob, us, hge, hzn, hda⟩ := fl.there
      have away : a ∉ frs (X.env :: X.outer) := fun hm => by
        obtain ⟨_, o2, e2, hn2⟩ := fl.2.2.1.mem hm
        rw [hge] at e2
        cases e2
        exact hn2 _ hda
      have nLoc : a ≠ X.env.locals := fun z => away (List.mem_filterMap.mpr ⟨X.env, List.mem_cons_self, by rw [hfr, z]⟩)
      have nFrs : a ∉ X.fs := fun hm => by
        obtain ⟨ev, hev, q⟩ := List.mem_filterMap.mp hm
        exact away (List.mem_filterMap.mpr ⟨ev, List.mem_cons_of_mem _ hev, q⟩)
      have Js := Jb.suite hge hda na nLoc nFrs
      have walk : ∀ {hs' : List ExceptHandler} {l' : List (Value × Nat × TsX)}, HdsA X hs' l' → wNmd X.K Wo D l' k d σ1 H1 → wpAny (model X.prog X.w) X.A (handleBy (.ref a) X.env hs') (SP X pns D) X.xe { sb with heap := hp } := by
        intro hs' l' hk
        induction hk with
        | nil =>
          intro w'
          refine wpAny_handleBy_nil ?_
          obtain ⟨k1, k2, k3, o3, us3, T, oT, tT, ge3, z3, d3, f1, hr3⟩ := id fl
          unfold PySem.passOn
          refine wpAny_bind (wpAny_field ge3 d3 f1 ?_)
          rw [if_neg (show ¬ ((Value.ref T == Value.none) = true) from by simp)]
          have out : wpAny (model X.prog X.w) X.A (setFlight (.ref a) X.env.frame) (fun _ s4 => wpAny (model X.prog X.w) X.A (throw (.ref a) : Sem Flow) (SP X pns D) X.xe s4) X.xe { sb with heap := hp } := by
            rw [hfr]
            exact HandSPX.setFlight_upZ fl fun h4 hh4 up4 => wpAny_throw (tk _ _ ⟨a, B, sI, pns, σ1, H1, k, d, rfl, Ja, nb, (up1.trans up2).trans up4, .inr (.inr (by rw [hst]; exact hh4)), na, os, ag, w'⟩)
          first
            | exact wpAny_bind (wpAny_pure (wpAny_bind out))
            | exact wpAny_bind out
        | @cons x n c i ts st0 sts p1 p2 hr lr hi hl hn hsu r ih =>
          intro w'
          obtain ⟨b, hb1, wy, wn⟩ := w'
          refine wpAny_handleBy_cons (codeAny_handlers_test ?_) (by intro q; cases q)
          have LT : PySem.W.Looks (model X.prog X.w) hp (typeOf (.ref a)) k := fun A Q E s kk q => wpAny_typeOf_ref (kk _ _ hge) (by rw [hzn.1]; exact q)
          have LM := PySem.W.exm_one (M := model X.prog X.w) (Jb.kIn) LT hb1
          have seen : ∀ {Q E : Value → Shared → Prop}, Q c { sb with heap := hp } → wpAny (model X.prog X.w) (X.A.mark (some (.ref a))) (eval (.Name x p1) X.env) Q E { sb with heap := hp } := fun {Q E} q => by
            obtain ⟨g1, g2, gm | ⟨gm, gv, gn⟩⟩ := hn
            · exact ld_glob (X := X.suite a ((a, ob) :: (X.pn ++ pns))) Js g1 gm q g2
            · exact ld_blt (X := X.suite a ((a, ob) :: (X.pn ++ pns))) Js g1 gm gv q gn g2
          refine seen (LM.here ?_)
          cases b with
          | false =>
            show wpAny _ X.A (handleBy (.ref a) X.env hr) _ _ _
            exact ih (wn rfl)
          | true =>
            refine codeAny_handlers_suite_as ?_
            refine HandSPX.lands_againZ fl fun h4 fl4 up4 => ?_
            have Jc : Inv X pns σ1 H1 { sb with heap := h4 } := Ja.landed nb fl4.1 ((up1.trans up2).trans up4) os ag
            obtain ⟨o4, us4, ge4, z4, d4⟩ := fl4.there
            have Jd := Jc.suite ge4 d4 na nLoc nFrs
            refine store_ok (X := X.suite a ((a, o4) :: (X.pn ++ pns))) (v := .ref a) Jd hN hi (.inl hl) rfl (fun s5 J5 => ?_) (.inr hl)
            refine wpAny_mono ((hsu a o4 k d (X.pn ++ pns) z4 ⟨_, d4⟩).run [] s5 _ H1 _ J5 (wy rfl a na)) (fun f s6 he => ?_) (fun _ _ z => False.elim z)
            have gone : ∀ {σ6 : L2.St} {H6 : Hp} {Q : Shared → Prop}, Inv (X.suite a ((a, o4) :: (X.pn ++ pns))) [] σ6 H6 s6 → (∀ s7, Inv X pns (σ6.set i none) H6 s7 → Q s7) →
                wpAny (model X.prog X.w) X.A (do bindName X.env n .none; unbindBehindTheSuite X.env n p2) (fun _ s7 => Q s7) X.xe s6 := fun {σ6 H6 Q} J6 hq => gone_ok (J6.unsuite okX) hN hi hl hq
            cases f with
            | ret u =>
              obtain ⟨v6, σ6, H6, J6, r6, q6⟩ := he
              exact gone J6 fun s7 J7 => ⟨_, _, _, J7, r6, q6⟩
            | _ =>
              obtain ⟨σ6, H6, J6, q6⟩ := he
              exact gone J6 fun s7 J7 => ⟨_, _, J7, q6⟩
      exact walk hh w) PassesOwn.looking).run [] sa σ0 Ha D (Ia.toTry _) hw
  refine wpAny_mono B0 (fun f s1 he => ?_) (fun ev s1 he => he)
  cases f with
  | next =>
    obtain ⟨σ', H', J', q⟩ := he
    exact wpAny_execs_nil ⟨σ', H', J'.ofTry okX, q⟩
  | ret u =>
    obtain ⟨v, σ', H', J', r, q⟩ := he
    exact ⟨v, σ', H', J'.ofTry okX, r, q⟩
  | _ =>
    obtain ⟨σ', H', J', q⟩ := he
    exact ⟨σ', H', J'.ofTry okX, q⟩
/-! ### on data -/
abbrev ClauseA := (Str → Option Bool) × Nat × (Addr → Value → Option Addr → US)
def catchA (V : EnV) : List ClauseA → Xn → En → Prop
  | [], y, e => V.ex y e
  | (isa, i, us) :: r, y, e => match isa y.cls with
    | some true => ∀ a k d, us a k d (V.suite i) (e.set i (.xn a k d y))
    | some false => catchA V r y e
    | none => False
def uTryA (cl : List ClauseA) (ub : US) : US := fun V e => ub { V with ex := catchA V cl } e
variable {W : WX}
inductive HdsVA (X : Cx) : List ExceptHandler → List (Value × Nat × TsX) → List ClauseA → Prop
  | nil : HdsVA X [] [] []
  | cons {x n : Str} {c : Value} {i : Nat} {st0 : Stmt} {sts : List Stmt} {p1 p2 : Pos} {hr : List ExceptHandler} {lr : List (Value × Nat × TsX)} {cl : List ClauseA} {isa : Str → Option Bool} {us : Addr → Value → Option Addr → US} (hi : X.N[i]? = some n) (hl : X.env.kindOf n = some .local) (hn : Names X x c) (hm : Isa X.K c isa)
      (hsu : ∀ (a : Addr) (ob : Obj) (k : Value) (d : Option Addr) (pn : List (Addr × Obj)), L2N.Zn k d ob → (∃ vs, ob.data = .fields vs) → ∃ t, VSs (X.suite a ((a, ob) :: pn)) WX0 (st0 :: sts) t (us a k d)) (r : HdsVA X hr lr cl) :
      HdsVA X (.ExceptHandler (some (.Name x p1)) (some n) (st0 :: sts) p2 :: hr) ((c, i, fun a k d => rd X.K WX0 (us a k d)) :: lr) ((isa, i, us) :: cl)
theorem HdsVA.ok : ∀ {hs : List ExceptHandler} {l : List (Value × Nat × TsX)} {cl : List ClauseA}, HdsVA X hs l cl → HdsA X hs l
  | _, _, _, .nil => .nil
  | _, _, _, .cons hi hl hn hm hsu r => .cons hi hl hn (fun a ob k d pn z f => by
    obtain ⟨t, h⟩ := hsu a ob k d pn z f
    exact h.rd) r.ok
theorem ref_catchA {G0 H0 : Hp} {D : Ends} {V : EnV} (hl : Link X.K G0 H0 W D V) : ∀ {hs : List ExceptHandler} {l : List (Value × Nat × TsX)} {cl : List ClauseA}, HdsVA X hs l cl → ∀ (G H : Hp) (σ : L2.St) (e : En) (cls : Value) (d : Option Addr) (y : Xn),
    StR X.K G0 H0 G H σ e → XR X.K G H cls d y → catchA V cl y e → wNmd X.K W D l cls d σ H
  | _, _, _, .nil, G, H, σ, e, cls, d, y, hs, xr, k => hl.ex G H σ e cls d y hs xr k
  | _, _, _, @HdsVA.cons _ _ _ _ i _ _ _ _ _ _ cl' isa us hi hln hn hm hsu r, G, H, σ, e, cls, d, y, hs, xr, k => by
    obtain ⟨x1, x2⟩ := xr
    have k' : (match isa y.cls with
      | some true => ∀ a k d, us a k d (V.suite i) (e.set i (.xn a k d y))
      | some false => catchA V cl' y e
      | none => False) := k
    cases q : isa y.cls with
    | none =>
      rw [q] at k'
      exact k'.elim
    | some b =>
      rw [q] at k'
      refine ⟨b, x1 ▸ hm _ _ q, fun hb1 a ha => ?_, fun hb0 => ?_⟩
      · subst hb1
        have st : StR X.K G0 H0 G H (σ.set i (some (.ref a))) (e.set i (.xn a cls d y)) := hs.setX i (fun _ => ⟨rfl, x1, x2⟩) (fun ds z => by cases z)
        refine ⟨G0, H0, G, _, V.suite i, ⟨fun G2 H2 σ2 e2 h2 k2 => hl.nx G2 H2 _ _ (h2.setX (o := none) (sl := .no) i (fun _ => trivial) (fun ds z => by cases z)) k2, hl.rt, fun G2 H2 σ2 e2 h2 k2 => hl.bk G2 H2 _ _ (h2.setX (o := none) (sl := .no) i (fun _ => trivial) (fun ds z => by cases z)) k2,
          fun G2 H2 σ2 e2 h2 k2 => hl.ct G2 H2 _ _ (h2.setX (o := none) (sl := .no) i (fun _ => trivial) (fun ds z => by cases z)) k2, fun _ _ _ _ _ _ _ _ _ z => z.elim, hl.rg⟩, st, k' a cls d⟩
      · subst hb0
        exact ref_catchA hl r G H σ e cls d y hs ⟨x1, x2⟩ k'
theorem vs_tryA {cl : List ClauseA} {l : List (Value × Nat × TsX)} {hd1 : ExceptHandler} {hdr : List ExceptHandler} {body : List Stmt} {pos : Pos} {ub : US} (hs : X.stack = X.env :: X.outer) (hf : X.env.frame = some X.env.locals) (hN : X.N.Nodup) (tk : L2N.Takes X W)
    (hb : ∀ (W' : WX) (pn : List (Addr × Obj)) (xe : Value → Shared → Prop), L2N.Takes (X.tr pn xe) W' → PassesOwn (model X.prog X.w) X.A X.env xe → ∃ t, VSs (X.tr pn xe) W' body t ub) (hh : HdsVA X (hd1 :: hdr) l cl) :
    VS X W (.Try body (hd1 :: hdr) [] [] pos) (fun D σ H => rd X.K (wNmd X.K W D l) ub D σ H) (uTryA cl ub) := by
  refine ⟨ps_try_named (tb := fun W' => rd X.K W' ub) hs hf hN tk (fun W' pn xe t p => ?_) hh.ok, fun G0 H0 D V hl G H σ e hs' hu => ?_⟩
  · obtain ⟨t, h⟩ := hb W' pn xe t p
    exact h.rd
  · exact ⟨G0, H0, G, e, { V with ex := catchA V cl }, ⟨hl.nx, hl.rt, hl.bk, hl.ct, fun G1 H1 σ1 e1 cls d y h1 xr k => ref_catchA hl hh G1 H1 σ1 e1 cls d y h1 xr k, hl.rg⟩, hs', hu⟩
end
end Pv

/-! PwM: changing calls that are lent a slot's own list; an __init__ with tests, rows that stay and an own list last. -/
namespace Pv
open PySem L2 PySem.Spec PyProof.Rows
/-! ### lent lists -/
def Away (x p : Addr) (v : V) : Rs → Prop
  | .bo _ => v ≠ .ref x ∧ v ≠ .ref p
  | .bb _ _ _ _ => False
  | .bg _ _ => False
  | _ => True
def RefAB (K : PySem.W.Frag) (W : WX) (i : Nat) (ta : TA) (xa : XA) : Prop := ∀ (G0 H0 G H : Hp) (σ : L2.St) (e : En) (Q : List V → Hp → Prop) (q : List Rs → Prop) (ex : Xk) (x p : Addr) (c : Str) (pre : Pre) (f : Str) (ds : List PyData), StR K G0 H0 G H σ e → e[i]? = some (.ob x p c pre f ds) → xa e q ex →
  (∀ G' H' vs rs, Same G' H' → Grow G H G' H' → Paired (RsR K H G' H') vs rs → Paired (Away x p) vs rs → q rs → Q vs H') →
  (∀ G' H' cls d y, Same G' H' → Grow G H G' H' → XR K G' H' cls d y → ex y → W cls d σ H') → ta σ H Q
structure VAB (X : Cx) (W : WX) (i : Nat) (es : List Expr) (t : TA) (x : XA) : Prop where
  pa : PA X es t
  rf : RefAB X.K W i t x
section
variable {X : Cx} {W : WX} {K : PySem.W.Frag} {a : Expr} {es : List Expr} {te : TE} {ta : TA} {xa : XE} {xs : XA} {pos : Pos} {i : Nat}
theorem vab_nil : VAB X W i [] tNil xNil := ⟨pa_nil, fun _ _ G H _ _ _ _ _ _ _ _ _ _ _ hs _ hx hq _ => hq G H [] [] hs.sub .refl .nil .nil hx⟩
def xConsS (x : XE) (xs : XA) : XA := fun e q ex => x e (fun r => r.stays = true ∧ xs e (fun rs => q (r :: rs)) ex) ex
theorem vab_cons (h : VE X W a te xa) (hr : VAB X W i es ta xs) (hst : starEach (a :: es) X.env = (false, eval a X.env) :: starEach es X.env := by rfl) : VAB X W i (a :: es) (tCons te ta) (xConsS xa xs) := ⟨pa_cons h.pe hr.pa hst, by
  intro G0 H0 G H σ e Q q ex x p c pre f ds hs hi hx hq hw
  refine h.rf G0 H0 G H σ e _ _ ex hs hx (fun G1 H1 v r1 s1 g1 rr1 k1 => ?_) hw
  refine hr.rf G0 H0 G1 H1 σ e _ _ ex x p c pre f ds (hs.grow g1 s1) hi k1.2 (fun G2 H2 vs rs s2 g2 pr aw k2 => ?_) fun G2 H2 cls d y s2 g2 => hw G2 H2 cls d y s2 (g1.trans g2)
  refine hq G2 H2 _ _ s2 (g1.trans g2) (.cons (rr1.grow g2) (paired_back g1.hh pr)) (.cons ?_ aw) k2
  cases r1 with
  | va d => trivial
  | nw ds => trivial
  | bo ds => cases k1.1
  | bb c pre f ds => cases k1.1
  | bg k0 ds0 => cases k1.1⟩
def xConsV (i j : Nat) (xs : XA) : XA := fun e q ex => match e[j]? with
  | some (.fz d) => xs e (fun rs => q (.va d :: rs)) ex
  | some (.ow ds) => i ≠ j ∧ xs e (fun rs => q (.bo ds :: rs)) ex
  | _ => False
theorem vab_var (j : Nat) {n : Str} {p0 : Pos} (hr : VAB X W i es ta xs) (hN : X.N[j]? = some n := by rfl) (hv : Vis X.env.scope n := by first | exact Or.inl rfl | exact Or.inr (Or.inl rfl) | exact Or.inr (Or.inr rfl)) (hd : (n == ("__debug__" : Str)) = false := by decide) (hcd : (n == ("__classdict__" : Str)) = false := by decide)
    (hst : starEach (.Name n p0 :: es) X.env = (false, eval (.Name n p0) X.env) :: starEach es X.env := by rfl) : VAB X W i (.Name n p0 :: es) (tCons (tVar j) ta) (xConsV i j xs) := ⟨pa_cons (pe_var hN hv hd hcd) hr.pa hst, by
  intro G0 H0 G H σ e Q q ex x p c pre f ds hs hi hx hq hw
  unfold xConsV at hx
  split at hx
  · rename_i d hj
    obtain ⟨v, h1, h2⟩ := hs.sl j _ hj
    refine ⟨v, h1, ?_⟩
    refine hr.rf G0 H0 G H σ e _ _ ex x p c pre f ds hs hi hx (fun G2 H2 vs rs s2 g2 pr aw k2 => ?_) hw
    exact hq G2 H2 (v :: vs) (.va d :: rs) s2 g2 (.cons (Rp.mono g2.gg _ _ h2) pr) (.cons trivial aw) k2
  · rename_i ds' hj
    obtain ⟨hij, hx⟩ := hx
    obtain ⟨p', ys, h1, h2, h3, h4, h5⟩ := hs.sl j _ hj
    refine ⟨_, h1, ?_⟩
    refine hr.rf G0 H0 G H σ e _ _ ex x p c pre f ds hs hi hx (fun G2 H2 vs rs s2 g2 pr aw k2 => ?_) hw
    refine hq G2 H2 (.ref p' :: vs) (.bo ds' :: rs) s2 g2 (.cons ⟨p', ys, rfl, g2.hh _ _ h2, h5.mono g2.gg _ _⟩ pr) (.cons ⟨fun z => ?_, fun z => ?_⟩ aw) k2
    · have e : p' = x := by
        cases z
        rfl
      exact hs.dj i j _ _ p' hij hi hj (.inl e) h1
    · have e : p' = p := by
        cases z
        rfl
      exact hs.dj i j _ _ p' hij hi hj (.inr e) h1
  · exact hx.elim⟩
theorem args_repB {Hs G H : Hp} {x p : Addr} (s : Same G H) : ∀ {vs : List V} {rs : List Rs}, Paired (RsR K Hs G H) vs rs → Paired (Away x p) vs rs →
    ∃ ps bs : List Addr, (∀ q ∈ ps, Hs q = none) ∧ (∀ b ∈ bs, (b ≠ x ∧ b ≠ p) ∧ G b = none ∧ LoA (H b)) ∧ (rs.all Rs.stays = true → bs = []) ∧ RpAll K (exth H G (ps ++ bs)) vs (rs.map Rs.d)
  | _, _, .nil, _ => ⟨[], [], by simp, by simp, fun _ => rfl, .nil⟩
  | v :: vs, r :: rs, .cons h t, .cons ha ta => by
    obtain ⟨ps, bs, h1, h2, h3, h4⟩ := args_repB s t ta
    cases r with
    | va d => exact ⟨ps, bs, h1, h2, fun z => h3 (by simpa [Rs.stays] using z), .cons (Rp.mono (exth_up s) _ _ h) h4⟩
    | nw ds =>
      obtain ⟨q, ys, rfl, k2, k3, k4, k5⟩ := h
      have m : Same (exth H G (ps ++ bs)) (exth H G ((q :: ps) ++ bs)) := exth_mono s fun a ha => List.mem_cons_of_mem _ ha
      refine ⟨q :: ps, bs, fun a hm => ?_, h2, fun z => h3 (by simpa [Rs.stays] using z), .cons (.lst ?_ (k5.mono (exth_up s) _ _)) (h4.mono m _ _)⟩
      · rcases List.mem_cons.mp hm with rfl | hm
        · exact k2
        · exact h1 a hm
      · rw [exth_in (by simp)]
        exact k3
    | bo ds =>
      obtain ⟨q, ys, rfl, k2, k3⟩ := h
      have hne : q ≠ x ∧ q ≠ p := ⟨fun z => ha.1 (by rw [z]), fun z => ha.2 (by rw [z])⟩
      by_cases hp : G q = none
      · have m : Same (exth H G (ps ++ bs)) (exth H G (ps ++ (q :: bs))) := exth_mono s fun a hm => by
          rcases List.mem_append.mp hm with hm | hm
          · exact List.mem_append_left _ hm
          · exact List.mem_append_right _ (List.mem_cons_of_mem _ hm)
        refine ⟨ps, q :: bs, h1, fun b hb => ?_, fun z => by simp [Rs.stays] at z, .cons (.lst ?_ (k3.mono (exth_up s) _ _)) (h4.mono m _ _)⟩
        · rcases List.mem_cons.mp hb with rfl | hb
          · exact ⟨hne, hp, LoA.lst k2⟩
          · exact h2 b hb
        · rw [exth_in (by simp)]
          exact k2
      · have e : G q = some (.lst ys) := by
          cases z : G q with
          | none => exact absurd z hp
          | some o =>
            have e2 := s q o z
            rw [k2] at e2
            exact e2.symm
        exact ⟨ps, bs, h1, h2, fun z => by simp [Rs.stays] at z, .cons (.lst (exth_up s _ _ e) (k3.mono (exth_up s) _ _)) h4⟩
    | bb c pre f ds => exact ha.elim
    | bg k0 ds0 => exact ha.elim
def lfP (pre : Pre) : Bool := pre.all fun z => Pv.lf z.2
def xChgB (i : Nat) (c f : Str) (F : FnM) (xs : XA) : XES := fun e q ex => match e[i]? with
  | some (.ob x p c' pre f' ds) => (c' = c ∧ f' = f) ∧ xs e (fun rs => F pre ds (rs.map Rs.d) (fun pre' ds' d => (rs.all Rs.stays || (Pv.lf d && (lf.lfs ds' && lfP pre'))) = true ∧ ∀ p', q d (e.set i (.ob x p' c pre' f ds'))) (fun _ _ _ => False)) (fun y => ex y e)
  | _ => False
theorem hide_obH {K : PySem.W.Frag} {G H : Hp} {bs : List Addr} {x p : Addr} {c f : Str} {pre : Pre} {ds : List PyData} (hb : ∀ q ∈ bs, LoA (G q)) (h : ObH K G H x p c pre f ds) (l : lf.lfs ds = true) (l2 : lfP pre = true) : ObH K (hide bs G) H x p c pre f ds := by
  obtain ⟨dx, vs, us, k1, k2, k3, k4⟩ := h
  exact ⟨dx, vs, us, k1, fsr_hide hb k2 l2, k3, RpAll.hide hb ds _ l k4⟩
theorem chgB_core {G0 H0 G H G1 H1 : Hp} {σ : L2.St} {e : En} {i : Nat} {x p : Addr} {c f : Str} {pre : Pre} {ds : List PyData} {F : FnM} {ws : List V} {rs : List Rs} {Q : VK} {E : XK} {q : PyData → En → Prop} (hs : StR K G0 H0 G H σ e) (hi : e[i]? = some (.ob x p c pre f ds)) (s1 : Same G1 H1) (g1 : Grow G H G1 H1) (pr : Paired (RsR K H G1 H1) ws rs) (aw : Paired (Away x p) ws rs)
    (k : F pre ds (rs.map Rs.d) (fun pre' ds' d => (rs.all Rs.stays || (Pv.lf d && (lf.lfs ds' && lfP pre'))) = true ∧ ∀ p', q d (e.set i (.ob x p' c pre' f ds'))) (fun _ _ _ => False))
    (hq : ∀ G' H' v d e', StR K G0 H0 G' H' σ e' → Rp K G' v d → q d e' → Q v H') : spC K c f F (.ref x :: ws) H1 Q E := by
  obtain ⟨ps, bs, p1, p2, p3, p4⟩ := args_repB s1 pr aw
  obtain ⟨k0, o0, n0, _⟩ := hs.sl i _ hi
  obtain ⟨_, o, n, _⟩ := (hs.grow g1 s1).sl i _ hi
  have hx : H x ≠ none ∧ H p ≠ none := by
    obtain ⟨dx, vs, us, r1, _, r3, _⟩ := o0
    exact ⟨by rw [r1]; exact Option.some_ne_none _, by rw [r3]; exact Option.some_ne_none _⟩
  have nx : x ∉ ps ++ bs := fun z => by
    rcases List.mem_append.mp z with z | z
    · exact hx.1 (p1 x z)
    · exact (p2 x z).1.1 rfl
  have np : p ∉ ps ++ bs := fun z => by
    rcases List.mem_append.mp z with z | z
    · exact hx.2 (p1 p z)
    · exact (p2 p z).1.2 rfl
  have nin : ∀ (Hh : Hp) y, y ≠ x → y ≠ p → hide [x, p] Hh y = Hh y := fun Hh y h1 h2 => hide_ne (by simp [h1, h2])
  refine ⟨x, p, ws, exth H1 G1 (ps ++ bs), pre, ds, rs.map Rs.d, _, _, rfl, o.grow (exth_up s1) (Same.refl _), ⟨by rw [exth_ne nx]; exact n.1, by rw [exth_ne np]; exact n.2⟩, exth_sub s1, p4, k, fun Gc H2 p' v d pre' ds' s3 g3 o' n' hp r k3 => ?_, fun _ _ _ _ _ _ _ _ _ _ _ _ _ _ z => z.elim⟩
  obtain ⟨kz, k3⟩ := k3
  have bsOf : ∀ q ∈ bs, LoA (Gc q) := fun q hq => by
    obtain ⟨_, _, u, e2, l⟩ := p2 q hq
    refine ⟨u, g3.gg _ _ ?_, l⟩
    rw [exth_in (List.mem_append_right _ hq)]
    exact e2
  have gr : Grow G (hide [x, p] H) (hide bs Gc) H2 := by
    refine ⟨fun a o ea => ?_, fun a o ea => ?_, fun a k1 k2 => ?_⟩
    · have e1 := g1.gg a o ea
      have ha : a ∉ bs := fun z => by
        rw [(p2 a z).2.1] at e1
        cases e1
      rw [hide_ne ha]
      exact g3.gg a o (exth_up s1 a o e1)
    · by_cases hm : a ∈ [x, p]
      · rw [hide_in hm] at ea
        cases ea
      · rw [hide_ne hm] at ea
        refine g3.hh a o ?_
        rw [hide_ne hm]
        exact g1.hh a o ea
    · by_cases ha : a ∈ bs
      · exact hide_in ha
      · rw [hide_ne ha]
        have hm : a ∉ [x, p] := fun z => k2 (hide_in z)
        rw [hide_ne hm] at k2
        have hn : a ∉ ps ++ bs := fun z => by
          rcases List.mem_append.mp z with z | z
          · exact k2 (p1 a z)
          · exact ha z
        refine g3.nn a ?_ ?_
        · rw [exth_ne hn]
          exact g1.nn a k1 k2
        · rw [hide_ne hm]
          exact fun z => k2 (g1.hh.free z)
  have nh : ∀ y, Gc y = none → hide bs Gc y = none := fun y hy => by
    by_cases ha : y ∈ bs
    · exact hide_in ha
    · rw [hide_ne ha]
      exact hy
  have hp' : p' = p ∨ H p' = none := by
    rcases hp with hp | hp
    · exact .inl hp
    · exact .inr (g1.hh.free hp)
  obtain ⟨o2, r2⟩ : ObH K (hide bs Gc) H2 x p' c pre' f ds' ∧ Rp K (hide bs Gc) v d := by
    rcases Bool.or_eq_true_iff.mp kz with c2 | c2
    · obtain rfl := p3 c2
      rw [hide_nil]
      exact ⟨o', r⟩
    · obtain ⟨l1, l2⟩ := Bool.and_eq_true_iff.mp c2
      obtain ⟨l2, l3⟩ := Bool.and_eq_true_iff.mp l2
      exact ⟨hide_obH bsOf o' l2 l3, Rp.hide bsOf d v l1 r (lf_scr l1)⟩
  exact hq _ H2 v d _ (hs.called hi gr (same_hide.trans s3) o2 ⟨nh x n'.1, nh p' n'.2⟩ hp') r2 (k3 p')
def xMChgB (i : Nat) (c f m : Str) (F : FnM) (xs : XA) : XES := fun e q _ => (match e[i]? with
  | some (.ob _ _ _ pre f' _) => (pre.map (·.1) ++ [f']).contains m = false
  | _ => False) ∧ xChgB i c f F xs e q (fun _ _ => False)
theorem lookup_no {m : Str} : ∀ (l : List (Str × V)), (l.map (·.1)).contains m = false → l.lookup m = none
  | [], _ => rfl
  | (n, v) :: l, h => by
    rw [List.map_cons, List.contains_cons, Bool.or_eq_false_iff] at h
    simp only [List.lookup]
    have h1 : (m == n) = false := h.1
    rw [h1]
    exact lookup_no l h.2
theorem ref_chgMB {i : Nat} {c f m : Str} {F : FnM} (hr : RefAB K W i ta xs) : RefES K W (tMeth (He.ga K c) m (spC K c f F) [] (fun _ _ _ => False) (tVar i) ta) (xMChgB i c f m F xs) := by
  intro G0 H0 G H σ e Q q ex hs hx hq hw
  obtain ⟨hm, hx⟩ := hx
  unfold xChgB at hx
  split at hx
  · rename_i x p c' pre f' ds hi
    rw [hi] at hm
    obtain ⟨⟨rfl, rfl⟩, k⟩ := hx
    obtain ⟨k1, ⟨dx, vs, us, k2, k3, k4, k5⟩, _⟩ := hs.sl i _ hi
    refine ⟨_, k1, x, dx, _, rfl, k2, ?_, ?_⟩
    · obtain ⟨e1, _⟩ := fsr_obj k3
      refine lookup_no _ ?_
      rw [List.map_append, ← e1]
      exact hm
    · refine hr G0 H0 G H σ e _ _ _ x p c' pre f' ds hs hi k (fun G1 H1 ws rs s1 g1 pr aw k1 => ?_) fun _ _ _ _ _ _ _ _ z => z.elim
      rw [List.append_nil]
      exact chgB_core hs hi s1 g1 pr aw k1 hq
  · exact hx.elim
theorem ves_methB {CX : CXT} {k : Nat} {fm : Addr} {fd : FuncData} {ps : List Str} {F : FnM} {c f m x : Str} {i : Nat} {p2 apos : Pos} {pl : Sem Bool} (C : Cls X.K (He.ga X.K c)) (hm : Meth X.K (He.ga X.K c) m fm) (Fk : FnOk X.prog X.w X.K X.mg X.base CX k fm fd ps (spC X.K c f F)) (hr : Room k X.A) (hb : Binds X.K fd ps []) (hqu : Quiet CX)
    (ha : VAB X W i (a :: es) ta xs) (hi : X.N[i]? = some x := by rfl) (hv : Vis X.env.scope x := by first | exact Or.inl rfl | exact Or.inr (Or.inl rfl) | exact Or.inr (Or.inr rfl)) (hd : (x == ("__debug__" : Str)) = false := by decide) (hcd : (x == ("__classdict__" : Str)) = false := by decide)
    (hst : starEach (a :: es) X.env = (false, eval a X.env) :: starEach es X.env := by rfl) (hpl : (backTo pos (starEach es X.env)).any (·.1) = false := by rfl)
    (ht : eval (.Call (.Attribute (.Name x p2) m apos) (a :: es) [] pos) X.env = (do
      let ov ← eval (.Name x p2) X.env
      standAt apos.atName
      let (f, first) ← holding [ov] (getMethod ov m pl)
      callWith pos f first (backTo pos (starEach (a :: es) X.env)) (backToKw pos (keywordEach [] X.env))) := by rfl) :
    VES X W (.Call (.Attribute (.Name x p2) m apos) (a :: es) [] pos) (tMeth (He.ga X.K c) m (spC X.K c f F) [] (fun _ _ _ => False) (tVar i) ta) (xMChgB i c f m F xs) :=
  ⟨pe_meth (pe_var (pos := p2) hi hv hd hcd) C hm Fk hr hb .nil (fun _ _ _ _ _ _ _ z => (hqu _ _ _ _ _ z).elim) ha.pa hst hpl ht, ref_chgMB ha.rf⟩
end
/-! ### an __init__ of tests, rows and an own list -/
abbrev FnN := List PyData → (Pre → List PyData → Prop) → Prop
def spIn (K : PySem.W.Frag) (c g : Str) (I : FnN) : Sp := fun vs H Q E => ∃ (x dx : Addr) (ws : List V) (G H0 : Hp) (ds : List PyData) (q : Pre → List PyData → Prop), vs = .ref x :: ws ∧ H x = some (.ins (He.ga K c) dx []) ∧ G x = none ∧ H0 x = none ∧ Same G H ∧ Same H0 H ∧ RpAll K G ws ds ∧ I ds q ∧
  ∀ G' H' p xs es vs' pre, Same G' H' → Grow G H0 G' H' → H' x = some (.ins (He.ga K c) dx (vs' ++ [(g, .ref p)])) → G' x = none → H' p = some (.lst xs) → G' p = none → H0 p = none → FsR K G' vs' pre → RpAll K G' xs es → q pre es → Q .non H'
abbrev XZ := En → (Pre → List PyData → Prop) → Pre → Prop
structure VIz (X : Cx) (c g : Str) (sts : List Stmt) (u : XZ) : Prop where
  run : ∃ t : TS, PSs X sts t ∧ ∀ (G0 H0 : Hp) (D : Ends) (q : Pre → List PyData → Prop) (G H : Hp) (σ : L2.St) (e : En) (x dx : Addr) (fs : List (Str × V)) (gs : Pre), StR X.K G0 H0 G H σ e → (σ[0]? = some (some (.ref x)) ∧ ∀ (i : Nat) (t : Sl), e[i]? = some t → ¬ t.has σ[i]? x) →
    H x = some (.ins (He.ga X.K c) dx fs) → G x = none → H0 x = none → FsR X.K G fs gs → u e q gs →
    (∀ G' H' p xs es vs' pre, Same G' H' → Grow G0 H0 G' H' → H' x = some (.ins (He.ga X.K c) dx (vs' ++ [(g, .ref p)])) → G' x = none → H' p = some (.lst xs) → G' p = none → H0 p = none → FsR X.K G' vs' pre → RpAll X.K G' xs es → q pre es → D.nx σ H') → t D σ H
theorem putF_new {f : Str} {v : V} : ∀ {fs : List (Str × V)}, (fs.map (·.1)).contains f = false → putF f v fs = fs ++ [(f, v)]
  | [], _ => rfl
  | (k, u) :: fs, h => by
    rw [List.map_cons, List.contains_cons, Bool.or_eq_false_iff] at h
    have h1 : ¬ k = f := fun z => by
      have := h.1
      rw [z] at this
      simp at this
    show (if k = f then _ else _) = _
    rw [if_neg h1, putF_new h.2] <;> rfl
section
variable {X : Cx} {a : Expr} {es : List Expr} {te : TE} {ta : TA} {xa : XE} {xs : XA} {pos : Pos} {c g : Str}
def uzOwn (g : Str) (x : XE) : XZ := fun e q gs => x e (fun r => (gs.map (·.1)).contains g = false ∧ gs.length < 900 ∧ ∃ ds, r = .nw ds ∧ q gs ds) (fun _ => False)
theorem viz_own {s : Str} {p p1 p2 : Pos} (C : Cls X.K (He.ga X.K c)) (nf : NoAttr X.K (He.ga X.K c) g) (hv : VE X WX0 a te xa) (hN : X.N[0]? = some s := by rfl)
    (hvi : Vis X.env.scope s := by first | exact Or.inl rfl | exact Or.inr (Or.inl rfl) | exact Or.inr (Or.inr rfl)) (hd : (s == ("__debug__" : Str)) = false := by decide) (hcd : (s == ("__classdict__" : Str)) = false := by decide)
    (hs : swapsWith a (some (.Attribute (.Name s p) g p1)) p2.line X.env = pure false := by rfl) : VIz X c g [.Assign [.Attribute (.Name s p) g p1] a p2] (uzOwn g xa) := by
  refine ⟨⟨_, pss_one (ps_fld (pe_var hN hvi hd hcd) hv.pe hs), ?_⟩⟩
  intro G0 H0 D q G H σ e x dx fs gs st hx0 hx hg h0 hf hu hq
  refine hv.rf G0 H0 G H σ e _ _ _ st hu (fun G1 H1 v r1 s1 g1 rr1 k1 => ?_) (fun _ _ _ _ _ _ _ _ z => z.elim)
  obtain ⟨hno, hlen, ds, rfl, k⟩ := k1
  obtain ⟨p, ys, rfl, h2, h3, h4, h5⟩ := rr1
  have hx1 : H1 x = some (.ins (He.ga X.K c) dx fs) := g1.hh _ _ hx
  have hg1 : G1 x = none := g1.nn x hg (by rw [hx]; exact Option.some_ne_none _)
  have npx : p ≠ x := fun z => by
    subst z
    rw [hx1] at h3
    cases h3
  obtain ⟨e1, _⟩ := fsr_obj hf
  refine ⟨_, hx0.1, x, _, dx, fs, rfl, hx1, C, nf, by have := fsr_len hf; omega, ?_⟩
  have g01 := st.gr.trans g1
  rw [putF_new (by rw [← e1]; exact hno)]
  exact hq G1 _ p ys ds fs gs (same_out s1 hg1) ⟨g01.gg, same_out g01.hh h0, g01.nn⟩ upd_same hg1 (by rw [upd_ne npx]; exact h3) h4 (st.gr.hh.free h2) (hf.mono g1.gg) h5 k
def uzRow (f : Str) (x : XE) (u : XZ) : XZ := fun e q gs => x e (fun rs => (rs.stays = true ∧ (gs.map (·.1)).contains f = false ∧ gs.length < 900) ∧ u e q (gs ++ [(f, rs.d)])) (fun _ => False)
theorem viz_row {f s : Str} {sts : List Stmt} {u : XZ} {p p1 p2 : Pos} (C : Cls X.K (He.ga X.K c)) (nf : NoAttr X.K (He.ga X.K c) f) (hv : VE X WX0 a te xa) (hr : VIz X c g sts u) (hN : X.N[0]? = some s := by rfl)
    (hvi : Vis X.env.scope s := by first | exact Or.inl rfl | exact Or.inr (Or.inl rfl) | exact Or.inr (Or.inr rfl)) (hd : (s == ("__debug__" : Str)) = false := by decide) (hcd : (s == ("__classdict__" : Str)) = false := by decide)
    (hs : swapsWith a (some (.Attribute (.Name s p) f p1)) p2.line X.env = pure false := by rfl) : VIz X c g (.Assign [.Attribute (.Name s p) f p1] a p2 :: sts) (uzRow f xa u) := by
  obtain ⟨t, ht, hrun⟩ := hr.run
  refine ⟨⟨tSeq (sFld X.K (tVar 0) te f) t, pss_cons (ps_fld (pe_var hN hvi hd hcd) hv.pe hs) ht, ?_⟩⟩
  intro G0 H0 D q G H σ e x dx fs gs st hx0 hx hg h0 hf hu hq
  refine hv.rf G0 H0 G H σ e _ _ _ st hu (fun G1 H1 v r1 s1 g1 rr1 k1 => ?_) (fun _ _ _ _ _ _ _ _ z => z.elim)
  obtain ⟨⟨stay, nk, hlen⟩, k⟩ := k1
  have hx1 : H1 x = some (.ins (He.ga X.K c) dx fs) := g1.hh _ _ hx
  have hg1 : G1 x = none := g1.nn x hg (by rw [hx]; exact Option.some_ne_none _)
  obtain ⟨G2, s2, g2, rp, hg2⟩ : ∃ G2, Same G2 H1 ∧ Grow G H G2 H1 ∧ Rp X.K G2 v r1.d ∧ G2 x = none := by
    cases r1 with
    | va d => exact ⟨G1, s1, g1, rr1, hg1⟩
    | nw ds =>
      obtain ⟨G2, s2, sg, g2, rp, n⟩ := rr1.fix (G0 := G0) (H0 := H0) (σ := σ) (e := e) s1 g1 stay
      refine ⟨G2, s2, g2, rp, n x hg1 (by rw [hx1]; exact Option.some_ne_none _) fun z => ?_⟩
      obtain ⟨p, xs', e1, _, e3, _, _⟩ := rr1
      rw [e1] at z
      cases z
      rw [hx1] at e3
      cases e3
    | bo ds => cases stay
    | bb c pre f ds => cases stay
    | bg k0 ds0 => cases stay
  have st1 := st.grow g2 s2
  refine ⟨_, hx0.1, x, _, dx, fs, rfl, hx1, C, nf, by have := fsr_len hf; omega, ?_⟩
  have st2 : StR X.K G0 H0 G2 (upd H1 x (.ins (He.ga X.K c) dx (putF f v fs))) σ e := st1.poke hx1 (fun _ z => by cases z) hg2 h0 hx0.2
  exact hrun G0 H0 D q G2 _ σ e x dx (putF f v fs) (gs ++ [(f, r1.d)]) st2 hx0 upd_same hg2 h0 (fsr_put rp (hf.mono g2.gg) nk) k hq
def uzIf (t : XT) (u : XZ) : XZ := fun e q gs => t e (fun b => b = false ∧ u e q gs) (fun _ => False)
theorem viz_if {test : Expr} {body sts : List Stmt} {tc : TT} {xt : XT} {u : XZ} (ht : VT X WX0 test tc xt) (hr : VIz X c g sts u) : VIz X c g (.If test body [] pos :: sts) (uzIf xt u) := by
  obtain ⟨t, hp, hrun⟩ := hr.run
  refine ⟨⟨tSeq (tIfS tc tNever tNext) t, pss_cons (ps_if ht.pt pss_never pss_nil) hp, ?_⟩⟩
  intro G0 H0 D q G H σ e x dx fs gs st hx0 hx hg h0 hf hu hq
  refine ht.rf G0 H0 G H σ e _ _ _ st hu (fun G1 H1 b s1 g1 k1 => ?_) (fun _ _ _ _ _ _ _ _ z => z.elim)
  obtain ⟨rfl, k⟩ := k1
  exact hrun G0 H0 D q G1 H1 σ e x dx fs gs (st.grow g1 s1) hx0 (g1.hh _ _ hx) (g1.nn x hg (by rw [hx]; exact Option.some_ne_none _)) h0 (hf.mono g1.gg) k hq
end
theorem defZ {P : Program} {w : World} {K : PySem.W.Frag} {mg : Str → Option Value} {base : Heap} {x qual c g : Str} {params : Arguments} {body : List Stmt} {scope : Scope} {dvs : List V} {kws : List (Str × V)} {f : Addr} {fd : FuncData} {CX : CXT} {N ps : List Str} {k : Nat} {I : FnN} {u : XZ}
    (F : FunD K x qual params body scope dvs kws f fd) (S : FnScope N ps scope) (hx : ∀ ds q, I ds q → ds.length + 1 = ps.length) (hu : ∀ ds q, I ds q → u (enI N.length ds) q [])
    (hbody : ∀ (cdv : Value) (A : Around) (outer : List Env) (s : Shared) (H : Hp) (E : XK), Room k (A.deeper (envOfC qual scope s.heap.objs.size f cdv)) → VIz (cxOf CX P w K mg base N qual scope f cdv A outer s H E) c g body u) :
    FnOk P w K mg base CX (k + 1) f fd ps (spIn K c g I) := by
  refine F.ok S (fun vs H Q E h => ?_) fun cdv A outer s H vs Q E hR h => ?_
  · obtain ⟨x, dx, ws, G, H0, ds, q, rfl, _, _, _, _, _, ra, hI, _⟩ := h
    rw [List.length_cons, ra.len]
    exact hx ds q hI
  · obtain ⟨t, ht, hrun⟩ := (hbody cdv A outer s H E hR).run
    obtain ⟨x, dx, ws, G, H0, ds, q, rfl, h1, h2, h3, h4, h5, ra, hI, hq⟩ := h
    refine ⟨t, ht, ?_⟩
    exact hrun G H0 _ q G H _ _ x dx [] [] (StR.startI h4 h5 N ra) ⟨rfl, fun i t hi => enI_has i t hi⟩ h1 h2 h3 .nil (hu ds q hI) fun G' H' p xs es vs' pre e1 e2 e3 e4 e5 e6 e7 e8 e9 k => hq G' H' p xs es vs' pre e1 e2 e3 e4 e5 e6 e7 e8 e9 k
section
variable {X : Cx} {W : WX} {K : PySem.W.Frag} {a : Expr} {es : List Expr} {ta : TA} {xs : XA} {pos : Pos}
/-- x = C(..), what is handed on stays -/
def uMkZ (i : Nat) (c g : Str) (I : FnN) (xs : XA) : US := fun V e => xs e (fun rs => rs.all Rs.stays = true ∧ I (rs.map Rs.d) (fun pre cs => ∀ x p, V.nx (e.set i (.ob x p c pre g cs)))) (fun y => V.ex y e)
theorem ref_mkZ {i : Nat} {c f : Str} {I : FnN} {E : XK} (h : RefA K W ta xs) : RefS K W (tAsg (tMake (He.ga K c) (spIn K c f I) [] E ta) (gName i)) (uMkZ i c f I xs) := by
  intro G0 H0 D V L G H σ e hs hu
  refine h G0 H0 G H σ e _ _ _ hs hu (fun G1 H1 vs rs s1 g1 pr k => ?_) fun G1 H1 cls d z s1 g1 xr k => L.ex G1 H1 σ e cls d z (hs.grow g1 s1) xr k
  obtain ⟨hz, k⟩ := k
  obtain ⟨G2, s2, g2, ra⟩ := fix_args s1 g1 pr hz
  intro x dx hx1 hdx ne
  have hx2 : (upd H1 dx (.own x)) x = none := by rw [upd_ne (Ne.symm ne)]; exact hx1
  have sH : Same H1 (upd (upd H1 dx (.own x)) x (.ins (He.ga K c) dx [])) := (same_new hdx).trans (same_new hx2)
  refine ⟨x, dx, vs, G2, H1, rs.map Rs.d, _, by rw [List.append_nil], upd_same, s2.free hx1, hx1, s2.trans sH, sH, ra, k, fun G3 H3 p ys cs vs' pre s3 g3 e1 e2 e3 e4 e5 e6 e7 k3 => ⟨rfl, ?_⟩⟩
  have st := (hs.grow g2 s2).grow g3 s3
  have hx : H x = none := g1.hh.free hx1
  have hp : H p = none := g1.hh.free e5
  exact L.nx _ _ _ _ (st.setOb i ⟨dx, vs', ys, e1, e6, e3, e7⟩ ⟨e2, e4⟩ ⟨hs.gr.hh.free hx, hs.gr.hh.free hp⟩ fun j t hj => ⟨hs.free (.inl hx) j t hj, hs.free (.inl hp) j t hj⟩) (k3 x p)
theorem vs_mkZ {CX : CXT} {k : Nat} {f : Addr} {fd : FuncData} {ps : List Str} {I : FnN} {c g x : Str} {i : Nat} {p p1 pos1 : Pos} (M : Mk X.K (He.ga X.K c) f) (F : FnOk X.prog X.w X.K X.mg X.base CX k f fd ps (spIn X.K c g I)) (hr : Room (k + 1) X.A) (hg : Gl X c) (hm : X.mg c = some (.ref (He.ga X.K c))) (hb : Binds X.K fd ps []) (hqu : Quiet CX) (hN : X.N.Nodup)
    (ha : VA X W (a :: es) ta xs) (hi : X.N[i]? = some x := by rfl) (hx : Loc X.env.scope x := by first | exact Or.inl rfl | exact Or.inr rfl)
    (hs : swapsWith (.Call (.Name c p) (a :: es) [] pos) (some (.Name x p1)) pos1.line X.env = pure false := by rfl) (hf : X.fn x = true ∨ X.env.scope.names.lookup x = some .local := by first | exact .inl rfl | exact .inr rfl)
    (hdb : (c == ("__debug__" : Str)) = false := by decide) (he : starEach (a :: es) X.env = (false, eval a X.env) :: starEach es X.env := by rfl) (hpl : (backTo pos (starEach es X.env)).any (·.1) = false := by rfl) :
    VS X W (.Assign [.Name x p1] (.Call (.Name c p) (a :: es) [] pos) pos1) (tAsg (tMake (He.ga X.K c) (spIn X.K c g I) [] (fun _ _ _ => False) ta) (gName i)) (uMkZ i c g I xs) :=
  ⟨ps_set hN hi hx (pe_make M F hr hg hm hb .nil (fun _ _ _ _ _ _ _ z => (hqu _ _ _ _ _ z).elim) ha.pa hdb he hpl) hs hf, ref_mkZ ha.rf⟩
end
end Pv

/-! PwN: a changing def's call on an object that is made for it: g(C(..)). -/
namespace Pv
open PySem L2 PySem.Spec PyProof.Rows
section
variable {X : Cx} {W : WX} {K : PySem.W.Frag} {a : Expr} {es : List Expr} {ta : TA} {xs : XA} {pos pos' : Pos}
def xFrC (c f : Str) (I : FnO) (F : FnM) (xs : XA) : XE := fun e q ex => xs e (fun rs => I (rs.map Rs.d) (fun cs => (rs.all Rs.stays || lf.lfs cs) = true ∧ F [] cs [] (fun _ _ d => q (.va d)) (fun _ _ y => ex y))) ex
theorem ref_frC {c f : Str} {I : FnO} {F : FnM} {E : XK} (h : RefA K W ta xs) : RefE K W (tCallSD (spC K c f F) [] (fun σ cls d H => W cls d σ H) (tCons (tMake (He.ga K c) (spIo K c f I) [] E ta) tNil)) (xFrC c f I F xs) := by
  intro G0 H0 G H σ e Q q ex hs hx hq hw
  refine h G0 H0 G H σ e _ _ ex hs hx (fun G1 H1 vs rs s1 g1 pr k => ?_) hw
  obtain ⟨ps, bs, p1, p2, p3, p4⟩ := args_rep s1 pr
  intro x dx hx1 hdx ne
  have hx2 : (upd H1 dx (.own x)) x = none := by rw [upd_ne (Ne.symm ne)]; exact hx1
  have sH : Same H1 (upd (upd H1 dx (.own x)) x (.ins (He.ga K c) dx [])) := (same_new hdx).trans (same_new hx2)
  refine ⟨x, dx, vs, exth H1 G1 (ps ++ bs), H1, rs.map Rs.d, _, by rw [List.append_nil], upd_same, (exth_sub s1).free hx1, hx1, (exth_sub s1).trans sH, sH, p4, k, fun G3 H3 p ys cs s3 g3 e1 e2 e3 e4 e5 e6 k3 => ⟨rfl, ?_⟩⟩
  obtain ⟨kz, k3⟩ := k3
  have bsOf : ∀ q ∈ bs, LoA (G3 q) := fun q hq => by
    obtain ⟨_, u, e2, l⟩ := p2 q hq
    refine ⟨u, g3.gg _ _ ?_, l⟩
    rw [exth_in (List.mem_append_right _ hq)]
    exact e2
  have sub : Same (hide bs G3) H3 := same_hide.trans s3
  have gr : Grow G H (hide bs G3) H3 := ⟨fun a o ea => by
      have e1 := g1.gg a o ea
      have ha : a ∉ bs := fun z => by
        rw [(p2 a z).1] at e1
        cases e1
      rw [hide_ne ha]
      exact g3.gg a o (exth_up s1 a o e1), g1.hh.trans g3.hh, fun a k1 k2 => by
      by_cases ha : a ∈ bs
      · exact hide_in ha
      · rw [hide_ne ha]
        have hp : a ∉ ps := fun z => k2 (p1 a z)
        have hn : a ∉ ps ++ bs := fun z => by
          rcases List.mem_append.mp z with z | z
          · exact hp z
          · exact ha z
        refine g3.nn a ?_ fun z => k2 (g1.hh.free z)
        rw [exth_ne hn]
        exact g1.nn a k1 k2⟩
  have ra : RpAll K (hide bs G3) ys cs := by
    rcases Bool.or_eq_true_iff.mp kz with c2 | c2
    · obtain rfl := p3 c2
      rw [hide_nil]
      exact e6
    · exact RpAll.hide bsOf cs _ c2 e6
  have nx : hide bs G3 x = none := by
    by_cases ha : x ∈ bs
    · exact hide_in ha
    · rw [hide_ne ha]
      exact e2
  have np : hide bs G3 p = none := by
    by_cases ha : p ∈ bs
    · exact hide_in ha
    · rw [hide_ne ha]
      exact e4
  have hxH : H x = none := g1.hh.free hx1
  have hpH : H p = none := g1.hh.free e5
  have grow : ∀ {G' H'}, Grow (hide bs G3) (hide [x, p] H3) G' H' → Grow G H G' H' := fun {G' H'} g => ⟨gr.gg.trans g.gg, fun y u hy => by
      refine g.hh y u ?_
      rw [hide_ne (by simp; exact ⟨fun z => (by rw [z, hxH] at hy; cases hy), fun z => (by rw [z, hpH] at hy; cases hy)⟩)]
      exact gr.hh y u hy, fun y k1 k2 => by
      refine g.nn y (gr.nn y k1 k2) ?_
      rw [hide_ne (by simp; exact ⟨fun z => k2 (by rw [z]; exact hxH), fun z => k2 (by rw [z]; exact hpH)⟩)]
      exact fun z => k2 (gr.hh.free z)⟩
  show spC K c f F ([V.ref x] ++ []) H3 Q (fun cls d H => W cls d σ H)
  refine ⟨x, p, [], hide bs G3, [], cs, [], _, _, rfl, ⟨dx, [], ys, e1, .nil, e3, ra⟩, ⟨nx, np⟩, sub, .nil, k3, fun G' H' p' v d pre' ds' s3 g3 o' n' hp r k4 => ?_, fun G' H' p' cls d y pre' ds' s3 g3 o' n' hp xr k4 => ?_⟩
  · exact hq G' H' v (.va d) s3 (grow g3) r k4
  · exact hw G' H' cls d y s3 (grow g3) xr k4
theorem ve_frC {CX CX' : CXT} {k k' : Nat} {f fa : Addr} {fd fd' : FuncData} {ps ps' : List Str} {I : FnO} {F : FnM} {c g x : Str} {p p2 : Pos} (M : Mk X.K (He.ga X.K c) f) (Fi : FnOk X.prog X.w X.K X.mg X.base CX k f fd ps (spIo X.K c g I)) (hr : Room (k + 1) X.A) (hg : Gl X c) (hm : X.mg c = some (.ref (He.ga X.K c))) (hb : Binds X.K fd ps []) (hqu : Quiet CX)
    (Fk : FnOk X.prog X.w X.K X.mg X.base CX' k' fa fd' ps' (spC X.K c g F)) (hr' : Room k' X.A) (hg' : Gl X x) (hm' : X.mg x = some (.ref fa)) (hk' : PySem.W.keepIn X.K (.ref fa) = true) (hb' : Binds X.K fd' ps' []) (hx : ∀ σ, PassesAt CX' X σ (fun cls d H => W cls d σ H))
    (ha : VA X W (a :: es) ta xs) (hdb : (c == ("__debug__" : Str)) = false := by decide) (he : starEach (a :: es) X.env = (false, eval a X.env) :: starEach es X.env := by rfl) (hpl : (backTo pos (starEach es X.env)).any (·.1) = false := by rfl)
    (hdb' : (x == ("__debug__" : Str)) = false := by decide) (he' : starEach [.Call (.Name c p) (a :: es) [] pos] X.env = (false, eval (.Call (.Name c p) (a :: es) [] pos) X.env) :: starEach [] X.env := by rfl) (hpl' : (backTo pos' (starEach [] X.env)).any (·.1) = false := by rfl) :
    VE X W (.Call (.Name x p2) [.Call (.Name c p) (a :: es) [] pos] [] pos') (tCallSD (spC X.K c g F) [] (fun σ cls d H => W cls d σ H) (tCons (tMake (He.ga X.K c) (spIo X.K c g I) [] (fun _ _ _ => False) ta) tNil)) (xFrC c g I F xs) :=
  ⟨pe_callSD (E := fun σ cls d H => W cls d σ H) Fk hr' hg' hm' hk' hb' .nil hx (pa_cons (pe_make M Fi hr hg hm hb .nil (fun _ _ _ _ _ _ _ z => (hqu _ _ _ _ _ z).elim) ha.pa hdb he hpl) pa_nil he') hdb' he' hpl', ref_frC ha.rf⟩
end
end Pv

/-! PwO: things that a slot holds whole: lists, tuples and objects that hold own lists. -/
namespace Pv
open PySem L2 PySem.Spec PyProof.Rows
inductive Kd where
  | li (p : Addr)
  | tu
  | ob (x : Addr) (c : Str) (ns : List Str)
inductive OT where
  | d (d : PyData)
  | nd (k : Kd) (ts : List OT)
def Kd.fp : Kd → List Addr
  | .li p => [p]
  | .tu => []
  | .ob x _ _ => [x]
mutual
def OT.fp : OT → List Addr
  | .d _ => []
  | .nd k ts => k.fp ++ OT.fps ts
def OT.fps : List OT → List Addr
  | [] => []
  | t :: ts => t.fp ++ OT.fps ts
end
theorem fps_app : ∀ (as bs : List OT), OT.fps (as ++ bs) = OT.fps as ++ OT.fps bs
  | [], bs => rfl
  | a :: as, bs => by
    rw [List.cons_append, OT.fps, OT.fps, fps_app as bs, List.append_assoc]
theorem fps_d : ∀ ds : List PyData, OT.fps (ds.map .d) = []
  | [] => rfl
  | d :: ds => by
    rw [List.map_cons, OT.fps, OT.fp, fps_d ds] <;> rfl
/-- what is so of a node's head -/
def Hd (K : PySem.W.Frag) (H : Hp) (v : V) : Kd → List V → Prop
  | .li p, vs => v = .ref p ∧ H p = some (.lst vs)
  | .tu, vs => ∃ a, v = .ref a ∧ H a = some (.tup vs)
  | .ob x c ns, vs => v = .ref x ∧ ∃ dx fs, H x = some (.ins (He.ga K c) dx fs) ∧ fs.map (·.1) = ns ∧ fs.map (·.2) = vs
theorem Hd.up {K : PySem.W.Frag} {H H' : Hp} {v : V} {vs : List V} : ∀ {k : Kd}, Hd K H v k vs → (∀ x u, H x = some u → (x ∈ k.fp ∨ ∃ xs, u = .tup xs) → H' x = some u) → Hd K H' v k vs
  | .li p, ⟨h1, h2⟩, g => ⟨h1, g _ _ h2 (.inl (List.mem_singleton.mpr rfl))⟩
  | .tu, ⟨a, h1, h2⟩, g => ⟨a, h1, g _ _ h2 (.inr ⟨_, rfl⟩)⟩
  | .ob x c ns, ⟨h1, dx, fs, h2, h3⟩, g => ⟨h1, dx, fs, g _ _ h2 (.inl (List.mem_singleton.mpr rfl)), h3⟩
mutual
inductive RO (K : PySem.W.Frag) (G H : Hp) : V → OT → Prop
  | d {v : V} {d : PyData} : Rp K G v d → RO K G H v (.d d)
  | nd {v : V} {k : Kd} {vs : List V} {ts : List OT} : Hd K H v k vs → ROs K G H vs ts → RO K G H v (.nd k ts)
inductive ROs (K : PySem.W.Frag) (G H : Hp) : List V → List OT → Prop
  | nil : ROs K G H [] []
  | cons {v : V} {vs : List V} {t : OT} {ts : List OT} : RO K G H v t → ROs K G H vs ts → ROs K G H (v :: vs) (t :: ts)
end
section
variable {K : PySem.W.Frag} {G H G' H' : Hp}
mutual
theorem RO.up (s : Same G G') : ∀ (t : OT) (v : V), RO K G H v t → (∀ x u, H x = some u → (x ∈ t.fp ∨ ∃ xs, u = .tup xs) → H' x = some u) → RO K G' H' v t
  | .d d, v, h, g => by
    cases h with
    | d h => exact .d (Rp.mono s _ _ h)
  | .nd k ts, v, h, g => by
    cases h with
    | nd h1 h2 =>
      refine .nd (h1.up fun x u hx hz => g x u hx (hz.imp (fun z => ?_) id)) (ROs.up s ts _ h2 fun x u hx hz => g x u hx (hz.imp (fun z => ?_) id))
      · rw [OT.fp]
        exact List.mem_append_left _ z
      · rw [OT.fp]
        exact List.mem_append_right _ z
theorem ROs.up (s : Same G G') : ∀ (ts : List OT) (vs : List V), ROs K G H vs ts → (∀ x u, H x = some u → (x ∈ OT.fps ts ∨ ∃ xs, u = .tup xs) → H' x = some u) → ROs K G' H' vs ts
  | [], vs, h, g => by
    cases h
    exact .nil
  | t :: ts, vs, h, g => by
    cases h with
    | cons h1 h2 =>
      refine .cons (RO.up s t _ h1 fun x u hx hz => g x u hx (hz.imp (fun z => ?_) id)) (ROs.up s ts _ h2 fun x u hx hz => g x u hx (hz.imp (fun z => ?_) id))
      · rw [OT.fps]
        exact List.mem_append_left _ z
      · rw [OT.fps]
        exact List.mem_append_right _ z
end
mutual
theorem RO.lo : ∀ (t : OT) (v : V), RO K G H v t → ∀ x ∈ t.fp, LoA (H x)
  | .d d, v, h, x, hx => by
    rw [OT.fp] at hx
    cases hx
  | .nd k ts, v, h, x, hx => by
    cases h with
    | nd h1 h2 =>
      rw [OT.fp] at hx
      rcases List.mem_append.mp hx with hx | hx
      · cases k with
        | li p =>
          rw [List.mem_singleton.mp hx]
          exact LoA.lst h1.2
        | tu => cases hx
        | ob y c ns =>
          rw [List.mem_singleton.mp hx]
          obtain ⟨_, dx, fs, h3, _⟩ := h1
          exact LoA.ins h3
      · exact ROs.lo ts _ h2 x hx
theorem ROs.lo : ∀ (ts : List OT) (vs : List V), ROs K G H vs ts → ∀ x ∈ OT.fps ts, LoA (H x)
  | [], vs, h, x, hx => by
    rw [OT.fps] at hx
    cases hx
  | t :: ts, vs, h, x, hx => by
    cases h with
    | cons h1 h2 =>
      rw [OT.fps] at hx
      rcases List.mem_append.mp hx with hx | hx
      · exact RO.lo t _ h1 x hx
      · exact ROs.lo ts _ h2 x hx
end
theorem ROs.app : ∀ {vs ws : List V} {ts us : List OT}, ROs K G H vs ts → ROs K G H ws us → ROs K G H (vs ++ ws) (ts ++ us)
  | _, _, _, _, .nil, h => h
  | _, _, _, _, .cons h1 h2, h => .cons h1 (h2.app h)
theorem ROs.len : ∀ {vs : List V} {ts : List OT}, ROs K G H vs ts → vs.length = ts.length
  | _, _, .nil => rfl
  | _, _, .cons h1 h2 => by rw [List.length_cons, List.length_cons, h2.len]
theorem ROs.of : ∀ {vs : List V} {ds : List PyData}, RpAll K G vs ds → ROs K G H vs (ds.map .d)
  | _, _, .nil => .nil
  | _, _, .cons h t => .cons (.d h) (ROs.of t)
theorem ROs.rp : ∀ {vs : List V} {ds : List PyData}, ROs K G H vs (ds.map .d) → RpAll K G vs ds
  | _, [], h => by
    cases h
    exact .nil
  | _, d :: ds, h => by
    cases h with
    | cons h1 h2 =>
      cases h1 with
      | d h1 => exact .cons h1 (ROs.rp h2)
theorem ROs.get : ∀ {vs : List V} {ts : List OT} {i : Nat} {t : OT}, ROs K G H vs ts → ts[i]? = some t → ∃ v, vs[i]? = some v ∧ RO K G H v t
  | _, _, _, _, .nil, e => by simp at e
  | _, _, 0, _, .cons h _, e => by simp at e; subst e; exact ⟨_, rfl, h⟩
  | _, _, i + 1, _, .cons _ h, e => by
    obtain ⟨v, h1, h2⟩ := h.get (i := i) (by simpa using e)
    exact ⟨v, by simpa using h1, h2⟩
end
/-- a thing held whole -/
def otS (t : OT) : GS where
  fp := t.fp
  ok := fun K G H v => RO K G H v t ∧ t.fp.Nodup
  up := fun h s g => ⟨RO.up s t _ h.1 g, h.2⟩
  lo := fun h x hx => (RO.lo t _ h.1 x hx).ne
/-- another name of a list in such a thing -/
def alS (p : Addr) : GS where
  fp := []
  ok := fun _ _ _ v => v = .ref p
  up := fun h _ _ => h
  lo := fun _ x hx => by cases hx
def OT.at : OT → List Nat → Option OT
  | t, [] => some t
  | .nd _ ts, i :: π => match ts[i]? with
    | some c => c.at π
    | none => none
  | .d _, _ :: _ => none
def OT.put : OT → List Nat → OT → OT
  | _, [], u => u
  | .nd k ts, i :: π, u => .nd k (match ts[i]? with
    | some c => ts.set i (c.put π u)
    | none => ts)
  | .d x, _ :: _, _ => .d x
theorem split_at {α : Type} : ∀ {ts : List α} {i : Nat} {c : α}, ts[i]? = some c → ∃ as bs, ts = as ++ c :: bs ∧ as.length = i ∧ ∀ d, ts.set i d = as ++ d :: bs
  | [], _, _, h => by simp at h
  | t :: ts, 0, c, h => by
    simp at h
    subst h
    exact ⟨[], ts, rfl, rfl, fun d => rfl⟩
  | t :: ts, i + 1, c, h => by
    obtain ⟨as, bs, h1, h2, h3⟩ := split_at (ts := ts) (i := i) (c := c) (by simpa using h)
    exact ⟨t :: as, bs, by rw [h1] <;> rfl, by rw [List.length_cons, h2], fun d => by rw [List.set_cons_succ, h3] <;> rfl⟩
theorem ROs.mid {K : PySem.W.Frag} {G H : Hp} : ∀ {as bs : List OT} {c : OT} {vs : List V}, ROs K G H vs (as ++ c :: bs) → ∃ us w ws, vs = us ++ w :: ws ∧ ROs K G H us as ∧ RO K G H w c ∧ ROs K G H ws bs
  | [], bs, c, _, .cons h t => ⟨[], _, _, rfl, .nil, h, t⟩
  | a :: as, bs, c, _, .cons h t => by
    obtain ⟨us, w, ws, h1, h2, h3, h4⟩ := ROs.mid (as := as) t
    exact ⟨_ :: us, w, ws, by rw [h1] <;> rfl, .cons h h2, h3, h4⟩
/-- a part of a thing, and the thing with another one in its place -/
theorem OT.split : ∀ (π : List Nat) (t u : OT), t.at π = some u → ∃ L, t.fp.Perm (L ++ u.fp) ∧ (∀ u', (t.put π u').fp.Perm (L ++ u'.fp)) ∧ ∀ {K : PySem.W.Frag} {G H : Hp} {v : V}, RO K G H v t → ∃ w, RO K G H w u ∧
    ∀ G' H' u', RO K G' H' w u' → Same G G' → (∀ x o, H x = some o → (x ∈ L ∨ ∃ xs, o = .tup xs) → H' x = some o) → RO K G' H' v (t.put π u')
  | [], t, u, h => by
    rw [OT.at] at h
    cases h
    exact ⟨[], .refl _, fun u' => by rw [OT.put]; exact .refl _, fun {K G H v} hr => ⟨v, hr, fun G' H' u' hu' _ _ => by rw [OT.put]; exact hu'⟩⟩
  | i :: π, .d _, u, h => by cases h
  | i :: π, .nd k ts, u, h => by
    rw [OT.at] at h
    cases hc : ts[i]? with
    | none =>
      rw [hc] at h
      cases h
    | some c =>
      rw [hc] at h
      obtain ⟨L, p1, p2, run⟩ := OT.split π c u h
      obtain ⟨as, bs, e1, e2, e3⟩ := split_at hc
      have ep : ∀ u', OT.put (.nd k ts) (i :: π) u' = .nd k (as ++ c.put π u' :: bs) := fun u' => by
        rw [OT.put, hc]
        show OT.nd k (ts.set i (c.put π u')) = _
        rw [e3]
      have pf : ∀ (x : OT) (M : List Addr), x.fp.Perm (L ++ M) → (OT.fp (.nd k (as ++ x :: bs))).Perm ((k.fp ++ OT.fps as ++ OT.fps bs ++ L) ++ M) := fun x M hp => by
        rw [OT.fp, fps_app, OT.fps]
        have q1 : (x.fp ++ OT.fps bs).Perm (OT.fps bs ++ (L ++ M)) := (List.perm_append_comm).trans (hp.append_left _)
        have q2 := (q1.append_left (OT.fps as)).append_left k.fp
        refine q2.trans ?_
        rw [← List.append_assoc, ← List.append_assoc, ← List.append_assoc]
      refine ⟨k.fp ++ OT.fps as ++ OT.fps bs ++ L, ?_, fun u' => ?_, fun {K G H v} hr => ?_⟩
      · rw [e1]
        exact pf c u.fp p1
      · rw [ep]
        exact pf _ _ (p2 u')
      · cases hr with
        | nd h1 h2 =>
          rw [e1] at h2
          obtain ⟨us, w, ws, rfl, k1, k2, k3⟩ := h2.mid
          obtain ⟨w', r1, r2⟩ := run k2
          refine ⟨w', r1, fun G' H' u' hu' s g => ?_⟩
          rw [ep]
          have gg : ∀ {M : List Addr}, (∀ x ∈ M, x ∈ k.fp ++ OT.fps as ++ OT.fps bs ++ L) → ∀ x o, H x = some o → (x ∈ M ∨ ∃ xs, o = .tup xs) → H' x = some o := fun hm x o hx hz => g x o hx (hz.imp (hm x) id)
          refine .nd (h1.up (gg fun x hx => ?_)) ((ROs.up s as _ k1 (gg fun x hx => ?_)).app (.cons (r2 G' H' u' hu' s (gg fun x hx => ?_)) (ROs.up s bs _ k3 (gg fun x hx => ?_))))
          · exact List.mem_append_left _ (List.mem_append_left _ (List.mem_append_left _ hx))
          · exact List.mem_append_left _ (List.mem_append_left _ (List.mem_append_right _ hx))
          · exact List.mem_append_right _ hx
          · exact List.mem_append_left _ (List.mem_append_right _ hx)
section
variable {K : PySem.W.Frag} {G0 H0 G H : Hp} {σ : L2.St} {e : En}
theorem StR.setG (hs : StR K G0 H0 G H σ e) (i : Nat) {v : V} {w : GS} (h : AsnG K H0 G H σ e v w) : StR K G0 H0 G H (σ.set i (some v)) (e.set i (.gn w)) where
  sub := hs.sub
  gr := hs.gr
  len := by rw [List.length_set, List.length_set, hs.len]
  sl := fun j s hj => by
    rw [set_get] at hj
    rw [set_get, ← hs.len]
    by_cases hc : i = j ∧ i < e.length
    · rw [if_pos hc] at hj ⊢
      cases hj
      exact ⟨v, rfl, h.ok, h.nn⟩
    · rw [if_neg hc] at hj ⊢
      exact hs.sl j s hj
  dj := hs.dj.set hs.len i _ _ fun x hx j t hj => h.fr x hx j t hj
/-- a list in a thing that slot i holds is changed -/
theorem StR.writeT (hs : StR K G0 H0 G H σ e) {i : Nat} {t t' : OT} {v : V} {p : Addr} {ys xs : List V} (hi : e[i]? = some (.gn (otS t))) (hv : σ[i]? = some (some v)) (hp : p ∈ t.fp) (hH : H p = some (.lst ys)) (h : RO K G (upd H p (.lst xs)) v t') (hn : t'.fp.Nodup)
    (hf : ∀ x ∈ t'.fp, x ∈ t.fp ∨ ((G x = none ∧ H0 x = none) ∧ ∀ (j : Nat) (s : Sl), e[j]? = some s → ¬ s.has σ[j]? x)) : StR K G0 H0 G (upd H p (.lst xs)) σ (e.set i (.gn (otS t'))) := by
  obtain ⟨v0, k1, ⟨k2, k3⟩, k4⟩ := hs.sl i _ hi
  rw [hv] at k1
  cases k1
  obtain ⟨gp, h0p⟩ := k4 p hp
  have nn : ∀ x ∈ t'.fp, G x = none ∧ H0 x = none := fun x hx => by
    rcases hf x hx with z | z
    · exact k4 x z
    · exact z.1
  refine ⟨same_out hs.sub gp, ⟨hs.gr.gg, same_out hs.gr.hh h0p, hs.gr.nn⟩, by rw [List.length_set, hs.len], fun j s hj => ?_, ?_⟩
  · rw [set_get] at hj
    by_cases hc : i = j ∧ i < e.length
    · rw [if_pos hc] at hj
      cases hj
      rw [← hc.1, hv]
      exact ⟨v, rfl, ⟨h, hn⟩, nn⟩
    · rw [if_neg hc] at hj
      have hij : i ≠ j := fun z => hc ⟨z, (List.getElem?_eq_some_iff.mp hi).1⟩
      exact (hs.sl j s hj).away _ (fun z => hs.dj i j _ _ p hij hi hj hp z) (fun zs z => by rw [hH] at z; cases z) h0p
  · have same : ∀ (o : Option V), (σ.set i (some v)) = σ → True := fun _ _ => trivial
    have es : σ.set i (some v) = σ := by
      apply List.ext_getElem?
      intro j
      rw [set_get]
      by_cases hc : i = j ∧ i < σ.length
      · rw [if_pos hc, ← hc.1, hv]
      · rw [if_neg hc]
    intro a b s s' x hab ha hb h1 h2
    rw [set_get] at ha hb
    by_cases c1 : i = a ∧ i < e.length
    · rw [if_pos c1] at ha
      rw [if_neg (fun z => hab (c1.1.symm.trans z.1))] at hb
      cases ha
      rcases hf x h1 with z | z
      · exact hs.dj i b _ _ x (fun y => hab (c1.1.symm.trans y)) hi hb z h2
      · exact z.2 b s' hb h2
    · rw [if_neg c1] at ha
      by_cases c2 : i = b ∧ i < e.length
      · rw [if_pos c2] at hb
        cases hb
        rcases hf x h2 with z | z
        · exact hs.dj i a _ _ x (fun y => hab (y.symm.trans c2.1 |>.symm ▸ rfl)) hi ha z h1
        · exact z.2 a s ha h1
      · rw [if_neg c2] at hb
        exact hs.dj a b s s' x hab ha hb h1 h2
end
end Pv

/-! PwP: defs that hand out a thing whole; reading it; x[n].append(e). -/
namespace Pv
open PySem L2 PySem.Spec PyProof.Rows
abbrev FnG := List PyData → (OT → Prop) → Xk → Prop
def spG (K : PySem.W.Frag) (F : FnG) : Sp := fun vs H Q E => ∃ (G : Hp) (ds : List PyData) (q : OT → Prop) (ex : Xk), Same G H ∧ RpAll K G vs ds ∧ F ds q ex ∧
  (∀ G' H' v t, Same G' H' → Grow G H G' H' → RO K G' H' v t → t.fp.Nodup → (∀ x ∈ t.fp, H x = none ∧ G' x = none) → q t → Q v H') ∧ (∀ G' H' cls d y, Same G' H' → Grow G H G' H' → XR K G' H' cls d y → ex y → E cls d H')
def enVG (q : OT → Prop) (ex : Xk) : EnV := ⟨fun _ => False, fun _ _ => False, fun _ => False, fun _ => False, fun y _ => ex y, fun w _ => ∃ t, w = otS t ∧ q t⟩
section
variable {P : Program} {w : World} {K : PySem.W.Frag} {mg : Str → Option Value} {base : Heap} {x qual : Str} {params : Arguments} {body : List Stmt} {scope : Scope} {dvs : List V} {kws : List (Str × V)} {f : Addr} {fd : FuncData} {CX : CXT}
theorem spG_body {N : List Str} {Fs : FnG} {u : US} {W : WX} {t : TS} {vs : List V} {H : Hp} {Q : VK} {E : XK} (hW : ∀ cls d σ H, E cls d H → W cls d σ H) (h : RefS K W t u) (hu : ∀ ds q ex, Fs ds q ex → u (enVG q ex) (en0 N.length ds)) (hs : spG K Fs vs H Q E) :
    t { nx := fun _ H' => Q .non H', rt := Q } (start N vs) H := by
  obtain ⟨G, ds, q, ex, sub, ra, hF, hq, hex⟩ := hs
  exact h G H _ (enVG q ex) ⟨fun _ _ _ _ _ k => k.elim, fun _ _ _ _ _ _ _ _ k => k.elim, fun _ _ _ _ _ k => k.elim, fun _ _ _ _ _ k => k.elim, fun G' H' σ e cls d y hs xr k => hW _ _ _ _ (hex G' H' cls d y hs.sub hs.gr xr k),
    fun G' H' σ e v w st asn k => by
      obtain ⟨t, rfl, k⟩ := k
      exact hq G' H' v t st.sub st.gr asn.ok.1 asn.ok.2 (fun x hx => ⟨(asn.nn x hx).2, (asn.nn x hx).1⟩) k⟩ G H _ _ (StR.start G H sub N ra) (hu ds q ex hF)
theorem defG0 {N ps : List Str} {k : Nat} {Fs : FnG} {u : US} (F : FunD K x qual params body scope dvs kws f fd) (S : FnScope N ps scope) (hx : ∀ ds q ex, Fs ds q ex → ds.length = ps.length) (hu : ∀ ds q ex, Fs ds q ex → u (enVG q ex) (en0 N.length ds))
    (hbody : ∀ (cdv : Value) (A : Around) (outer : List Env) (s : Shared) (H : Hp) (E : XK), Room k (A.deeper (envOfC qual scope s.heap.objs.size f cdv)) → ∃ t, VSs (cxOf CX P w K mg base N qual scope f cdv A outer s H E).nox WX0 body t u)
    (hne : ∀ ds q ex ex', Fs ds q ex → Fs ds q ex') : FnOk P w K mg base CX (k + 1) f fd ps (spG K Fs) := by
  refine F.ok S (fun vs H Q E h => ?_) fun cdv A outer s H vs Q E hr h => ?_
  · obtain ⟨G, ds, q, ex, sub, ra, hF, _⟩ := h
    rw [ra.len]
    exact hx ds q ex hF
  · obtain ⟨t, h1⟩ := hbody cdv A outer s H E hr
    refine ⟨t, PSs.nox h1.ps, ?_⟩
    obtain ⟨G, ds, q, ex, sub, ra, hF, hq, _⟩ := h
    exact spG_body (E := fun _ _ _ => False) (fun _ _ _ _ z => z.elim) h1.rf hu ⟨G, ds, q, fun _ => False, sub, ra, hne ds q ex _ hF, hq, fun _ _ _ _ _ _ _ _ z => z.elim⟩
theorem defGE {N ps : List Str} {k : Nat} {Fs : FnG} {u : US} (F : FunD K x qual params body scope dvs kws f fd) (S : FnScope N ps scope) (hx : ∀ ds q ex, Fs ds q ex → ds.length = ps.length) (hu : ∀ ds q ex, Fs ds q ex → u (enVG q ex) (en0 N.length ds))
    (hbody : ∀ (cdv : Value) (A : Around) (outer : List Env) (s : Shared) (H : Hp) (E : XK), Room k (A.deeper (envOfC qual scope s.heap.objs.size f cdv)) → ∃ t, VSs (cxOf CX P w K mg base N qual scope f cdv A outer s H E) (wOut E) body t u) :
    FnOk P w K mg base CX (k + 1) f fd ps (spG K Fs) := by
  refine F.ok S (fun vs H Q E h => ?_) fun cdv A outer s H vs Q E hr h => ?_
  · obtain ⟨G, ds, q, ex, sub, ra, hF, _⟩ := h
    rw [ra.len]
    exact hx ds q ex hF
  · obtain ⟨t, h1⟩ := hbody cdv A outer s H E hr
    exact ⟨t, h1.ps, spG_body (E := E) (fun _ _ _ _ z => z) h1.rf hu h⟩
end
section
variable {X : Cx} {W : WX} {K : PySem.W.Frag} {a b : Expr} {es : List Expr} {te tb : TE} {ta : TA} {xa xb : XE} {xs : XA} {pos : Pos}
/-- x = g(..) -/
def uAsgG (i : Nat) (F : FnG) (xs : XA) : US := fun V e => xs e (fun rs => rs.all Rs.stays = true ∧ F (rs.map Rs.d) (fun t => V.nx (e.set i (.gn (otS t)))) (fun y => V.ex y e)) (fun y => V.ex y e)
theorem ref_asgG {i : Nat} {F : FnG} (hr : RefA K W ta xs) : RefS K W (tAsg (tCallSD (spG K F) [] (fun σ cls d H => W cls d σ H) ta) (gName i)) (uAsgG i F xs) := by
  intro G0 H0 D V L G H σ e hs hu
  refine hr G0 H0 G H σ e _ _ _ hs hu (fun G1 H1 vs rs s1 g1 pr k1 => ?_) fun G1 H1 cls d y s1 g1 xr k => L.ex G1 H1 σ e cls d y (hs.grow g1 s1) xr k
  obtain ⟨hz, k⟩ := k1
  obtain ⟨G2, s2, g2, ra⟩ := fix_args s1 g1 pr hz
  rw [List.append_nil]
  refine ⟨G2, rs.map Rs.d, _, _, s2, ra, k, fun G' H' v t s3 g3 ro nd fr q => ?_, fun G' H' cls d y s3 g3 xr q => L.ex G' H' σ e cls d y (hs.grow (g2.trans g3) s3) xr q⟩
  have hH : ∀ x ∈ t.fp, H x = none := fun x hx => g1.hh.free (fr x hx).1
  exact L.nx G' H' _ _ ((hs.grow (g2.trans g3) s3).setG i (w := otS t) ⟨⟨ro, nd⟩, fun x hx => ⟨(fr x hx).2, hs.gr.hh.free (hH x hx)⟩, fun x hx => hs.free (.inl (hH x hx))⟩) q
theorem vs_asgG {CX : CXT} {k : Nat} {fa : Addr} {fd : FuncData} {ps : List Str} {F : FnG} {g x : Str} {i : Nat} {p p1 pos1 : Pos} (Fk : FnOk X.prog X.w X.K X.mg X.base CX k fa fd ps (spG X.K F)) (hr : Room k X.A) (hg : Gl X g) (hm : X.mg g = some (.ref fa)) (hk : PySem.W.keepIn X.K (.ref fa) = true)
    (hb : Binds X.K fd ps []) (hx : ∀ σ, PassesAt CX X σ (fun cls d H => W cls d σ H)) (hN : X.N.Nodup) (ha : VA X W (a :: es) ta xs) (hi : X.N[i]? = some x := by rfl) (hl : Loc X.env.scope x := by first | exact Or.inl rfl | exact Or.inr rfl)
    (hs : swapsWith (.Call (.Name g p) (a :: es) [] pos) (some (.Name x p1)) pos1.line X.env = pure false := by rfl) (hf : X.fn x = true ∨ X.env.scope.names.lookup x = some .local := by first | exact .inl rfl | exact .inr rfl)
    (hdb : (g == ("__debug__" : Str)) = false := by decide) (he : starEach (a :: es) X.env = (false, eval a X.env) :: starEach es X.env := by rfl) (hpl : (backTo pos (starEach es X.env)).any (·.1) = false := by rfl) :
    VS X W (.Assign [.Name x p1] (.Call (.Name g p) (a :: es) [] pos) pos1) (tAsg (tCallSD (spG X.K F) [] (fun σ cls d H => W cls d σ H) ta) (gName i)) (uAsgG i F xs) :=
  ⟨ps_set hN hi hl (pe_callSD (E := fun σ cls d H => W cls d σ H) Fk hr hg hm hk hb .nil hx ha.pa hdb he hpl) hs hf, ref_asgG ha.rf⟩
/-- return (xs, e) of an own list xs -/
def uRetTu (i : Nat) (x : XE) : US := fun V e => match e[i]? with
  | some (.ow ds) => x e (fun r => r.stays = true ∧ ∀ p, V.rg (otS (.nd .tu [.nd (.li p) (ds.map .d), .d r.d])) (e.set i .no)) (fun y => V.ex y e)
  | _ => False
theorem vs_retTu (i : Nat) {x : Str} {p c1 : Pos} {x1} (he : VE X W a te xa) (hN : X.N[i]? = some x := by rfl) (hv : Vis X.env.scope x := by first | exact Or.inl rfl | exact Or.inr (Or.inl rfl) | exact Or.inr (Or.inr rfl)) (hd : (x == ("__debug__" : Str)) = false := by decide) (hcd : (x == ("__classdict__" : Str)) = false := by decide)
    (h1 : starEach [.Name x p, a] X.env = (false, eval (.Name x p) X.env) :: starEach [a] X.env := by rfl) (h2 : starEach [a] X.env = (false, eval a X.env) :: starEach [] X.env := by rfl) :
    VS X W (.Return (some (.Tuple [.Name x p, a] x1 c1)) pos) (tRet (tTup (tCons (tVar i) (tCons te tNil)))) (uRetTu i xa) := ⟨ps_ret (pe_tup (pa_cons (pe_var hN hv hd hcd) (pa_cons he.pe pa_nil h2) h1)), fun G0 H0 D V L G H σ e hs hu => by
  unfold uRetTu at hu
  split at hu
  · rename_i ds hi
    obtain ⟨p0, us, k1, k2, k3, k4, k5⟩ := hs.sl i _ hi
    refine ⟨_, k1, ?_⟩
    refine he.rf G0 H0 G H σ e _ _ _ hs hu (fun G1 H1 v r s1 g1 rr k => ?_) fun G1 H1 cls d z s1 g1 xr k => L.ex G1 H1 σ e cls d z (hs.grow g1 s1) xr k
    obtain ⟨st, kk⟩ := k
    obtain ⟨G2, s2, g12, g2, rp, nn⟩ := rr.fix (G0 := G0) (H0 := H0) (σ := σ) (e := e) s1 g1 st
    refine ⟨by show 2 ≤ _; rw [sizeLine_eq]; decide, fun t ht => ?_⟩
    have H1p : H1 p0 = some (.lst us) := g1.hh _ _ k2
    have nt : p0 ≠ t := fun z => by rw [← z, H1p] at ht; cases ht
    have hs2 : StR X.K G0 H0 G2 H1 σ e := hs.grow g2 s2
    have gt : Grow G2 H1 G2 (upd H1 t (.tup [.ref p0, v])) := Grow.out ht
    have hs3 := (hs2.grow gt (same_out s2 (s2.free ht))).forget i
    have G2p : G2 p0 = none := g2.nn p0 k3 (by rw [k2]; exact Option.some_ne_none _)
    refine L.rg G2 _ σ _ (.ref t) (otS (.nd .tu [.nd (.li p0) (ds.map .d), .d r.d])) hs3 ⟨⟨.nd ⟨t, rfl, upd_same⟩ (.cons (.nd ⟨rfl, by rw [upd_ne nt]; exact H1p⟩ (ROs.of (k5.mono g2.gg _ _))) (.cons (.d rp) .nil)), ?_⟩, fun y hy => ?_, fun y hy j s hj hx => ?_⟩ (kk p0)
    · simp [OT.fp, OT.fps, Kd.fp, fps_d]
    · have : y = p0 := by simpa [otS, OT.fp, OT.fps, Kd.fp, fps_d] using hy
      rw [this]
      exact ⟨G2p, k4⟩
    · have : y = p0 := by simpa [otS, OT.fp, OT.fps, Kd.fp, fps_d] using hy
      subst this
      rw [set_get] at hj
      by_cases hc : i = j ∧ i < e.length
      · rw [if_pos hc] at hj
        cases hj
        exact hx.elim
      · rw [if_neg hc] at hj
        have hij : i ≠ j := fun z => hc ⟨z, (List.getElem?_eq_some_iff.mp hi).1⟩
        exact hs.dj i j _ _ y hij hi hj k1 hx
  · exact hu.elim⟩
/-! ### reading -/
def Kd.seq : Kd → Option String
  | .li _ => some "list"
  | .tu => some "tuple"
  | .ob _ _ _ => none
def itQ (c : OT) (q : Rs → Prop) : Prop := match c with
  | .d d => q (.va d)
  | .nd (.li _) us => ∃ ds, us = ds.map .d ∧ q (.bo ds)
  | _ => False
def xTIx (i n : Nat) : XE := fun e q _ => ∃ (k : Kd) (ts : List OT) (c : OT), e[i]? = some (.gn (otS (.nd k ts))) ∧ k.seq.isSome = true ∧ ts[n]? = some c ∧ itQ c q
theorem seq_of {k : Kd} {v : V} {vs : List V} (h : Hd K H0 v k vs) (hk : k.seq.isSome = true) : ∃ a, v = .ref a ∧ ((H0 a = some (.lst vs) ∧ k.seq = some "list") ∨ (H0 a = some (.tup vs) ∧ k.seq = some "tuple")) := by
  cases k with
  | li p => exact ⟨p, h.1, .inl ⟨h.2, rfl⟩⟩
  | tu =>
    obtain ⟨a, h1, h2⟩ := h
    exact ⟨a, h1, .inr ⟨h2, rfl⟩⟩
  | ob x c ns => cases hk
theorem ixN_nat {n m : Nat} (h : n < m) : ixN m (n : Int) = some n := by
  unfold ixN
  rw [if_pos (by omega), if_pos (by omega)]
  simp
theorem ref_tix {i n : Nat} : RefE K W (tOp (rIx K) (tVar i) (tC (.int (n : Int)))) (xTIx i n) := by
  intro G0 H0 G H σ e Q q ex hs hx hq _
  obtain ⟨k, ts, c, hi, hk, hc, hx⟩ := hx
  obtain ⟨v, k1, ⟨k2, _⟩, k4⟩ := hs.sl i _ hi
  refine ⟨v, k1, ?_⟩
  cases k2 with
  | nd h1 h2 =>
    rename_i vs
    obtain ⟨u, e1, e2⟩ := h2.get hc
    have hlt : n < vs.length := (List.getElem?_eq_some_iff.mp e1).1
    have e3 : atI vs (n : Int) = some u := by
      unfold atI
      rw [ixN_nat hlt]
      exact e1
    have fin : Q u H := by
      unfold itQ at hx
      split at hx
      · cases e2 with
        | d e2 => exact hq G H u (.va _) hs.sub .refl e2 hx
      · obtain ⟨ds, rfl, hx⟩ := hx
        cases e2 with
        | nd f1 f2 => exact hq G H u (.bo ds) hs.sub .refl ⟨_, _, f1.1, f1.2, f2.rp⟩ hx
      · exact hx.elim
    obtain ⟨a, rfl, ⟨h3, _⟩ | ⟨h3, _⟩⟩ := seq_of h1 hk
    · exact .inl ⟨a, vs, n, u, rfl, rfl, SqL.of h3, e3, fin⟩
    · exact .inr (.inl ⟨a, vs, n, u, rfl, rfl, .inl (.inl h3), e3, fin⟩)
theorem ve_tix (i n : Nat) {x : Str} {p p2 : Pos} {j : Nat} (hs : PlainIx (.Constant (.int n) j p2) := by intro _ _; rfl) (hN : X.N[i]? = some x := by rfl) (hv : Vis X.env.scope x := by first | exact Or.inl rfl | exact Or.inr (Or.inl rfl) | exact Or.inr (Or.inr rfl)) (hd : (x == ("__debug__" : Str)) = false := by decide) (hcd : (x == ("__classdict__" : Str)) = false := by decide)
    :
    VE X W (.Subscript (.Name x p) (.Constant (.int n) j p2) pos) (tOp (rIx X.K) (tVar i) (tC (.int (n : Int)))) (xTIx i n) := ⟨pe_ix ix_seq (pe_var hN hv hd hcd) pe_int hs, ref_tix⟩
end
section
variable {X : Cx} {W : WX} {K : PySem.W.Frag} {a b : Expr} {es : List Expr} {te tb : TE} {ta : TA} {xa xb : XE} {xs : XA} {pos : Pos}
/-- x[n].append(e) -/
def uTAp (i n : Nat) (x : XE) : US := fun V e => ∃ (k : Kd) (ts us : List OT) (p : Addr), e[i]? = some (.gn (otS (.nd k ts))) ∧ k.seq.isSome = true ∧ ts[n]? = some (.nd (.li p) us) ∧ us.length < sizeLine ∧
  x e (fun r => r.stays = true ∧ V.nx (e.set i (.gn (otS (.nd k (ts.set n (.nd (.li p) (us ++ [.d r.d])))))))) fun z => V.ex z e
theorem ref_tap {i n : Nat} (he : RefE K W te xa) : RefS K W (tDrop (tBM K "list" rAppend (tOp (rIx K) (tVar i) (tC (.int (n : Int)))) (tCons te tNil))) (uTAp i n xa) := by
  intro G0 H0 D V L G H σ e hs hu
  obtain ⟨k, ts, us, p, hi, hk, hc, hz, hu⟩ := hu
  obtain ⟨v, k1, ⟨k2, k3⟩, k4⟩ := hs.sl i _ hi
  have hat : OT.at (.nd k ts) [n] = some (.nd (.li p) us) := by
    rw [OT.at, hc]
    rfl
  obtain ⟨M, p1, p2, run⟩ := OT.split [n] _ _ hat
  obtain ⟨w', r1, r2⟩ := run k2
  obtain ⟨ys, rfl, hp, rys⟩ : ∃ ys, w' = .ref p ∧ H p = some (.lst ys) ∧ ROs K G H ys us := by
    cases r1 with
    | nd f1 f2 => exact ⟨_, f1.1, f1.2, f2⟩
  refine ⟨v, k1, ?_⟩
  have main : tyV K "list" (.ref p) H ∧ (tCons te tNil) σ H fun xs H2 => rAppend (.ref p) xs H2 fun _ H' => D.nx σ H' := by
    refine ⟨.inl ⟨rfl, ys, SqL.of hp⟩, ?_⟩
    refine he G0 H0 G H σ e _ _ _ hs hu (fun G1 H1 u r s1 g1 rr k1' => ?_) fun G1 H1 cls d z s1 g1 xr k => L.ex G1 H1 σ e cls d z (hs.grow g1 s1) xr k
    obtain ⟨st, kk⟩ := k1'
    obtain ⟨G2, s2, g12, g2, rp, nn⟩ := rr.fix (G0 := G0) (H0 := H0) (σ := σ) (e := e) s1 g1 st
    have hs2 := hs.grow g2 s2
    have H1p := g1.hh _ _ hp
    refine ⟨p, ys, u, rfl, rfl, H1p, by rw [rys.len]; exact hz, ?_⟩
    have nd := p1.nodup_iff.mp k3
    have nd' := List.nodup_append.mp nd
    have fpu : OT.fp (.nd (.li p) us) = p :: OT.fps us := by
      rw [OT.fp] <;> rfl
    rw [fpu] at nd'
    have npu : p ∉ OT.fps us := (List.nodup_cons.mp nd'.2.1).1
    have npM : p ∉ M := fun z => nd'.2.2 p z p List.mem_cons_self rfl
    have epq : OT.put (.nd k ts) [n] (.nd (.li p) (us ++ [.d r.d])) = .nd k (ts.set n (.nd (.li p) (us ++ [.d r.d]))) := by
      rw [OT.put, hc]
      show OT.nd k (ts.set n (OT.put _ [] _)) = _
      rw [OT.put]
    have keep : ∀ {N : List Addr}, p ∉ N → ∀ x o, H x = some o → (x ∈ N ∨ ∃ xs, o = .tup xs) → (upd H1 p (.lst (ys ++ [u]))) x = some o := fun hN x o hx hz => by
      have hne : x ≠ p := fun c => by
        subst c
        rcases hz with hz | ⟨xs, rfl⟩
        · exact hN hz
        · rw [hp] at hx
          cases hx
      rw [upd_ne hne]
      exact g1.hh _ _ hx
    have fpn : (OT.nd (.li p) (us ++ [.d r.d])).fp = (OT.nd (.li p) us).fp := by
      rw [OT.fp, OT.fp, fps_app, OT.fps, OT.fp, OT.fps]
      simp
    have perm : (OT.put (.nd k ts) [n] (.nd (.li p) (us ++ [.d r.d]))).fp.Perm (OT.fp (.nd k ts)) := by
      refine (p2 _).trans ?_
      rw [fpn]
      exact p1.symm
    have ro := r2 G2 (upd H1 p (.lst (ys ++ [u]))) (.nd (.li p) (us ++ [.d r.d])) (.nd ⟨rfl, upd_same⟩ ((ROs.up g2.gg us _ rys (keep npu)).app (.cons (.d rp) .nil))) g2.gg (keep npM)
    have pin : p ∈ OT.fp (.nd k ts) := p1.mem_iff.mpr (List.mem_append_right _ (by rw [fpu]; exact List.mem_cons_self))
    have st := hs2.writeT (xs := ys ++ [u]) hi k1 pin H1p ro (perm.nodup_iff.mpr k3) fun x hx => .inl (perm.mem_iff.mp hx)
    rw [epq] at st
    exact L.nx G2 _ σ _ st kk
  cases k2 with
  | nd h1 h2 =>
    rename_i vs
    obtain ⟨u, e1, e2⟩ := h2.get hc
    obtain rfl : u = .ref p := by
      cases e2 with
      | nd f1 f2 => exact f1.1
    have hlt : n < vs.length := (List.getElem?_eq_some_iff.mp e1).1
    have e3 : atI vs (n : Int) = some (.ref p) := by
      unfold atI
      rw [ixN_nat hlt]
      exact e1
    obtain ⟨a, rfl, ⟨h3, _⟩ | ⟨h3, _⟩⟩ := seq_of h1 hk
    · exact .inl ⟨a, vs, n, _, rfl, rfl, SqL.of h3, e3, main⟩
    · exact .inr (.inl ⟨a, vs, n, _, rfl, rfl, .inl (.inl h3), e3, main⟩)
theorem vs_tap (i n : Nat) {x : Str} {p p2 p3 apos cpos : Pos} {j : Nat} (he : VE X W a te xa) (hs : PlainIx (.Constant (.int n) j p2) := by intro _ _; rfl) (hN : X.N[i]? = some x := by rfl) (hv : Vis X.env.scope x := by first | exact Or.inl rfl | exact Or.inr (Or.inl rfl) | exact Or.inr (Or.inr rfl)) (hd : (x == ("__debug__" : Str)) = false := by decide) (hcd : (x == ("__classdict__" : Str)) = false := by decide)
    (hbase : attributeBase (.Subscript (.Name x p) (.Constant (.int n) j p2) p3) "append" X.env (eval (.Subscript (.Name x p) (.Constant (.int n) j p2) p3) X.env) = eval (.Subscript (.Name x p) (.Constant (.int n) j p2) p3) X.env := by rfl)
    (hfew : ((backTo cpos (starEach [a] X.env)).all (fun x => !x.1) && (backToKw cpos (keywordEach [] X.env)).all (fun x => x.1.isSome) && decide ([a].length + ([] : List Keyword).length + (if ([] : List Keyword).isEmpty then 0 else 1) < 30)) = true := by rfl)
    (hline : (apos.endLine == cpos.line) = true := by rfl) (hst : starEach [a] X.env = (false, eval a X.env) :: starEach [] X.env := by rfl) (hpl : (backTo cpos (starEach [] X.env)).any (·.1) = false := by rfl)
    (hsw : swapsWith (.Call (.Attribute (.Subscript (.Name x p) (.Constant (.int n) j p2) p3) "append" apos) [a] [] cpos) none pos.line X.env = pure false := by rfl) :
    VS X W (.Expr (.Call (.Attribute (.Subscript (.Name x p) (.Constant (.int n) j p2) p3) "append" apos) [a] [] cpos) pos) (tDrop (tBM X.K "list" rAppend (tOp (rIx X.K) (tVar i) (tC (.int (n : Int)))) (tCons te tNil))) (uTAp i n xa) :=
  ⟨ps_expr (pe_bm PySem.F.plainAttrs_list PySem.F.slot_list_append PySem.F.type_list_append mt_append (pe_ix ix_seq (pe_var hN hv hd hcd) pe_int hs) (pa_cons he.pe pa_nil hst) hbase hfew hline hst hpl) hsw, ref_tap he.rf⟩
/-- len(x) -/
def xTLen (i : Nat) : XE := fun e q _ => ∃ (k : Kd) (ts : List OT), e[i]? = some (.gn (otS (.nd k ts))) ∧ k.seq.isSome = true ∧ q (.va (.int ts.length))
theorem ve_tlen (i : Nat) {x : Str} {p p1 : Pos} (hg : Gl X "len") (hm : X.mg "len" = none) (hN : X.N[i]? = some x := by rfl) (hv : Vis X.env.scope x := by first | exact Or.inl rfl | exact Or.inr (Or.inl rfl) | exact Or.inr (Or.inr rfl)) (hd : (x == ("__debug__" : Str)) = false := by decide) (hcd : (x == ("__classdict__" : Str)) = false := by decide)
    (he : starEach [.Name x p1] X.env = (false, eval (.Name x p1) X.env) :: starEach [] X.env := by rfl) (hpl : (backTo pos (starEach [] X.env)).any (·.1) = false := by rfl) :
    VE X W (.Call (.Name "len" p) [.Name x p1] [] pos) (tCB (fun xs H Q => ∃ x n, xs = [x] ∧ LenV X.K x H n ∧ Q (.int n) H) (tCons (tVar i) tNil)) (xTLen i) :=
  ⟨pe_callB call_len hg hm PySem.boot_len (pa_cons (pe_var hN hv hd hcd) pa_nil he) (by decide) (by decide) he hpl, by
    intro G0 H0 G H σ e Q q ex hs hx hq _
    obtain ⟨k, ts, hi, hk, hx⟩ := hx
    obtain ⟨v, k1, ⟨k2, _⟩, k4⟩ := hs.sl i _ hi
    refine ⟨v, k1, v, _, rfl, ?_, hq G H _ (.va _) hs.sub .refl (.int _) hx⟩
    cases k2 with
    | nd h1 h2 =>
      obtain ⟨a, rfl, ⟨h3, _⟩ | ⟨h3, _⟩⟩ := seq_of h1 hk
      · exact .inl ⟨_, SqL.of h3, h2.len.symm⟩
      · exact .inr ⟨_, .inl (.inl h3), h2.len.symm⟩⟩
/-- isinstance(x, T) -/
def xTIs (T : String) (i : Nat) : XE := fun e q _ => ∃ (k : Kd) (ts : List OT) (s : String), e[i]? = some (.gn (otS (.nd k ts))) ∧ k.seq = some s ∧ q (.va (.bool (isTs T s)))
theorem ve_tis (i : Nat) {T : String} {x y : Str} {p p2 p3 : Pos} (hT : T = "int" ∨ T = "bool" ∨ T = "list" ∨ T = "tuple" ∨ T = "str") (hg : Gl X "isinstance") (hm : X.mg "isinstance" = none) (hgT : Gl X x) (hmT : X.mg x = none) (hvT : bootBuiltins x = some (.type T))
    (hN : X.N[i]? = some y := by rfl) (hv : Vis X.env.scope y := by first | exact Or.inl rfl | exact Or.inr (Or.inl rfl) | exact Or.inr (Or.inr rfl)) (hd : (y == ("__debug__" : Str)) = false := by decide) (hcd : (y == ("__classdict__" : Str)) = false := by decide)
    (hn : x ≠ "__name__" := by decide) (hd2 : (x == ("__debug__" : Str)) = false := by decide)
    (h1 : starEach [.Name y p3, .Name x p2] X.env = (false, eval (.Name y p3) X.env) :: starEach [.Name x p2] X.env := by rfl) (h2 : starEach [.Name x p2] X.env = (false, eval (.Name x p2) X.env) :: starEach [] X.env := by rfl)
    (hpl : (backTo pos (starEach [.Name x p2] X.env)).any (·.1) = false := by rfl) :
    VE X W (.Call (.Name "isinstance" p) [.Name y p3, .Name x p2] [] pos) (tCB (rIsi X.K) (tCons (tVar i) (tCons (tC (.ty T)) tNil))) (xTIs T i) :=
  ⟨pe_callB call_isi hg hm (by decide +kernel) (pa_cons (pe_var hN hv hd hcd) (pa_cons (pe_bltn hgT hmT hvT (show RelV (.ty T) (.type T) from rfl) hn hd2) pa_nil h2) h1) (by decide) (by decide) h1 hpl, by
    intro G0 H0 G H σ e Q q ex hs hx hq _
    obtain ⟨k, ts, s, hi, hk, hx⟩ := hx
    obtain ⟨v, k1, ⟨k2, _⟩, k4⟩ := hs.sl i _ hi
    refine ⟨v, k1, ?_⟩
    cases k2 with
    | nd h1 h2 =>
      obtain ⟨a, rfl, ⟨h3, h5⟩ | ⟨h3, h5⟩⟩ := seq_of h1 (by rw [hk]; rfl)
      · rw [hk] at h5
        cases h5
        exact ⟨.ref a, .ty T, _, _, _, rfl, .ty T, .base (.lst h3), kit_all hT (.list []), hq G H _ (.va _) hs.sub .refl (.bl _) hx⟩
      · rw [hk] at h5
        cases h5
        exact ⟨.ref a, .ty T, _, _, _, rfl, .ty T, .base (.tup h3), kit_all hT (.tuple []), hq G H _ (.va _) hs.sub .refl (.bl _) hx⟩⟩
end
end Pv

/-! PwQ: a list of own lists, a second name of one of them; texts times numbers. -/
namespace Pv
open PySem L2 PySem.Spec PyProof.Rows
abbrev Row := Addr × List PyData
def rowT (r : Row) : OT := .nd (.li r.1) (r.2.map .d)
def llT (p : Addr) (rows : List Row) : OT := .nd (.li p) (rows.map rowT)
theorem fp_row (r : Row) : (rowT r).fp = [r.1] := by
  unfold rowT
  rw [OT.fp, fps_d] <;> rfl
theorem fps_rows : ∀ rows : List Row, OT.fps (rows.map rowT) = rows.map (·.1)
  | [] => rfl
  | r :: rows => by
    rw [List.map_cons, OT.fps, fp_row, fps_rows rows] <;> rfl
theorem fp_ll (p : Addr) (rows : List Row) : (llT p rows).fp = p :: rows.map (·.1) := by
  unfold llT
  rw [OT.fp, fps_rows] <;> rfl
section
variable {K : PySem.W.Frag} {G0 H0 G H : Hp} {σ : L2.St} {e : En}
theorem ll_inv {v : V} {p : Addr} {rows : List Row} (h : RO K G H v (llT p rows)) : v = .ref p ∧ ∃ vs, H p = some (.lst vs) ∧ ROs K G H vs (rows.map rowT) := by
  cases h with
  | nd h1 h2 => exact ⟨h1.1, _, h1.2, h2⟩
theorem row_inv {v : V} {r : Row} (h : RO K G H v (rowT r)) : v = .ref r.1 ∧ ∃ vs, H r.1 = some (.lst vs) ∧ RpAll K G vs r.2 := by
  cases h with
  | nd h1 h2 => exact ⟨h1.1, _, h1.2, h2.rp⟩
theorem ROs.row {vs : List V} {rows : List Row} (h : ROs K G H vs (rows.map rowT)) {n : Nat} {r : Row} (hn : rows[n]? = some r) : vs[n]? = some (.ref r.1) ∧ ∃ us, H r.1 = some (.lst us) ∧ RpAll K G us r.2 := by
  obtain ⟨v, h1, h2⟩ := h.get (i := n) (t := rowT r) (by rw [List.getElem?_map, hn]; rfl)
  obtain ⟨rfl, us, h3, h4⟩ := row_inv h2
  exact ⟨h1, us, h3, h4⟩
theorem SlR.more {K : PySem.W.Frag} {H0 G H G' : Hp} {o : Option (Option V)} {s : Sl} (q : SlR K H0 G H o s) (g : Same G G') (h : ∀ x, s.has o x → G' x = none) : SlR K H0 G' H o s := by
  cases s with
  | no => trivial
  | fz d =>
    obtain ⟨v, q1, q2⟩ := q
    exact ⟨v, q1, q2.mono g _ _⟩
  | xn a k d y => exact ⟨q.1, q.2.1, q.2.2.mono g⟩
  | gn w =>
    obtain ⟨v, q1, q2, q3⟩ := q
    exact ⟨v, q1, w.up q2 g fun y u hy _ => hy, fun y hy => ⟨h y hy, (q3 y hy).2⟩⟩
  | mm d M =>
    obtain ⟨v, q1, q2, q3⟩ := q
    refine ⟨v, q1, q2.mono g _ _, fun y n hm => ?_⟩
    obtain ⟨r1, r2, r3⟩ := q3 y n hm
    exact ⟨r1.same g (Same.refl _), h y (by
      show mget M y ≠ none
      rw [hm]
      exact Option.some_ne_none _), r3⟩
  | mb d M =>
    obtain ⟨v, q1, q2, q3⟩ := q
    exact ⟨v, q1, q2.mono g _ _, fun y n hm => ⟨(q3 y n hm).1.same g (Same.refl _), (q3 y n hm).2⟩⟩
  | ow ds =>
    obtain ⟨p, xs, q1, q2, q3, q4, q5⟩ := q
    exact ⟨p, xs, q1, q2, h p q1, q4, q5.mono g _ _⟩
  | ob a p c pre f ds =>
    obtain ⟨q1, q2, _, q4⟩ := q
    exact ⟨q1, q2.grow g (Same.refl _), ⟨h a (.inl rfl), h p (.inr rfl)⟩, q4⟩
/-- the rows are taken as lists that stay -/
theorem StR.settle (hs : StR K G0 H0 G H σ e) {i : Nat} {p : Addr} {rows : List Row} (hi : e[i]? = some (.gn (otS (llT p rows)))) : ∃ G', Same G G' ∧ StR K G0 H0 G' H σ (e.set i (.ow (rows.map fun r => .list r.2))) := by
  obtain ⟨v, k1, ⟨k2, k3⟩, k4⟩ := hs.sl i _ hi
  obtain ⟨rfl, vs, hp, rr⟩ := ll_inv k2
  rw [fp_ll] at k3
  have k4' : ∀ x, x = p ∨ x ∈ rows.map (·.1) → G x = none ∧ H0 x = none := fun x hx => k4 x (by
    show x ∈ (llT p rows).fp
    rw [fp_ll]
    exact List.mem_cons.mpr hx)
  have hasI : ∀ x, x ∈ rows.map (·.1) → (Sl.gn (otS (llT p rows))).has σ[i]? x := fun x hx => by
    show x ∈ (llT p rows).fp
    rw [fp_ll]
    exact List.mem_cons_of_mem _ hx
  obtain ⟨G', hG'⟩ : ∃ G', G' = exth H G (rows.map (·.1)) := ⟨_, rfl⟩
  have gg : Same G G' := by rw [hG']; exact exth_up hs.sub
  have out : ∀ x, x ∉ rows.map (·.1) → G' x = G x := fun x hx => by rw [hG', exth_ne hx]
  have ins : ∀ x, x ∈ rows.map (·.1) → G' x = H x := fun x hx => by rw [hG', exth_in hx]
  have npr : p ∉ rows.map (·.1) := (List.nodup_cons.mp k3).1
  refine ⟨G', gg, by rw [hG']; exact exth_sub hs.sub, ⟨hs.gr.gg.trans gg, hs.gr.hh, fun a h1 h2 => ?_⟩, by rw [List.length_set, hs.len], fun j s hj => ?_, hs.dj.le fun j s x hj hx => ?_⟩
  · rw [out a fun z => h2 (k4' a (.inr z)).2]
    exact hs.gr.nn a h1 h2
  · rw [set_get] at hj
    by_cases hc : i = j ∧ i < e.length
    · rw [if_pos hc] at hj
      cases hj
      rw [← hc.1]
      refine ⟨p, vs, k1, hp, by rw [out p npr]; exact (k4' p (.inl rfl)).1, (k4' p (.inl rfl)).2, ?_⟩
      have go : ∀ (rs : List Row) (us : List V), (∀ r ∈ rs, r ∈ rows) → ROs K G H us (rs.map rowT) → RpAll K G' us (rs.map fun r => .list r.2) := by
        intro rs
        induction rs with
        | nil =>
          intro us _ h
          cases h
          exact .nil
        | cons r rs ih =>
          intro us hm h
          cases h with
          | cons h1 h2 =>
            obtain ⟨rfl, ws, e1, e2⟩ := row_inv h1
            refine .cons (.lst (xs := ws) ?_ (e2.mono gg _ _)) (ih _ (fun x hx => hm x (List.mem_cons_of_mem _ hx)) h2)
            rw [ins _ (List.mem_map.mpr ⟨r, hm r List.mem_cons_self, rfl⟩)]
            exact e1
      exact go rows vs (fun _ h => h) rr
    · rw [if_neg hc] at hj
      have hij : i ≠ j := fun z => hc ⟨z, (List.getElem?_eq_some_iff.mp hi).1⟩
      refine (hs.sl j s hj).more gg fun x hx => ?_
      rw [out x fun z => hs.dj i j _ _ x hij hi hj (hasI x z) hx]
      exact ((hs.sl j s hj).foot hx).2.1
  · rw [set_get] at hj
    by_cases hc : i = j ∧ i < e.length
    · rw [if_pos hc] at hj
      cases hj
      obtain ⟨rfl, _⟩ := hc
      refine ⟨_, hi, ?_⟩
      have hx' : σ[i]? = some (some (.ref x)) := hx
      rw [k1] at hx'
      cases hx'
      show p ∈ (llT p rows).fp
      rw [fp_ll]
      exact List.mem_cons_self
    · rw [if_neg hc] at hj
      exact ⟨_, hj, hx⟩
end
section
variable {X : Cx} {W : WX} {K : PySem.W.Frag} {a b : Expr} {es : List Expr} {st : Stmt} {te tb : TE} {ta : TA} {t1 : TS} {u1 : US} {xa xb : XE} {xs : XA} {pos : Pos}
def uStl (i : Nat) (u : US) : US := fun V e => ∃ (p : Addr) (rows : List Row), e[i]? = some (.gn (otS (llT p rows))) ∧ u V (e.set i (.ow (rows.map fun r => .list r.2)))
theorem vs_stl (i : Nat) (h : VS X W st t1 u1) : VS X W st t1 (uStl i u1) := ⟨h.ps, fun G0 H0 D V L G H σ e hs hu => by
  obtain ⟨p, rows, hi, hu⟩ := hu
  obtain ⟨G', _, hs'⟩ := hs.settle hi
  exact h.rf G0 H0 D V L G' H σ _ hs' hu⟩
/-- x = [a, b] of two new lists -/
def uLL2 (i : Nat) (xa xb : XE) : US := fun V e => xa e (fun r => match r with
  | .nw ds => xb e (fun s => match s with
    | .nw es => ∀ p p1 p2, V.nx (e.set i (.gn (otS (llT p [(p1, ds), (p2, es)]))))
    | _ => False) fun z => V.ex z e
  | _ => False) fun z => V.ex z e
theorem ref_ll2 {i : Nat} (ha : RefE K W te xa) (hb : RefE K W tb xb) : RefS K W (tAsg (tLst (tCons te (tCons tb tNil))) (gName i)) (uLL2 i xa xb) := by
  intro G0 H0 D V L G H σ e hs hu
  refine ha G0 H0 G H σ e _ _ _ hs hu (fun G1 H1 v1 r1 s1 g1 rr1 k1 => ?_) fun G1 H1 cls d z s1 g1 xr k => L.ex G1 H1 σ e cls d z (hs.grow g1 s1) xr k
  have hs1 := hs.grow g1 s1
  cases r1 with
  | va d => exact k1.elim
  | bo d => exact k1.elim
  | bb c pre f ds => exact k1.elim
  | bg k0 ds0 => exact k1.elim
  | nw ds =>
    refine hb G0 H0 G1 H1 σ e _ _ _ hs1 k1 (fun G2 H2 v2 r2 s2 g2 rr2 k2 => ?_) fun G2 H2 cls d z s2 g2 xr k => L.ex G2 H2 σ e cls d z (hs1.grow g2 s2) xr k
    cases r2 with
    | va d => exact k2.elim
    | bo d => exact k2.elim
    | bb c pre f ds => exact k2.elim
    | bg k0 ds0 => exact k2.elim
    | nw es =>
      obtain ⟨p1, xs1, rfl, a1, a2, a3, a4⟩ := rr1
      obtain ⟨p2, xs2, rfl, b1, b2, b3, b4⟩ := rr2
      have n12 : p1 ≠ p2 := fun z => by
        subst z
        rw [b1] at a2
        cases a2
      have g12 := g1.trans g2
      have hs2 := hs1.grow g2 s2
      have q1 : G2 p1 = none := g2.nn p1 a3 (by rw [a2]; exact Option.some_ne_none _)
      refine ⟨by show 2 ≤ _; rw [sizeLine_eq]; decide, fun p hp => ?_⟩
      have m1 : p ≠ p1 := fun z => by rw [z, g2.hh _ _ a2] at hp; cases hp
      have m2 : p ≠ p2 := fun z => by rw [z, b2] at hp; cases hp
      have gp : Grow G2 H2 G2 (upd H2 p (.lst [.ref p1, .ref p2])) := Grow.out hp
      have hs3 := hs2.grow gp (same_out s2 (s2.free hp))
      have Hp : H p = none := g12.hh.free hp
      have Hp2 : H p2 = none := g1.hh.free b1
      have mem : ∀ x ∈ (llT p [(p1, ds), (p2, es)]).fp, x = p ∨ x = p1 ∨ x = p2 := fun x hx => by
        rw [fp_ll] at hx
        simpa using hx
      refine L.nx G2 _ _ _ (hs3.setG i (w := otS (llT p [(p1, ds), (p2, es)])) ⟨⟨.nd ⟨rfl, upd_same⟩ (.cons (.nd ⟨rfl, ?_⟩ (ROs.of (a4.mono g2.gg _ _))) (.cons (.nd ⟨rfl, ?_⟩ (ROs.of b4)) .nil)), ?_⟩, fun x hx => ?_, fun x hx => ?_⟩) (k2 p p1 p2)
      · rw [upd_ne (Ne.symm m1)]
        exact g2.hh _ _ a2
      · rw [upd_ne (Ne.symm m2)]
        exact b2
      · rw [fp_ll]
        simp [m1, m2, n12]
      · rcases mem x hx with rfl | rfl | rfl
        · exact ⟨s2.free hp, hs.gr.hh.free Hp⟩
        · exact ⟨q1, hs.gr.hh.free a1⟩
        · exact ⟨b3, hs.gr.hh.free Hp2⟩
      · refine hs.free (.inl ?_)
        rcases mem x hx with rfl | rfl | rfl
        · exact Hp
        · exact a1
        · exact Hp2
theorem vs_ll2 (i : Nat) {x : Str} {p1 pos1 : Pos} (hN : X.N.Nodup) (ha : VE X W a te xa) (hb : VE X W b tb xb) (hi : X.N[i]? = some x := by rfl) (hx : Loc X.env.scope x := by first | exact Or.inl rfl | exact Or.inr rfl)
    (h1 : starEach [a, b] X.env = (false, eval a X.env) :: starEach [b] X.env := by rfl) (h2 : starEach [b] X.env = (false, eval b X.env) :: starEach [] X.env := by rfl)
    (hs : swapsWith (.List [a, b] pos) (some (.Name x p1)) pos1.line X.env = pure false := by rfl) (hf : X.fn x = true ∨ X.env.scope.names.lookup x = some .local := by first | exact .inl rfl | exact .inr rfl) :
    VS X W (.Assign [.Name x p1] (.List [a, b] pos) pos1) (tAsg (tLst (tCons te (tCons tb tNil))) (gName i)) (uLL2 i xa xb) :=
  ⟨ps_set hN hi hx (pe_lst (pa_cons ha.pe (pa_cons hb.pe pa_nil h2) h1)) hs hf, ref_ll2 ha.rf hb.rf⟩
/-- x.append(e) of a new list -/
def uLAp (i : Nat) (x : XE) : US := fun V e => ∃ (p : Addr) (rows : List Row), e[i]? = some (.gn (otS (llT p rows))) ∧ rows.length < sizeLine ∧ x e (fun r => match r with
  | .nw ds => ∀ p', V.nx (e.set i (.gn (otS (llT p (rows ++ [(p', ds)])))))
  | _ => False) fun z => V.ex z e
theorem ref_lap {i : Nat} (he : RefE K W te xa) : RefS K W (tDrop (tBM K "list" rAppend (tVar i) (tCons te tNil))) (uLAp i xa) := by
  intro G0 H0 D V L G H σ e hs hu
  obtain ⟨p, rows, hi, hz, hu⟩ := hu
  obtain ⟨v, k1, ⟨k2, k3⟩, k4⟩ := hs.sl i _ hi
  obtain ⟨rfl, vs, hp, rr⟩ := ll_inv k2
  refine ⟨_, k1, .inl ⟨rfl, vs, SqL.of hp⟩, ?_⟩
  refine he G0 H0 G H σ e _ _ _ hs hu (fun G1 H1 v1 r1 s1 g1 rr1 kk => ?_) fun G1 H1 cls d z s1 g1 xr k => L.ex G1 H1 σ e cls d z (hs.grow g1 s1) xr k
  cases r1 with
  | va d => exact kk.elim
  | bo d => exact kk.elim
  | bb c pre f ds => exact kk.elim
  | bg k0 ds0 => exact kk.elim
  | nw ds =>
    obtain ⟨p1, xs1, rfl, a1, a2, a3, a4⟩ := rr1
    have hs1 := hs.grow g1 s1
    have H1p := g1.hh _ _ hp
    refine ⟨p, vs, .ref p1, rfl, rfl, H1p, by rw [rr.len, List.length_map]; exact hz, ?_⟩
    rw [fp_ll] at k3
    have npr : p ∉ rows.map (·.1) := (List.nodup_cons.mp k3).1
    have Hrow : ∀ x ∈ rows.map (·.1), H x ≠ none := fun x hx => (RO.lo _ _ k2 x (by rw [fp_ll]; exact List.mem_cons_of_mem _ hx)).ne
    have n1 : p1 ≠ p := fun z => by rw [z, hp] at a1; cases a1
    have n2 : p1 ∉ rows.map (·.1) := fun z => Hrow p1 z a1
    refine L.nx G1 _ σ _ (hs1.writeT (t' := llT p (rows ++ [(p1, ds)])) (xs := vs ++ [.ref p1]) hi k1 (by rw [fp_ll]; exact List.mem_cons_self) H1p ?_ ?_ fun x hx => ?_) (kk p1)
    · unfold llT
      rw [List.map_append]
      refine .nd ⟨rfl, upd_same⟩ ((ROs.up g1.gg _ _ rr fun x o hx hz => ?_).app (.cons (.nd ⟨rfl, ?_⟩ (ROs.of a4)) .nil))
      · rw [fps_rows] at hz
        have hne : x ≠ p := fun c => by
          subst c
          rcases hz with hz | ⟨xs, rfl⟩
          · exact npr hz
          · rw [hp] at hx
            cases hx
        rw [upd_ne hne]
        exact g1.hh _ _ hx
      · rw [upd_ne n1]
        exact a2
    · rw [fp_ll, List.map_append, ← List.cons_append]
      refine List.nodup_append.mpr ⟨k3, by simp, fun x hx y hy z => ?_⟩
      have hy' : y = p1 := by simpa using hy
      subst hy'
      subst z
      rcases List.mem_cons.mp hx with hx | hx
      · exact n1 hx
      · exact n2 hx
    · rw [fp_ll, List.map_append] at hx
      rw [fp_ll]
      rcases List.mem_cons.mp hx with hx | hx
      · exact .inl (by rw [hx]; exact List.mem_cons_self)
      · rcases List.mem_append.mp hx with hx | hx
        · exact .inl (List.mem_cons_of_mem _ hx)
        · have hx' : x = p1 := by simpa using hx
          subst hx'
          exact .inr ⟨⟨a3, hs.gr.hh.free a1⟩, hs.free (.inl a1)⟩
theorem vs_lap (i : Nat) {x : Str} {p apos cpos : Pos} (he : VE X W a te xa) (hN : X.N[i]? = some x := by rfl) (hv : Vis X.env.scope x := by first | exact Or.inl rfl | exact Or.inr (Or.inl rfl) | exact Or.inr (Or.inr rfl)) (hd : (x == ("__debug__" : Str)) = false := by decide) (hcd : (x == ("__classdict__" : Str)) = false := by decide)
    (hbase : attributeBase (.Name x p) "append" X.env (eval (.Name x p) X.env) = eval (.Name x p) X.env := by rfl)
    (hfew : ((backTo cpos (starEach [a] X.env)).all (fun x => !x.1) && (backToKw cpos (keywordEach [] X.env)).all (fun x => x.1.isSome) && decide ([a].length + ([] : List Keyword).length + (if ([] : List Keyword).isEmpty then 0 else 1) < 30)) = true := by rfl)
    (hline : (apos.endLine == cpos.line) = true := by rfl) (hst : starEach [a] X.env = (false, eval a X.env) :: starEach [] X.env := by rfl) (hpl : (backTo cpos (starEach [] X.env)).any (·.1) = false := by rfl)
    (hsw : swapsWith (.Call (.Attribute (.Name x p) "append" apos) [a] [] cpos) none pos.line X.env = pure false := by rfl) :
    VS X W (.Expr (.Call (.Attribute (.Name x p) "append" apos) [a] [] cpos) pos) (tDrop (tBM X.K "list" rAppend (tVar i) (tCons te tNil))) (uLAp i xa) :=
  ⟨ps_expr (pe_bm PySem.F.plainAttrs_list PySem.F.slot_list_append PySem.F.type_list_append mt_append (pe_var hN hv hd hcd) (pa_cons he.pe pa_nil hst) hbase hfew hline hst hpl) hsw, ref_lap he.rf⟩
/-- y = x[e]: a second name of a row -/
def uAlA (k i : Nat) (x : XE) : US := fun V e => ∃ (p : Addr) (rows : List Row), e[i]? = some (.gn (otS (llT p rows))) ∧ x e (fun s => match s.d with
  | .int j => ∃ (n : Nat) (r : Row), ixN rows.length j = some n ∧ rows[n]? = some r ∧ V.nx (e.set k (.gn (alS r.1)))
  | _ => False) fun z => V.ex z e
theorem ref_alA {k i : Nat} (he : RefE K W te xa) : RefS K W (tAsg (tOp (rIx K) (tVar i) te) (gName k)) (uAlA k i xa) := by
  intro G0 H0 D V L G H σ e hs hu
  obtain ⟨p, rows, hi, hu⟩ := hu
  obtain ⟨v, k1, ⟨k2, k3⟩, k4⟩ := hs.sl i _ hi
  obtain ⟨rfl, vs, hp, rr⟩ := ll_inv k2
  refine ⟨_, k1, ?_⟩
  refine he G0 H0 G H σ e _ _ _ hs hu (fun G1 H1 v1 r1 s1 g1 rr1 kk => ?_) fun G1 H1 cls d z s1 g1 xr k => L.ex G1 H1 σ e cls d z (hs.grow g1 s1) xr k
  have w1 := rr1.wk s1
  generalize r1.d = d1 at kk w1
  cases w1 <;> first
    | exact False.elim kk
    | skip
  rename_i j
  obtain ⟨n, r, hn, hr, kk⟩ := kk
  obtain ⟨e1, us, e2, e3⟩ := rr.row hr
  refine .inl ⟨p, vs, j, .ref r.1, rfl, rfl, SqL.of (g1.hh _ _ hp), ?_, ?_⟩
  · unfold atI
    rw [rr.len, List.length_map, hn]
    exact e1
  · exact L.nx G1 H1 _ _ ((hs.grow g1 s1).setG k (w := alS r.1) ⟨rfl, (fun x (hx : x ∈ ([] : List Addr)) => by cases hx), (fun x (hx : x ∈ ([] : List Addr)) => by cases hx)⟩) kk
theorem vs_alA (k i : Nat) {x y : Str} {p p1 pos1 : Pos} (hN : X.N.Nodup) (he : VE X W a te xa) (hi : X.N[i]? = some x := by rfl) (hk : X.N[k]? = some y := by rfl) (hv : Vis X.env.scope x := by first | exact Or.inl rfl | exact Or.inr (Or.inl rfl) | exact Or.inr (Or.inr rfl)) (hd : (x == ("__debug__" : Str)) = false := by decide) (hcd : (x == ("__classdict__" : Str)) = false := by decide)
    (hx : Loc X.env.scope y := by first | exact Or.inl rfl | exact Or.inr rfl) (hpl : PlainIx a := by intro _ _; rfl)
    (hs : swapsWith (.Subscript (.Name x p) a pos) (some (.Name y p1)) pos1.line X.env = pure false := by rfl) (hf : X.fn y = true ∨ X.env.scope.names.lookup y = some .local := by first | exact .inl rfl | exact .inr rfl) :
    VS X W (.Assign [.Name y p1] (.Subscript (.Name x p) a pos) pos1) (tAsg (tOp (rIx X.K) (tVar i) te) (gName k)) (uAlA k i xa) :=
  ⟨ps_set hN hk hx (pe_ix ix_seq (pe_var hi hv hd hcd) he.pe hpl) hs hf, ref_alA he.rf⟩
/-- the second name, read -/
def xAlV (k i : Nat) : XE := fun e q _ => ∃ (p : Addr) (rows : List Row) (n : Nat) (r : Row), e[k]? = some (.gn (alS r.1)) ∧ e[i]? = some (.gn (otS (llT p rows))) ∧ rows[n]? = some r ∧ q (.bo r.2)
theorem ref_alV {k i : Nat} : RefE K W (tVar k) (xAlV k i) := by
  intro G0 H0 G H σ e Q q ex hs hx hq _
  obtain ⟨p, rows, n, r, hk, hi, hr, hx⟩ := hx
  obtain ⟨v, k1, k2, _⟩ := hs.sl k _ hk
  obtain ⟨v', l1, ⟨l2, _⟩, _⟩ := hs.sl i _ hi
  obtain ⟨rfl, vs, hp, rr⟩ := ll_inv l2
  obtain ⟨e1, us, e2, e3⟩ := rr.row hr
  have k2' : v = .ref r.1 := k2
  subst k2'
  exact ⟨_, k1, hq G H _ (.bo r.2) hs.sub .refl ⟨r.1, us, rfl, e2, e3⟩ hx⟩
theorem ve_alV (k i : Nat) {x : Str} {p : Pos} (hN : X.N[k]? = some x := by rfl) (hv : Vis X.env.scope x := by first | exact Or.inl rfl | exact Or.inr (Or.inl rfl) | exact Or.inr (Or.inr rfl)) (hd : (x == ("__debug__" : Str)) = false := by decide) (hcd : (x == ("__classdict__" : Str)) = false := by decide) :
    VE X W (.Name x p) (tVar k) (xAlV k i) := ⟨pe_var hN hv hd hcd, ref_alV⟩
/-- y[j] = v by the second name -/
def uAlP (k i : Nat) (xi xv : XE) : US := fun V e => xv e (fun r => xi e (fun s => match s.d with
  | .int j => ∃ (p : Addr) (rows : List Row) (n m : Nat) (w : Row), e[k]? = some (.gn (alS w.1)) ∧ e[i]? = some (.gn (otS (llT p rows))) ∧ rows[n]? = some w ∧ ixN w.2.length j = some m ∧ r.stays = true ∧ V.nx (e.set i (.gn (otS (llT p (rows.set n (w.1, w.2.set m r.d))))))
  | _ => False) fun z => V.ex z e) fun z => V.ex z e
def uAlPA (k i : Nat) (xi xv : XE) : US := fun V e => (∃ p, e[k]? = some (.gn (alS p))) ∧ uAlP k i xi xv V e
theorem ref_alP {k i : Nat} (hi : RefE K W tb xb) (hv : RefE K W te xa) : RefS K W (tAsg te (gSub (tVar k) tb rSetL)) (uAlPA k i xb xa) := by
  intro G0 H0 D V L G H σ e hs hu
  obtain ⟨⟨p0, hk1⟩, hu⟩ := hu
  obtain ⟨v0, k1, k2, _⟩ := hs.sl k _ hk1
  refine hv G0 H0 G H σ e _ _ _ hs hu (fun G1 H1 v r s1 g1 rr ku => ?_) fun G1 H1 cls d z s1 g1 xr k => L.ex G1 H1 σ e cls d z (hs.grow g1 s1) xr k
  refine ⟨_, k1, ?_⟩
  refine hi G0 H0 G1 H1 σ e _ _ _ (hs.grow g1 s1) ku (fun G2 H2 w s s2 g2 rr2 kk => ?_) fun G2 H2 cls d z s2 g2 xr k => L.ex G2 H2 σ e cls d z (hs.grow (g1.trans g2) s2) xr k
  have w2 := rr2.wk s2
  generalize s.d = d at kk w2
  cases w2 <;> first
    | exact False.elim kk
    | skip
  rename_i j
  obtain ⟨p, rows, n, m, y, hk, hi', hr, hj, st, kk⟩ := kk
  obtain ⟨v0', k1', k2', _⟩ := hs.sl k _ hk
  rw [k1] at k1'
  cases k1'
  have k2'' : v0 = .ref y.1 := k2'
  subst k2''
  obtain ⟨G3, s3, g23, g3, rp, nn⟩ := (rr.grow g2).fix (G0 := G0) (H0 := H0) (σ := σ) (e := e) s2 (g1.trans g2) st
  have hs3 := hs.grow g3 s3
  obtain ⟨v', l1, ⟨l2, l3⟩, _⟩ := hs3.sl i _ hi'
  obtain ⟨rfl, vs, hp, ro⟩ := ll_inv l2
  obtain ⟨e1, us, e2, e3⟩ := ro.row hr
  refine ⟨y.1, us, _, m, rfl, rfl, e2, by rw [e3.len]; exact hj, ?_⟩
  have hat : OT.at (llT p rows) [n] = some (rowT y) := by
    unfold llT
    rw [OT.at, List.getElem?_map, hr]
    show OT.at (rowT y) [] = _
    rw [OT.at]
  obtain ⟨M, p1, p2, run⟩ := OT.split [n] _ _ hat
  obtain ⟨w', r1, r2⟩ := run l2
  obtain ⟨rfl, _⟩ := row_inv r1
  have ep : OT.put (llT p rows) [n] (rowT (y.1, y.2.set m r.d)) = llT p (rows.set n (y.1, y.2.set m r.d)) := by
    unfold llT
    rw [OT.put, List.getElem?_map, hr]
    show OT.nd _ ((rows.map rowT).set n (OT.put _ [] _)) = _
    rw [OT.put, ← List.map_set]
  have nd := p1.nodup_iff.mp l3
  rw [fp_row] at nd
  have nyM : y.1 ∉ M := fun z => (List.nodup_append.mp nd).2.2 y.1 z y.1 (List.mem_singleton.mpr rfl) rfl
  have perm : (llT p (rows.set n (y.1, y.2.set m r.d))).fp.Perm (llT p rows).fp := by
    rw [← ep]
    refine (p2 _).trans ?_
    rw [fp_row]
    have h := p1.symm
    rw [fp_row] at h
    exact h
  have ro' := r2 G3 (upd H2 y.1 (.lst (us.set m v))) (rowT (y.1, y.2.set m r.d)) (.nd ⟨rfl, upd_same⟩ (ROs.of (RpAll.set rp m e3))) (Same.refl _) fun x o hx hz => by
    have hne : x ≠ y.1 := fun c => by
      subst c
      rcases hz with hz | ⟨xs, rfl⟩
      · exact nyM hz
      · rw [e2] at hx
        cases hx
    rw [upd_ne hne]
    exact hx
  rw [ep] at ro'
  refine L.nx G3 _ σ _ (hs3.writeT (xs := us.set m v) hi' l1 (p1.mem_iff.mpr (List.mem_append_right _ (by rw [fp_row]; exact List.mem_singleton.mpr rfl))) e2 ro' (perm.nodup_iff.mpr l3) fun x hx => .inl (perm.mem_iff.mp hx)) kk
theorem vs_alP (k i : Nat) {x : Str} {p ipos : Pos} (hi : VE X W b tb xb) (hv : VE X W a te xa) (hN : X.N[k]? = some x := by rfl) (hvi : Vis X.env.scope x := by first | exact Or.inl rfl | exact Or.inr (Or.inl rfl) | exact Or.inr (Or.inr rfl)) (hd : (x == ("__debug__" : Str)) = false := by decide) (hcd : (x == ("__classdict__" : Str)) = false := by decide)
    (ha : ∀ v, assign (.Subscript (.Name x p) b ipos) X.env v = (do
      let ov ← holding [v] (eval (.Name x p) X.env)
      let iv ← holding [v, ov] (eval b X.env)
      standAt ipos
      holding [v, ov, iv] (setItem ov iv v)
      release [v, ov, iv] []) := by intro _; rfl)
    (hs : swapsWithSole [.Subscript (.Name x p) b ipos] a pos.line X.env = pure false := by rfl) (hw : swappedStores [.Subscript (.Name x p) b ipos] a X.env = pure none := by rfl)
    (h1 : (assignEach [.Subscript (.Name x p) b ipos] X.env).map (·.2) = [assign (.Subscript (.Name x p) b ipos) X.env] := by rfl) :
    VS X W (.Assign [.Subscript (.Name x p) b ipos] a pos) (tAsg te (gSub (tVar k) tb rSetL)) (uAlPA k i xb xa) :=
  ⟨ps_asg hv.pe (pg_sub (pe_var hN hvi hd hcd) hi.pe set_list ha) hs hw h1, ref_alP hi.rf hv.rf⟩
/-! ### a text times a number -/
def rRepS : R2 := fun x y H Q => ∃ z n, x = .str z ∧ y = .int n ∧ MulOk z n ∧ Q (.str (Txt.mul z n)) H
theorem op_repS : OpR X (binaryOp .Mult) rRepS := by
  intro pins s σ H x y v u Q I rx ry h
  obtain ⟨z, n, rfl, rfl, hm, q⟩ := h
  obtain ⟨t, rfl⟩ := rx
  obtain ⟨t', rfl⟩ := ry
  exact PySem.SB.mul hm fun t2 k => ⟨.str _, H, I.tok k, ⟨_, rfl⟩, q⟩
def yTimesS (a b : PyData) (q : Rs → Prop) : Prop := match a, b with
  | .str z, .int n => MulOk z n ∧ q (.va (.str (Txt.mul z n)))
  | _, _ => False
theorem rr_timesS : RefR K rRepS yTimesS := by
  intro Hs G H v w r1 r2 Q q sub rr1 rr2 hy hq
  have w1 := rr1.wk sub
  have w2 := rr2.wk sub
  unfold yTimesS at hy
  generalize hd1 : r1.d = d1 at hy w1
  generalize hd2 : r2.d = d2 at hy w2
  split at hy
  · obtain rfl := rp_str w1
    obtain rfl := rp_int w2
    exact ⟨_, _, rfl, rfl, hy.1, hq G H _ (.va _) sub .refl (.str _) hy.2⟩
  · exact hy.elim
theorem ve_timesS (ha : VE X W a te xa) (hb : VE X W b tb xb) : VE X W (.BinOp a .Mult b pos) (tOp rRepS te tb) (xR2 yTimesS xa xb) := ⟨pe_op op_repS ha.pe hb.pe, ref_r2 rr_timesS ha.rf hb.rf⟩
end
end Pv

/-! PwR: dicts of a def's own, keys texts. -/
namespace Pv
open PySem L2 PySem.Spec PyProof.Rows
abbrev KD := List (Str × PyData)
def KVR (K : PySem.W.Frag) (G : Hp) : List (Key × V) → KD → Prop := Paired fun a b => a.1 = Sum.inr b.1 ∧ Rp K G a.2 b.2
def valD (kd : KD) (k : Str) : Option PyData := (kd.find? fun p => decide (p.1 = k)).map (·.2)
def putD (kd : KD) (k : Str) (d : PyData) : KD := if (kd.any fun p => decide (p.1 = k)) = true then kd.map (fun p => if p.1 = k then (p.1, d) else p) else kd ++ [(k, d)]
section
variable {K : PySem.W.Frag} {G G' : Hp}
theorem inr_eq {a b : Str} : (Sum.inr a : Key) = Sum.inr b ↔ a = b := ⟨fun h => by injection h, fun h => by rw [h]⟩
theorem KVR.mono (s : Same G G') : ∀ {kvs : List (Key × V)} {kd : KD}, KVR K G kvs kd → KVR K G' kvs kd
  | _, _, .nil => .nil
  | _, _, .cons h t => .cons ⟨h.1, h.2.mono s _ _⟩ (KVR.mono s t)
theorem KVR.app : ∀ {kvs lvs : List (Key × V)} {kd ld : KD}, KVR K G kvs kd → KVR K G lvs ld → KVR K G (kvs ++ lvs) (kd ++ ld)
  | _, _, _, _, .nil, h => h
  | _, _, _, _, .cons h t, h2 => .cons h (KVR.app t h2)
theorem KVR.len : ∀ {kvs : List (Key × V)} {kd : KD}, KVR K G kvs kd → kvs.length = kd.length
  | _, _, .nil => rfl
  | _, _, .cons _ t => by rw [List.length_cons, List.length_cons, KVR.len t]
theorem KVR.keys : ∀ {kvs : List (Key × V)} {kd : KD}, KVR K G kvs kd → kvs.map (·.1) = (kd.map (·.1)).map Sum.inr
  | _, _, .nil => rfl
  | _, _, .cons h t => by rw [List.map_cons, List.map_cons, List.map_cons, h.1, KVR.keys t]
theorem KVR.any {k : Str} : ∀ {kvs : List (Key × V)} {kd : KD}, KVR K G kvs kd → (kvs.any fun kv => decide (kv.1 = Sum.inr k)) = kd.any fun p => decide (p.1 = k)
  | _, _, .nil => rfl
  | _, _, .cons h t => by
    rw [List.any_cons, List.any_cons, KVR.any t, h.1]
    congr 1
    exact decide_eq_decide.mpr inr_eq
theorem KVR.repl {k : Str} {v : V} {d : PyData} (r : Rp K G v d) : ∀ {kvs : List (Key × V)} {kd : KD}, KVR K G kvs kd → KVR K G (kvs.map fun kv => if kv.1 = Sum.inr k then (kv.1, v) else kv) (kd.map fun p => if p.1 = k then (p.1, d) else p)
  | _, _, .nil => .nil
  | (a, u) :: kvs, (b, c) :: kd, .cons h t => by
    obtain ⟨h1, h2⟩ := h
    have h1 : a = Sum.inr b := h1
    subst h1
    rw [List.map_cons, List.map_cons]
    refine .cons ?_ (KVR.repl r t)
    by_cases z : b = k
    · rw [if_pos (show (Sum.inr b : Key) = Sum.inr k from congrArg Sum.inr z), if_pos (show b = k from z)]
      exact ⟨rfl, r⟩
    · rw [if_neg (fun y => z (inr_eq.mp y)), if_neg (show ¬ b = k from z)]
      exact ⟨rfl, h2⟩
theorem KVR.put {kvs : List (Key × V)} {kd : KD} (h : KVR K G kvs kd) {k : Str} {v : V} {d : PyData} (r : Rp K G v d) : KVR K G (putK kvs (.inr k) v) (putD kd k d) := by
  unfold putK putD
  rw [h.any]
  split
  · exact h.repl r
  · exact h.app (.cons ⟨rfl, r⟩ .nil)
theorem KVR.val {k : Str} {d : PyData} : ∀ {kvs : List (Key × V)} {kd : KD}, KVR K G kvs kd → valD kd k = some d → ∃ v, valV kvs (.inr k) = some v ∧ Rp K G v d
  | _, _, .nil, e => by cases e
  | (a, u) :: kvs, (b, c) :: kd, .cons h t, e => by
    obtain ⟨h1, h2⟩ := h
    have h1 : a = Sum.inr b := h1
    subst h1
    by_cases z : b = k
    · subst z
      have e' : some c = some d := by
        rw [← e]
        simp [valD]
      cases e'
      exact ⟨u, valV_pos rfl, h2⟩
    · have e' : valD kd k = some d := by
        rw [← e]
        simp [valD, List.find?_cons, z]
      obtain ⟨v, q1, q2⟩ := KVR.val t e'
      exact ⟨v, by rw [valV_neg (fun y => z (inr_eq.mp y))]; exact q1, q2⟩
theorem merge_new : ∀ (more acc : List (Key × V)), ((acc ++ more).map (·.1)).Nodup → mergeK acc more = acc ++ more
  | [], acc, _ => by rw [List.append_nil] <;> rfl
  | p :: more, acc, h => by
    show mergeK (putK acc p.1 p.2) more = _
    have hn : (acc.any fun kv => decide (kv.1 = p.1)) = false := by
      rw [List.any_eq_false]
      intro kv hkv z
      rw [List.map_append, List.nodup_append] at h
      exact h.2.2 kv.1 (List.mem_map.mpr ⟨kv, hkv, rfl⟩) p.1 (by rw [List.map_cons]; exact List.mem_cons_self) (of_decide_eq_true z)
    have e : putK acc p.1 p.2 = acc ++ [p] := by
      unfold putK
      rw [hn, if_neg (by decide)]
    rw [e, merge_new more (acc ++ [p]) (by rw [List.append_assoc]; exact h), List.append_assoc]
    rfl
end
/-- a dict that one slot alone holds -/
def dcS (p : Addr) (kd : KD) : GS where
  fp := [p]
  ok := fun K G H v => v = .ref p ∧ ∃ kvs : List (Key × V), H p = some (.dK kvs) ∧ KVR K G kvs kd
  up := fun h s g => by
    obtain ⟨h1, kvs, h2, h3⟩ := h
    exact ⟨h1, kvs, g _ _ h2 (.inl (List.mem_singleton.mpr rfl)), h3.mono s⟩
  lo := fun h x hx => by
    obtain ⟨h1, kvs, h2, h3⟩ := h
    rw [List.mem_singleton.mp hx, h2]
    exact Option.some_ne_none _
section
variable {K : PySem.W.Frag} {G0 H0 G H : Hp} {σ : L2.St} {e : En}
/-- a thing in a thing that slot i holds is changed -/
theorem StR.writeW (hs : StR K G0 H0 G H σ e) {i : Nat} {w w' : GS} {v : V} {p : Addr} {o0 o : HO} (hi : e[i]? = some (.gn w)) (hv : σ[i]? = some (some v)) (hp : p ∈ w.fp) (hH : H p = some o0) (ht : ∀ xs, o0 ≠ .tup xs) (h : w'.ok K G (upd H p o) v)
    (hf : ∀ x ∈ w'.fp, x ∈ w.fp) : StR K G0 H0 G (upd H p o) σ (e.set i (.gn w')) := by
  obtain ⟨v0, k1, k2, k4⟩ := hs.sl i _ hi
  rw [hv] at k1
  cases k1
  obtain ⟨gp, h0p⟩ := k4 p hp
  refine ⟨same_out hs.sub gp, ⟨hs.gr.gg, same_out hs.gr.hh h0p, hs.gr.nn⟩, by rw [List.length_set, hs.len], fun j s hj => ?_, hs.dj.le fun j s x hj hx => ?_⟩
  · rw [set_get] at hj
    by_cases hc : i = j ∧ i < e.length
    · rw [if_pos hc] at hj
      cases hj
      rw [← hc.1, hv]
      exact ⟨v, rfl, h, fun x hx => k4 x (hf x hx)⟩
    · rw [if_neg hc] at hj
      have hij : i ≠ j := fun z => hc ⟨z, (List.getElem?_eq_some_iff.mp hi).1⟩
      exact (hs.sl j s hj).away _ (fun z => hs.dj i j _ _ p hij hi hj hp z) (fun zs z => by
        rw [hH] at z
        exact ht zs (Option.some.inj z)) h0p
  · rw [set_get] at hj
    by_cases hc : i = j ∧ i < e.length
    · rw [if_pos hc] at hj
      cases hj
      obtain ⟨rfl, _⟩ := hc
      exact ⟨_, hi, hf x hx⟩
    · rw [if_neg hc] at hj
      exact ⟨_, hj, hx⟩
end
section
variable {X : Cx} {W : WX} {K : PySem.W.Frag} {a b : Expr} {es : List Expr} {te tb : TE} {ta : TA} {xa xb : XE} {xs : XA} {pos : Pos}
/-- x = {} -/
def uDc0 (i : Nat) : US := fun V e => ∀ p, V.nx (e.set i (.gn (dcS p [])))
theorem vs_dc0 (i : Nat) {x : Str} {p1 pos1 : Pos} (hN : X.N.Nodup) (hi : X.N[i]? = some x := by rfl) (hx : Loc X.env.scope x := by first | exact Or.inl rfl | exact Or.inr rfl)
    (hs : swapsWith (.Dict [] [] pos) (some (.Name x p1)) pos1.line X.env = pure false := by rfl) (hf : X.fn x = true ∨ X.env.scope.names.lookup x = some .local := by first | exact .inl rfl | exact .inr rfl) :
    VS X W (.Assign [.Name x p1] (.Dict [] [] pos) pos1) (tAsg tDNewK (gName i)) (uDc0 i) := ⟨ps_set hN hi hx pe_dnewK hs hf, fun G0 H0 D V L G H σ e hs hu => by
  intro p hp
  have gp : Grow G H G (upd H p (.dK [])) := Grow.out hp
  exact L.nx G _ _ _ ((hs.grow gp (same_out hs.sub (hs.sub.free hp))).setG i (w := dcS p []) ⟨⟨rfl, [], upd_same, .nil⟩, (fun x hx => by
    rw [List.mem_singleton.mp hx]
    exact ⟨hs.sub.free hp, hs.gr.hh.free hp⟩), (fun x hx => by
    rw [List.mem_singleton.mp hx]
    exact hs.free (.inl hp))⟩) (hu p)⟩
/-- x[k] = v -/
def uDput (i : Nat) (xk xv : XE) : US := fun V e => (∃ (p : Addr) (kd : KD), e[i]? = some (.gn (dcS p kd))) ∧ xv e (fun r => xk e (fun s => match s.d with
  | .str k => ∃ (p : Addr) (kd : KD), e[i]? = some (.gn (dcS p kd)) ∧ kd.length < sizeLine ∧ r.stays = true ∧ V.nx (e.set i (.gn (dcS p (putD kd k r.d))))
  | _ => False) fun z => V.ex z e) fun z => V.ex z e
theorem ref_dput {i : Nat} (hk : RefE K W tb xb) (hv : RefE K W te xa) : RefS K W (sDPut (tVar i) tb te) (uDput i xb xa) := by
  intro G0 H0 D V L G H σ e hs hu
  obtain ⟨⟨p0, kd0, hi0⟩, hu⟩ := hu
  obtain ⟨v0, k1, _⟩ := hs.sl i _ hi0
  refine hv G0 H0 G H σ e _ _ _ hs hu (fun G1 H1 v r s1 g1 rr ku => ?_) fun G1 H1 cls d z s1 g1 xr k => L.ex G1 H1 σ e cls d z (hs.grow g1 s1) xr k
  refine ⟨_, k1, ?_⟩
  refine hk G0 H0 G1 H1 σ e _ _ _ (hs.grow g1 s1) ku (fun G2 H2 w s s2 g2 rr2 kk => ?_) fun G2 H2 cls d z s2 g2 xr k => L.ex G2 H2 σ e cls d z (hs.grow (g1.trans g2) s2) xr k
  have w2 := rr2.wk s2
  generalize s.d = d at kk w2
  cases w2 <;> first
    | exact False.elim kk
    | skip
  rename_i k
  obtain ⟨p, kd, hi, hz, st, kk⟩ := kk
  obtain ⟨G3, s3, g23, g3, rp, nn⟩ := (rr.grow g2).fix (G0 := G0) (H0 := H0) (σ := σ) (e := e) s2 (g1.trans g2) st
  have hs3 := hs.grow g3 s3
  obtain ⟨v', l1, ⟨l2, kvs, l3, l4⟩, _⟩ := hs3.sl i _ hi
  rw [k1] at l1
  cases l1
  subst l2
  refine ⟨p, _, rfl, DPut.k (k := .inr k) l3 (by rw [l4.len]; exact hz), ?_⟩
  exact L.nx G3 _ σ _ (hs3.writeW (w' := dcS p (putD kd k r.d)) hi k1 (List.mem_singleton.mpr rfl) l3 (fun xs z => by cases z) ⟨rfl, _, upd_same, l4.put rp⟩ fun x hx => hx) kk
theorem vs_dput (i : Nat) {x : Str} {p pos' : Pos} (hu : X.A.units + 1 < cLine) (hk : VE X W b tb xb) (hv : VE X W a te xa) (hN : X.N[i]? = some x := by rfl) (hvi : Vis X.env.scope x := by first | exact Or.inl rfl | exact Or.inr (Or.inl rfl) | exact Or.inr (Or.inr rfl)) (hd : (x == ("__debug__" : Str)) = false := by decide) (hcd : (x == ("__classdict__" : Str)) = false := by decide)
    (hs : swapsWith a (some (.Subscript (.Name x p) b pos')) pos.line X.env = pure false := by rfl) :
    VS X W (.Assign [.Subscript (.Name x p) b pos'] a pos) (sDPut (tVar i) tb te) (uDput i xb xa) := ⟨ps_dput hu (pe_var hN hvi hd hcd) hk.pe hv.pe hs, ref_dput hk.rf hv.rf⟩
/-- x[k] -/
def xDget (i : Nat) (xk : XE) : XE := fun e q ex => (∃ (p : Addr) (kd : KD), e[i]? = some (.gn (dcS p kd))) ∧ xk e (fun s => match s.d with
  | .str k => ∃ (p : Addr) (kd : KD) (d : PyData), e[i]? = some (.gn (dcS p kd)) ∧ valD kd k = some d ∧ q (.va d)
  | _ => False) ex
theorem ref_dget {i : Nat} (hk : RefE K W tb xb) : RefE K W (tDGet (tVar i) tb) (xDget i xb) := by
  intro G0 H0 G H σ e Q q ex hs hx hq hw
  obtain ⟨⟨p0, kd0, hi0⟩, hx⟩ := hx
  obtain ⟨v0, k1, _⟩ := hs.sl i _ hi0
  refine ⟨_, k1, ?_⟩
  refine hk G0 H0 G H σ e _ _ _ hs hx (fun G2 H2 w s s2 g2 rr2 kk => ?_) hw
  have w2 := rr2.wk s2
  generalize s.d = d at kk w2
  cases w2 <;> first
    | exact False.elim kk
    | skip
  rename_i k
  obtain ⟨p, kd, d, hi, hd, kk⟩ := kk
  obtain ⟨v', l1, ⟨l2, kvs, l3, l4⟩, _⟩ := (hs.grow g2 s2).sl i _ hi
  rw [k1] at l1
  cases l1
  subst l2
  obtain ⟨u, e1, e2⟩ := l4.val hd
  refine ⟨p, u, rfl, ?_, hq G2 H2 u (.va d) s2 g2 e2 kk⟩
  have h := DGet.k (k := .inr k) l3
  rw [e1] at h
  exact h
theorem ve_dget (i : Nat) {x : Str} {p : Pos} (hu : X.A.units + 1 < cLine) (hk : VE X W b tb xb) (hN : X.N[i]? = some x := by rfl) (hvi : Vis X.env.scope x := by first | exact Or.inl rfl | exact Or.inr (Or.inl rfl) | exact Or.inr (Or.inr rfl)) (hd : (x == ("__debug__" : Str)) = false := by decide) (hcd : (x == ("__classdict__" : Str)) = false := by decide)
    (hs : NoSl b := by intro _ _; rfl) : VE X W (.Subscript (.Name x p) b pos) (tDGet (tVar i) tb) (xDget i xb) := ⟨pe_dget hu (pe_var hN hvi hd hcd) hk.pe hs, ref_dget hk.rf⟩
/-- sorted(x) -/
def xDsort (i : Nat) : XE := fun e q _ => ∃ (p : Addr) (kd : KD), e[i]? = some (.gn (dcS p kd)) ∧ kd.length < 64 ∧ ∀ ys : List Str, ys.Perm (kd.map (·.1)) → sortedS ys = true → q (.nw (ys.map .str))
theorem strsRp {G : Hp} : ∀ ys : List Str, RpAll K G (ys.map V.str) (ys.map .str)
  | [] => .nil
  | y :: ys => .cons (.str y) (strsRp ys)
theorem ve_dsort (i : Nat) {x : Str} {p p1 : Pos} (hc : X.calm = true) (hg : Gl X "sorted") (hm : X.mg "sorted" = none) (hN : X.N[i]? = some x := by rfl) (hv : Vis X.env.scope x := by first | exact Or.inl rfl | exact Or.inr (Or.inl rfl) | exact Or.inr (Or.inr rfl)) (hd : (x == ("__debug__" : Str)) = false := by decide) (hcd : (x == ("__classdict__" : Str)) = false := by decide)
    (he : starEach [.Name x p1] X.env = (false, eval (.Name x p1) X.env) :: starEach [] X.env := by rfl) (hpl : (backTo pos (starEach [] X.env)).any (·.1) = false := by rfl) :
    VE X W (.Call (.Name "sorted" p) [.Name x p1] [] pos) (tCB (fun xs H Q => ∃ (a : Addr) (kvs : List (Key × V)) (ks : List Str), xs = [.ref a] ∧ Rd H a (.dK kvs) ∧ kvs.map (·.1) = ks.map Sum.inr ∧ ks.length < 64 ∧
      ∀ ys p, ys.Perm ks → sortedS ys = true → H p = none → Q (.ref p) (upd H p (.lst (ys.map V.str)))) (tCons (tVar i) tNil)) (xDsort i) :=
  ⟨pe_callB (call_sortedD hc) hg hm (by decide +kernel) (pa_cons (pe_var hN hv hd hcd) pa_nil he) (by decide) (by decide) he hpl, by
    intro G0 H0 G H σ e Q q ex hs hx hq _
    obtain ⟨p, kd, hi, hz, hx⟩ := hx
    obtain ⟨v, k1, ⟨k2, kvs, k3, k4⟩, _⟩ := hs.sl i _ hi
    subst k2
    refine ⟨_, k1, p, kvs, kd.map (·.1), rfl, .inl k3, k4.keys, by rw [List.length_map]; exact hz, fun ys l hp hsd hl => ?_⟩
    exact hq G _ (.ref l) (.nw _) (same_out hs.sub (hs.sub.free hl)) (Grow.out hl) ⟨l, _, rfl, hl, upd_same, hs.sub.free hl, strsRp ys⟩ (hx ys hp hsd)⟩
/-! ### a display -/
def xPrs : List (Str × XE) → En → (KD → Prop) → Xk → Prop
  | [], _, q, _ => q []
  | (k, x) :: r, e, q, ex => x e (fun v => v.stays = true ∧ xPrs r e (fun kd => q ((k, v.d) :: kd)) ex) ex
inductive VPrs (X : Cx) (W : WX) (pos : Pos) : List (Option Expr) → List Expr → List (TE × TE) → List (Str × XE) → Prop
  | nil : VPrs X W pos [] [] [] []
  | cons {k : Str} {j : _} {p : Pos} {a : Expr} {te : TE} {xa : XE} {ks : List (Option Expr)} {vs : List Expr} {trs : List (TE × TE)} {kxs : List (Str × XE)} : VE X W a te xa → VPrs X W pos ks vs trs kxs → VPrs X W pos (some (.Constant (.str k) j p) :: ks) (a :: vs) ((tC (.str k), te) :: trs) ((k, xa) :: kxs)
theorem VPrs.pps {ks : List (Option Expr)} {vs : List Expr} {trs : List (TE × TE)} {kxs : List (Str × XE)} (h : VPrs X W pos ks vs trs kxs) : PPs X pos ks vs trs := by
  induction h with
  | nil => exact pps_nil
  | cons h t ih => exact pps_cons pe_str h.pe ih
theorem VPrs.rf {ks : List (Option Expr)} {vs : List Expr} {trs : List (TE × TE)} {kxs : List (Str × XE)} (h : VPrs X W pos ks vs trs kxs) : ∀ {G0 H0 G H : Hp} {σ : L2.St} {e : En} {Q : List (V × V) → Hp → Prop} {q : KD → Prop} {ex : Xk}, StR X.K G0 H0 G H σ e → xPrs kxs e q ex →
    (∀ G' H' kvs kd, Same G' H' → Grow G H G' H' → KVR X.K G' kvs kd → kd.map (·.1) = kxs.map (·.1) → q kd → Q (kvs.map fun kv => (kV kv.1, kv.2)) H') →
    (∀ G' H' cls d y, Same G' H' → Grow G H G' H' → XR X.K G' H' cls d y → ex y → W cls d σ H') → tPairs trs σ H Q := by
  induction h with
  | nil => exact fun {G0 H0 G H σ e Q q ex} hs hx hq _ => hq G H [] [] hs.sub .refl .nil rfl hx
  | cons h t ih =>
    intro G0 H0 G H σ e Q q ex hs hx hq hw
    rename_i k j p a te xa ks vs trs kxs
    refine h.rf G0 H0 G H σ e _ _ ex hs hx (fun G1 H1 v r s1 g1 rr kk => ?_) hw
    obtain ⟨st, kk⟩ := kk
    obtain ⟨G2, s2, g12, g2, rp, nn⟩ := rr.fix (G0 := G0) (H0 := H0) (σ := σ) (e := e) s1 g1 st
    refine ih (hs.grow g2 s2) kk (fun G3 H3 kvs kd s3 g3 kr ke qq => ?_) fun G3 H3 cls d y s3 g3 => hw G3 H3 cls d y s3 (g2.trans g3)
    exact hq G3 H3 ((.inr k, v) :: kvs) ((k, r.d) :: kd) s3 (g2.trans g3) (.cons ⟨rfl, rp.mono g3.gg _ _⟩ kr) (by rw [List.map_cons, List.map_cons, ke]) qq
def uDsp (i : Nat) (kxs : List (Str × XE)) : US := fun V e => xPrs kxs e (fun kd => ∀ p, V.nx (e.set i (.gn (dcS p kd)))) fun z => V.ex z e
theorem vs_dsp (i : Nat) {x : Str} {p1 pos1 : Pos} {ks : List (Option Expr)} {vs : List Expr} {trs : List (TE × TE)} {kxs : List (Str × XE)} (hN : X.N.Nodup) (h : VPrs X W pos ks vs trs kxs) (hnd : (kxs.map (·.1)).Nodup) (h15 : kxs.length ≤ 15) (hi : X.N[i]? = some x := by rfl) (hx : Loc X.env.scope x := by first | exact Or.inl rfl | exact Or.inr rfl)
    (hs : swapsWith (.Dict ks vs pos) (some (.Name x p1)) pos1.line X.env = pure false := by rfl) (hf : X.fn x = true ∨ X.env.scope.names.lookup x = some .local := by first | exact .inl rfl | exact .inr rfl)
    (hall : ks.all (·.isSome) = true := by rfl) (hl : ks.length = vs.length := by rfl) (h0 : ks ≠ [] := by exact List.cons_ne_nil _ _) (hk15 : ks.length ≤ 15 := by decide) :
    VS X W (.Assign [.Name x p1] (.Dict ks vs pos) pos1) (tAsg (tDisp trs) (gName i)) (uDsp i kxs) := ⟨ps_set hN hi hx (pe_disp h.pps hall hl h0 hk15) hs hf, fun G0 H0 D V L G H σ e hs hu => by
  intro p hp
  have gp : Grow G H G (upd H p (.dK [])) := Grow.out hp
  have hs1 := hs.grow gp (same_out hs.sub (hs.sub.free hp))
  refine h.rf hs1 hu (fun G2 H2 kvs kd s2 g2 kr ke qq => ?_) fun G2 H2 cls d z s2 g2 xr k => L.ex G2 H2 σ e cls d z (hs1.grow g2 s2) xr k
  have hl2 : kvs.length ≤ 15 := by
    rw [kr.len]
    have := congrArg List.length ke
    rw [List.length_map, List.length_map] at this
    omega
  refine ⟨g2.hh _ _ upd_same, kvs, rfl, hl2, ?_⟩
  have hnd2 : (kvs.map (·.1)).Nodup := by
    rw [kr.keys, ke]
    exact List.pairwise_map.mpr (hnd.imp fun h z => h (by injection z))
  have e1 := merge_new kvs [] (by rw [List.nil_append]; exact hnd2)
  rw [List.nil_append] at e1
  rw [e1]
  have hs2 := hs1.grow g2 s2
  have G2p : G2 p = none := g2.nn p (hs.sub.free hp) (by rw [upd_same]; exact Option.some_ne_none _)
  have h0p : H0 p = none := hs.gr.hh.free hp
  have fr : ∀ (j : Nat) (t : Sl), e[j]? = some t → ¬ t.has σ[j]? p := hs.free (.inl hp)
  have hs3 := hs2.poke (o := .dK kvs) (g2.hh _ _ upd_same) (fun xs z => by cases z) G2p h0p fr
  exact L.nx G2 _ _ _ (hs3.setG i (w := dcS p kd) ⟨⟨rfl, kvs, upd_same, kr⟩, (fun y hy => by
    rw [List.mem_singleton.mp hy]
    exact ⟨G2p, h0p⟩), (fun y hy => by
    rw [List.mem_singleton.mp hy]
    exact fr)⟩) (qq p)⟩
end
/-! ### defs that hand out such a thing -/
abbrev FnW := List PyData → (GS → Prop) → Xk → Prop
def spW (K : PySem.W.Frag) (F : FnW) : Sp := fun vs H Q E => ∃ (G : Hp) (ds : List PyData) (q : GS → Prop) (ex : Xk), Same G H ∧ RpAll K G vs ds ∧ F ds q ex ∧
  (∀ G' H' v w, Same G' H' → Grow G H G' H' → w.ok K G' H' v → (∀ x ∈ w.fp, H x = none ∧ G' x = none) → q w → Q v H') ∧ (∀ G' H' cls d y, Same G' H' → Grow G H G' H' → XR K G' H' cls d y → ex y → E cls d H')
def enVW (q : GS → Prop) (ex : Xk) : EnV := ⟨fun _ => False, fun _ _ => False, fun _ => False, fun _ => False, fun y _ => ex y, fun w _ => q w⟩
section
variable {P : Program} {w : World} {K : PySem.W.Frag} {mg : Str → Option Value} {base : Heap} {x qual : Str} {params : Arguments} {body : List Stmt} {scope : Scope} {dvs : List V} {kws : List (Str × V)} {f : Addr} {fd : FuncData} {CX : CXT}
theorem spW_body {N : List Str} {Fs : FnW} {u : US} {W : WX} {t : TS} {vs : List V} {H : Hp} {Q : VK} {E : XK} (hW : ∀ cls d σ H, E cls d H → W cls d σ H) (h : RefS K W t u) (hu : ∀ ds q ex, Fs ds q ex → u (enVW q ex) (en0 N.length ds)) (hs : spW K Fs vs H Q E) :
    t { nx := fun _ H' => Q .non H', rt := Q } (start N vs) H := by
  obtain ⟨G, ds, q, ex, sub, ra, hF, hq, hex⟩ := hs
  exact h G H _ (enVW q ex) ⟨fun _ _ _ _ _ k => k.elim, fun _ _ _ _ _ _ _ _ k => k.elim, fun _ _ _ _ _ k => k.elim, fun _ _ _ _ _ k => k.elim, fun G' H' σ e cls d y hs xr k => hW _ _ _ _ (hex G' H' cls d y hs.sub hs.gr xr k),
    fun G' H' σ e v w st asn k => hq G' H' v w st.sub st.gr asn.ok (fun x hx => ⟨(asn.nn x hx).2, (asn.nn x hx).1⟩) k⟩ G H _ _ (StR.start G H sub N ra) (hu ds q ex hF)
theorem defW0 {N ps : List Str} {k : Nat} {Fs : FnW} {u : US} (F : FunD K x qual params body scope dvs kws f fd) (S : FnScope N ps scope) (hx : ∀ ds q ex, Fs ds q ex → ds.length = ps.length) (hu : ∀ ds q ex, Fs ds q ex → u (enVW q ex) (en0 N.length ds))
    (hbody : ∀ (cdv : Value) (A : Around) (outer : List Env) (s : Shared) (H : Hp) (E : XK), Room k (A.deeper (envOfC qual scope s.heap.objs.size f cdv)) → ∃ t, VSs (cxOf CX P w K mg base N qual scope f cdv A outer s H E).nox WX0 body t u)
    (hne : ∀ ds q ex ex', Fs ds q ex → Fs ds q ex') : FnOk P w K mg base CX (k + 1) f fd ps (spW K Fs) := by
  refine F.ok S (fun vs H Q E h => ?_) fun cdv A outer s H vs Q E hr h => ?_
  · obtain ⟨G, ds, q, ex, sub, ra, hF, _⟩ := h
    rw [ra.len]
    exact hx ds q ex hF
  · obtain ⟨t, h1⟩ := hbody cdv A outer s H E hr
    refine ⟨t, PSs.nox h1.ps, ?_⟩
    obtain ⟨G, ds, q, ex, sub, ra, hF, hq, _⟩ := h
    exact spW_body (E := fun _ _ _ => False) (fun _ _ _ _ z => z.elim) h1.rf hu ⟨G, ds, q, fun _ => False, sub, ra, hne ds q ex _ hF, hq, fun _ _ _ _ _ _ _ _ z => z.elim⟩
end
section
variable {X : Cx} {W : WX} {K : PySem.W.Frag} {a b : Expr} {es : List Expr} {te tb : TE} {ta : TA} {xa xb : XE} {xs : XA} {pos : Pos}
/-- return x of a thing held whole -/
def uRetW (i : Nat) : US := fun V e => ∃ w, e[i]? = some (.gn w) ∧ V.rg w (e.set i .no)
theorem vs_retW (i : Nat) {x : Str} {p : Pos} (hN : X.N[i]? = some x := by rfl) (hv : Vis X.env.scope x := by first | exact Or.inl rfl | exact Or.inr (Or.inl rfl) | exact Or.inr (Or.inr rfl)) (hd : (x == ("__debug__" : Str)) = false := by decide)
    (hcd : (x == ("__classdict__" : Str)) = false := by decide) : VS X W (.Return (some (.Name x p)) pos) (tRet (tVar i)) (uRetW i) := ⟨ps_ret (pe_var hN hv hd hcd), fun G0 H0 D V L G H σ e hs hu => by
  obtain ⟨w, hi, hu⟩ := hu
  obtain ⟨v, h1, h2, h3⟩ := hs.sl i _ hi
  refine ⟨_, h1, L.rg G H σ _ v w (hs.forget i) ⟨h2, h3, fun y hy j t hj hx => ?_⟩ hu⟩
  rw [set_get] at hj
  by_cases hc : i = j ∧ i < e.length
  · rw [if_pos hc] at hj
    cases hj
    exact hx.elim
  · rw [if_neg hc] at hj
    have hij : i ≠ j := fun z => hc ⟨z, (List.getElem?_eq_some_iff.mp hi).1⟩
    exact hs.dj i j _ _ y hij hi hj hy hx⟩
/-- x = g(..) -/
def uAsgW (i : Nat) (F : FnW) (xs : XA) : US := fun V e => xs e (fun rs => rs.all Rs.stays = true ∧ F (rs.map Rs.d) (fun w => V.nx (e.set i (.gn w))) (fun y => V.ex y e)) (fun y => V.ex y e)
theorem ref_asgW {i : Nat} {F : FnW} (hr : RefA K W ta xs) : RefS K W (tAsg (tCallSD (spW K F) [] (fun σ cls d H => W cls d σ H) ta) (gName i)) (uAsgW i F xs) := by
  intro G0 H0 D V L G H σ e hs hu
  refine hr G0 H0 G H σ e _ _ _ hs hu (fun G1 H1 vs rs s1 g1 pr k1 => ?_) fun G1 H1 cls d y s1 g1 xr k => L.ex G1 H1 σ e cls d y (hs.grow g1 s1) xr k
  obtain ⟨hz, k⟩ := k1
  obtain ⟨G2, s2, g2, ra⟩ := fix_args s1 g1 pr hz
  rw [List.append_nil]
  refine ⟨G2, rs.map Rs.d, _, _, s2, ra, k, fun G' H' v w s3 g3 ok fr q => ?_, fun G' H' cls d y s3 g3 xr q => L.ex G' H' σ e cls d y (hs.grow (g2.trans g3) s3) xr q⟩
  have hH : ∀ x ∈ w.fp, H x = none := fun x hx => g1.hh.free (fr x hx).1
  exact L.nx G' H' _ _ ((hs.grow (g2.trans g3) s3).setG i (w := w) ⟨ok, fun x hx => ⟨(fr x hx).2, hs.gr.hh.free (hH x hx)⟩, fun x hx => hs.free (.inl (hH x hx))⟩) q
theorem vs_asgW {CX : CXT} {k : Nat} {fa : Addr} {fd : FuncData} {ps : List Str} {F : FnW} {g x : Str} {i : Nat} {p p1 pos1 : Pos} (Fk : FnOk X.prog X.w X.K X.mg X.base CX k fa fd ps (spW X.K F)) (hr : Room k X.A) (hg : Gl X g) (hm : X.mg g = some (.ref fa)) (hk : PySem.W.keepIn X.K (.ref fa) = true)
    (hb : Binds X.K fd ps []) (hx : ∀ σ, PassesAt CX X σ (fun cls d H => W cls d σ H)) (hN : X.N.Nodup) (ha : VA X W (a :: es) ta xs) (hi : X.N[i]? = some x := by rfl) (hl : Loc X.env.scope x := by first | exact Or.inl rfl | exact Or.inr rfl)
    (hs : swapsWith (.Call (.Name g p) (a :: es) [] pos) (some (.Name x p1)) pos1.line X.env = pure false := by rfl) (hf : X.fn x = true ∨ X.env.scope.names.lookup x = some .local := by first | exact .inl rfl | exact .inr rfl)
    (hdb : (g == ("__debug__" : Str)) = false := by decide) (he : starEach (a :: es) X.env = (false, eval a X.env) :: starEach es X.env := by rfl) (hpl : (backTo pos (starEach es X.env)).any (·.1) = false := by rfl) :
    VS X W (.Assign [.Name x p1] (.Call (.Name g p) (a :: es) [] pos) pos1) (tAsg (tCallSD (spW X.K F) [] (fun σ cls d H => W cls d σ H) ta) (gName i)) (uAsgW i F xs) :=
  ⟨ps_set hN hi hl (pe_callSD (E := fun σ cls d H => W cls d σ H) Fk hr hg hm hk hb .nil hx ha.pa hdb he hpl) hs hf, ref_asgW ha.rf⟩
end
end Pv

/-! PwS: zip of three tuples; sorted of a list of ints. -/
namespace Pv
open PySem L2 PySem.Spec PyProof.Rows
/-- the tuples at a, b, c, all of one length, the items in new tuples -/
def ItzT3 (K : PySem.W.Frag) (a b c : Addr) : It :=
  ⟨fun i H => ∃ (xs ys zs : List V), SqT K H a xs ∧ SqT K H b ys ∧ SqT K H c zs ∧ ys.length = xs.length ∧ zs.length = xs.length ∧ i < xs.length,
    fun i H v H' => ∃ T x y u, v = .ref T ∧ H T = none ∧ H' = upd H T (.tup [x, y, u]) ∧ (∀ xs, SqT K H a xs → xs[i]? = some x) ∧ (∀ ys, SqT K H b ys → ys[i]? = some y) ∧ ∀ zs, SqT K H c zs → zs[i]? = some u,
    fun i H => ∃ (xs ys zs : List V), SqT K H a xs ∧ SqT K H b ys ∧ SqT K H c zs ∧ xs.length = i ∧ ys.length = i ∧ zs.length = i⟩
theorem turn_zip3 {P : Program} {w : World} {K : PySem.W.Frag} {elts : List Expr} {kk : Nat} {tpos : Pos} {a b c z TI TO i1 i2 i3 : Addr} (D : ZipSep3 z TI TO i1 i2 i3 [i1, a] [i2, b] [i3, c]) :
    Turn P w K (.Tuple elts kk tpos) (ItzT3 K a b c) [z, TI, TO, i1, i2, i3] z (fun i h => IsZip h z TI TO .none ∧ IsTupOf3 h TI (.ref i1) (.ref i2) (.ref i3) ∧ (∃ x y u, IsTupOf3 h TO x y u) ∧ h.IsTupleIter i1 a i ∧ h.IsTupleIter i2 b i ∧ h.IsTupleIter i3 c i) where
  mem := by simp
  obj := fun i h st c' hc => by
    obtain ⟨hz, hTI, ⟨x, y, u, hTO⟩, ⟨o1, e1, _, d1⟩, ⟨o2, e2, _, d2⟩, ⟨o3, e3, _, d3⟩⟩ := st
    have e' : c' = z ∨ c' = TI ∨ c' = TO ∨ c' = i1 ∨ c' = i2 ∨ c' = i3 := by simpa using hc
    rcases e' with q | q | q | q | q | q
    · rw [q]; exact ⟨_, hz, fun v q => nomatch q⟩
    · rw [q]; exact ⟨_, hTI, fun v q => nomatch q⟩
    · rw [q]; exact ⟨_, hTO, fun v q => nomatch q⟩
    · rw [q]; exact ⟨o1, e1, fun v q => by rw [d1] at q; cases q⟩
    · rw [q]; exact ⟨o2, e2, fun v q => by rw [d2] at q; cases q⟩
    · rw [q]; exact ⟨o3, e3, fun v q => by rw [d3] at q; cases q⟩
  keep := fun i h h' st k => by
    obtain ⟨hz, hTI, ⟨x, y, u, hTO⟩, h1, h2, h3⟩ := st
    exact ⟨k z (by simp) _ hz, k TI (by simp) _ hTI, ⟨x, y, u, k TO (by simp) _ hTO⟩, h1.at fun o q => k i1 (by simp) o q, h2.at fun o q => k i2 (by simp) o q, h3.at fun o q => k i3 (by simp) o q⟩
  item := by
    intro X hP hw hK hc i pins s σ H E I hf st hg
    subst hP hw hK
    obtain ⟨hz, hTI, ⟨x0, y0, u0, hTO⟩, h1, h2, h3⟩ := st
    obtain ⟨xs, ys, zs, hqx, hqy, hqz, e1, e2, hi⟩ := hg
    obtain ⟨its, rv, p, _⟩ := I.tuple hqx
    obtain ⟨its2, rv2, p2, _⟩ := I.tuple hqy
    obtain ⟨its3, rv3, p3, _⟩ := I.tuple hqz
    have l1 := rv.length
    have l2 := rv2.length
    have l3 := rv3.length
    have hh : X.A.in1.handled = none := I.ok.hd hc
    have n1 : a ≠ i1 := fun q => by
      obtain ⟨o, ho, hcl, _⟩ := h1
      obtain ⟨o', ho', hcl', _⟩ := p
      rw [q] at ho'
      rw [ho] at ho'
      cases ho'
      rw [hcl] at hcl'
      injection hcl' with zz
      exact absurd zz (by decide)
    have n2 : b ≠ i2 := fun q => by
      obtain ⟨o, ho, hcl, _⟩ := h2
      obtain ⟨o', ho', hcl', _⟩ := p2
      rw [q] at ho'
      rw [ho] at ho'
      cases ho'
      rw [hcl] at hcl'
      injection hcl' with zz
      exact absurd zz (by decide)
    have n3 : c ≠ i3 := fun q => by
      obtain ⟨o, ho, hcl, _⟩ := h3
      obtain ⟨o', ho', hcl', _⟩ := p3
      rw [q] at ho'
      rw [ho] at ho'
      cases ho'
      rw [hcl] at hcl'
      injection hcl' with zz
      exact absurd zz (by decide)
    have hzl : z < s.heap.objs.size := Heap.lt_size hz
    refine wpAny_pyNext_zipD3_item D (draws_tup hh i1 a n1 its.toArray) (draws_tup hh i2 b n2 its2.toArray) (draws_tup hh i3 c n3 its3.toArray) hz hTI hTO ⟨h1, p⟩ ⟨h2, p2⟩ ⟨h3, p3⟩ (by rw [List.size_toArray]; omega) (by rw [List.size_toArray]; omega) (by rw [List.size_toArray]; omega)
      fun x y u h' tk px py pu z' TO' d1 d2 d3 hT hsz hk => ?_
    refine ⟨_, rfl, wpAny_letOwnedTupleGo_zip (s := { s with heap := h', toks := tk }) z' fun h'' z'' sb => ?_⟩
    have hT2 : h''.get? s.heap.objs.size = some { cls := .type "tuple", data := .seq #[x, y, u] } := (sb.2 _ (Nat.ne_of_gt hzl)).trans hT
    have g1 : its[i]? = some x := by simpa using px
    have g2 : its2[i]? = some y := by simpa using py
    have g3 : its3[i]? = some u := by simpa using pu
    have q1 : ∃ v, xs[i]? = some v ∧ RelV v x := by
      have hlt : i < xs.length := hi
      obtain ⟨u', hu, ru⟩ := rv.get (List.getElem?_eq_getElem hlt)
      rw [g1] at hu
      cases hu
      exact ⟨_, List.getElem?_eq_getElem hlt, ru⟩
    have q2 : ∃ v, ys[i]? = some v ∧ RelV v y := by
      have hlt : i < ys.length := by omega
      obtain ⟨u', hu, ru⟩ := rv2.get (List.getElem?_eq_getElem hlt)
      rw [g2] at hu
      cases hu
      exact ⟨_, List.getElem?_eq_getElem hlt, ru⟩
    have q3 : ∃ v, zs[i]? = some v ∧ RelV v u := by
      have hlt : i < zs.length := by omega
      obtain ⟨u', hu, ru⟩ := rv3.get (List.getElem?_eq_getElem hlt)
      rw [g3] at hu
      cases hu
      exact ⟨_, List.getElem?_eq_getElem hlt, ru⟩
    obtain ⟨vx, hx, rx⟩ := q1
    obtain ⟨vy, hy, ry⟩ := q2
    obtain ⟨vu, hu, ru⟩ := q3
    have new : ObjOk X.prog X.w (upd H s.heap.objs.size (.tup [vx, vy, vu])) h'' s.heap.objs.size (.tup [vx, vy, vu]) :=
      ⟨by show 3 ≤ sizeLine; decide, [x, y, u], .cons rx (.cons ry (.cons ru .nil)), ⟨_, hT2, rfl, _, rfl⟩⟩
    have I1 : Inv X pins σ (upd H s.heap.objs.size (.tup [vx, vy, vu])) { s with heap := h'', toks := tk } :=
      I.turnedNew (t' := tk) (ch := [z, TI, TO, i1, i2, i3]) (fun c o hb q => (sb.2 c (fun q' => hb (by simp [q']))).trans (hk c o (fun q' => hb (by simp [q'])) (fun q' => hb (by simp [q'])) (fun q' => hb (by simp [q'])) (fun q' => hb (by simp [q'])) (fun q' => hb (by simp [q'])) q)) hf (Nat.le_refl _) new
    refine ⟨.ref s.heap.objs.size, _, I1, rfl, ⟨_, vx, vy, vu, rfl, I.hok.fresh (Nat.le_refl _), rfl, fun l hl => by rw [I.tuple_inj hl hqx]; exact hx, fun l hl => by rw [I.tuple_inj hl hqy]; exact hy, fun l hl => by rw [I.tuple_inj hl hqz]; exact hu⟩, ⟨z'', ?_, ⟨x, y, u, ?_⟩, ?_, ?_, ?_⟩, fun c' hcm => ?_⟩
    · exact (sb.2 _ D.TIz).trans (hk _ _ D.TIz D.TITO D.TIi1 D.TIi2 D.TIi3 hTI)
    · exact (sb.2 _ D.TOz).trans TO'
    · exact d1.1.at fun o q => (sb.2 _ (fun q' => D.zf1 (by simp [q']))).trans q
    · exact d2.1.at fun o q => (sb.2 _ (fun q' => D.zf2 (by simp [q']))).trans q
    · exact d3.1.at fun o q => (sb.2 _ (fun q' => D.zf3 (by simp [q']))).trans q
    · have hlt : c' < s.heap.objs.size := by
        have e' : c' = z ∨ c' = TI ∨ c' = TO ∨ c' = i1 ∨ c' = i2 ∨ c' = i3 := by simpa using hcm
        rcases e' with q | q | q | q | q | q
        · rw [q]; exact hzl
        · rw [q]; exact Heap.lt_size hTI
        · rw [q]; exact Heap.lt_size hTO
        · rw [q]; obtain ⟨_, e1, _⟩ := h1; exact Heap.lt_size e1
        · rw [q]; obtain ⟨_, e2, _⟩ := h2; exact Heap.lt_size e2
        · rw [q]; obtain ⟨_, e3, _⟩ := h3; exact Heap.lt_size e3
      rw [upd_ne (Nat.ne_of_lt hlt)]
      exact (hf c' hcm).1
  done := by
    intro X hP hw hK hc i pins s σ H E I hf st hg
    subst hP hw hK
    obtain ⟨hz, hTI, ⟨x0, y0, u0, hTO⟩, h1, h2, h3⟩ := st
    obtain ⟨xs, ys, zs, hqx, hqy, hqz, e1, e2, e3⟩ := hg
    obtain ⟨its, rv, p, _⟩ := I.tuple hqx
    obtain ⟨its2, rv2, p2, _⟩ := I.tuple hqy
    obtain ⟨its3, rv3, p3, _⟩ := I.tuple hqz
    have l1 := rv.length
    have l2 := rv2.length
    have l3 := rv3.length
    have hh : X.A.in1.handled = none := I.ok.hd hc
    have n1 : a ≠ i1 := fun q => by
      obtain ⟨o, ho, hcl, _⟩ := h1
      obtain ⟨o', ho', hcl', _⟩ := p
      rw [q] at ho'
      rw [ho] at ho'
      cases ho'
      rw [hcl] at hcl'
      injection hcl' with zz
      exact absurd zz (by decide)
    have n2 : b ≠ i2 := fun q => by
      obtain ⟨o, ho, hcl, _⟩ := h2
      obtain ⟨o', ho', hcl', _⟩ := p2
      rw [q] at ho'
      rw [ho] at ho'
      cases ho'
      rw [hcl] at hcl'
      injection hcl' with zz
      exact absurd zz (by decide)
    have n3 : c ≠ i3 := fun q => by
      obtain ⟨o, ho, hcl, _⟩ := h3
      obtain ⟨o', ho', hcl', _⟩ := p3
      rw [q] at ho'
      rw [ho] at ho'
      cases ho'
      rw [hcl] at hcl'
      injection hcl' with zz
      exact absurd zz (by decide)
    exact wpAny_pyNext_zipD3_end D (draws_tup hh i1 a n1 its.toArray) (draws_tup hh i2 b n2 its2.toArray) (draws_tup hh i3 c n3 its3.toArray) hz hTI hTO ⟨h1, p⟩ ⟨h2, p2⟩ ⟨h3, p3⟩ (by rw [List.size_toArray]; omega) (by rw [List.size_toArray]; omega) (by rw [List.size_toArray]; omega) (.inl (by rw [List.size_toArray]; omega))
      fun h' tk hk => ⟨rfl, I.turnedL (t' := tk) (ch := [z, TI, TO, i1, i2, i3]) (fun c o hb q =>
      hk c o (fun q' => hb (by simp [q'])) (fun q' => hb (by simp [q'])) (fun q' => hb (by simp [q'])) (fun q' => hb (by simp [q'])) (fun q' => hb (by simp [q'])) q) hf⟩
  self := fun A i s Q E st h => wpAny_pyIter_zip st.1 h
def iZip3 (K : PySem.W.Frag) (ta : TA) : TI := fun σ H R => ta σ H fun vs H1 => ∃ a b c xs ys zs, vs = [.ref a, .ref b, .ref c] ∧ SqT K H1 a xs ∧ SqT K H1 b ys ∧ SqT K H1 c zs ∧ R (ItzT3 K a b c) H1
theorem pi_zip3 {X : Cx} {e e2 e3 : Expr} {ta : TA} {p pos tpos : Pos} {elts : List Expr} {kk : Nat} (hg : Gl X "zip") (hm : X.mg "zip" = none) (ha : PA X [e, e2, e3] ta)
    (hs : starEach [e, e2, e3] X.env = (false, eval e X.env) :: starEach [e2, e3] X.env := by rfl) (hpl : (backTo pos (starEach [e2, e3] X.env)).any (·.1) = false := by rfl) :
    PI X (.Tuple elts kk tpos) (.Call (.Name "zip" p) [e, e2, e3] [] pos) (iZip3 X.K ta) := by
  refine ⟨fun pins s σ H R I h => ?_⟩
  refine Call_ (ld_blt I hg hm PyProof.Rows.boot_zip (PyProof.Rows.callWith_type1 (thn (ha.run pos pins s σ H _ I h) fun us s1 ⟨vs, H1, I1, r1, q1⟩ => ?_) hs hpl))
  obtain ⟨a, b, c, xs, ys, zs, ex, hqx, hqy, hqz, q⟩ := q1
  subst ex
  cases r1 with
  | cons r rr =>
    cases rr with
    | cons r' rr =>
      cases rr with
      | cons r'' rr =>
        cases rr
        cases r
        cases r'
        cases r''
        obtain ⟨its, rv, p1, _⟩ := I1.tuple hqx
        obtain ⟨its2, rv2, p2, _⟩ := I1.tuple hqy
        obtain ⟨its3, rv3, p3, _⟩ := I1.tuple hqz
        have la : a < s1.heap.objs.size := by obtain ⟨o, ho, _⟩ := p1; exact Heap.lt_size ho
        have lb : b < s1.heap.objs.size := by obtain ⟨o, ho, _⟩ := p2; exact Heap.lt_size ho
        have lc : c < s1.heap.objs.size := by obtain ⟨o, ho, _⟩ := p3; exact Heap.lt_size ho
        have fresh : ∀ k, FpOk X pins H1 (s1.heap.objs.size + k) := fun k => I1.fpOk (Nat.le_add_right _ _) (I1.hok.fresh (Nat.le_add_right _ _))
        refine zip_begins3 (begins_tuple a its.toArray) (begins_tuple b its2.toArray) (begins_tuple c its3.toArray) p1 p2 p3 fun h' hz hTI hTO h1 h2 h3 hsz hk => wpAny_pyIter_zip hz ?_
        have I2 : Inv X pins σ H1 { s1 with heap := h' } := I1.kept (t' := s1.toks) hk
        exact ⟨s1.heap.objs.size + 5, [s1.heap.objs.size + 5, s1.heap.objs.size + 3, s1.heap.objs.size + 4, s1.heap.objs.size, s1.heap.objs.size + 1, s1.heap.objs.size + 2], _, _, H1, rfl, I2,
          turn_zip3 (zip_sep3 (N := s1.heap.objs.size) (fp1 := [a]) (fp2 := [b]) (fp3 := [c]) (fun x hx => by rw [List.mem_singleton.mp hx]; exact la) (fun x hx => by rw [List.mem_singleton.mp hx]; exact lb) (fun x hx => by rw [List.mem_singleton.mp hx]; exact lc)),
          ⟨hz, hTI, ⟨_, _, _, hTO⟩, ⟨_, h1, rfl, rfl⟩, ⟨_, h2, rfl, rfl⟩, ⟨_, h3, rfl, rfl⟩⟩, fun x hx => by
            have e' : x = s1.heap.objs.size + 5 ∨ x = s1.heap.objs.size + 3 ∨ x = s1.heap.objs.size + 4 ∨ x = s1.heap.objs.size ∨ x = s1.heap.objs.size + 1 ∨ x = s1.heap.objs.size + 2 := by simpa using hx
            rcases e' with q | q | q | q | q | q
            · rw [q]; exact fresh 5
            · rw [q]; exact fresh 3
            · rw [q]; exact fresh 4
            · rw [q]; exact fresh 0
            · rw [q]; exact fresh 1
            · rw [q]; exact fresh 2, q⟩
/-! ### on data -/
def zip3D : List PyData → List PyData → List PyData → List PyData
  | a :: as, b :: bs, c :: cs => .tuple [a, b, c] :: zip3D as bs cs
  | _, _, _ => []
theorem zip3D_get : ∀ {ds es fs : List PyData} {i : Nat} {d e f : PyData}, ds[i]? = some d → es[i]? = some e → fs[i]? = some f → (zip3D ds es fs)[i]? = some (.tuple [d, e, f])
  | [], _, _, _, _, _, _, h, _, _ => by simp at h
  | _ :: _, [], _, _, _, _, _, _, h, _ => by simp at h
  | _ :: _, _ :: _, [], _, _, _, _, _, _, h => by simp at h
  | a :: as, b :: bs, c :: cs, 0, d, e, f, h1, h2, h3 => by
    have h1 : a = d := by simpa using h1
    have h2 : b = e := by simpa using h2
    have h3 : c = f := by simpa using h3
    subst h1 h2 h3
    rfl
  | a :: as, b :: bs, c :: cs, i + 1, d, e, f, h1, h2, h3 => zip3D_get (ds := as) (es := bs) (fs := cs) (by simpa using h1) (by simpa using h2) (by simpa using h3)
theorem zip3D_len : ∀ {ds es fs : List PyData}, es.length = ds.length → fs.length = ds.length → (zip3D ds es fs).length = ds.length
  | [], _, _, _, _ => by cases ‹List PyData› <;> rfl
  | _ :: _, [], _, h, _ => by simp at h
  | _ :: _, _ :: _, [], _, h => by simp at h
  | a :: as, b :: bs, c :: cs, h1, h2 => by
    rw [zip3D, List.length_cons, List.length_cons, zip3D_len (by simpa using h1) (by simpa using h2)]
section
variable {K : PySem.W.Frag} {G : Hp} {a b c : Addr} {xs ys zs : List V} {ds es fs : List PyData}
theorem zip3_new {T : Addr} {x y u : V} {d e f : PyData} {G' H : Hp} (s2 : Same G' H) (hT : H T = none) (hx : Rp K G' x d) (hy : Rp K G' y e) (hu : Rp K G' u f) :
    Same (upd G' T (.tup [x, y, u])) (upd H T (.tup [x, y, u])) ∧ Grow G' H (upd G' T (.tup [x, y, u])) (upd H T (.tup [x, y, u])) ∧ Rp K (upd G' T (.tup [x, y, u])) (.ref T) (.tuple [d, e, f]) := by
  have gb : Grow G' H (upd G' T (.tup [x, y, u])) (upd H T (.tup [x, y, u])) := Grow.both s2 hT
  exact ⟨same_both s2, gb, .tup (.inl (.inl upd_same)) (.cons (hx.mono gb.gg _ _) (.cons (hy.mono gb.gg _ _) (.cons (hu.mono gb.gg _ _) .nil)))⟩
theorem walks_zip3 (h1 : SqT K G a xs) (r1 : RpAll K G xs ds) (h2 : SqT K G b ys) (r2 : RpAll K G ys es) (h3 : SqT K G c zs) (r3 : RpAll K G zs fs) (e1 : es.length = ds.length) (e2 : fs.length = ds.length) : Walks K G (ItzT3 K a b c) (zip3D ds es fs) where
  go := fun i G' H s1 s2 hi => by
    rw [zip3D_len e1 e2] at hi
    exact ⟨xs, ys, zs, sqt_same s2 (sqt_same s1 h1), sqt_same s2 (sqt_same s1 h2), sqt_same s2 (sqt_same s1 h3), by rw [r1.len, r2.len, e1], by rw [r1.len, r3.len, e2], by rw [r1.len]; exact hi⟩
  yld := fun i G' H x H' s1 s2 hi hy => by
    obtain ⟨T, x1, y1, u1, ex, hT, eH, k1, k2, k3⟩ := hy
    subst ex eH
    obtain ⟨d, q1, w1⟩ := r1.get (k1 xs (sqt_same s2 (sqt_same s1 h1)))
    obtain ⟨e, q2, w2⟩ := r2.get (k2 ys (sqt_same s2 (sqt_same s1 h2)))
    obtain ⟨f, q3, w3⟩ := r3.get (k3 zs (sqt_same s2 (sqt_same s1 h3)))
    obtain ⟨z1, z2, z3⟩ := zip3_new s2 hT (w1.mono s1 _ _) (w2.mono s1 _ _) (w3.mono s1 _ _)
    exact ⟨_, _, zip3D_get q1 q2 q3, z1, z2, z3⟩
  stop := fun G' H s1 s2 => ⟨xs, ys, zs, sqt_same s2 (sqt_same s1 h1), sqt_same s2 (sqt_same s1 h2), sqt_same s2 (sqt_same s1 h3), by rw [zip3D_len e1 e2, r1.len], by rw [zip3D_len e1 e2, r2.len, e1], by rw [zip3D_len e1 e2, r3.len, e2]⟩
end
def yZip3 (rs : List Rs) (q : List PyData → Prop) : Prop := rs.all Rs.stays = true ∧ match rs.map Rs.d with
  | [.tuple ds, .tuple es, .tuple fs] => es.length = ds.length ∧ fs.length = ds.length ∧ q (zip3D ds es fs)
  | _ => False
def xZip3 (xs : XA) : XI := fun e q ex => xs e (fun rs => yZip3 rs q) ex
section
variable {X : Cx} {W : WX} {K : PySem.W.Frag} {a b c : Expr} {es : List Expr} {te : TE} {ta : TA} {xs : XA} {p pos tpos : Pos}
theorem vi_zip3 {elts : List Expr} {kk : Nat} (hg : Gl X "zip") (hm : X.mg "zip" = none) (ha : VA X W [a, b, c] ta xs) (hs : starEach [a, b, c] X.env = (false, eval a X.env) :: starEach [b, c] X.env := by rfl) (hpl : (backTo pos (starEach [b, c] X.env)).any (·.1) = false := by rfl) :
    VI X W (.Tuple elts kk tpos) (.Call (.Name "zip" p) [a, b, c] [] pos) (iZip3 X.K ta) (xZip3 xs) := ⟨pi_zip3 hg hm ha.pa hs hpl, by
  intro G0 H0 G H σ e R q ex hs hx hq hw
  refine ha.rf G0 H0 G H σ e _ _ ex hs hx (fun G1 H1 vs rs s1 g1 pr k1 => ?_) hw
  obtain ⟨st, k⟩ := k1
  obtain ⟨G2, s2, g2, ra⟩ := fix_args s1 g1 pr st
  generalize rs.map Rs.d = ds at k ra
  split at k
  · cases ra with
    | cons h t =>
      cases t with
      | cons h' t =>
        cases t with
        | cons h'' t =>
          cases t
          cases h with
          | tup h1 h2 =>
            cases h' with
            | tup h3 h4 =>
              cases h'' with
              | tup h5 h6 => exact ⟨_, _, _, _, _, _, rfl, sqt_same s2 h1, sqt_same s2 h3, sqt_same s2 h5, hq G2 H1 _ _ s2 g2 (walks_zip3 h1 h2 h3 h4 h5 h6 k.1 k.2.1) k.2.2⟩
  · exact k.elim⟩
/-- sorted of a list of ints -/
def xSortI (xs : XA) : XE := fun e q ex => xs e (fun rs => rs.all Rs.stays = true ∧ ∃ ns : List Int, rs.map Rs.d = [.list (ns.map .int)] ∧ ns.length < 64 ∧ ∀ ns' : List Int, ns'.Perm ns → ns'.Pairwise (· ≤ ·) → q (.nw (ns'.map .int))) ex
theorem intsRp {G : Hp} : ∀ ns : List Int, RpAll K G (ns.map V.int) (ns.map .int)
  | [] => .nil
  | n :: ns => .cons (.int n) (intsRp ns)
theorem ve_sortI (hg : Gl X "sorted") (hm : X.mg "sorted" = none) (ha : VA X W (a :: es) ta xs) (he : starEach (a :: es) X.env = (false, eval a X.env) :: starEach es X.env := by rfl) (hpl : (backTo pos (starEach es X.env)).any (·.1) = false := by rfl) :
    VE X W (.Call (.Name "sorted" p) (a :: es) [] pos) (tCB (rSorted X.K) ta) (xSortI xs) := ⟨pe_callB cr_sorted hg hm (by decide +kernel) ha.pa (by decide) (by decide) he hpl, by
  intro G0 H0 G H σ e Q q ex hs hx hq hw
  refine ha.rf G0 H0 G H σ e _ _ ex hs hx (fun G1 H1 vs rs s1 g1 pr k1 => ?_) hw
  obtain ⟨st, ns, e1, hz, k⟩ := k1
  obtain ⟨G2, s2, g2, ra⟩ := fix_args s1 g1 pr st
  rw [e1] at ra
  cases ra with
  | cons h t =>
    cases t
    obtain ⟨p, rfl, h1⟩ := rp_ints h
    refine ⟨p, ns, rfl, sql_same s2 (SqL.of h1), hz, fun ns' l hp ho hl => ?_⟩
    exact hq G2 _ (.ref l) (.nw _) (same_out s2 (s2.free hl)) (g2.trans (Grow.out hl)) ⟨l, _, rfl, g1.hh.free hl, upd_same, s2.free hl, intsRp ns'⟩ (k ns' hp ho)⟩
end
/-! ### pieces of views -/
/-- a piece: path, source, target, counts -/
abbrev Pc := Str × List Int × List Int × List Int
def pcD (p : Pc) : PyData := .tuple [.str p.1, .tuple (p.2.1.map .int), .tuple (p.2.2.1.map .int), .tuple (p.2.2.2.map .int)]
def PcL (n : Nat) (p : Pc) : Prop := p.2.1.length = n ∧ p.2.2.1.length = n ∧ p.2.2.2.length = n
end Pv

/-! PwT: plain facts that the laws share. -/
namespace Pv
open PySem L2 PySem.Spec PyProof.Rows
/-! ### the six kinds -/
def kinds6 : List Str := ["i1", "i2", "i4", "u1", "u2", "u4"]
def wK (s : Str) : Int := if s = "i1" ∨ s = "u1" then 1 else if s = "i2" ∨ s = "u2" then 2 else 4
def spK (s : Str) : Int := if s = "i1" ∨ s = "u1" then 256 else if s = "i2" ∨ s = "u2" then 65536 else 4294967296
def sgK (s : Str) : Bool := decide (s = "i1") || (decide (s = "i2") || decide (s = "i4"))
def loK (s : Str) : Int := if sgK s = true then -(spK s / 2) else 0
theorem kind_cases {s : Str} (h : s ∈ kinds6) : s = "i1" ∨ s = "i2" ∨ s = "i4" ∨ s = "u1" ∨ s = "u2" ∨ s = "u4" := by
  simpa only [kinds6, List.mem_cons, List.not_mem_nil, or_false] using h
theorem wK_pos {s : Str} : 0 < wK s ∧ wK s ≤ 4 := by
  unfold wK
  split
  · decide
  · split <;> decide
theorem spK_pos {s : Str} : 256 ≤ spK s ∧ spK s ≤ 4294967296 := by
  unfold spK
  split
  · decide
  · split <;> decide
def hiK (s : Str) : Int := loK s + spK s - 1
/-! ### tuples of ints -/
def tupI (p : List Int) : PyData := .tuple (p.map .int)
theorem getD_left {xs ys : List Int} {k : Nat} (h : k < xs.length) : (xs ++ ys).getD k 0 = xs.getD k 0 := by
  rw [List.getD_eq_getElem?_getD, List.getD_eq_getElem?_getD, List.getElem?_append_left h]
theorem getD_last {xs : List Int} {v : Int} {k : Nat} (h : k = xs.length) : (xs ++ [v]).getD k 0 = v := by
  subst h
  rw [List.getD_eq_getElem?_getD, List.getElem?_append_right (Nat.le_refl _), Nat.sub_self]
  rfl
/-- a list or a tuple of ints -/
def Sq (d : PyData) (ns : List Int) : Prop := d = .list (ns.map .int) ∨ d = .tuple (ns.map .int)
/-- an attribute's value -/
inductive MV where
  | t (cs : List Nat)
  | l (ns : List Int)
def mvD : MV → PyData
  | .t cs => .str ⟨cs.toArray⟩
  | .l ns => .tuple (ns.map .int)
def mvOk : MV → Prop
  | .t cs => cs.length ≤ 200 ∧ ∀ c ∈ cs, okC ((c : Nat) : Int) = true
  | .l ns => ns.length ≤ 50 ∧ ∀ z ∈ ns, -(10 ^ 29) < z ∧ z < 10 ^ 29
def mkD (m : Str × MV) : PyData := .tuple [.str m.1, mvD m.2]
/-- a drawn thing -/
structure Th where
  form : Int
  marks : List (Str × MV)
  kind : Str
  shape : List Int
  fill : Int
  chunks : List Int
  filters : List Str
  r0 : Int
  r1 : Int
  pieces : List Pc
def thKD (t : Th) : KD := [("form", .int t.form), ("marks", .list (t.marks.map mkD)), ("kind", .str t.kind), ("shape", .tuple (t.shape.map .int)), ("fills", .list [.int t.fill]), ("chunks", .tuple (t.chunks.map .int)),
  ("filters", .tuple (t.filters.map .str)), ("root", .tuple [.int t.r0, .int t.r1]), ("pieces", .tuple (t.pieces.map pcD))]
def okS (z : Str) : Prop := ∀ c ∈ z.cps.toList, okC ((c : Nat) : Int) = true
end Pv

/-! PwU: sorted of tuples (ints and texts as far as they differ). -/
namespace Pv
open PySem L2 PySem.Spec PyProof.Rows
abbrev Tk := Int ⊕ List Nat
def tokV : V → Tk
  | .int i => .inl i
  | .str z => .inr z.cps.toList
  | _ => .inl 0
def tokD : PyData → Tk
  | .int i => .inl i
  | .str z => .inr z.cps.toList
  | _ => .inl 0
def cmpV : List V → List V → Option Bool
  | [], [] => some false
  | [], _ :: _ => some true
  | _ :: _, [] => some false
  | .int i :: xs, .int j :: ys => if i = j then cmpV xs ys else some (decide (i < j))
  | .str i :: xs, .str j :: ys => if i = j then cmpV xs ys else some (decide (i.cps.toList < j.cps.toList))
  | _ :: _, _ :: _ => none
def cmpD : List PyData → List PyData → Option Bool
  | [], [] => some false
  | [], _ :: _ => some true
  | _ :: _, [] => some false
  | .int i :: xs, .int j :: ys => if i = j then cmpD xs ys else some (decide (i < j))
  | .str i :: xs, .str j :: ys => if i = j then cmpD xs ys else some (decide (i.cps.toList < j.cps.toList))
  | _ :: _, _ :: _ => none
def keyV (n : Nat) (xs : List V) : List Tk := (xs.take n).map tokV
def keyN (n : Nat) (xs : List PyData) : List Tk := (xs.take n).map tokD
abbrev ltK (a b : List Tk) : Bool := lexLt itemOrd a b
theorem ltK_swo {α : Type} (k : α → List Tk) : SrtO.Swo fun x y => ltK (k x) (k y) := by
  refine ⟨fun x y h => ?_, fun x y z h1 h2 => ?_⟩
  · cases e : ltK (k y) (k x) with
    | false => rfl
    | true =>
      have := lex_trans _ _ _ h e
      rw [lex_irrefl] at this
      cases this
  · cases e : ltK (k z) (k x) with
    | false => rfl
    | true =>
      rcases lex_negTrans _ (k y) _ e with h | h
      · have h2' : ltK (k z) (k y) = false := h2
        exact absurd (h2'.symm.trans h) (by decide)
      · have h1' : ltK (k y) (k x) = false := h1
        exact absurd (h1'.symm.trans h) (by decide)
section
variable {prog : Program} {w : World} {A : Around} {s : Shared}
theorem kat_cmp {b r : Bool} : ∀ {xs ys : List V} {us ws : List Value} {i : Nat} {fin : Bool}, Vals xs us → Vals ys ws → cmpV xs ys = some r → fin = decide (us.length < ws.length) → PySem.W.KatLex prog w A b fin (fun r' s' => s' = s ∧ r' = r) (us.zip ws) i s
  | _, _, _, _, _, fin, .nil, .nil, h, hf => by
    have h' : false = r := Option.some.inj h
    exact PySem.W.kat_nil ⟨rfl, by rw [hf, ← h']; decide⟩
  | _, _, _, _, _, fin, .nil, .cons r1 t1, h, hf => by
    have h' : true = r := by
      cases h
      rfl
    refine PySem.W.kat_nil ⟨rfl, ?_⟩
    rw [hf, ← h']
    exact decide_eq_true (by rw [List.length_cons]; exact Nat.succ_pos _)
  | _, _, _, _, _, fin, .cons r1 t1, .nil, h, hf => by
    have h' : false = r := by
      unfold cmpV at h
      exact Option.some.inj h
    refine PySem.W.kat_nil ⟨rfl, ?_⟩
    rw [hf, ← h']
    exact decide_eq_false (by rw [List.length_nil]; exact Nat.not_lt_zero _)
  | x :: xs, y :: ys, u :: us, v :: ws, i, fin, .cons r1 t1, .cons r2 t2, h, hf => by
    have hf' : fin = decide (us.length < ws.length) := by
      rw [hf, List.length_cons, List.length_cons]
      exact decide_eq_decide.mpr Nat.succ_lt_succ_iff
    cases x <;> cases y <;> first
      | (cases h; done)
      | skip
    · rename_i p q
      obtain ⟨t, rfl⟩ := (show ∃ t, u = Value.int p t from r1)
      obtain ⟨t', rfl⟩ := (show ∃ t, v = Value.int q t from r2)
      have h' : (if p = q then cmpV xs ys else some (decide (p < q))) = some r := h
      refine PySem.W.kat_cons (SeqAt.EqAt.int_int p t q t' prog w _ _ ?_)
      refine PySem.W.kat_go (fun e => ?_) (fun e => ?_)
      · have e' : p = q := by simpa using e
        rw [if_pos e'] at h'
        exact PySem.W.kat_yes (kat_cmp t1 t2 h' hf')
      · have e' : ¬ p = q := by simpa using e
        rw [if_neg e'] at h'
        exact PySem.W.kat_no (oneLt_any_int ⟨rfl, Option.some.inj h'⟩)
    · rename_i p q
      obtain ⟨t, rfl⟩ := (show ∃ t, u = Value.str p t from r1)
      obtain ⟨t', rfl⟩ := (show ∃ t, v = Value.str q t from r2)
      have h' : (if p = q then cmpV xs ys else some (decide (p.cps.toList < q.cps.toList))) = some r := h
      refine PySem.W.kat_cons (SeqAt.EqAt.str_str p t q t' prog w _ _ ?_)
      refine PySem.W.kat_go (fun e => ?_) (fun e => ?_)
      · have e' : p = q := by simpa using e
        rw [if_pos e'] at h'
        exact PySem.W.kat_yes (kat_cmp t1 t2 h' hf')
      · have e' : ¬ p = q := by simpa using e
        rw [if_neg e'] at h'
        exact PySem.W.kat_no (oneLt_any_str ⟨rfl, Option.some.inj h'⟩)
theorem kat_same {b : Bool} : ∀ {us : List Value} {i : Nat}, PySem.W.KatLex prog w A b false (fun r' s' => s' = s ∧ r' = false) (us.zip us) i s
  | [], i => PySem.W.kat_nil ⟨rfl, rfl⟩
  | u :: us, i => PySem.W.kat_cons (SeqAt.EqAt.same u prog w _ _ (PySem.W.kat_yes kat_same))
/-- the value at v is a tuple of these items -/
def IsTv (h : Heap) (v : Value) (xs : List V) : Prop := ∃ a us n o, v = .ref a ∧ h.get? a = some o ∧ o.cls = .type "tuple" ∧ o.data = .seq (List.toArray us) n ∧ Vals xs us
theorem IsTv.keeps {h h' : Heap} {v : Value} {xs : List V} (q : IsTv h v xs) (k : ∀ b o, h.get? b = some o → o.cls = .type "tuple" → h'.get? b = some o) : IsTv h' v xs := by
  obtain ⟨a, us, n, o, h1, h2, h3, h4⟩ := q
  exact ⟨a, us, n, o, h1, k _ _ h2 h3, h3, h4⟩
theorem tup_cmp {b : Bool} {vs : List Value} {it : Value → List V} {k : Value → List Tk} (hp : ∀ v ∈ vs, IsTv s.heap v (it v)) (hd : ∀ v ∈ vs, ∀ u ∈ vs, v ≠ u → cmpV (it v) (it u) = some (ltK (k v) (k u))) :
    SrtO.Cmp prog w A s (tuples' b) (fun p => p.1 ∈ vs) (SrtO.lt2 fun v u => ltK (k v) (k u)) := by
  intro p q hm hm'
  show wpAny (model prog w) A (keyLt' (tuples' b) p.1 q.1) (fun r s' => s' = s ∧ r = ltK (k p.1) (k q.1)) (fun _ _ => False) s
  obtain ⟨a, us, n, o, e, ho, hc, hdt, rv⟩ := hp _ hm
  obtain ⟨a', us', n', o', e', ho', hc', hdt', rv'⟩ := hp _ hm'
  by_cases hne : p.1 = q.1
  · have e0 : ltK (k p.1) (k p.1) = false := lex_irrefl _
    rw [← hne, e0, e]
    refine PySem.W.kat_lt ho hdt ho hdt ?_
    rw [show decide (us.toArray.size < us.toArray.size) = false from decide_eq_false (Nat.lt_irrefl _)]
    exact kat_same
  · have hq := hd _ hm _ hm' hne
    rw [e, e'] at *
    refine PySem.W.kat_lt ho hdt ho' hdt' ?_
    have := kat_cmp (prog := prog) (w := w) (A := A) (s := s) (b := b) (i := 0) rv rv' hq rfl
    simpa using this
theorem firsts_tv {h : Heap} {T : String} : ∀ {vs : List Value} {it : Value → List V}, (∀ v ∈ vs, IsTv h v (it v)) → (∀ v ∈ vs, ∃ x r, it v = x :: r ∧ ∀ u, RelV x u → ∀ (M : Model), PySem.W.Looks M h (typeOf u) (.type T)) →
    ∃ fs, PySem.W.KatTups h vs fs ∧ fs.length = vs.length ∧ ∀ f ∈ fs, ∀ M : Model, PySem.W.Looks M h (typeOf f) (.type T)
  | [], it, _, _ => ⟨[], PySem.W.KatTups.nil, rfl, fun f hf => by cases hf⟩
  | v :: vs, it, hp, hx => by
    obtain ⟨fs, h1, h2, h3⟩ := firsts_tv (vs := vs) (fun u hu => hp u (List.mem_cons_of_mem _ hu)) fun u hu => hx u (List.mem_cons_of_mem _ hu)
    obtain ⟨a, us, n, o, rfl, ho, hc, hdt, rv⟩ := hp v List.mem_cons_self
    obtain ⟨x, r, e, hT⟩ := hx _ List.mem_cons_self
    rw [e] at rv
    cases rv with
    | cons r1 t1 =>
      rename_i u us'
      refine ⟨u :: fs, PySem.W.KatTups.cons ho hc hdt rfl h1, by rw [List.length_cons, List.length_cons, h2], fun f hf M => ?_⟩
      rcases List.mem_cons.mp hf with rfl | hf
      · exact hT _ r1 M
      · exact h3 f hf M
theorem tups_sortable {a : Addr} {vs : List Value} {it : Value → List V} {k : Value → List Tk} {T : String} (h0 : 0 < vs.length) (hT : T = "int" ∨ T = "str") (hp : ∀ v ∈ vs, IsTv s.heap v (it v)) (hx : ∀ v ∈ vs, ∃ x r, it v = x :: r ∧ ∀ u, RelV x u → ∀ (M : Model) (h : Heap), PySem.W.Looks M h (typeOf u) (.type T))
    (hd : ∀ v ∈ vs, ∀ u ∈ vs, v ≠ u → cmpV (it v) (it u) = some (ltK (k v) (k u))) (ha : ∀ o, s.heap.get? a = some o → o.cls ≠ .type "tuple") : SrtO.SortableO prog w A s a vs fun v u => ltK (k v) (k u) := by
  intro h' keep
  have hp' : ∀ v ∈ vs, IsTv h' v (it v) := fun v hm => (hp v hm).keeps fun b o e c => keep b o (fun z => by subst z; exact ha o e c) e
  obtain ⟨fs, h1, h2, h3⟩ := firsts_tv (h := h') (T := T) hp' fun v hm => by
    obtain ⟨x, r, e, q⟩ := hx v hm
    exact ⟨x, r, e, fun u ru M => q u ru M h'⟩
  refine ⟨tuples' true, fun Q E hq => ?_, tup_cmp hp' hd⟩
  refine PySem.W.kat_kind (T := .type T) h1 (by omega) (fun f hm => h3 f hm _) (by rcases hT with rfl | rfl <;> rfl) ?_
  have e : (Value.type T != Value.type "tuple") = true := by
    rcases hT with rfl | rfl <;> first | decide +kernel | rfl | decide
  rw [e]
  exact hq
theorem sorted_tups {E : Value → Shared → Prop} {l : Addr} {vs : List Value} {it : Value → List V} {k : Value → List Tk} {T : String} {Q : Value → Shared → Prop} (hT : T = "int" ∨ T = "str") (hl : s.heap.IsList l vs.toArray) (hz : vs.length ≤ sizeLine) (hp : ∀ v ∈ vs, IsTv s.heap v (it v))
    (hx : 2 ≤ vs.length → ∀ v ∈ vs, ∃ x r, it v = x :: r ∧ ∀ u, RelV x u → ∀ (M : Model) (h : Heap), PySem.W.Looks M h (typeOf u) (.type T)) (hd : ∀ v ∈ vs, ∀ u ∈ vs, v ≠ u → cmpV (it v) (it u) = some (ltK (k v) (k u)))
    (h : ∀ (h' : Heap) (d : Addr) (out : List Value), SrtO.Srtd (fun v u => ltK (k v) (k u)) out → out.Perm vs → (∀ b o, s.heap.get? b = some o → h'.get? b = some o) → s.heap.objs.size ≤ d → (∃ n, h'.get? d = some (seqObj "list" out.toArray n)) → Q (.ref d) { s with heap := h' }) :
    wpAny (model prog w) A (call (.builtin "sorted") [.ref l]) Q E s := by
  refine SrtO.sorted_ord (ltK_swo k) hl hz (fun h2 h₁ a ha kk => ?_) fun out hs hb => ?_
  · refine tups_sortable (s := { s with heap := h₁ }) (T := T) (by omega) hT (fun v hm => (hp v hm).keeps fun b o e _ => (kk b o e).2) (hx h2) hd fun o e => ?_
    have e' : some o = some (seqObj "list" vs.toArray 0) := e.symm.trans ha
    cases e'
    intro c
    exact absurd (Value.type.inj c) (by decide)
  · exact h _ _ out hs hb.perm (fun b o e => sortedAll_old e) (Nat.le_succ _) (sortedAll_at s.heap vs out.toArray)
end
/-! ### the rule -/
def TupU (K : PySem.W.Frag) (H : Hp) : Prop := ∀ a xs ys, SqT K H a xs → SqT K H a ys → xs = ys
open Classical in
/-- the items of the tuple at x -/
noncomputable def itV (K : PySem.W.Frag) (H : Hp) (x : V) : List V := if h : ∃ t zs, x = .ref t ∧ SqT K H t zs then h.choose_spec.choose else []
theorem itV_eq {K : PySem.W.Frag} {H : Hp} (U : TupU K H) {t : Addr} {zs : List V} (h : SqT K H t zs) : itV K H (.ref t) = zs := by
  have hx : ∃ t' zs, V.ref t = .ref t' ∧ SqT K H t' zs := ⟨t, zs, rfl, h⟩
  unfold itV
  rw [dif_pos hx]
  obtain ⟨e, q⟩ := hx.choose_spec.choose_spec
  injection e with e
  refine U t _ _ ?_ h
  have : ∀ t', t = t' → SqT K H t' hx.choose_spec.choose → SqT K H t hx.choose_spec.choose := fun t' z q => z ▸ q
  exact this _ e q
def headV (T : String) (x : V) : Prop := (T = "int" ∧ ∃ i, x = .int i) ∨ (T = "str" ∧ ∃ z, x = .str z)
def rSortT (K : PySem.W.Frag) (n : Nat) : List V → Hp → VK → Prop := fun vs H Q => TupU K H → ∃ (a : Addr) (xs : List V) (T : String), vs = [V.ref a] ∧ SqL K H a xs ∧ (T = "int" ∨ T = "str") ∧ (∀ x ∈ xs, ∃ t zs, x = .ref t ∧ SqT K H t zs) ∧ (2 ≤ xs.length → ∀ x ∈ xs, ∃ y r, itV K H x = y :: r ∧ headV T y) ∧
  (∀ x ∈ xs, ∀ y ∈ xs, x ≠ y → cmpV (itV K H x) (itV K H y) = some (ltK (keyV n (itV K H x)) (keyV n (itV K H y)))) ∧
  ∀ ys p, ys.Perm xs → SrtO.Srtd (fun v u => ltK (keyV n (itV K H v)) (keyV n (itV K H u))) ys → H p = none → Q (.ref p) (upd H p (.lst ys))
section
variable {X : Cx}
theorem cr_sortT (n : Nat) : CallR X (.builtin "sorted") (rSortT X.K n) := by
  intro pins s σ H vs us Q I r h
  have U : TupU X.K H := fun a xs ys h1 h2 => I.tuple_inj h1 h2
  obtain ⟨a, xs, T, rfl, hs, hT, hx, hh, hc, q⟩ := h U
  obtain ⟨its, rv, hl, hz⟩ := I.list hs
  obtain ⟨u, rfl, ru⟩ := vals1 r
  obtain rfl : u = Value.ref a := ru
  obtain ⟨e1, e2⟩ := refs_back rv fun x m => by
    obtain ⟨t, zs, e, _⟩ := hx x m
    exact ⟨t, e⟩
  have hmem : ∀ v ∈ its, backV v ∈ xs := fun v hv => by
    rw [e1]
    exact List.mem_map.mpr ⟨v, hv, rfl⟩
  refine sorted_tups (it := fun v => itV X.K H (backV v)) (k := fun v => keyV n (itV X.K H (backV v))) (T := T) hT hl.isList (by rw [← rv.length]; exact hz) (fun v hv => ?_) (fun h2 v hv => ?_) (fun v hv u hu hne => ?_) fun h' d out h1 h2 kp hd hn => ?_
  · obtain ⟨t, rfl⟩ := e2 v hv
    obtain ⟨t', zs, e, hz⟩ := hx _ (hmem _ hv)
    cases e
    obtain ⟨us2, r2, ⟨o, ho, hcl, m, hd⟩, _⟩ := I.tuple hz
    refine ⟨t, us2, m, o, rfl, ho, hcl, hd, ?_⟩
    show Vals (itV X.K H (.ref t)) us2
    rw [itV_eq U hz]
    exact r2
  · obtain ⟨y, r, e, hy⟩ := hh (by rw [rv.length]; exact h2) _ (hmem v hv)
    refine ⟨y, r, e, fun u ru M h => ?_⟩
    rcases hy with ⟨rfl, i, rfl⟩ | ⟨rfl, z, rfl⟩
    · obtain ⟨t, rfl⟩ := (show ∃ t, u = Value.int i t from ru)
      exact PySem.W.Looks.now
    · obtain ⟨t, rfl⟩ := (show ∃ t, u = Value.str z t from ru)
      exact PySem.W.Looks.now
  · refine hc _ (hmem v hv) _ (hmem u hu) fun z => hne ?_
    obtain ⟨t, rfl⟩ := e2 v hv
    obtain ⟨t', rfl⟩ := e2 u hu
    have z' : V.ref t = V.ref t' := z
    cases z'
    rfl
  · have h3 : ∀ u ∈ out, ∃ a, u = Value.ref a := fun u hu => e2 u (h2.mem_iff.mp hu)
    obtain ⟨m, hm⟩ := hn
    have hb : (out.map backV).Perm xs := by
      rw [e1]
      exact h2.map backV
    refine ⟨.ref d, upd H d (.lst (out.map backV)), I.laid (t' := s.toks) kp hd ⟨?_, out, m, vals_back h3, hm⟩, rfl, q _ d hb (SrtO.srtd_map h1) (I.hok.fresh hd)⟩
    rw [hb.length_eq]
    exact hz
end
/-! ### on data -/
def keyD1 (n : Nat) : PyData → List Tk
  | .tuple ds => keyN n ds
  | _ => []
def headD (T : String) (y : PyData) : Prop := (T = "int" ∧ ∃ i, y = .int i) ∨ (T = "str" ∧ ∃ z, y = .str z)
structure SrtD (n : Nat) (T : String) (ds : List PyData) : Prop where
  ty : T = "int" ∨ T = "str"
  tup : ∀ d ∈ ds, ∃ zs, d = .tuple zs
  hd : 2 ≤ ds.length → ∀ d ∈ ds, ∃ y r, d = .tuple (y :: r) ∧ headD T y
  cmp : ∀ (i j : Nat) (xs ys : List PyData), i ≠ j → ds[i]? = some (.tuple xs) → ds[j]? = some (.tuple ys) → cmpD xs ys = some (ltK (keyN n xs) (keyN n ys))
section
variable {K : PySem.W.Frag} {G H : Hp}
theorem tok_rp {v : V} {d : PyData} (h : Rp K G v d) : tokV v = tokD d := by
  cases h <;> rfl
theorem key_rp : ∀ {n : Nat} {vs : List V} {ds : List PyData}, RpAll K G vs ds → keyV n vs = keyN n ds
  | 0, _, _, _ => rfl
  | n + 1, _, _, .nil => rfl
  | n + 1, _, _, .cons h t => by
    have := key_rp (n := n) t
    unfold keyV keyN at this ⊢
    rw [List.take_succ_cons, List.take_succ_cons, List.map_cons, List.map_cons, this, tok_rp h]
theorem cmp_rp : ∀ {vs ws : List V} {ds es : List PyData} {r : Bool}, RpAll K G vs ds → RpAll K G ws es → cmpD ds es = some r → cmpV vs ws = some r
  | _, _, _, _, r, .nil, .nil, h => h
  | _, _, _, _, r, .nil, .cons _ _, h => h
  | _, _, _, _, r, .cons h1 _, .nil, h => by
    have h' : some false = some r := by
      unfold cmpD at h
      exact h
    rw [← h']
    unfold cmpV
    rfl
  | _, _, _, _, r, .cons h1 t1, .cons h2 t2, h => by
    cases h1 <;> cases h2 <;> first
      | (cases h; done)
      | skip
    · rename_i i j
      have h' : (if i = j then cmpD _ _ else some (decide (i < j))) = some r := h
      show (if i = j then cmpV _ _ else some (decide (i < j))) = some r
      by_cases z : i = j
      · rw [if_pos z] at h' ⊢
        exact cmp_rp t1 t2 h'
      · rw [if_neg z] at h' ⊢
        exact h'
    · rename_i i j
      have h' : (if i = j then cmpD _ _ else some (decide (i.cps.toList < j.cps.toList))) = some r := h
      show (if i = j then cmpV _ _ else some (decide (i.cps.toList < j.cps.toList))) = some r
      by_cases z : i = j
      · rw [if_pos z] at h' ⊢
        exact cmp_rp t1 t2 h'
      · rw [if_neg z] at h' ⊢
        exact h'
theorem RpAll.perm {ys xs : List V} (p : ys.Perm xs) : ∀ {ds : List PyData}, RpAll K G xs ds → ∃ es : List PyData, es.Perm ds ∧ RpAll K G ys es := by
  induction p with
  | nil => exact fun h => ⟨_, .refl _, h⟩
  | cons x p ih =>
    intro ds h
    cases h with
    | cons h t =>
      obtain ⟨es, h1, h2⟩ := ih t
      exact ⟨_, h1.cons _, .cons h h2⟩
  | swap x y l =>
    intro ds h
    cases h with
    | cons h t =>
      cases t with
      | cons h2 t => exact ⟨_, List.Perm.swap _ _ _, .cons h2 (.cons h t)⟩
  | trans p q ih1 ih2 =>
    intro ds h
    obtain ⟨es, h1, h2⟩ := ih2 h
    obtain ⟨fs, h3, h4⟩ := ih1 h2
    exact ⟨fs, h3.trans h1, h4⟩
end
def xSortT (n : Nat) (xs : XA) : XE := fun e q ex => xs e (fun rs => rs.all Rs.stays = true ∧ ∃ (ds : List PyData) (T : String), rs.map Rs.d = [.list ds] ∧ SrtD n T ds ∧ ∀ es : List PyData, es.Perm ds → SrtO.Srtd (fun d e => ltK (keyD1 n d) (keyD1 n e)) es → q (.nw es)) ex
section
variable {X : Cx} {W : WX} {K : PySem.W.Frag} {a : Expr} {es : List Expr} {ta : TA} {xs : XA} {p pos : Pos}
theorem ve_sortT (n : Nat) (hg : Gl X "sorted") (hm : X.mg "sorted" = none) (ha : VA X W (a :: es) ta xs) (he : starEach (a :: es) X.env = (false, eval a X.env) :: starEach es X.env := by rfl) (hpl : (backTo pos (starEach es X.env)).any (·.1) = false := by rfl) :
    VE X W (.Call (.Name "sorted" p) (a :: es) [] pos) (tCB (rSortT X.K n) ta) (xSortT n xs) := ⟨pe_callB (cr_sortT n) hg hm (by decide +kernel) ha.pa (by decide) (by decide) he hpl, by
  intro G0 H0 G H σ e Q q ex hs hx hq hw
  refine ha.rf G0 H0 G H σ e _ _ ex hs hx (fun G1 H1 vs rs s1 g1 pr k1 => ?_) hw
  obtain ⟨st, ds, T, e1, sd, k⟩ := k1
  obtain ⟨G2, s2, g2, ra⟩ := fix_args s1 g1 pr st
  rw [e1] at ra
  cases ra with
  | cons h t =>
    cases t
    cases h with
    | lst h1 h2 =>
      rename_i pl us
      intro U
      have it : ∀ (i : Nat) (x : V), us[i]? = some x → ∃ t zs ws, x = .ref t ∧ ds[i]? = some (.tuple zs) ∧ SqT X.K H1 t ws ∧ RpAll X.K G2 ws zs ∧ itV X.K H1 x = ws := fun i x hx => by
        obtain ⟨d, hd, r⟩ := h2.get hx
        obtain ⟨zs, rfl⟩ := sd.tup d (List.mem_of_getElem? hd)
        cases r with
        | tup q1 q2 => exact ⟨_, zs, _, rfl, hd, sqt_same s2 q1, q2, itV_eq U (sqt_same s2 q1)⟩
      have at_ : ∀ x ∈ us, ∃ i, us[i]? = some x := fun x hx => by
        obtain ⟨i, hi, e⟩ := List.mem_iff_getElem.mp hx
        exact ⟨i, by rw [List.getElem?_eq_getElem hi, e]⟩
      refine ⟨pl, us, T, rfl, sql_same s2 (SqL.of h1), sd.ty, fun x hx => ?_, fun hl x hx => ?_, fun x hx y hy hne => ?_, fun ys l hp hsd hl => ?_⟩
      · obtain ⟨i, hi⟩ := at_ x hx
        obtain ⟨t, zs, ws, e, _, q1, _⟩ := it i x hi
        exact ⟨t, ws, e, q1⟩
      · obtain ⟨i, hi⟩ := at_ x hx
        obtain ⟨t, zs, ws, e, hd, q1, q2, q3⟩ := it i x hi
        obtain ⟨y, r, ez, hy⟩ := sd.hd (by rw [← h2.len]; exact hl) _ (List.mem_of_getElem? hd)
        cases ez
        rw [q3]
        cases q2 with
        | cons c1 c2 =>
          refine ⟨_, _, rfl, ?_⟩
          rcases hy with ⟨eT, i, rfl⟩ | ⟨eT, z, rfl⟩
          · exact .inl ⟨eT, i, rp_int c1⟩
          · exact .inr ⟨eT, z, rp_str c1⟩
      · obtain ⟨i, hi⟩ := at_ x hx
        obtain ⟨j, hj⟩ := at_ y hy
        obtain ⟨t, zs, ws, e, hd, q1, q2, q3⟩ := it i x hi
        obtain ⟨t', zs', ws', e', hd', q1', q2', q3'⟩ := it j y hj
        have hij : i ≠ j := fun z => hne (by subst z; rw [hi] at hj; exact Option.some.inj hj)
        have := cmp_rp q2 q2' (sd.cmp i j zs zs' hij hd hd')
        rw [q3, q3', this, key_rp q2, key_rp q2']
      · obtain ⟨es, h3, h4⟩ := h2.perm hp
        have hks : ys.map (fun v => keyV n (itV X.K H1 v)) = es.map (keyD1 n) := by
          have key : ∀ {vs : List V} {es : List PyData}, RpAll X.K G2 vs es → (∀ v ∈ vs, v ∈ us) → (∀ d ∈ es, d ∈ ds) → vs.map (fun v => keyV n (itV X.K H1 v)) = es.map (keyD1 n) := by
            intro vs es h
            induction vs generalizing es with
            | nil =>
              intro _ _
              cases h
              rfl
            | cons v vs ih =>
              intro m1 m2
              cases h with
              | cons c1 c2 =>
                rename_i d es
                rw [List.map_cons, List.map_cons, ih c2 (fun z hz => m1 z (List.mem_cons_of_mem _ hz)) fun z hz => m2 z (List.mem_cons_of_mem _ hz)]
                congr 1
                obtain ⟨zs, rfl⟩ := sd.tup d (m2 _ List.mem_cons_self)
                cases c1 with
                | tup q1 q2 =>
                  rw [itV_eq U (sqt_same s2 q1)]
                  exact key_rp q2
          exact key h4 (fun v hv => hp.mem_iff.mp hv) fun d hd => h3.mem_iff.mp hd
        have hsE : SrtO.Srtd (fun d e => ltK (keyD1 n d) (keyD1 n e)) es := by
          have h5 : SrtO.Srtd ltK (ys.map fun v => keyV n (itV X.K H1 v)) := SrtO.srtd_map hsd
          rw [hks] at h5
          exact List.pairwise_map.mp h5
        exact hq G2 _ (.ref l) (.nw _) (same_out s2 (s2.free hl)) (g2.trans (Grow.out hl)) ⟨l, _, rfl, g1.hh.free hl, upd_same, s2.free hl, h4⟩ (k es h3 hsE)⟩
end
end Pv

/-! PwV: what a slot holds whole taken as one that stays; dicts that stay; isinstance of an own class. -/
namespace Pv
open PySem L2 PySem.Spec PyProof.Rows
section
variable {K : PySem.W.Frag} {G0 H0 G H : Hp} {σ : L2.St} {e : En}
/-- a thing held whole is taken as one that stays -/
theorem StR.frzW (hs : StR K G0 H0 G H σ e) {i : Nat} {w : GS} {d : PyData} (hi : e[i]? = some (.gn w)) (hr : ∀ v, w.ok K G H v → Rp K (exth H G w.fp) v d) : StR K G0 H0 (exth H G w.fp) H σ (e.set i (.fz d)) := by
  obtain ⟨v, k1, k2, k3⟩ := hs.sl i _ hi
  have sg : Same G (exth H G w.fp) := exth_up hs.sub
  refine ⟨exth_sub hs.sub, ⟨hs.gr.gg.trans sg, hs.gr.hh, fun a h1 h2 => ?_⟩, by rw [List.length_set, hs.len], fun j s hj => ?_, hs.dj.le fun j s x hj hx => ?_⟩
  · have hn : a ∉ w.fp := fun z => h2 (k3 a z).2
    rw [exth_ne hn]
    exact hs.gr.nn a h1 h2
  · rw [set_get] at hj
    by_cases hc : i = j ∧ i < e.length
    · rw [if_pos hc] at hj
      cases hj
      rw [← hc.1]
      exact ⟨v, k1, hr v k2⟩
    · rw [if_neg hc] at hj
      have hij : i ≠ j := fun z => hc ⟨z, (List.getElem?_eq_some_iff.mp hi).1⟩
      have q := hs.sl j s hj
      have away : ∀ y, s.has σ[j]? y → y ∉ w.fp := fun y hy z => hs.dj i j _ _ y hij hi hj z hy
      exact q.more sg fun y hy => by
        rw [exth_ne (away y hy)]
        exact (q.foot hy).2.1
  · rw [set_get] at hj
    by_cases hc : i = j ∧ i < e.length
    · rw [if_pos hc] at hj
      cases hj
      exact hx.elim
    · rw [if_neg hc] at hj
      exact ⟨_, hj, hx⟩
end
def kdD (kd : KD) : PyData := dcD (kd.map fun p => .str p.1) (kd.map (·.2))
theorem KVR.dc {K : PySem.W.Frag} {G : Hp} : ∀ {kvs : List (Key × V)} {kd : KD}, KVR K G kvs kd → RpAll K G (kvs.map (·.2)) (kd.map (·.2)) ∧ (kd.map fun p => PyData.str p.1) = kvs.map fun p => keyD p.1
  | _, _, .nil => ⟨.nil, rfl⟩
  | (a, u) :: kvs, (b, c) :: kd, .cons h t => by
    obtain ⟨h1, h2⟩ := h
    have h1 : a = Sum.inr b := h1
    subst h1
    obtain ⟨t1, t2⟩ := KVR.dc t
    exact ⟨.cons h2 t1, by rw [List.map_cons, List.map_cons, t2] <;> rfl⟩
/-- an own dict is taken as one that stays -/
def uFrzD (i : Nat) (u : US) : US := fun V e => ∃ (p : Addr) (kd : KD), e[i]? = some (.gn (dcS p kd)) ∧ u V (e.set i (.fz (kdD kd)))
theorem vs_frzD (i : Nat) {X : Cx} {W : WX} {st : Stmt} {t1 : TS} {u1 : US} (h : VS X W st t1 u1) : VS X W st t1 (uFrzD i u1) := ⟨h.ps, fun G0 H0 D V L G H σ e hs hu => by
  obtain ⟨p, kd, hi, hu⟩ := hu
  refine h.rf G0 H0 D V L _ H σ _ (hs.frzW (d := kdD kd) hi fun v hv => ?_) hu
  obtain ⟨rfl, kvs, h2, h3⟩ := hv
  obtain ⟨h4, h5⟩ := h3.dc
  exact .dck (kvs := kvs) ((exth_in (List.mem_singleton.mpr rfl)).trans h2) rfl h5 (h4.mono (exth_up hs.sub) _ _)⟩
/-! ### reading a dict that stays -/
def lkD : List PyData → List PyData → PyData → Option PyData
  | k :: ks, d :: ds, x => if eqF k x = true then some d else lkD ks ds x
  | _, _, _ => none
def isKey : PyData → Option Key
  | .int i => some (.inl i)
  | .str z => some (.inr z)
  | _ => none
theorem eqF_key {a k : Key} : eqF (keyD a) (keyD k) = true ↔ a = k := by
  cases a <;> cases k <;> simp [keyD, eqF]
theorem lk_val {K : PySem.W.Frag} {G : Hp} {x : Key} {d : PyData} : ∀ {kvs : List (Key × V)} {ds : List PyData}, RpAll K G (kvs.map (·.2)) ds → lkD (kvs.map fun p => keyD p.1) ds (keyD x) = some d → ∃ v, valV kvs x = some v ∧ Rp K G v d
  | [], _, _, e => by
    cases e
  | p :: kvs, ds, h, e => by
    cases h with
    | cons h t =>
      rename_i d0 ds
      have e' : (if eqF (keyD p.1) (keyD x) = true then some d0 else lkD (kvs.map fun p => keyD p.1) ds (keyD x)) = some d := e
      by_cases z : p.1 = x
      · rw [if_pos (eqF_key.mpr z)] at e'
        cases e'
        exact ⟨p.2, valV_pos z, h⟩
      · rw [if_neg (fun y => z (eqF_key.mp y))] at e'
        obtain ⟨v, h1, h2⟩ := lk_val t e'
        exact ⟨v, by rw [valV_neg z]; exact h1, h2⟩
theorem key_v {H : Hp} {K : PySem.W.Frag} {v : V} {d : PyData} {k : Key} (h : Rp K H v d) (e : isKey d = some k) : v = kV k ∧ d = keyD k := by
  cases h <;> first
    | (cases e; done)
    | (cases e; exact ⟨rfl, rfl⟩)
def xDgD (xa xk : XE) : XE := fun e q ex => xa e (fun r => xk e (fun s => match r with
  | .va (.dict [(.tuple ks, .list ds)]) => (isKey s.d).isSome = true ∧ ∃ d, lkD ks ds s.d = some d ∧ q (.va d)
  | _ => False) ex) ex
section
variable {X : Cx} {W : WX} {K : PySem.W.Frag} {a b : Expr} {te tb : TE} {xa xb : XE} {p pos : Pos}
theorem ref_dgD (ha : RefE K W te xa) (hk : RefE K W tb xb) : RefE K W (tDGet te tb) (xDgD xa xb) := by
  intro G0 H0 G H σ e Q q ex hs hx hq hw
  refine ha G0 H0 G H σ e _ _ ex hs hx (fun G1 H1 v r s1 g1 rr kk => ?_) hw
  have hs1 := hs.grow g1 s1
  refine hk G0 H0 G1 H1 σ e _ _ ex hs1 kk (fun G2 H2 w s s2 g2 rr2 k2 => ?_) fun G2 H2 cls d y s2 g2 => hw G2 H2 cls d y s2 (g1.trans g2)
  have w2 := rr2.wk s2
  split at k2
  · rename_i ks ds
    obtain ⟨hk, d, hd, k2⟩ := k2
    obtain ⟨k, hk⟩ := Option.isSome_iff_exists.mp hk
    obtain ⟨rfl, ek⟩ := key_v w2 hk
    have h : Rp K G2 v (.dict [(.tuple ks, .list ds)]) := Rp.mono g2.gg _ _ (show Rp K G1 v (.dict [(.tuple ks, .list ds)]) from rr)
    rw [ek] at hd
    cases h with
    | dck h1 h2 h3 h4 =>
      rename_i a0 kvs vs
      subst h2 h3
      obtain ⟨u, e1, e2⟩ := lk_val h4 hd
      refine ⟨a0, u, rfl, ?_, hq G2 H2 u (.va d) s2 (g1.trans g2) e2 k2⟩
      have := DGet.k (k := k) (s2 _ _ h1)
      rw [e1] at this
      exact this
    | dct h1 h2 h3 h4 =>
      rename_i a0 kvs vs
      subst h2 h3
      exfalso
      have none_ : ∀ (kvs : List (List Key × V)) (ds : List PyData), lkD (kvs.map fun p => PyData.tuple (p.1.map keyD)) ds (keyD k) = none := by
        intro kvs
        induction kvs with
        | nil => intro ds; rfl
        | cons p kvs ih =>
          intro ds
          cases ds with
          | nil => rfl
          | cons d0 ds =>
            show (if eqF (PyData.tuple (p.1.map keyD)) (keyD k) = true then some d0 else _) = none
            rw [if_neg (by cases k <;> simp [keyD, eqF])]
            exact ih ds
      rw [none_] at hd
      cases hd
  · exact k2.elim
theorem ve_dgD (hu : X.A.units + 1 < cLine) (ha : VE X W a te xa) (hk : VE X W b tb xb) (hs : NoSl b := by intro _ _; rfl) : VE X W (.Subscript a b pos) (tDGet te tb) (xDgD xa xb) := ⟨pe_dget hu ha.pe hk.pe hs, ref_dgD ha.rf hk.rf⟩
end
/-! ### isinstance of an own class -/
def insB (K : PySem.W.Frag) (C : Addr) : Bool := decide (PySem.W.findIn K (.ref C) "__class__" = some (some (.builtin "object.__class__"))) && (decide (PySem.W.specialIn K (.builtin "object.__class__") "__get__" = some (some (.builtin "getset_descriptor.__get__"))) && (decide (PySem.W.takesIn K (.builtin "object.__class__") = some true) && decide (PySem.W.mroIn K C (.type "object") = some true)))
/-- what isinstance(x, c) answers: of the own classes by tbl, of the built-in ones False -/
def isoB (c : Str) (tbl : List (Str × Bool)) (K : PySem.W.Frag) : Bool := (tbl.all fun q => ((He.Fa.cls q.1).ok K && insB K (He.ga K q.1)) && decide (PySem.W.kitOne K (.ref (He.ga K q.1)) (.ref (He.ga K c)) = some q.2)) &&
  (["NoneType", "bool", "int", "str", "list", "tuple"].all fun t => decide (PySem.W.kitOne K (.type t) (.ref (He.ga K c)) = some false))
structure IsoC (K : PySem.W.Frag) (c : Str) (tbl : List (Str × Bool)) : Prop where
  own : ∀ z b, tbl.lookup z = some b → (Cls K (He.ga K z) ∧ insB K (He.ga K z) = true) ∧ PySem.W.kitOne K (.ref (He.ga K z)) (.ref (He.ga K c)) = some b
  ty : ∀ d : PyData, (∀ l, d ≠ .dict l) → PySem.W.kitOne K (.type (tyOf d)) (.ref (He.ga K c)) = some false
theorem isoB_ok {K : PySem.W.Frag} {c : Str} {tbl : List (Str × Bool)} (h : isoB c tbl K = true) : IsoC K c tbl := by
  obtain ⟨h1, h2⟩ := Bool.and_eq_true_iff.mp h
  refine ⟨fun z b e => ?_, fun d hd => ?_⟩
  · obtain ⟨k1, k2⟩ := Bool.and_eq_true_iff.mp (List.all_eq_true.mp h1 (z, b) (lookup_memB e))
    obtain ⟨k0, k1⟩ := Bool.and_eq_true_iff.mp k1
    exact ⟨⟨He.cls_ok k0, k1⟩, dc k2⟩
  · refine dc (List.all_eq_true.mp h2 (tyOf d) ?_)
    cases d <;> first
      | exact absurd rfl (hd _)
      | simp [tyOf]
/-- of a thing that stays: an object by its class, anything else (no dict) False -/
def yIso (tbl : List (Str × Bool)) (d : PyData) (q : Rs → Prop) : Prop := match d with
  | .dict [(.list [.str z, .tuple _], .list _)] => ∃ b, tbl.lookup z = some b ∧ q (.va (.bool b))
  | .dict _ => False
  | _ => q (.va (.bool false))
def xIso (tbl : List (Str × Bool)) (xa : XE) : XE := fun e q ex => xa e (fun r => yIso tbl r.d q) ex
section
variable {X : Cx} {W : WX} {K : PySem.W.Frag} {a : Expr} {te : TE} {xa : XE} {p p2 pos : Pos}
theorem ve_iso {c : Str} {tbl : List (Str × Bool)} (hI : IsoC X.K c tbl) (hg : Gl X "isinstance") (hm : X.mg "isinstance" = none) (hgc : Gl X c) (hmc : X.mg c = some (.ref (He.ga X.K c))) (ha : VE X W a te xa) (hd : (c == ("__debug__" : Str)) = false := by decide)
    (h1 : starEach [a, .Name c p2] X.env = (false, eval a X.env) :: starEach [.Name c p2] X.env := by rfl) (h2 : starEach [.Name c p2] X.env = (false, eval (.Name c p2) X.env) :: starEach [] X.env := by rfl)
    (hpl : (backTo pos (starEach [.Name c p2] X.env)).any (·.1) = false := by rfl) :
    VE X W (.Call (.Name "isinstance" p) [a, .Name c p2] [] pos) (tCB (rIsi X.K) (tCons te (tCons (tC (.ref (He.ga X.K c))) tNil))) (xIso tbl xa) :=
  ⟨pe_callB call_isi hg hm (by decide +kernel) (pa_cons ha.pe (pa_cons (pe_glob hgc hmc (show RelV (.ref (He.ga X.K c)) (.ref (He.ga X.K c)) from rfl) hd) pa_nil h2) h1) (by decide) (by decide) h1 hpl, by
    intro G0 H0 G H σ e Q q ex hs hx hq hw
    refine ha.rf G0 H0 G H σ e _ _ ex hs hx (fun G1 H1 v r1 s1 g1 rr1 k1 => ?_) hw
    have w1 := rr1.wk s1
    have flat : (∀ l, r1.d ≠ .dict l) → q (.va (.bool false)) → rIsi X.K [v, .ref (He.ga X.K c)] H1 Q := fun hn k => by
      refine ⟨v, _, _, _, _, rfl, .own _, tyx_of w1 ?_, hI.ty r1.d hn, hq G1 H1 _ (.va _) s1 g1 (.bl _) k⟩
      cases hd : r1.d <;> first
        | rfl
        | exact absurd hd (hn _)
    unfold yIso at k1
    generalize hd : r1.d = d at k1 w1
    split at k1
    · rename_i z ns ds
      obtain ⟨b, hb, k⟩ := k1
      obtain ⟨⟨hC, h3⟩, h4⟩ := hI.own z b hb
      obtain ⟨n1, h3⟩ := Bool.and_eq_true_iff.mp h3
      obtain ⟨n2, h3⟩ := Bool.and_eq_true_iff.mp h3
      obtain ⟨n3, n4⟩ := Bool.and_eq_true_iff.mp h3
      have key : ∀ y, y = PyData.dict [(.list [.str z, .tuple ns], .list ds)] → Rp X.K H1 v y → rIsi X.K [v, .ref (He.ga X.K c)] H1 Q := fun y e w => by
        cases w with
        | obj q1 q2 q3 q4 =>
          injection e with e
          injection e with e _
          injection e with e _
          injection e with e
          injection e with e _
          injection e with e
          subst e
          exact ⟨_, _, _, _, b, rfl, .own _, .base (.ins q1 hC (dc n1) (dc n2) (dc n3) (dc n4)), h4, hq G1 H1 _ (.va _) s1 g1 (.bl _) k⟩
        | _ => cases e
      exact key _ rfl w1
    · exact k1.elim
    · rename_i h1' h2'
      exact flat (fun l z => h2' l (hd.symm.trans z)) k1⟩
end
/-! ### attributes by their names -/
theorem lt_of_not {a b c : List Nat} (h : a < b) (n : ¬ c < b) : a < c := by
  rcases Decidable.em (a < c) with z | z
  · exact z
  · exact absurd h (List.not_lt.mpr (List.le_trans (List.not_lt.mp n) (List.not_lt.mp z)))
theorem rising_pw : ∀ {ys : List Str} {p : Str}, PyProof.Rows.risingS p ys = true → (∀ y ∈ ys, ¬ y.cps.toList < p.cps.toList) ∧ ys.Pairwise fun a b => ¬ b.cps.toList < a.cps.toList
  | [], _, _ => ⟨fun y hy => (by cases hy), .nil⟩
  | x :: r, p, h => by
    have h' : (!ltCps x.cps.toList p.cps.toList && PyProof.Rows.risingS x r) = true := h
    obtain ⟨h1, h2⟩ := Bool.and_eq_true_iff.mp h'
    have h1 : ¬ x.cps.toList < p.cps.toList := by
      have e : ltCps x.cps.toList p.cps.toList = false := by simpa using h1
      rw [PyProof.Rows.ltCps_eq] at e
      exact of_decide_eq_false e
    obtain ⟨h3, h4⟩ := rising_pw h2
    refine ⟨fun y hy => ?_, .cons h3 h4⟩
    rcases List.mem_cons.mp hy with rfl | hy
    · exact h1
    · exact fun z => h3 y hy (lt_of_not z h1)
theorem sortedS_pw {ys : List Str} (h : PyProof.Rows.sortedS ys = true) : ys.Pairwise fun a b => ¬ b.cps.toList < a.cps.toList := by
  cases ys with
  | nil => exact .nil
  | cons x r =>
    obtain ⟨h1, h2⟩ := rising_pw (show PyProof.Rows.risingS x r = true from h)
    exact .cons h1 h2
theorem cps_inj {x y : Str} (h : x.cps.toList = y.cps.toList) : x = y := str_ext h
structure MsN (ms : List (Str × MV)) : Prop where
  nod : (ms.map (·.1)).Nodup
  srt : PyProof.Rows.sortedS (ms.map (·.1)) = true
theorem ltK_one (a b : Str) : ltK [.inr a.cps.toList] [.inr b.cps.toList] = decide (a.cps.toList < b.cps.toList) := by
  show lexLt itemOrd [_] [_] = _
  rw [PyProof.Rows.lex_cons, PyProof.Rows.lex_irrefl]
  show (decide (a.cps.toList < b.cps.toList) || (!decide (b.cps.toList < a.cps.toList) && false)) = _
  rw [Bool.and_false, Bool.or_false]
theorem key_mk (m : Str × MV) : keyD1 1 (mkD m) = [.inr m.1.cps.toList] := rfl
theorem perm_map {α β : Type} {f : α → β} : ∀ {xs : List α} {ys : List β}, ys.Perm (xs.map f) → ∃ zs : List α, zs.Perm xs ∧ ys = zs.map f := by
  intro xs ys h
  have key : ∀ {l l' : List β}, l.Perm l' → ∀ xs : List α, l' = xs.map f → ∃ zs : List α, zs.Perm xs ∧ l = zs.map f := by
    intro l l' p
    induction p with
    | nil =>
      intro xs e
      exact ⟨xs, .refl _, e⟩
    | cons x p ih =>
      intro xs e
      cases xs with
      | nil => cases e
      | cons a xs =>
        rw [List.map_cons] at e
        injection e with e1 e2
        obtain ⟨zs, h1, h2⟩ := ih xs e2
        exact ⟨a :: zs, h1.cons a, by rw [List.map_cons, h2, e1]⟩
    | swap x y l =>
      intro xs e
      cases xs with
      | nil => cases e
      | cons a xs =>
        cases xs with
        | nil => cases e
        | cons b xs =>
          rw [List.map_cons, List.map_cons] at e
          injection e with e1 e2
          injection e2 with e2 e3
          exact ⟨b :: a :: xs, List.Perm.swap _ _ _, by rw [List.map_cons, List.map_cons, e1, e2, e3]⟩
    | trans p q ih1 ih2 =>
      intro xs e
      obtain ⟨zs, h1, h2⟩ := ih2 xs e
      obtain ⟨ws, h3, h4⟩ := ih1 zs h2
      exact ⟨ws, h3.trans h1, h4⟩
  exact key h xs rfl
/-- what sorted asks of attributes in any order, and what it gives -/
theorem sort_ms {ms : List (Str × MV)} (h : MsN ms) {ls : List PyData} (hp : ls.Perm (ms.map mkD)) : SrtD 1 "str" ls ∧ ∀ es : List PyData, es.Perm ls → SrtO.Srtd (fun d e => ltK (keyD1 1 d) (keyD1 1 e)) es → es = ms.map mkD := by
  obtain ⟨ks, hk, rfl⟩ := perm_map hp
  have hnod : (ks.map (·.1)).Nodup := (hk.map _).nodup_iff.mpr h.nod
  refine ⟨⟨.inr rfl, fun d hd => ?_, fun _ d hd => ?_, fun i j xs ys hij hi hj => ?_⟩, fun es he hs => ?_⟩
  · obtain ⟨m, _, rfl⟩ := List.mem_map.mp hd
    exact ⟨_, rfl⟩
  · obtain ⟨m, _, rfl⟩ := List.mem_map.mp hd
    exact ⟨_, _, rfl, .inr ⟨rfl, _, rfl⟩⟩
  · obtain ⟨m, h1, e1⟩ := map_get hi
    obtain ⟨m', h2, e2⟩ := map_get hj
    cases e1
    cases e2
    have hne : m.1 ≠ m'.1 := fun e => by
      obtain ⟨l1, g1⟩ := List.getElem?_eq_some_iff.mp h1
      obtain ⟨l2, g2⟩ := List.getElem?_eq_some_iff.mp h2
      refine hij ((List.getElem_inj (h₀ := by rw [List.length_map]; exact l1) (h₁ := by rw [List.length_map]; exact l2) hnod).mp ?_)
      rw [List.getElem_map, List.getElem_map, g1, g2, e]
    show (if m.1 = m'.1 then cmpD [mvD m.2] [mvD m'.2] else some (decide (m.1.cps.toList < m'.1.cps.toList))) = some (ltK [.inr m.1.cps.toList] [.inr m'.1.cps.toList])
    rw [if_neg hne, ltK_one]
  · have he2 : es.Perm (ms.map mkD) := he.trans hp
    refine List.Perm.eq_of_pairwise (le := fun d e => ltK (keyD1 1 e) (keyD1 1 d) = false) (fun a b ha hb h1 h2 => ?_) hs ?_ he2
    · obtain ⟨m, hm, rfl⟩ := List.mem_map.mp (he2.mem_iff.mp ha)
      obtain ⟨m', hm', rfl⟩ := List.mem_map.mp hb
      rw [key_mk, key_mk, ltK_one] at h1 h2
      have e : m.1 = m'.1 := cps_inj (List.le_antisymm (List.not_lt.mp (of_decide_eq_false h1)) (List.not_lt.mp (of_decide_eq_false h2)))
      obtain ⟨i, hi, e1⟩ := List.mem_iff_getElem.mp hm
      obtain ⟨j, hj, e2⟩ := List.mem_iff_getElem.mp hm'
      have : i = j := (List.getElem_inj (h₀ := by rw [List.length_map]; exact hi) (h₁ := by rw [List.length_map]; exact hj) h.nod).mp (by rw [List.getElem_map, List.getElem_map, e1, e2, e])
      subst this
      rw [← e1, ← e2]
    · have := sortedS_pw h.srt
      rw [List.pairwise_map] at this ⊢
      refine this.imp fun {a b} hab => ?_
      rw [key_mk, key_mk, ltK_one]
      exact decide_eq_false hab
/-! ### what may be compared -/
def okP (n : Nat) (d : PyData) : Prop := d.canLay0 = true ∧ d.depth ≤ n
theorem okP.shaped {n : Nat} {d : PyData} (h : okP n d) (hn : n ≤ 64) : SeqAt.shaped d = true := by
  unfold SeqAt.shaped
  rw [h.1, Bool.true_and]
  exact decide_eq_true (Nat.le_trans h.2 hn)
theorem okP_int (n : Nat) (i : Int) : okP n (.int i) := ⟨rfl, by simp [PyData.depth]⟩
theorem okP_str {n : Nat} {z : Str} (h : okS z) : okP n (.str z) := by
  refine ⟨?_, by simp [PyData.depth]⟩
  rw [PyData.canLay0]
  unfold PyData.strOk
  rw [Array.all_eq_true']
  intro c hc
  have := h c (by simpa using hc)
  unfold okC at this
  simp only [Bool.or_eq_true, Bool.and_eq_true, decide_eq_true_eq] at this
  refine decide_eq_true ?_
  omega
theorem okPs {n : Nat} : ∀ {ds : List PyData}, (∀ d ∈ ds, okP n d) → PyData.canLayAll0 ds = true ∧ PyData.depthAll ds ≤ n + 1
  | [], _ => ⟨rfl, by simp [PyData.depthAll]⟩
  | d :: ds, h => by
    obtain ⟨h1, h2⟩ := okPs (ds := ds) fun x hx => h x (List.mem_cons_of_mem _ hx)
    have h3 := h d List.mem_cons_self
    refine ⟨by rw [PyData.canLayAll0, h3.1, h1] <;> rfl, ?_⟩
    have := h3.2
    simp only [PyData.depthAll]
    omega
theorem okP_tup {n : Nat} {ds : List PyData} (h : ∀ d ∈ ds, okP n d) : okP (n + 2) (.tuple ds) := by
  obtain ⟨h1, h2⟩ := okPs h
  refine ⟨by rw [PyData.canLay0]; exact h1, ?_⟩
  rw [PyData.depth]
  omega
theorem okP_list {n : Nat} {ds : List PyData} (h : ∀ d ∈ ds, okP n d) : okP (n + 2) (.list ds) := by
  obtain ⟨h1, h2⟩ := okPs h
  refine ⟨by rw [PyData.canLay0]; exact h1, ?_⟩
  rw [PyData.depth]
  omega
theorem okP.up {n m : Nat} {d : PyData} (h : okP n d) (hm : n ≤ m) : okP m d := ⟨h.1, Nat.le_trans h.2 hm⟩
theorem okP_ints (ns : List Int) : okP 2 (.tuple (ns.map .int)) := okP_tup (n := 0) fun d hd => by
  obtain ⟨i, _, rfl⟩ := List.mem_map.mp hd
  exact okP_int 0 i
theorem okP_mk {m : Str × MV} (h : okS m.1) (hv : mvOk m.2) : okP 4 (mkD m) := by
  refine okP_tup (n := 2) fun d hd => ?_
  obtain ⟨z, v⟩ := m
  have hd : d = .str z ∨ d = mvD v := by simpa using hd
  rcases hd with rfl | rfl
  · exact okP_str h
  · cases v with
    | t cs =>
      refine okP_str fun c hc => hv.2 c ?_
      have : (⟨cs.toArray⟩ : Str).cps.toList = cs := by simp
      rw [this] at hc
      exact hc
    | l ns => exact okP_ints ns
theorem okP_pc {p : Pc} (h : okS p.1) : okP 4 (pcD p) := by
  refine okP_tup (n := 2) fun d hd => ?_
  have hd : d = .str p.1 ∨ d = .tuple (p.2.1.map .int) ∨ d = .tuple (p.2.2.1.map .int) ∨ d = .tuple (p.2.2.2.map .int) := by simpa using hd
  rcases hd with rfl | rfl | rfl | rfl
  · exact okP_str h
  · exact okP_ints _
  · exact okP_ints _
  · exact okP_ints _
end Pv

/-! PyA: exceptions with a context: raise .. from None in a suite, try over such a raise, calls in the suite of one. -/
namespace Pv
open PySem PySem.Spec PyProof.Rows L2
/-! ### of an exception without a context the context may be forgotten -/
theorem ctx_of {P : Program} {w : World} {outer : List Env} {H : Hp} {s s' : Shared} {E : XK} {u : Value} (h : L2N.CX P w outer H s E u s') : L2.CX P w outer H s E u s' := by
  obtain ⟨a, B, H1, k, d, e1, ⟨y1, y2, y3, ob, vs, T, oT, ts, z1, z2, z3⟩, r⟩ := h
  exact ⟨a, B, H1, k, d, e1, ⟨y1, y2, y3, ob, vs, T, oT, ts, z1, z2.zc, z3⟩, r⟩
theorem passNC {X : Cx} {W : WX} (tk : L2.Takes X W) (σ : L2.St) : PassesAt (L2N.CX X.prog X.w) X σ (fun cls d H => W cls d σ H) := fun pins H s e s' I c => L2.passAt tk σ pins H s e s' I (ctx_of c)
theorem passCC {X : Cx} {W : WX} (tk : L2.Takes X W) (σ : L2.St) : PassesAt (L2.CX X.prog X.w) X σ (fun cls d H => W cls d σ H) := L2.passAt tk σ
theorem quietC {P : Program} {w : World} : Quiet (L2.CX P w) := fun outer H s e s' h => by
  obtain ⟨_, _, _, _, _, _, _, _, _, _, _, _, h⟩ := h
  exact h
theorem takesC {X : Cx} : L2.Takes X WX0 := fun _ _ ⟨_, _, _, _, _, _, _, _, _, _, _, _, _, _, _, _, w⟩ => w.elim

/-! ### try: body, except c: a suite that raises -/
def EnV.caughtR (V : EnV) (isa : Str → Option Bool) (us : US) : EnV := ⟨V.nx, V.rt, V.bk, V.ct, fun y e' => match isa y.cls with
  | some true => us V e'
  | some false => V.ex y e'
  | none => False, V.rg⟩
def uTryR (isa : Str → Option Bool) (ub us : US) : US := fun V e => ub (V.caughtR isa us) e
section
variable {X : Cx} {W : WX} {K : PySem.W.Frag}
theorem ref_tryR {c : Value} {isa : Str → Option Bool} {ub us : US} (hm : Isa K c isa) : RefS K W (fun D σ H => rd K (L2.wOnly K c (fun _ _ _ => rd K W us) W D) ub D σ H) (uTryR isa ub us) := by
  intro G0 H0 D V hl G H σ e hs hu
  refine ref_rd (W := L2.wOnly K c (fun _ _ _ => rd K W us) W D) G0 H0 D (V.caughtR isa us) ⟨hl.nx, hl.rt, hl.bk, hl.ct, fun G1 H1 σ1 e1 cls d y hs1 xr k => ?_, hl.rg⟩ G H σ e hs hu
  obtain ⟨x1, x2⟩ := xr
  have k' : (match isa y.cls with
    | some true => us V e1
    | some false => V.ex y e1
    | none => False) := k
  cases q : isa y.cls with
  | none =>
    rw [q] at k'
    exact k'.elim
  | some b =>
    rw [q] at k'
    refine ⟨b, x1 ▸ hm _ _ q, fun hb1 a ha => ?_, fun hb0 => ?_⟩
    · subst hb1
      exact ⟨G0, H0, G1, e1, V, hl, hs1, k'⟩
    · subst hb0
      exact hl.ex G1 H1 σ1 e1 cls d y hs1 ⟨x1, x2⟩ k'
theorem vs_tryR {x : Str} {c : Value} {isa : Str → Option Bool} {body suite : List Stmt} {b0 : Stmt} {np pos pos' : Pos} {ub us : US}
    (hs : X.stack = X.env :: X.outer) (hf : X.env.frame = some X.env.locals) (hc : Names X x c) (hm : Isa X.K c isa) (hpa : ∀ hd : Option Value, PassesOwnAt (model X.prog X.w) (X.A.mark hd) X.A X.env X.xe) (tk : L2.Takes X W)
    (hb : ∀ (W' : WX) (pn : List (Addr × Obj)) (xe : Value → Shared → Prop), L2N.Takes (X.tr pn xe) W' → PassesOwn (model X.prog X.w) X.A X.env xe → ∃ t, VSs (X.tr pn xe) W' body t ub)
    (hsu : ∀ (a : Addr) (ob : Obj) (k : Value) (d : Option Addr) (pn : List (Addr × Obj)), L2.Takes (L2H.suiteX X a ((a, ob) :: pn)) W → L2H.HotC (L2H.suiteX X a ((a, ob) :: pn)) → ∃ t, VSs (L2H.suiteX X a ((a, ob) :: pn)) W (b0 :: suite) t us) :
    VS X W (.Try body [.ExceptHandler (some (.Name x np)) none (b0 :: suite) pos'] [] [] pos) (fun D σ H => rd X.K (L2.wOnly X.K c (fun _ _ _ => rd X.K W us) W D) ub D σ H) (uTryR isa ub us) := by
  refine ⟨L2H.ps_try_onlyX (tb := fun W' => rd X.K W' ub) (ts := fun _ _ _ => rd X.K W us) hs hf hc hpa tk (fun W' pn xe t _ p => ?_) fun a ob k d pn _ _ t hot => ?_, ref_tryR hm⟩
  · obtain ⟨_, h⟩ := hb W' pn xe t p
    exact h.rd
  · obtain ⟨_, h⟩ := hsu a ob k d pn t hot
    exact h.rd
/-- raise x(..) from None -/
theorem vs_raiseR {x : Str} {ps : List Str} {a : Expr} {es : List Expr} {ta : TA} {xs : XA} {k j : Nat} {p pos pos2 cpos : Pos} (hot : L2H.HotC X) (tk : L2.Takes X W) (I : XcK X.prog X.K (He.ga X.K x) ps) (hr : L2H.RoomH k X.A) (hk : 1 ≤ k) (hg : Gl X x) (hm : X.mg x = some (.ref (He.ga X.K x)))
    (hms : X.mg "super" = none) (ha : VA X W (a :: es) ta xs) (hdb : (x == ("__debug__" : Str)) = false := by decide) (hst : starEach (a :: es) X.env = (false, eval a X.env) :: starEach es X.env := by rfl) (hpl : (backTo pos (starEach es X.env)).any (·.1) = false := by rfl) :
    VS X W (.Raise (some (.Call (.Name x p) (a :: es) [] pos)) (some (.Constant .none j cpos)) pos2) (fun _ σ H => tMkX (He.ga X.K x) ps ta σ H fun cls d H' => W cls d σ H') (uRaise x ps xs) :=
  ⟨L2H.ps_raiseHN hot tk (pmk_x I (hr.mono hk) hg hm hms ha.pa hdb hst hpl), ref_raise ha.rf⟩

/-! ### try: body (exceptions of either kind), except c as n: suite -/
theorem vs_tryAsC {x n : Str} {c : Value} {i : Nat} {isa : Str → Option Bool} {body suite : List Stmt} {b0 : Stmt} {np pos pos' : Pos} {ub : US} {us : Addr → Value → Option Addr → US}
    (hs : X.stack = X.env :: X.outer) (hf : X.env.frame = some X.env.locals) (hN : X.N.Nodup) (hi : X.N[i]? = some n) (hln : X.env.kindOf n = some .local) (hc : Names X x c) (hm : Isa X.K c isa) (tk : L2.Takes X W)
    (hb : ∀ (W' : WX) (pn : List (Addr × Obj)) (xe : Value → Shared → Prop), L2.Takes (X.tr pn xe) W' → PassesOwn (model X.prog X.w) X.A X.env xe → ∃ t, VSs (X.tr pn xe) W' body t ub)
    (hsu : ∀ (a : Addr) (ob : Obj) (k : Value) (d : Option Addr) (pn : List (Addr × Obj)), Zc k d ob → (∃ us, ob.data = .fields us) → ∃ t, VSs (X.suite a ((a, ob) :: pn)) WX0 (b0 :: suite) t (us a k d)) :
    VS X W (.Try body [.ExceptHandler (some (.Name x np)) (some n) (b0 :: suite) pos'] [] [] pos) (fun D σ H => rd X.K (L2.wAs X.K c i (fun a k d => rd X.K WX0 (us a k d)) W D) ub D σ H) (uTryAs isa i ub us) := by
  refine ⟨L2.ps_try_as (tb := fun W' => rd X.K W' ub) (ts := fun a k d => rd X.K WX0 (us a k d)) hs hf hN hi hln hc tk (fun W' pn xe t p => ?_) fun a ob k d pn z f => ?_, ref_tryAs hm (fun W' => ref_rd) fun a k d => ref_rd⟩
  · obtain ⟨_, h⟩ := hb W' pn xe t p
    exact h.rd
  · obtain ⟨_, h⟩ := hsu a ob k d pn z f
    exact h.rd
theorem ve_xfC {a : Addr} {ob : Obj} {k : Value} {d : Option Addr} {pn : List (Addr × Obj)} {i : Nat} {n c f : Str} {p pos : Pos} (T : XfC X.K (He.ga X.K c)) (hno : PySem.W.findIn X.K (.ref (He.ga X.K c)) f = some none) (hz : Zc k d ob) (hf : ∃ us, ob.data = .fields us)
    (hv : PE (X.suite a ((a, ob) :: pn)) (.Name n p) (tVar i)) (hb : attributeBase (.Name n p) f X.env (eval (.Name n p) X.env) = eval (.Name n p) X.env := by rfl) :
    VE (X.suite a ((a, ob) :: pn)) W (.Attribute (.Name n p) f pos) (tXf a k d (He.ga X.K c) f (tVar i)) (xXf i a k d c f) := ⟨pe_xf T hno hz hf hv hb, ref_xf⟩
theorem ref_isX {i : Nat} {a : Addr} {k : Value} {d : Option Addr} {c : Str} {isa : Str → Option Bool} (hI : IsaI K c isa) : RefE K W (tCB (rIsX K a k d) (tCons (tVar i) (tCons (tC (.ref (He.ga K c))) tNil))) (xIsX i a k d isa) := by
  intro G0 H0 G H σ e Q q ex hs hx hq _
  unfold xIsX at hx
  cases h : e[i]? with
  | none =>
    rw [h] at hx
    exact hx.elim
  | some s =>
    rw [h] at hx
    have hh := hs.sl i s h
    cases s with
    | xn a' k' d' y =>
      obtain ⟨⟨rfl, rfl, rfl⟩, hx⟩ := hx
      obtain ⟨g1, g2, g3⟩ := hh
      have hx' : (match isa y.cls with
        | some b => q (.va (.bool b))
        | none => False) := hx
      cases hb : isa y.cls with
      | none =>
        rw [hb] at hx'
        exact hx'.elim
      | some b =>
        rw [hb] at hx'
        obtain ⟨C, kk⟩ := hI _ _ hb
        refine ⟨_, g1, He.ga K y.cls, _, _, b, rfl, g2, C, fun u r => r, kk, fun dd ed => ?_, hq G H _ (.va _) hs.sub .refl (.bl _) hx'⟩
        subst ed
        obtain ⟨fs, z, _⟩ := g3
        exact ⟨fs, hs.sub _ _ z⟩
    | _ => exact hx.elim
theorem ve_isXC {a : Addr} {ob : Obj} {k : Value} {d : Option Addr} {pn : List (Addr × Obj)} {i : Nat} {n c : Str} {isa : Str → Option Bool} {p p1 p2 pos : Pos} (hI : IsaI X.K c isa) (hz : Zc k d ob) (hf : ∃ us, ob.data = .fields us)
    (hg : Gl (X.suite a ((a, ob) :: pn)) "isinstance") (hm : X.mg "isinstance" = none) (hgc : Gl (X.suite a ((a, ob) :: pn)) c) (hmc : X.mg c = some (.ref (He.ga X.K c))) (hv : PE (X.suite a ((a, ob) :: pn)) (.Name n p1) (tVar i)) (hd : (c == ("__debug__" : Str)) = false := by decide)
    (h1 : starEach [.Name n p1, .Name c p2] X.env = (false, eval (.Name n p1) X.env) :: starEach [.Name c p2] X.env := by rfl) (h2 : starEach [.Name c p2] X.env = (false, eval (.Name c p2) X.env) :: starEach [] X.env := by rfl)
    (hpl : (backTo pos (starEach [.Name c p2] X.env)).any (·.1) = false := by rfl) :
    VE (X.suite a ((a, ob) :: pn)) W (.Call (.Name "isinstance" p) [.Name n p1, .Name c p2] [] pos) (tCB (rIsX X.K a k d) (tCons (tVar i) (tCons (tC (.ref (He.ga X.K c))) tNil))) (xIsX i a k d isa) :=
  ⟨pe_callB (call_isX hz hf) hg hm (by decide +kernel) (pa_cons hv (pa_cons (pe_glob hgc hmc (show RelV (.ref (He.ga X.K c)) (.ref (He.ga X.K c)) from rfl) hd) pa_nil h2) h1) (by decide) (by decide) h1 hpl, ref_isX hI⟩
end
/-! ### defs that may be called whatever exception is handled -/
structure FnA (P : Program) (w : World) (K : PySem.W.Frag) (mg : Str → Option Value) (base : Heap) (CX : CXT) (k : Nat) (f : Addr) (fd : FuncData) (ps : List Str) (sp : Sp) : Prop where
  len : ∀ vs H Q E, sp vs H Q E → vs.length = ps.length
  run : ∀ (A : Around) (o : List Env) (s : Shared) (H : Hp) (ar : Args) (us : List Value) (vs : List V) (Q : VK) (E : XK) (p : Addr × Obj), L2H.RoomH k A → L2H.PinOk o H s p → Env0 P w K mg base A o s H → BindsTo s fd ar (ps.zip us) → Vals vs us → sp vs H Q E →
    codeAny (model P w) A (.call (.ref f) ar) (CR CX o P w H s Q E) s
theorem fn_ofA {CX : CXT} {P : Program} {w : World} {K : PySem.W.Frag} {mg : Str → Option Value} {base : Heap} {k : Nat} {f : Addr} {nm qual : Str} {params : Arguments} {body : List Stmt} {scope : Scope} {dV kV doc pm cdv ct oc : Value} {an od : Option Addr}
    {osl : Array (Option Value)} {N ps : List Str} {sp : Sp} (look : K.lookup f = some ⟨oc, od, .func (PySem.W.fnOf nm qual params body scope dV kV doc pm an cdv ct), osl⟩) (code : PySem.W.codeIn K cdv qual = true) (S : FnScope N ps scope)
    (len : ∀ vs H Q E, sp vs H Q E → vs.length = ps.length)
    (go : ∀ (A : Around) (o : List Env) (s : Shared) (H : Hp) (vs : List V) (Q : VK) (E : XK) (p : Addr × Obj), L2H.RoomH k (A.deeper (envOfC qual scope s.heap.objs.size f cdv)) → sp vs H Q E →
      ∃ t, PSs (L2H.cxH CX P w K mg base N qual scope f cdv A o s H E p) body t ∧ t { nx := fun _ H' => Q .non H', rt := Q } (L2.start N vs) H) :
    FnA P w K mg base CX (k + 1) f (PySem.W.fnOf nm qual params body scope dV kV doc pm an cdv ct) ps sp := by
  refine ⟨len, fun A o s H ar us vs Q E p room pin e0 bt rv hsp => ?_⟩
  have hlen := len _ _ _ _ hsp
  have kin : K.In s.heap := e0.mod.kin.keeps fun b ob eb => (e0.bs b ob eb).1
  have nol : s.heap.NoLimit := e0.mod.nolimit.keeps fun b ob eb => (e0.bs b ob eb).1
  have kinds : ∀ z ∈ ps.zip us, scope.names.lookup z.1 = some .local ∨ (scope.names.lookup z.1 = some .cell ∧ ((cellsFrom (s.heap.objs.size + 1) scope.names []).lookup z.1).isSome = true) := by
    rintro ⟨n, v⟩ hz
    exact (S.par n (List.of_mem_zip hz).1).imp id fun q => ⟨q, PySem.W.cellsFrom_some _ _ _ (.inl q)⟩
  refine codeAny_call_function room.depth (kin _ _ look) rfl S.co S.gen rfl (PySem.W.codeRec_of kin code) (bt _ _ _ _ ?_)
  refine wpAny_newFunctionEnv_cells S.kind kinds fun env he s1 x => ?_
  subst he
  refine ⟨nol.keeps x.toInCall.keep, codeAny_func ?_⟩
  obtain ⟨t, ht, hq⟩ := go A o s H vs Q E p (room.deeper _) hsp
  refine wpAny_mono (ht.run [] s1 (L2.start N vs) H _ (L2H.inv_startH S pin e0 hlen rv x) hq) (fun fl s' hs => ?_) fun e s' hs => hs
  match fl, hs with
  | .ret u, hs =>
    obtain ⟨v, σ', H', J, r, q⟩ := hs
    exact ⟨v, H', J.os, J.bare, J.base, J.hok, r, q⟩
  | .next, hs =>
    obtain ⟨σ', H', J, q⟩ := hs
    exact ⟨V.non, H', J.os, J.bare, J.base, J.hok, rfl, q⟩
  | .brk, hs => exact hs.choose_spec.choose_spec.2.elim
  | .cont, hs => exact hs.choose_spec.choose_spec.2.elim
section
variable {P : Program} {w : World} {K : PySem.W.Frag} {mg : Str → Option Value} {base : Heap} {x qual : Str} {params : Arguments} {body : List Stmt} {scope : Scope} {dvs : List V} {kws : List (Str × V)} {f : Addr} {fd : FuncData} {CX : CXT}
theorem defA {N ps : List Str} {k : Nat} {Fs : Fn} {u : US} (F : FunD K x qual params body scope dvs kws f fd) (S : FnScope N ps scope) (hx : ∀ ds q ex, Fs ds q ex → ds.length = ps.length) (hu : ∀ ds q ex, Fs ds q ex → u (enV q ex) (en0 N.length ds))
    (hbody : ∀ (cdv : Value) (A : Around) (o : List Env) (s : Shared) (H : Hp) (E : XK) (p : Addr × Obj), L2H.RoomH k (A.deeper (envOfC qual scope s.heap.objs.size f cdv)) →
      ∃ t, VSs (L2H.cxH CX P w K mg base N qual scope f cdv A o s H E p).nox WX0 body t u)
    (hne : ∀ ds q ex ex', Fs ds q ex → Fs ds q ex') : FnA P w K mg base CX (k + 1) f fd ps (spF K Fs) := by
  obtain ⟨oc, od, dV, kV, doc, pm, an, cdv, ct, osl, rfl, lk, hcd, _, _⟩ := F.ex
  refine fn_ofA lk hcd S (fun vs H Q E h => ?_) fun A o s H vs Q E p hr h => ?_
  · obtain ⟨G, ds, q, ex, sub, ra, hF, _⟩ := h
    rw [ra.len]
    exact hx ds q ex hF
  · obtain ⟨t, h1⟩ := hbody cdv A o s H E p hr
    refine ⟨t, PSs.nox h1.ps, ?_⟩
    obtain ⟨G, ds, q, ex, sub, ra, hF, hq, _⟩ := h
    exact spF_body (E := fun _ _ _ => False) (fun _ _ _ _ z => z.elim) h1.rf hu ⟨G, ds, q, fun _ => False, sub, ra, hne ds q ex _ hF, hq, fun _ _ _ _ _ _ _ _ z => z.elim⟩
end
section
variable {X : Cx} {W : WX} {K : PySem.W.Frag}
/-- g(e, ..) in a context that pins an object -/
theorem ve_callA {CX : CXT} {k : Nat} {f : Addr} {fd : FuncData} {ps : List Str} {F : Fn} {x : Str} {p pos : Pos} {a : Expr} {es : List Expr} {ta : TA} {xs : XA} (Fk : FnA X.prog X.w X.K X.mg X.base CX k f fd ps (spF X.K F)) (hr : L2H.RoomH k X.A) (hp : ∃ p, p ∈ X.pn) (hg : Gl X x) (hm : X.mg x = some (.ref f))
    (hk : PySem.W.keepIn X.K (.ref f) = true) (hb : Binds X.K fd ps []) (hx : ∀ σ, PassesAt CX X σ (fun cls d H => W cls d σ H)) (ha : VA X W (a :: es) ta xs) (hdb : (x == ("__debug__" : Str)) = false := by decide)
    (he : starEach (a :: es) X.env = (false, eval a X.env) :: starEach es X.env := by rfl) (hpl : (backTo pos (starEach es X.env)).any (·.1) = false := by rfl) : VE X W (.Call (.Name x p) (a :: es) [] pos) (tCallSD (spF X.K F) [] (fun σ cls d H => W cls d σ H) ta) (xCall F xs) := by
  refine ⟨⟨fun pins s σ H Q I h => ?_⟩, ref_call ha.rf⟩
  refine wpAny_Call_Name_kw (ld_glob I hg hm ?_ hdb)
  refine PySem.W.callWith_K (h₀ := X.base) I.ok.mod.kin hk (thn (ha.pa.run pos pins s σ H _ I h) fun us s1 ⟨vs, H1, I1, r, q⟩ => ⟨I1.kIn, ?_⟩) he hpl
  obtain ⟨z, hz⟩ := hp
  have q : spF X.K F (vs ++ []) H1 Q (fun cls d H => W cls d σ H) := q
  rw [List.append_nil] at q
  have hl : us.length = ps.length := r.length ▸ Fk.len _ _ _ _ q
  have bt := hb s1 us I1.kIn (by rw [List.append_nil]; exact hl)
  rw [List.append_nil] at bt
  have Z := I1.pin z (List.mem_append_left _ hz)
  have pin : L2H.PinOk X.stack H1 s1 z := ⟨Z.1, Z.2.1, fun hm => (List.mem_cons.mp (I1.stkSub z.1 hm)).elim Z.2.2.1 Z.2.2.2.1, Z.2.2.2.2⟩
  refine wpAny_call (codeAny_mono (Fk.run X.A X.stack s1 H1 ⟨us, []⟩ us vs Q _ z hr pin I1.env0 bt r q) fun rs s' hq => ?_)
  match rs, hq with
  | .error e, hq => exact hx σ pins H1 s1 e s' I1 hq
  | .ok (.ret u), hq => exact I1.after hq
  | .ok .next, hq => exact hq.elim
  | .ok .brk, hq => exact hq.elim
  | .ok .cont, hq => exact hq.elim
end
end Pv

namespace Pv
open PySem L2
def D_PRINTABLE : List PyData := [.str " !\"#$", .str "&'()*+,-./0123456789:;<=>?@ABCDEFGHIJKLMNOPQRSTUVWXYZ[\\]^_`abcdefghijklmnopqrstuvwxyz{|}~"]
def dv_PRINTABLE : List He.Dv := [.str " !\"#$", .str "&'()*+,-./0123456789:;<=>?@ABCDEFGHIJKLMNOPQRSTUVWXYZ[\\]^_`abcdefghijklmnopqrstuvwxyz{|}~"]
def tI_Unreadable : List (Str × Bool) := [("Unreadable", true), ("InvalidValue", false)]
def tI_InvalidValue : List (Str × Bool) := [("Unreadable", false), ("InvalidValue", true)]
def u_byte_at_0b : US := (uRaise "Unreadable" ["index"] (xCons (xVar 2) xNil))
def u_byte_at_1 : US := (uRet (xIx (xVar 0) (xVar 1)))
def u_byte_at : US := (uSeq (uIf (xOr (xB (xOp yLt (xVar 1) (xC (.int 0)))) (xOr (xB (xOp yGe (xVar 1) (xCB yLen (xCons (xVar 0) xNil)))) (xB (xOp yGt (xIx (xVar 0) (xVar 1)) (xC (.int 249))))))
  u_byte_at_0b
  uNx)
  u_byte_at_1)
/-- the digits of a number: the lowest first, all but the last one with 125 added -/
def digs (n : Int) : List Int := if h : n < 125 then [n] else (125 + n % 125) :: digs (n / 125)
termination_by n.toNat
decreasing_by omega
theorem digs_lt {n : Int} (h : n < 125) : digs n = [n] := by
  rw [digs, dif_pos h]
theorem digs_ge {n : Int} (h : ¬ n < 125) : digs n = (125 + n % 125) :: digs (n / 125) := by
  rw [digs, dif_neg h]
theorem digs_pos (n : Int) : 0 < (digs n).length := by
  by_cases h : n < 125
  · rw [digs_lt h]
    exact Nat.succ_pos _
  · rw [digs_ge h]
    exact Nat.succ_pos _
theorem digs_le : ∀ (k : Nat) (n : Int), 0 ≤ n → 1 ≤ k → n < 125 ^ k → (digs n).length ≤ k
  | 0, _, _, h, _ => absurd h (Nat.not_succ_le_zero 0)
  | k + 1, n, h0, _, h => by
    by_cases hn : n < 125
    · rw [digs_lt hn]
      exact Nat.succ_le_succ (Nat.zero_le _)
    · rw [digs_ge hn, List.length_cons]
      cases k with
      | zero => exact absurd h hn
      | succ k =>
        have e1 : (125 : Int) ^ (k + 1 + 1) = 125 ^ (k + 1) * 125 := Int.pow_succ ..
        rw [e1] at h
        exact Nat.succ_le_succ (digs_le (k + 1) (n / 125) (by omega) (by omega) (Int.ediv_lt_of_lt_mul (by decide) h))
theorem digs_nn (n : Int) (h0 : 0 ≤ n) : ∀ v ∈ digs n, 0 ≤ v := by
  intro v hv
  by_cases h : n < 125
  · rw [digs_lt h] at hv
    rw [List.mem_singleton.mp hv]
    exact h0
  · rw [digs_ge h] at hv
    rcases List.mem_cons.mp hv with h2 | h2
    · omega
    · exact digs_nn (n / 125) (by omega) v h2
termination_by n.toNat
decreasing_by omega
theorem digs_last (n : Int) (h0 : 0 ≤ n) (h1 : 1 < (digs n).length) : (digs n).getD ((digs n).length - 1) 0 ≠ 0 := by
  by_cases h : n < 125
  · rw [digs_lt h] at h1
    exact absurd h1 (Nat.lt_irrefl _)
  · rw [digs_ge h]
    have hp := digs_pos (n / 125)
    rw [List.length_cons, Nat.add_sub_cancel]
    obtain ⟨m, hm⟩ : ∃ m, (digs (n / 125)).length = m + 1 := ⟨(digs (n / 125)).length - 1, by omega⟩
    rw [hm, List.getD_eq_getElem?_getD, List.getElem?_cons_succ, ← List.getD_eq_getElem?_getD]
    by_cases h2 : n / 125 < 125
    · rw [digs_lt h2] at hm ⊢
      have : m = 0 := by
        have e : 1 = m + 1 := hm
        omega
      subst this
      show n / 125 ≠ 0
      omega
    · have := digs_last (n / 125) (by omega) (by rw [digs_ge h2, List.length_cons]; have := digs_pos (n / 125 / 125); omega)
      rw [hm, Nat.add_sub_cancel] at this
      exact this
termination_by n.toNat
decreasing_by omega
/-- the number of an integer, and back -/
def zz (n : Int) : Int := if n < 0 then -2 * n - 1 else 2 * n
def unzz (m : Int) : Int := if m % 2 = 1 then -((m + 1) / 2) else m / 2
theorem unzz_zz (n : Int) : unzz (zz n) = n := by
  unfold unzz zz
  split <;> split <;> omega
theorem zz_nn (n : Int) : 0 ≤ zz n := by
  unfold zz
  split <;> omega
def itsI (ns : List Int) : List Int := ns.flatMap fun n => digs (zz n)
def wrI (ns : List Int) : List Int := digs ns.length ++ itsI ns
theorem itsI_app (as bs : List Int) : itsI (as ++ bs) = itsI as ++ itsI bs := by
  unfold itsI
  rw [List.flatMap_append]
theorem itsI_one (n : Int) : itsI [n] = digs (zz n) := by
  unfold itsI
  simp
theorem itsI_take {ns : List Int} {i : Nat} {n : Int} (h : ns[i]? = some n) : itsI (ns.take (i + 1)) = itsI (ns.take i) ++ digs (zz n) := by
  rw [take_snoc h, itsI_app, itsI_one]
theorem itsI_le (ns : List Int) (i : Nat) : (itsI (ns.take i)).length ≤ (itsI ns).length := by
  have h : itsI ns = itsI (ns.take i) ++ itsI (ns.drop i) := by rw [← itsI_app, List.take_append_drop]
  rw [h, List.length_append]
  omega
theorem itsI_ge : ∀ ns : List Int, ns.length ≤ (itsI ns).length
  | [] => Nat.zero_le _
  | n :: ns => by
    have h := itsI_ge ns
    have e : itsI (n :: ns) = digs (zz n) ++ itsI ns := by
      rw [show n :: ns = [n] ++ ns from rfl, itsI_app, itsI_one]
    have := digs_pos (zz n)
    rw [e, List.length_append, List.length_cons]
    omega
theorem itsI_nn (ns : List Int) : ∀ v ∈ itsI ns, 0 ≤ v := fun v hv => by
  unfold itsI at hv
  obtain ⟨n, _, h⟩ := List.mem_flatMap.mp hv
  exact digs_nn _ (zz_nn n) v h
theorem wrI_nn (ns : List Int) : ∀ v ∈ wrI ns, 0 ≤ v := fun v hv => by
  unfold wrI at hv
  rcases List.mem_append.mp hv with h | h
  · exact digs_nn _ (by omega) v h
  · exact itsI_nn ns v h
def esc (v : Int) : List Int := if v < 249 then [v] else [249, v - 249]
def escL (vs : List Int) : List Int := vs.flatMap esc
theorem escL_snoc (vs : List Int) (v : Int) : escL (vs ++ [v]) = escL vs ++ esc v := by
  unfold escL
  rw [List.flatMap_append]
  simp
theorem esc_len (v : Int) : (esc v).length ≤ 2 ∧ 1 ≤ (esc v).length := by
  unfold esc
  split
  · exact ⟨Nat.le_succ _, Nat.le_refl _⟩
  · exact ⟨Nat.le_refl _, Nat.le_succ _⟩
theorem escL_len : ∀ vs : List Int, (escL vs).length ≤ 2 * vs.length ∧ vs.length ≤ (escL vs).length
  | [] => ⟨Nat.le_refl _, Nat.le_refl _⟩
  | v :: vs => by
    have h1 := esc_len v
    have h2 := escL_len vs
    have e : escL (v :: vs) = esc v ++ escL vs := List.flatMap_cons
    rw [e, List.length_append, List.length_cons]
    omega
/-- a list of bytes, written -/
def wrB (vs : List Int) : List Int := digs vs.length ++ escL vs
def codI (cs : List Nat) : List Int := cs.map fun c => ((c : Nat) : Int)
theorem codI_len (cs : List Nat) : (codI cs).length = cs.length := List.length_map ..
theorem codI_d (cs : List Nat) : (cs.map fun c => PyData.int ((c : Nat) : Int)) = (codI cs).map .int := by
  unfold codI
  rw [List.map_map]
  rfl
/-- the byte that may stand at a place of a number -/
def byteAt (vs : List Int) (i : Int) : Option Int := if i < 0 ∨ (vs.length : Int) ≤ i then none else if 249 < vs.getD i.toNat 0 then none else some (vs.getD i.toNat 0)
def F_byte_at : Fn := fun ds q ex => ∃ (vs : List Int) (i j : Int), ds = [.list (vs.map .int), .int i, .int j] ∧ (∀ v, byteAt vs i = some v → q (.va (.int v))) ∧ (byteAt vs i = none → ex ⟨"Unreadable", [("index", .int j)]⟩)
theorem run_byte_at : ∀ ds q ex, F_byte_at ds q ex → u_byte_at (enV q ex) (en0 3 ds) := by
  rintro ds q ex ⟨vs, i, j, rfl, hq, hx⟩
  have hl : ((vs.map PyData.int).length : Int) = vs.length := dLen
  unfold byteAt at hq hx
  refine iteD (fun h => ?_) (fun h => ?_)
  · rw [if_pos (.inl h)] at hx
    exact ifIs rfl ⟨⟨rfl, rfl⟩, hx rfl⟩
  show if decide (((vs.map PyData.int).length : Int) ≤ i) = true then _ else _
  rw [hl]
  refine iteD (fun h2 => ?_) (fun h2 => ?_)
  · rw [if_pos (.inr h2)] at hx
    exact ifIs rfl ⟨⟨rfl, rfl⟩, hx rfl⟩
  have hn : ¬ (i < 0 ∨ (vs.length : Int) ≤ i) := by omega
  rw [if_neg hn] at hq hx
  refine ⟨_, ints_at (by omega) (by omega), ?_⟩
  refine ifD (fun h3 => ?_) (fun h3 => ?_)
  · rw [if_pos h3] at hx
    exact ⟨⟨rfl, rfl⟩, hx rfl⟩
  · rw [if_neg h3] at hq
    exact ⟨_, ints_at (by omega) (by omega), rfl, hq _ rfl⟩
theorem len_byte_at : ∀ ds q ex, F_byte_at ds q ex → ds.length = 3 := by
  rintro ds q ex ⟨vs, i, j, rfl, _⟩
  rfl

def u_read_number_4b : US := (uRaise "Unreadable" ["index"] (xCons (xVar 1) xNil))
def u_read_number_5 : US := (uRet (xTup (xCons (xR2 yPlus (xVar 2) (xR2 yTimes (xVar 3) (xIx (xVar 0) (xVar 4)))) (xCons (xR2 yPlus (xVar 4) (xC (.int 1))) xNil))))
def u_read_number_3b_2 : US := (uAug 4 (fun i j => i + j) (xC (.int 1)))
def u_read_number_3b_1 : US := (uSeq (uAugC 3 CMul (fun i j => i * j) (xC (.int 125)))
  u_read_number_3b_2)
def u_read_number_3b : US := (uSeq (uAug 2 (fun i j => i + j) (xR2 yTimes (xVar 3) (xOp ySub (xIx (xVar 0) (xVar 4)) (xC (.int 125)))))
  u_read_number_3b_1)
def u_read_number_4 : US := (uSeq (uIf (xAnd (xB (xOp yEqM (xIx (xVar 0) (xVar 4)) (xC (.int 0)))) (xB (xOp yGt (xVar 4) (xVar 1))))
  u_read_number_4b
  uNx)
  u_read_number_5)
def u_read_number_3 : US := (uSeq (uWhile (xB (xOp yGe (xCall F_byte_at (xCons (xVar 0) (xCons (xVar 4) (xCons (xVar 1) xNil)))) (xC (.int 125))))
  u_read_number_3b)
  u_read_number_4)
def u_read_number_2 : US := (uSeq (uAsg (xVar 1) (yNm 4))
  u_read_number_3)
def u_read_number_1 : US := (uSeq (uAsg (xC (.int 1)) (yNm 3))
  u_read_number_2)
def u_read_number : US := (uSeq (uAsg (xC (.int 0)) (yNm 2))
  u_read_number_1)
/-- digits up to the last one: the number, how many -/
def rG : List Int → Option (Int × Nat)
  | [] => none
  | v :: vs => if 249 < v then none else if 125 ≤ v then (rG vs).map fun p => (v - 125 + 125 * p.1, p.2 + 1) else some (v, 1)
/-- what read_number answers at an index -/
def readN (vs : List Int) (i : Int) : Option (Int × Int) := if i < 0 then none else (rG (vs.drop i.toNat)).bind fun p => if 1 < p.2 ∧ vs.getD (i.toNat + p.2 - 1) 0 = 0 then none else some (p.1, i + p.2)
theorem rG_pos : ∀ {vs : List Int} {n : Int} {c : Nat}, rG vs = some (n, c) → 1 ≤ c ∧ c ≤ vs.length
  | [], _, _, h => by cases h
  | v :: vs, n, c, h => by
    unfold rG at h
    by_cases h1 : 249 < v
    · rw [if_pos h1] at h
      cases h
    · rw [if_neg h1] at h
      by_cases h2 : 125 ≤ v
      · rw [if_pos h2] at h
        cases hr : rG vs with
        | none =>
          rw [hr] at h
          cases h
        | some p =>
          rw [hr] at h
          cases h
          have := rG_pos (n := p.1) (c := p.2) hr
          rw [List.length_cons]
          omega
      · rw [if_neg h2] at h
        cases h
        rw [List.length_cons]
        omega
theorem rG_step {v : Int} {vs : List Int} {n : Int} {c : Nat} (h1 : 125 ≤ v) (h2 : v ≤ 249) (h : rG vs = some (n, c)) : rG (v :: vs) = some (v - 125 + 125 * n, c + 1) := by
  show (if 249 < v then none else if 125 ≤ v then (rG vs).map _ else _) = _
  rw [if_neg (by omega), if_pos h1, h]
  rfl
theorem rG_one {v : Int} {vs : List Int} (h : v < 125) : rG (v :: vs) = some (v, 1) := by
  show (if 249 < v then none else if 125 ≤ v then (rG vs).map _ else _) = _
  rw [if_neg (by omega), if_neg (by omega)]
theorem rG_digs (n : Int) (h0 : 0 ≤ n) (back : List Int) : rG (digs n ++ back) = some (n, (digs n).length) := by
  by_cases h : n < 125
  · rw [digs_lt h]
    exact rG_one h
  · rw [digs_ge h, List.cons_append, rG_step (by omega) (by omega) (rG_digs (n / 125) (by omega) back)]
    congr 2
    omega
termination_by n.toNat
decreasing_by omega
theorem readN_at {front rest : List Int} {n : Int} {c : Nat} (h : rG rest = some (n, c)) : readN (front ++ rest) (front.length : Int) = if 1 < c ∧ rest.getD (c - 1) 0 = 0 then none else some (n, (front.length : Int) + c) := by
  have hp := rG_pos h
  unfold readN
  rw [if_neg (by omega), show ((front.length : Nat) : Int).toNat = front.length by omega, List.drop_left, h]
  show (if 1 < c ∧ (front ++ rest).getD (front.length + c - 1) 0 = 0 then none else _) = _
  have e : (front ++ rest).getD (front.length + c - 1) 0 = rest.getD (c - 1) 0 := by
    rw [List.getD_eq_getElem?_getD, List.getElem?_append_right (by omega), List.getD_eq_getElem?_getD]
    congr 2
    omega
  rw [e]
theorem readN_ok {front back : List Int} {n : Int} (h0 : 0 ≤ n) : readN (front ++ (digs n ++ back)) (front.length : Int) = some (n, (front.length : Int) + (digs n).length) := by
  rw [readN_at (rG_digs n h0 back), if_neg]
  rintro ⟨h1, h2⟩
  have hp := digs_pos n
  rw [List.getD_eq_getElem?_getD, List.getElem?_append_left (by omega), ← List.getD_eq_getElem?_getD] at h2
  exact digs_last n h0 h1 h2
/-- the digits with a zero put behind them -/
def digz (n : Int) : List Int := (digs n).dropLast ++ [(digs n).getD ((digs n).length - 1) 0 + 125, 0]
theorem digz_ge {n : Int} (h : ¬ n < 125) : digz n = (125 + n % 125) :: digz (n / 125) := by
  have hp := digs_pos (n / 125)
  unfold digz
  rw [digs_ge h, List.length_cons, Nat.add_sub_cancel]
  cases hd : digs (n / 125) with
  | nil =>
    rw [hd] at hp
    exact absurd hp (Nat.lt_irrefl _)
  | cons a l =>
    rw [List.dropLast_cons₂, List.cons_append, List.length_cons, Nat.add_sub_cancel, List.getD_eq_getElem?_getD, List.getElem?_cons_succ, ← List.getD_eq_getElem?_getD]
theorem digz_len (n : Int) : (digz n).length = (digs n).length + 1 := by
  have hp := digs_pos n
  unfold digz
  rw [List.length_append, List.length_dropLast]
  show _ + 2 = _
  omega
theorem rG_digz (n : Int) (h0 : 0 ≤ n) (back : List Int) : ∃ z, rG (digz n ++ back) = some (z, (digs n).length + 1) := by
  by_cases h : n < 125
  · have e : digz n = [n + 125, 0] := by
      unfold digz
      rw [digs_lt h]
      rfl
    rw [e, digs_lt h]
    exact ⟨_, rG_step (by omega) (by omega) (rG_one (by decide))⟩
  · obtain ⟨z, hz⟩ := rG_digz (n / 125) (by omega) back
    rw [digz_ge h, digs_ge h]
    exact ⟨_, rG_step (by omega) (by omega) hz⟩
termination_by n.toNat
decreasing_by omega
theorem digz_nn {n : Int} (h0 : 0 ≤ n) : ∀ v ∈ digz n, 0 ≤ v := by
  intro v hv
  unfold digz at hv
  rcases List.mem_append.mp hv with h | h
  · exact digs_nn n h0 v (List.dropLast_subset _ h)
  · have hp := digs_pos n
    have hm : (digs n).getD ((digs n).length - 1) 0 ∈ digs n := by
      rw [List.getD_eq_getElem?_getD, List.getElem?_eq_getElem (by omega)]
      exact List.getElem_mem _
    have := digs_nn n h0 _ hm
    simp only [List.mem_cons, List.not_mem_nil, or_false] at h
    omega
theorem cut_init {xs : List Int} (h : 0 < xs.length) : cutD (xs.map PyData.int) none (some (-1)) = xs.dropLast.map .int := by
  have e : HT.sIx (xs.map PyData.int).length (xs.map PyData.int).length (some (-1)) = xs.length - 1 := by
    show (if (-1 : Int) < 0 then ((-1 : Int) + ((xs.map PyData.int).length : Int)).toNat else min (-1 : Int).toNat (xs.map PyData.int).length) = _
    rw [if_pos (by decide), List.length_map]
    omega
  unfold cutD
  rw [e]
  show List.take (xs.length - 1 - 0) (List.drop 0 _) = _
  rw [List.drop_zero, Nat.sub_zero, List.dropLast_eq_take, ← List.map_take]
theorem at_last {xs : List Int} (h : 0 < xs.length) : atI (xs.map PyData.int) (-1) = some (.int (xs.getD (xs.length - 1) 0)) := by
  unfold atI ixN
  rw [if_neg (by decide), List.length_map, if_pos (by omega)]
  show (xs.map PyData.int)[(_ : Int).toNat]? = _
  rw [show ((-1 : Int) + (xs.length : Int)).toNat = xs.length - 1 by omega, List.getElem?_map, List.getElem?_eq_getElem (by omega), List.getD_eq_getElem?_getD, List.getElem?_eq_getElem (by omega)]
  rfl
theorem digz_last (n : Int) : (digz n).getD (digs n).length 0 = 0 := by
  have hp := digs_pos n
  unfold digz
  rw [List.getD_eq_getElem?_getD, List.getElem?_append_right (by rw [List.length_dropLast]; omega), List.length_dropLast, show (digs n).length - ((digs n).length - 1) = 1 by omega]
  rfl
theorem readN_bad {front back : List Int} {n : Int} (h0 : 0 ≤ n) : readN (front ++ (digz n ++ back)) (front.length : Int) = none := by
  obtain ⟨z, hz⟩ := rG_digz n h0 back
  have hp := digs_pos n
  rw [readN_at hz, if_pos]
  refine ⟨by omega, ?_⟩
  rw [Nat.add_sub_cancel, List.getD_eq_getElem?_getD, List.getElem?_append_left (by rw [digz_len]; omega), ← List.getD_eq_getElem?_getD]
  exact digz_last n
def F_read_number : Fn := fun ds q ex => ∃ (vs : List Int) (i : Int), ds = [.list (vs.map .int), .int i] ∧ (∀ v ∈ vs, 0 ≤ v) ∧ (∀ n j, readN vs i = some (n, j) → q (.va (.tuple [.int n, .int j]))) ∧ (readN vs i = none → ex ⟨"Unreadable", [("index", .int i)]⟩)
theorem run_read_number : ∀ ds q ex, F_read_number ds q ex → u_read_number (enV q ex) (en0 5 ds) := by
  rintro ds q ex ⟨vs, i, rfl, h0, hq, hx⟩
  refine ⟨rfl, rfl, rfl, fun m e => ∃ (k : Nat) (z sc : Int), (0 < k → 0 ≤ i ∧ i.toNat + k ≤ vs.length) ∧ (∀ n c, rG (vs.drop (i.toNat + k)) = some (n, c) → rG (vs.drop i.toNat) = some (z + sc * n, c + k)) ∧ (rG (vs.drop (i.toNat + k)) = none → rG (vs.drop i.toNat) = none) ∧ m = vs.length - (i.toNat + k) ∧
    e = [.fz (.list (vs.map .int)), .fz (.int i), .fz (.int z), .fz (.int sc), .fz (.int (i + (k : Nat)))], ⟨_, 0, 0, 1, fun h => absurd h (Nat.lt_irrefl _), fun n c h => ?_, fun h => h, rfl, ?_⟩, ?_⟩
  · have h' : rG (vs.drop i.toNat) = some (n, c) := h
    rw [h']
    congr 2
    omega
  · show [Sl.fz (.list (vs.map .int)), .fz (.int i), .fz (.int 0), .fz (.int 1), .fz (.int i)] = _
    rw [show i + ((0 : Nat) : Int) = i by omega]
  rintro m e ⟨k, z, sc, hk, hs, hno, rfl, rfl⟩
  refine ⟨vs, i + (k : Nat), i, rfl, fun v hv => ⟨rfl, ?_⟩, fun hv => ⟨rfl, hx ?_⟩⟩
  rotate_left
  · unfold byteAt at hv
    unfold readN
    by_cases hi : i < 0
    · rw [if_pos hi]
    rw [if_neg hi]
    have hd : rG (vs.drop (i.toNat + k)) = none := by
      by_cases hb : i + (k : Nat) < 0 ∨ (vs.length : Int) ≤ i + (k : Nat)
      · rw [List.drop_of_length_le (by omega)]
        rfl
      · rw [if_neg hb] at hv
        have hlt : i.toNat + k < vs.length := by omega
        rw [List.drop_eq_getElem_cons hlt]
        have he : vs.getD (i + (k : Nat)).toNat 0 = vs[i.toNat + k] := by
          rw [show (i + (k : Nat)).toNat = i.toNat + k by omega, List.getD_eq_getElem?_getD, List.getElem?_eq_getElem hlt]
          rfl
        rw [he] at hv
        by_cases h9 : 249 < vs[i.toNat + k]
        · unfold rG
          rw [if_pos h9]
        · rw [if_neg h9] at hv
          cases hv
    rw [hno hd]
    rfl
  unfold byteAt at hv
  by_cases hb : i + (k : Nat) < 0 ∨ (vs.length : Int) ≤ i + (k : Nat)
  · rw [if_pos hb] at hv
    cases hv
  rw [if_neg hb] at hv
  have hi : ¬ i < 0 := fun h => by
    by_cases hk0 : 0 < k
    · have := hk hk0
      omega
    · omega
  have hlt : i.toNat + k < vs.length := by omega
  have he : vs.getD (i + (k : Nat)).toNat 0 = vs[i.toNat + k] := by
    rw [show (i + (k : Nat)).toNat = i.toNat + k by omega, List.getD_eq_getElem?_getD, List.getElem?_eq_getElem hlt]
    rfl
  rw [he] at hv
  have h9 : ¬ 249 < vs[i.toNat + k] := fun h => by
    rw [if_pos h] at hv
    cases hv
  rw [if_neg h9] at hv
  have hv' := Option.some.inj hv
  subst hv'
  have hat : atI (vs.map PyData.int) (i + (k : Nat)) = some (.int vs[i.toNat + k]) := by
    rw [ints_at (by omega) (by omega), he]
  have v0 := h0 _ (List.getElem_mem hlt)
  refine ifD (fun h => ?_) (fun h => ?_)
  · have hr : rG (vs.drop (i.toNat + k)) = (rG (vs.drop (i.toNat + (k + 1)))).map fun p => (vs[i.toNat + k] - 125 + 125 * p.1, p.2 + 1) := by
      rw [List.drop_eq_getElem_cons hlt]
      show (if 249 < vs[i.toNat + k] then none else if 125 ≤ vs[i.toNat + k] then _ else _) = _
      rw [if_neg h9, if_pos h]
      rfl
    refine ⟨_, hat, .inr ⟨by omega, by omega⟩, .inr ⟨by decide, by decide⟩, vs.length - (i.toNat + (k + 1)), by omega, k + 1, z + sc * (vs[i.toNat + k] - 125), sc * 125, fun _ => by omega, fun n c hn => ?_, fun hn => ?_, rfl, ?_⟩
    · rw [hn] at hr
      have := hs _ _ hr
      rw [this]
      have e1 : z + sc * (vs[i.toNat + k] - 125 + 125 * n) = z + sc * (vs[i.toNat + k] - 125) + sc * 125 * n := by
        rw [Int.mul_add, ← Int.add_assoc, Int.mul_assoc]
      rw [e1]
      congr 2
      omega
    · rw [hn] at hr
      exact hno hr
    · show [Sl.fz (.list (vs.map .int)), .fz (.int i), .fz (.int (z + sc * (vs[i.toNat + k] - 125))), .fz (.int (sc * 125)), .fz (.int (i + (k : Nat) + 1))] = _
      rw [show i + (k : Nat) + 1 = i + ((k + 1 : Nat) : Int) by omega]
  · have hr : rG (vs.drop (i.toNat + k)) = some (vs[i.toNat + k], 1) := by
      rw [List.drop_eq_getElem_cons hlt]
      show (if 249 < vs[i.toNat + k] then none else if 125 ≤ vs[i.toNat + k] then _ else _) = _
      rw [if_neg h9, if_neg h]
    have hz := hs _ _ hr
    have hg : vs.getD (i.toNat + (1 + k) - 1) 0 = vs[i.toNat + k] := by
      rw [show i.toNat + (1 + k) - 1 = i.toNat + k by omega, List.getD_eq_getElem?_getD, List.getElem?_eq_getElem hlt]
      rfl
    have ans : readN vs i = if 1 < 1 + k ∧ vs[i.toNat + k] = 0 then none else some (z + sc * vs[i.toNat + k], i + ((1 + k : Nat) : Int)) := by
      unfold readN
      rw [if_neg hi, hz]
      show (if 1 < 1 + k ∧ vs.getD (i.toNat + (1 + k) - 1) 0 = 0 then none else _) = _
      rw [hg]
    have fin : ¬ (1 < 1 + k ∧ vs[i.toNat + k] = 0) → u_read_number_5 (enV q ex) [.fz (.list (vs.map .int)), .fz (.int i), .fz (.int z), .fz (.int sc), .fz (.int (i + (k : Nat)))] := fun hn => by
      rw [if_neg hn] at ans
      refine ⟨_, hat, .inr ⟨by omega, by omega⟩, rfl, rfl, ?_⟩
      have := hq _ _ ans
      rw [show i + ((1 + k : Nat) : Int) = i + (k : Nat) + 1 by omega] at this
      exact this
    refine ⟨_, hat, ?_⟩
    refine iteD (fun h1 => ?_) (fun h1 => ?_)
    · refine ifD (fun h2 => ⟨⟨rfl, rfl⟩, hx ?_⟩) (fun h2 => fin fun z => ?_)
      · rw [ans, if_pos ⟨by omega, h1⟩]
      · omega
    · exact ifNot rfl (fin fun z => h1 z.2)
theorem len_read_number : ∀ ds q ex, F_read_number ds q ex → ds.length = 2 := by
  rintro ds q ex ⟨vs, i, rfl, _⟩
  rfl

def u_read_integer_1b : US := (uRet (xTup (xCons (xUn yNeg (xOp yDiv (xR2 yPlus (xVar 2) (xC (.int 1))) (xC (.int 2)))) (xCons (xVar 3) xNil))))
def u_read_integer_2 : US := (uRet (xTup (xCons (xOp yDiv (xVar 2) (xC (.int 2))) (xCons (xVar 3) xNil))))
def u_read_integer_1 : US := (uSeq (uIf (xB (xOp yEqM (xOp yMod (xVar 2) (xC (.int 2))) (xC (.int 1))))
  u_read_integer_1b
  uNx)
  u_read_integer_2)
def u_read_integer : US := (uSeq (uAsg (xCall F_read_number (xCons (xVar 0) (xCons (xVar 1) xNil))) (yTup (yCons (yNm 2) (yCons (yNm 3) yNil))))
  u_read_integer_1)
def F_read_integer : Fn := fun ds q ex => ∃ (vs : List Int) (i : Int), ds = [.list (vs.map .int), .int i] ∧ (∀ v ∈ vs, 0 ≤ v) ∧ (∀ n j, readN vs i = some (n, j) → q (.va (.tuple [.int (unzz n), .int j]))) ∧ (readN vs i = none → ex ⟨"Unreadable", [("index", .int i)]⟩)
theorem run_read_integer : ∀ ds q ex, F_read_integer ds q ex → u_read_integer (enV q ex) (en0 4 ds) := by
  rintro ds q ex ⟨vs, i, rfl, h0, hq, hx⟩
  refine ⟨vs, i, rfl, h0, fun n j hr => ⟨rfl, ?_⟩, fun hr => ⟨rfl, hx hr⟩⟩
  have h := hq n j hr
  unfold unzz at h
  refine ⟨rfl, (by decide : (0 : Int) < 2), ?_⟩
  refine ifD (fun hc => ?_) (fun hc => ?_)
  · have hc' : n % 2 = 1 := hc
    rw [if_pos hc'] at h
    exact ⟨⟨by decide, by decide⟩, rfl, rfl, h⟩
  · have hc' : ¬ n % 2 = 1 := hc
    rw [if_neg hc'] at h
    exact ⟨⟨by decide, by decide⟩, rfl, rfl, h⟩
theorem len_read_integer : ∀ ds q ex, F_read_integer ds q ex → ds.length = 2 := by
  rintro ds q ex ⟨vs, i, rfl, _⟩
  rfl

def u_read_count_1b : US := (uRaise "Unreadable" ["index"] (xCons (xVar 1) xNil))
def u_read_count_2 : US := (uRet (xTup (xCons (xVar 2) (xCons (xVar 3) xNil))))
def u_read_count_1 : US := (uSeq (uIf (xB (xOp yGt (xVar 2) (xOp ySub (xCB yLen (xCons (xVar 0) xNil)) (xVar 3))))
  u_read_count_1b
  uNx)
  u_read_count_2)
def u_read_count : US := (uSeq (uAsg (xCall F_read_number (xCons (xVar 0) (xCons (xVar 1) xNil))) (yTup (yCons (yNm 2) (yCons (yNm 3) yNil))))
  u_read_count_1)
def readC (vs : List Int) (i : Int) : Option (Int × Int) := (readN vs i).bind fun p => if (vs.length : Int) - p.2 < p.1 then none else some p
def F_read_count : Fn := fun ds q ex => ∃ (vs : List Int) (i : Int), ds = [.list (vs.map .int), .int i] ∧ (∀ v ∈ vs, 0 ≤ v) ∧ (∀ n j, readC vs i = some (n, j) → q (.va (.tuple [.int n, .int j]))) ∧ (readC vs i = none → ex ⟨"Unreadable", [("index", .int i)]⟩)
theorem run_read_count : ∀ ds q ex, F_read_count ds q ex → u_read_count (enV q ex) (en0 4 ds) := by
  rintro ds q ex ⟨vs, i, rfl, h0, hq, hx⟩
  have hl : ((vs.map PyData.int).length : Int) = vs.length := dLen
  refine ⟨vs, i, rfl, h0, fun n j hr => ⟨rfl, ?_⟩, fun hr => ⟨rfl, hx ?_⟩⟩
  · unfold readC at hq hx
    rw [hr] at hq hx
    refine ⟨rfl, ?_⟩
    show (decide (((vs.map PyData.int).length : Int) - j < n) = true → _) ∧ (decide (((vs.map PyData.int).length : Int) - j < n) = false → _)
    rw [hl]
    refine ifD (fun h => ⟨⟨rfl, rfl⟩, hx (if_pos h)⟩) (fun h => ⟨rfl, rfl, hq n j (if_neg h)⟩)
  · unfold readC
    rw [hr]
    rfl
theorem len_read_count : ∀ ds q ex, F_read_count ds q ex → ds.length = 2 := by
  rintro ds q ex ⟨vs, i, rfl, _⟩
  rfl

def u_read_integers_2b0b : US := (uAsg (xCall F_read_integer (xCons (xVar 0) (xCons (xVar 3) xNil))) (yTup (yCons (yNm 6) (yCons (yNm 3) yNil))))
def u_read_integers_2b0x : US := (uRaise "Unreadable" ["index"] (xCons (xVar 1) xNil))
def u_read_integers_2b_1 : US := (uAp 4 (xVar 6))
def u_read_integers_2b : US := (uSeq (uTryR (isaL tI_Unreadable) u_read_integers_2b0b
  u_read_integers_2b0x)
  u_read_integers_2b_1)
def u_read_integers_3 : US := (uFrz 4 (uRet (xTup (xCons (xVar 4) (xCons (xVar 3) xNil)))))
def u_read_integers_2 : US := (uSeq (uFor (xRng yRng1 (xCons (xVar 2) xNil)) (yNm 5)
  u_read_integers_2b)
  u_read_integers_3)
def u_read_integers_1 : US := (uSeq (uAsg (xLst xNil) (yNm 4))
  u_read_integers_2)
def u_read_integers : US := (uSeq (uAsg (xCall F_read_count (xCons (xVar 0) (xCons (xVar 1) xNil))) (yTup (yCons (yNm 2) (yCons (yNm 3) yNil))))
  u_read_integers_1)
-- frz 9 numbers
theorem rG_nn : ∀ {vs : List Int} {n : Int} {c : Nat}, (∀ v ∈ vs, 0 ≤ v) → rG vs = some (n, c) → 0 ≤ n
  | [], _, _, _, h => by cases h
  | v :: vs, n, c, hv, h => by
    have v0 := hv v (List.mem_cons_self ..)
    unfold rG at h
    by_cases h1 : 249 < v
    · rw [if_pos h1] at h
      cases h
    · rw [if_neg h1] at h
      by_cases h2 : 125 ≤ v
      · rw [if_pos h2] at h
        cases hr : rG vs with
        | none =>
          rw [hr] at h
          cases h
        | some p =>
          rw [hr] at h
          cases h
          have := rG_nn (fun u hu => hv u (List.mem_cons_of_mem _ hu)) (n := p.1) (c := p.2) hr
          omega
      · rw [if_neg h2] at h
        cases h
        exact v0
theorem readC_fits {vs : List Int} {i n j : Int} (hv : ∀ v ∈ vs, 0 ≤ v) (h : readC vs i = some (n, j)) : 0 ≤ n ∧ 0 ≤ j ∧ n + j ≤ vs.length := by
  unfold readC readN at h
  by_cases hi : i < 0
  · rw [if_pos hi] at h
    cases h
  · rw [if_neg hi] at h
    cases hr : rG (vs.drop i.toNat) with
    | none =>
      rw [hr] at h
      cases h
    | some p =>
      rw [hr] at h
      have h0 := rG_nn (fun u hu => hv u (List.mem_of_mem_drop hu)) (n := p.1) (c := p.2) hr
      have h' : (if 1 < p.2 ∧ vs.getD (i.toNat + p.2 - 1) 0 = 0 then none else some (p.1, i + (p.2 : Int))).bind (fun p => if (vs.length : Int) - p.2 < p.1 then none else some p) = some (n, j) := h
      by_cases hc : 1 < p.2 ∧ vs.getD (i.toNat + p.2 - 1) 0 = 0
      · rw [if_pos hc] at h'
        cases h'
      · rw [if_neg hc] at h'
        have h2 : (if (vs.length : Int) - (i + (p.2 : Int)) < p.1 then none else some (p.1, i + (p.2 : Int))) = some (n, j) := h'
        by_cases hd : (vs.length : Int) - (i + (p.2 : Int)) < p.1
        · rw [if_pos hd] at h2
          cases h2
        · rw [if_neg hd] at h2
          cases h2
          omega
/-- n integers from a place on -/
def rdI (vs : List Int) : Nat → Int → Option (List Int × Int)
  | 0, j => some ([], j)
  | n + 1, j => (readN vs j).bind fun p => (rdI vs n p.2).map fun r => (unzz p.1 :: r.1, r.2)
def readI (vs : List Int) (i : Int) : Option (List Int × Int) := (readC vs i).bind fun p => rdI vs p.1.toNat p.2
def F_read_integers : Fn := fun ds q ex => ∃ (vs : List Int) (i : Int), ds = [.list (vs.map .int), .int i] ∧ (∀ v ∈ vs, 0 ≤ v) ∧ vs.length ≤ 10000000 ∧ (∀ ns j, readI vs i = some (ns, j) → q (.va (.tuple [.list (ns.map .int), .int j]))) ∧ (readI vs i = none → ex ⟨"Unreadable", [("index", .int i)]⟩)
theorem run_read_integers : ∀ ds q ex, F_read_integers ds q ex → u_read_integers (enV q ex) (en0 7 ds) := by
  rintro ds q ex ⟨vs, i, rfl, h0, hz, hq, hx⟩
  refine ⟨vs, i, rfl, h0, fun n p hr => ⟨rfl, rfl, rfl, rfl, ?_⟩, fun hr => ⟨rfl, hx (by unfold readI; rw [hr]; rfl)⟩⟩
  obtain ⟨n0, p0, hf⟩ := readC_fits h0 hr
  have ans : readI vs i = rdI vs n.toNat p := by
    unfold readI
    rw [hr]
    rfl
  rw [ans] at hq hx
  refine ⟨by omega, by omega, ?_⟩
  refine for_n (fun k e => ∃ (acc : List Int) (j : Int) (s5 s6 : Sl), acc.length = k ∧ (rdI vs n.toNat p = (rdI vs (n.toNat - k) j).map fun r => (acc ++ r.1, r.2)) ∧
    e = [.fz (.list (vs.map .int)), .fz (.int i), .fz (.int n), .fz (.int j), .ow (acc.map .int), s5, s6]) ⟨[], p, .no, .no, rfl, ?_, rfl⟩ ?_ ?_
  · show _ = (rdI vs n.toNat p).map fun r => ([] ++ r.1, r.2)
    cases rdI vs n.toNat p <;> rfl
  · rintro k e hk ⟨acc, j, s5, s6, hl, hs, rfl⟩
    have hfuel : n.toNat - k = (n.toNat - (k + 1)) + 1 := by omega
    rw [hfuel] at hs
    refine ⟨vs, j, rfl, h0, fun m j' hm => ⟨rfl, rfl, ?_⟩, fun hm => ⟨rfl, ?_⟩⟩
    · refine ⟨⟨rfl, szl (by rw [List.length_map]; omega)⟩, acc ++ [unzz m], j', .fz (.int (0 + (k : Nat) * 1)), .fz (.int (unzz m)), ?_, ?_, ?_⟩
      · rw [List.length_append, hl]
        rfl
      · rw [hs]
        show ((readN vs j).bind _).map _ = _
        rw [hm]
        show ((rdI vs (n.toNat - (k + 1)) j').map _).map _ = _
        cases rdI vs (n.toNat - (k + 1)) j' with
        | none => rfl
        | some r =>
          show some (acc ++ (unzz m :: r.1), r.2) = some (acc ++ [unzz m] ++ r.1, r.2)
          rw [List.append_assoc]
          rfl
      · rw [List.map_append]
        rfl
    · refine ⟨⟨rfl, rfl⟩, hx ?_⟩
      rw [hs]
      show ((readN vs j).bind _).map _ = _
      rw [hm]
      rfl
  · rintro e ⟨acc, j, s5, s6, hl, hs, rfl⟩
    rw [Nat.sub_self] at hs
    have hs' : rdI vs n.toNat p = some (acc, j) := by
      rw [hs]
      show some (acc ++ [], j) = _
      rw [List.append_nil]
    exact ⟨rfl, rfl, hq _ _ hs'⟩
theorem len_read_integers : ∀ ds q ex, F_read_integers ds q ex → ds.length = 2 := by
  rintro ds q ex ⟨vs, i, rfl, _⟩
  rfl

def u_read_bytes_2b2b_3 : US := (uAug 3 (fun i j => i + j) (xC (.int 1)))
def u_read_bytes_2b2b1b : US := (uRaise "Unreadable" ["index"] (xCons (xVar 1) xNil))
def u_read_bytes_2b2b_2 : US := (uSeq (uAug 6 (fun i j => i + j) (xVar 7))
  u_read_bytes_2b2b_3)
def u_read_bytes_2b2b_1 : US := (uSeq (uIf (xB (xOp yGt (xVar 7) (xOp ySub (xC (.int 255)) (xC (.int 249)))))
  u_read_bytes_2b2b1b
  uNx)
  u_read_bytes_2b2b_2)
def u_read_bytes_2b2b : US := (uSeq (uAsg (xCall F_byte_at (xCons (xVar 0) (xCons (xVar 3) (xCons (xVar 1) xNil)))) (yNm 7))
  u_read_bytes_2b2b_1)
def u_read_bytes_2b_3 : US := (uAp 4 (xVar 6))
def u_read_bytes_2b_2 : US := (uCut (uIf (xB (xOp yEqM (xVar 6) (xC (.int 249))))
  u_read_bytes_2b2b
  uNx)
  u_read_bytes_2b_3)
def u_read_bytes_2b_1 : US := (uSeq (uAug 3 (fun i j => i + j) (xC (.int 1)))
  u_read_bytes_2b_2)
def u_read_bytes_2b : US := (uSeq (uAsg (xCall F_byte_at (xCons (xVar 0) (xCons (xVar 3) (xCons (xVar 1) xNil)))) (yNm 6))
  u_read_bytes_2b_1)
def u_read_bytes_3 : US := (uFrz 4 (uRet (xTup (xCons (xVar 4) (xCons (xVar 3) xNil)))))
def u_read_bytes_2 : US := (uSeq (uFor (xRng yRng1 (xCons (xVar 2) xNil)) (yNm 5)
  u_read_bytes_2b)
  u_read_bytes_3)
def u_read_bytes_1 : US := (uSeq (uAsg (xLst xNil) (yNm 4))
  u_read_bytes_2)
def u_read_bytes : US := (uSeq (uAsg (xCall F_read_count (xCons (xVar 0) (xCons (xVar 1) xNil))) (yTup (yCons (yNm 2) (yCons (yNm 3) yNil))))
  u_read_bytes_1)
-- frz 13 found
/-- n bytes, each one or two signs long: the bytes, how many signs -/
def rdB : Nat → List Int → Option (List Int × Nat)
  | 0, _ => some ([], 0)
  | _ + 1, [] => none
  | n + 1, v :: vs => if 249 < v then none else if v = 249 then (match vs with
    | [] => none
    | m :: ws => if 6 < m then none else (rdB n ws).map fun p => ((249 + m) :: p.1, p.2 + 2)) else (rdB n vs).map fun p => (v :: p.1, p.2 + 1)
def readB (vs : List Int) (i : Int) : Option (List Int × Int) := (readC vs i).bind fun p => (rdB p.1.toNat (vs.drop p.2.toNat)).map fun r => (r.1, p.2 + r.2)
theorem byteAt_some {vs : List Int} {i v : Int} (h : byteAt vs i = some v) {p : Nat} (hp : i = p) : p < vs.length ∧ v ≤ 249 ∧ vs.drop p = v :: vs.drop (p + 1) := by
  subst hp
  unfold byteAt at h
  by_cases hb : ((p : Nat) : Int) < 0 ∨ (vs.length : Int) ≤ (p : Nat)
  · rw [if_pos hb] at h
    cases h
  rw [if_neg hb] at h
  have hlt : p < vs.length := by omega
  have he : vs.getD ((p : Nat) : Int).toNat 0 = vs[p] := by
    rw [show ((p : Nat) : Int).toNat = p by omega, List.getD_eq_getElem?_getD, List.getElem?_eq_getElem hlt]
    rfl
  rw [he] at h
  by_cases h9 : 249 < vs[p]
  · rw [if_pos h9] at h
    cases h
  · rw [if_neg h9] at h
    have := Option.some.inj h
    subst this
    exact ⟨hlt, by omega, List.drop_eq_getElem_cons hlt⟩
theorem byteAt_none {vs : List Int} {p : Nat} (h : byteAt vs (p : Int) = none) : vs.drop p = [] ∨ ∃ v, 249 < v ∧ vs.drop p = v :: vs.drop (p + 1) := by
  unfold byteAt at h
  by_cases hb : ((p : Nat) : Int) < 0 ∨ (vs.length : Int) ≤ (p : Nat)
  · exact .inl (List.drop_of_length_le (by omega))
  rw [if_neg hb] at h
  have hlt : p < vs.length := by omega
  have he : vs.getD ((p : Nat) : Int).toNat 0 = vs[p] := by
    rw [show ((p : Nat) : Int).toNat = p by omega, List.getD_eq_getElem?_getD, List.getElem?_eq_getElem hlt]
    rfl
  rw [he] at h
  by_cases h9 : 249 < vs[p]
  · exact .inr ⟨_, h9, List.drop_eq_getElem_cons hlt⟩
  · rw [if_neg h9] at h
    cases h
theorem rdB_none {vs : List Int} {p n : Nat} (h : byteAt vs ((p : Nat) : Int) = none) : rdB (n + 1) (vs.drop p) = none := by
  rcases byteAt_none h with e | ⟨v, h9, e⟩
  · rw [e]
    rfl
  · rw [e]
    show (if 249 < v then none else _) = none
    rw [if_pos h9]
theorem rdB_esc (back : List Int) : ∀ vs : List Int, (∀ v ∈ vs, 0 ≤ v ∧ v < 256) → rdB vs.length (escL vs ++ back) = some (vs, (escL vs).length)
  | [], _ => rfl
  | v :: vs, h => by
    have ih := rdB_esc back vs fun u hu => h u (List.mem_cons_of_mem _ hu)
    obtain ⟨v0, v1⟩ := h v (List.mem_cons_self ..)
    have e : escL (v :: vs) = esc v ++ escL vs := List.flatMap_cons
    rw [e, List.length_cons]
    by_cases hv : v < 249
    · have e1 : esc v = [v] := if_pos hv
      rw [e1]
      show (if 249 < v then none else if v = 249 then _ else (rdB vs.length (escL vs ++ back)).map fun p => (v :: p.1, p.2 + 1)) = _
      rw [if_neg (by omega), if_neg (by omega), ih]
      show some (v :: vs, (escL vs).length + 1) = _
      rw [List.length_append, List.length_singleton, Nat.add_comm]
    · have e1 : esc v = [249, v - 249] := if_neg hv
      rw [e1]
      show (if (249 : Int) < 249 then none else if (249 : Int) = 249 then (if 6 < v - 249 then none else (rdB vs.length (escL vs ++ back)).map fun p => ((249 + (v - 249)) :: p.1, p.2 + 2)) else _) = _
      rw [if_neg (by decide), if_pos rfl, if_neg (by omega), ih]
      show some ((249 + (v - 249)) :: vs, (escL vs).length + 2) = _
      rw [show 249 + (v - 249) = v by omega, List.length_append]
      show _ = some (v :: vs, 2 + (escL vs).length)
      rw [Nat.add_comm]
theorem readB_ok {front back vs : List Int} (h : ∀ v ∈ vs, 0 ≤ v ∧ v < 256) : readB (front ++ (wrB vs ++ back)) (front.length : Int) = some (vs, (front.length : Int) + (wrB vs).length) := by
  have he := escL_len vs
  have hw : (wrB vs).length = (digs vs.length).length + (escL vs).length := List.length_append
  have ew : wrB vs ++ back = digs vs.length ++ (escL vs ++ back) := List.append_assoc ..
  unfold readB readC
  rw [ew, readN_ok (show (0 : Int) ≤ (vs.length : Nat) by omega)]
  have hn : ¬ ((front ++ (digs vs.length ++ (escL vs ++ back))).length : Int) - ((front.length : Int) + (digs vs.length).length) < (vs.length : Int) := by
    rw [List.length_append, List.length_append, List.length_append]
    omega
  show ((if ((front ++ (digs vs.length ++ (escL vs ++ back))).length : Int) - ((front.length : Int) + (digs vs.length).length) < (vs.length : Int) then none else some ((vs.length : Int), (front.length : Int) + (digs vs.length).length)) : Option (Int × Int)).bind _ = _
  rw [if_neg hn]
  show (rdB ((vs.length : Nat) : Int).toNat (List.drop ((front.length : Int) + (digs vs.length).length).toNat (front ++ (digs vs.length ++ (escL vs ++ back))))).map _ = _
  have e1 : ((vs.length : Nat) : Int).toNat = vs.length := by omega
  have e2 : ((front.length : Int) + (digs vs.length).length).toNat = (front ++ digs vs.length).length := by
    rw [List.length_append]
    omega
  rw [e1, e2, ← List.append_assoc, List.drop_left, rdB_esc back vs h]
  show some (vs, (front.length : Int) + (digs vs.length).length + ((escL vs).length : Nat)) = _
  rw [hw]
  congr 2
  omega
theorem wrB_nn {vs : List Int} (h : ∀ v ∈ vs, 0 ≤ v ∧ v < 256) : ∀ v ∈ wrB vs, 0 ≤ v := by
  intro v hv
  rcases List.mem_append.mp hv with h1 | h1
  · exact digs_nn _ (by omega) v h1
  · obtain ⟨u, hu, h2⟩ := List.mem_flatMap.mp h1
    have := h u hu
    unfold esc at h2
    split at h2 <;> simp only [List.mem_cons, List.not_mem_nil, or_false] at h2 <;> omega
def F_read_bytes : Fn := fun ds q ex => ∃ (vs : List Int) (i : Int), ds = [.list (vs.map .int), .int i] ∧ (∀ v ∈ vs, 0 ≤ v) ∧ vs.length ≤ 10000000 ∧ (∀ fs j, readB vs i = some (fs, j) → q (.va (.tuple [.list (fs.map .int), .int j]))) ∧ (readB vs i = none → ex ⟨"Unreadable", [("index", .int i)]⟩)
theorem run_read_bytes : ∀ ds q ex, F_read_bytes ds q ex → u_read_bytes (enV q ex) (en0 8 ds) := by
  rintro ds q ex ⟨vs, i, rfl, h0, hz, hq, hx⟩
  refine ⟨vs, i, rfl, h0, fun n p hr => ⟨rfl, rfl, rfl, rfl, ?_⟩, fun hr => ⟨rfl, hx (by unfold readB; rw [hr]; rfl)⟩⟩
  obtain ⟨n0, p0, hf⟩ := readC_fits h0 hr
  have ans : readB vs i = (rdB n.toNat (vs.drop p.toNat)).map fun r => (r.1, p + r.2) := by
    unfold readB
    rw [hr]
    rfl
  rw [ans] at hq hx
  refine ⟨by omega, by omega, ?_⟩
  refine for_n (fun k e => ∃ (acc : List Int) (c : Nat) (s5 s6 s7 : Sl), acc.length = k ∧ (∀ fs m, rdB (n.toNat - k) (vs.drop (p.toNat + c)) = some (fs, m) → rdB n.toNat (vs.drop p.toNat) = some (acc ++ fs, c + m)) ∧ (rdB (n.toNat - k) (vs.drop (p.toNat + c)) = none → rdB n.toNat (vs.drop p.toNat) = none) ∧
    e = [.fz (.list (vs.map .int)), .fz (.int i), .fz (.int n), .fz (.int (p + (c : Nat))), .ow (acc.map .int), s5, s6, s7]) ⟨[], 0, .no, .no, .no, rfl, fun fs m h => ?_, fun h => h, ?_⟩ ?_ ?_
  · have h' : rdB n.toNat (vs.drop p.toNat) = some (fs, m) := h
    rw [h', List.nil_append, Nat.zero_add]
  · show [_, _, _, Sl.fz (.int p), _, _, _, _] = _
    rw [show p + ((0 : Nat) : Int) = p by omega]
    rfl
  · rintro k e hk ⟨acc, c, s5, s6, s7, hl, hs, hno, rfl⟩
    have hfuel : n.toNat - k = (n.toNat - (k + 1)) + 1 := by omega
    rw [hfuel] at hs hno
    refine ⟨vs, p + (c : Nat), i, rfl, fun v hv => ⟨rfl, rfl, ?_⟩, fun hv => ⟨rfl, hx ?_⟩⟩
    rotate_left
    · rw [hno (rdB_none (p := p.toNat + c) (by rw [← hv]; congr 1; omega))]
      rfl
    obtain ⟨hlt, h9, hd⟩ := byteAt_some hv (p := p.toNat + c) (by omega)
    have hap : (acc.map PyData.int).length < sizeLine := by
      rw [List.length_map, hl]
      exact szl (by omega)
    refine ⟨fun e => ∃ (w : Int) (c2 : Nat) (s7 : Sl), (∀ fs m, rdB (n.toNat - (k + 1)) (vs.drop (p.toNat + c2)) = some (fs, m) → rdB n.toNat (vs.drop p.toNat) = some (acc ++ [w] ++ fs, c2 + m)) ∧ (rdB (n.toNat - (k + 1)) (vs.drop (p.toNat + c2)) = none → rdB n.toNat (vs.drop p.toNat) = none) ∧
      e = [.fz (.list (vs.map .int)), .fz (.int i), .fz (.int n), .fz (.int (p + (c2 : Nat))), .ow (acc.map .int), .fz (.int (0 + (k : Nat) * 1)), .fz (.int w), s7], ?_, ?_⟩
    · refine ifD (fun h2 => ?_) (fun h2 => ?_)
      · have h2 : v = 249 := h2
        subst h2
        have hd2 : ∀ m ws, vs.drop (p.toNat + c + 1) = m :: ws → rdB (n.toNat - (k + 1) + 1) (vs.drop (p.toNat + c)) = if 6 < m then none else (rdB (n.toNat - (k + 1)) ws).map fun r => ((249 + m) :: r.1, r.2 + 2) := fun m ws e => by
          rw [hd, e]
          show (if (249 : Int) < 249 then none else if (249 : Int) = 249 then _ else _) = _
          rw [if_neg (by decide), if_pos rfl]
        have hp1 : ((p.toNat + c + 1 : Nat) : Int) = p + (c : Nat) + 1 := by omega
        refine ⟨vs, p + (c : Nat) + 1, i, rfl, fun m hm => ⟨rfl, rfl, ?_⟩, fun hm => ⟨rfl, hx ?_⟩⟩
        rotate_left
        · rw [hno ?_]
          · rfl
          · rw [← hp1] at hm
            rcases byteAt_none hm with e | ⟨m, h9m, e⟩
            · rw [hd, e]
              show (if (249 : Int) < 249 then none else if (249 : Int) = 249 then _ else _) = _
              rw [if_neg (by decide), if_pos rfl]
            · rw [hd2 _ _ e, if_pos (by omega)]
        obtain ⟨hlt1, h91, hd1⟩ := byteAt_some hm (p := p.toNat + c + 1) hp1.symm
        have hr := hd2 _ _ hd1
        refine ifD (fun h6 => ⟨⟨rfl, rfl⟩, hx ?_⟩) (fun h6 => ?_)
        · have h6' : 6 < m := h6
          rw [if_pos h6'] at hr
          rw [hno hr]
          rfl
        · have h6' : ¬ 6 < m := h6
          rw [if_neg h6'] at hr
          refine ⟨249 + m, c + 2, .fz (.int m), fun fs x hf2 => ?_, fun hf2 => ?_, ?_⟩
          · rw [show p.toNat + (c + 2) = p.toNat + c + 1 + 1 by omega] at hf2
            rw [hf2] at hr
            have := hs _ _ hr
            rw [this, List.append_assoc]
            congr 2
            omega
          · rw [show p.toNat + (c + 2) = p.toNat + c + 1 + 1 by omega] at hf2
            rw [hf2] at hr
            exact hno hr
          · show [_, _, _, Sl.fz (.int (p + (c : Nat) + 1 + 1)), _, _, _, _] = _
            rw [show p + (c : Nat) + 1 + 1 = p + ((c + 2 : Nat) : Int) by omega]
      · have h2 : ¬ v = 249 := h2
        have hr : rdB (n.toNat - (k + 1) + 1) (vs.drop (p.toNat + c)) = (rdB (n.toNat - (k + 1)) (vs.drop (p.toNat + c + 1))).map fun r => (v :: r.1, r.2 + 1) := by
          rw [hd]
          show (if 249 < v then none else if v = 249 then _ else _) = _
          rw [if_neg (by omega), if_neg h2]
        refine ⟨v, c + 1, s7, fun fs x hf2 => ?_, fun hf2 => ?_, ?_⟩
        · rw [show p.toNat + (c + 1) = p.toNat + c + 1 by omega] at hf2
          rw [hf2] at hr
          have := hs _ _ hr
          rw [this, List.append_assoc]
          congr 2
          omega
        · rw [show p.toNat + (c + 1) = p.toNat + c + 1 by omega] at hf2
          rw [hf2] at hr
          exact hno hr
        · show [_, _, _, Sl.fz (.int (p + (c : Nat) + 1)), _, _, _, _] = _
          rw [show p + (c : Nat) + 1 = p + ((c + 1 : Nat) : Int) by omega]
    · rintro e ⟨w, c2, s7, r1, r2, rfl⟩
      refine ⟨⟨rfl, hap⟩, acc ++ [w], c2, .fz (.int (0 + (k : Nat) * 1)), .fz (.int w), s7, by rw [List.length_append, hl]; rfl, r1, r2, ?_⟩
      rw [List.map_append]
      rfl
  · rintro e ⟨acc, c, s5, s6, s7, hl, hs, hno, rfl⟩
    rw [Nat.sub_self] at hs
    have := hs [] 0 rfl
    rw [List.append_nil] at this
    rw [this] at hq
    exact ⟨rfl, rfl, hq _ _ rfl⟩
theorem len_read_bytes : ∀ ds q ex, F_read_bytes ds q ex → ds.length = 2 := by
  rintro ds q ex ⟨vs, i, rfl, _⟩
  rfl

def u_letter_of_1b : US := (uRet (xIx (xIx (xC (.tuple D_PRINTABLE)) (xC (.int 1))) (xOp ySub (xVar 0) (xC (.int 38)))))
def u_letter_of_2 : US := (uRet (xC (.str "")))
def u_letter_of_0b : US := (uRet (xIx (xIx (xC (.tuple D_PRINTABLE)) (xC (.int 0))) (xOp ySub (xVar 0) (xC (.int 32)))))
def u_letter_of_1 : US := (uSeq (uIf (xB (xChain yLe yLe (xC (.int 38)) (xVar 0) (xC (.int 126))))
  u_letter_of_1b
  uNx)
  u_letter_of_2)
def u_letter_of : US := (uSeq (uIf (xB (xChain yLe yLe (xC (.int 32)) (xVar 0) (xC (.int 36))))
  u_letter_of_0b
  uNx)
  u_letter_of_1)
def letZ (c : Int) : Str := if okC c = true then ⟨#[c.toNat]⟩ else ""
theorem prA : ∀ k, k < 5 → (" !\"#$" : Str).cps.toList[k]? = some (32 + k) := by decide +kernel
theorem prB : ∀ k, k < 89 → ("&'()*+,-./0123456789:;<=>?@ABCDEFGHIJKLMNOPQRSTUVWXYZ[\\]^_`abcdefghijklmnopqrstuvwxyz{|}~" : Str).cps.toList[k]? = some (38 + k) := by decide +kernel
def F_letter_of : Fn := fun ds q _ => ∃ c : Int, ds = [.int c] ∧ q (.va (.str (letZ c)))
theorem run_letter_of : ∀ ds q ex, F_letter_of ds q ex → u_letter_of (enV q ex) (en0 1 ds) := by
  rintro ds q ex ⟨c, rfl, hq⟩
  have tail : ¬ (32 ≤ c ∧ c ≤ 36) → u_letter_of_1 (enV q ex) [.fz (.int c)] := fun hn => by
    have e0 : (decide (32 ≤ c) && decide (c ≤ 36)) = false := by
      rw [Bool.and_eq_false_iff]
      by_cases h : 32 ≤ c
      · exact .inr (decide_eq_false fun h2 => hn ⟨h, h2⟩)
      · exact .inl (decide_eq_false h)
    have out : ¬ (38 ≤ c ∧ c ≤ 126) → q (.va (.str "")) := fun h2 => by
      have e1 : letZ c = "" := by
        unfold letZ okC
        rw [e0]
        by_cases h : 38 ≤ c
        · rw [decide_eq_true h, decide_eq_false (fun z => h2 ⟨h, z⟩)]
          rfl
        · rw [decide_eq_false h]
          rfl
      rw [e1] at hq
      exact hq
    show if decide (38 ≤ c) = true then _ else _
    refine iteD (fun h => ?_) (fun h => ifNot rfl ⟨rfl, out fun z => h z.1⟩)
    refine ifD (fun h2 => ?_) (fun h2 => ⟨rfl, out fun z => h2 z.2⟩)
    have e1 : letZ c = ⟨#[c.toNat]⟩ := by
      unfold letZ okC
      rw [decide_eq_true h, decide_eq_true h2, Bool.true_and, Bool.or_true, if_pos rfl]
    rw [e1] at hq
    refine ⟨_, rfl, sz (by decide +kernel), c.toNat, at_nat (by omega) ?_, rfl, hq⟩
    have := prB (c - 38).toNat (by omega)
    rw [show 38 + (c - 38).toNat = c.toNat by omega] at this
    exact this
  show if decide (32 ≤ c) = true then _ else _
  refine iteD (fun h => ?_) (fun h => ifNot rfl (tail fun z => h z.1))
  refine ifD (fun h2 => ?_) (fun h2 => tail fun z => h2 z.2)
  have e1 : letZ c = ⟨#[c.toNat]⟩ := by
    unfold letZ okC
    rw [decide_eq_true h, decide_eq_true h2, Bool.true_and, Bool.true_or, if_pos rfl]
  rw [e1] at hq
  refine ⟨_, rfl, sz (by decide +kernel), c.toNat, at_nat (by omega) ?_, rfl, hq⟩
  have := prA (c - 32).toNat (by omega)
  rw [show 32 + (c - 32).toNat = c.toNat by omega] at this
  exact this
theorem len_letter_of : ∀ ds q ex, F_letter_of ds q ex → ds.length = 1 := by
  rintro ds q ex ⟨c, rfl, _⟩
  rfl

def u_text_of_1b : US := (uRet (xC .none))
def u_text_of_2 : US := (uRet (xM1 yJoin (xC (.str "")) (xVar 1)))
def u_text_of_1 : US := (uSeq (uIf (xB (xOp (yInM false) (xC (.str "")) (xVar 1)))
  u_text_of_1b
  uNx)
  u_text_of_2)
def u_text_of : US := (uSeq (uAsg (xLc (xSeq (xVar 0)) (yNm 2) xYes (xCall F_letter_of (xCons (xVar 2) xNil)) [2]) (yNm 1))
  u_text_of_1)
theorem letZ_empty {c : Int} : (letZ c = "") ↔ okC c = false := by
  unfold letZ
  cases h : okC c with
  | true =>
    rw [if_pos rfl]
    refine ⟨fun z => ?_, fun z => by cases z⟩
    have := congrArg Str.length z
    cases this
  | false =>
    rw [if_neg (by decide)]
    exact ⟨fun _ => rfl, fun _ => rfl⟩
theorem inD_empty : ∀ vs : List Int, inD (.str "") (vs.map fun c => .str (letZ c)) = !(vs.all okC)
  | [] => rfl
  | v :: vs => by
    have ih := inD_empty vs
    unfold inD at ih ⊢
    rw [List.map_cons, List.any_cons, ih, List.all_cons, Bool.not_and]
    congr 1
    show decide (letZ v = "") = !okC v
    cases h : okC v with
    | true => exact decide_eq_false fun z => by rw [letZ_empty.mp z] at h; cases h
    | false => exact decide_eq_true (letZ_empty.mpr h)
theorem letZ_text {vs : List Int} (h : vs.all okC = true) : (vs.map letZ) = (vs.map Int.toNat).map fun c => (⟨#[c]⟩ : Str) := by
  rw [List.map_map]
  refine List.map_congr_left fun v hv => ?_
  have := List.all_eq_true.mp h v hv
  unfold letZ
  rw [if_pos this]
  rfl
def F_text_of : Fn := fun ds q _ => ∃ vs : List Int, ds = [.list (vs.map .int)] ∧ vs.length ≤ 1000000 ∧ q (.va (if vs.all okC = true then .str ⟨(vs.map Int.toNat).toArray⟩ else .none))
theorem flD_letZ (vs : List Int) : (flD (.str "") && (vs.map fun c => PyData.str (letZ c)).all flD) = true := by
  show (true && (vs.map fun c => PyData.str (letZ c)).all flD) = true
  rw [Bool.true_and, List.all_map]
  exact List.all_eq_true.mpr fun v _ => rfl
theorem run_text_of : ∀ ds q ex, F_text_of ds q ex → u_text_of (enV q ex) (en0 3 ds) := by
  rintro ds q ex ⟨vs, rfl, hz, hq⟩
  refine ⟨rfl, lc_map (G := .int) (f := fun c => .str (letZ c)) (fun i c hc => ⟨c, rfl, rfl, ⟨rfl, acc_mlen hc⟩, acc_map hc rfl⟩) ?_⟩
  refine ⟨rfl, flD_letZ vs, ?_⟩
  show (inD (.str "") (vs.map fun c => .str (letZ c)) = true → _) ∧ (inD (.str "") (vs.map fun c => .str (letZ c)) = false → _)
  rw [inD_empty]
  cases h : vs.all okC with
  | false =>
    rw [h, if_neg (by decide)] at hq
    exact ifIs rfl ⟨rfl, hq⟩
  | true =>
    rw [h, if_pos rfl] at hq
    refine ifNot rfl ⟨⟨_, rfl⟩, ⟨_, rfl⟩, _, vs.map letZ, rfl, .inl (by rw [List.map_map]; rfl), ?_, rfl, ?_⟩
    · have h5 : ("" : Str).length = 0 := rfl
      rw [h5, Nat.mul_zero]
      have := sum_le (B := 1) (vs.map letZ) fun z hz => by
        obtain ⟨v, _, rfl⟩ := List.mem_map.mp hz
        unfold letZ
        split
        · exact Nat.le_refl _
        · exact Nat.zero_le _
      rw [List.length_map] at this
      omega
    · rw [letZ_text h, join_singles]
      exact hq
theorem len_text_of : ∀ ds q ex, F_text_of ds q ex → ds.length = 1 := by
  rintro ds q ex ⟨vs, rfl, _⟩
  rfl

def u_read_text_2b : US := (uRaise "Unreadable" ["index"] (xCons (xVar 1) xNil))
def u_read_text_3 : US := (uRet (xTup (xCons (xVar 4) (xCons (xVar 3) xNil))))
def u_read_text_2 : US := (uSeq (uIf (xB (xOp yIsN (xVar 4) (xC .none)))
  u_read_text_2b
  uNx)
  u_read_text_3)
def u_read_text_1 : US := (uSeq (uAsg (xCall F_text_of (xCons (xVar 2) xNil)) (yNm 4))
  u_read_text_2)
def u_read_text : US := (uSeq (uAsg (xCall F_read_bytes (xCons (xVar 0) (xCons (xVar 1) xNil))) (yTup (yCons (yNm 2) (yCons (yNm 3) yNil))))
  u_read_text_1)
def F_read_text : Fn := fun ds q ex => ∃ (vs : List Int) (i : Int), ds = [.list (vs.map .int), .int i] ∧ (∀ v ∈ vs, 0 ≤ v) ∧ vs.length ≤ 1000000 ∧ (∀ fs j, readB vs i = some (fs, j) → fs.all okC = true → q (.va (.tuple [.str ⟨(fs.map Int.toNat).toArray⟩, .int j]))) ∧
  ((readB vs i = none ∨ ∃ fs j, readB vs i = some (fs, j) ∧ fs.all okC = false) → ex ⟨"Unreadable", [("index", .int i)]⟩)
theorem rdB_len : ∀ {n : Nat} {vs fs : List Int} {m : Nat}, rdB n vs = some (fs, m) → fs.length = n
  | 0, _, _, _, h => by
    cases h
    rfl
  | n + 1, [], _, _, h => by cases h
  | n + 1, v :: vs, fs, m, h => by
    unfold rdB at h
    by_cases h1 : 249 < v
    · rw [if_pos h1] at h
      cases h
    rw [if_neg h1] at h
    by_cases h2 : v = 249
    · rw [if_pos h2] at h
      cases vs with
      | nil => cases h
      | cons m2 ws =>
        have h' : (if 6 < m2 then none else (rdB n ws).map fun p => ((249 + m2) :: p.1, p.2 + 2)) = some (fs, m) := h
        by_cases h3 : 6 < m2
        · rw [if_pos h3] at h'
          cases h'
        · rw [if_neg h3] at h'
          cases hr : rdB n ws with
          | none =>
            rw [hr] at h'
            cases h'
          | some p =>
            rw [hr] at h'
            cases h'
            rw [List.length_cons, rdB_len (n := n) (vs := ws) (fs := p.1) (m := p.2) hr]
    · rw [if_neg h2] at h
      cases hr : rdB n vs with
      | none =>
        rw [hr] at h
        cases h
      | some p =>
        rw [hr] at h
        cases h
        rw [List.length_cons, rdB_len (n := n) (vs := vs) (fs := p.1) (m := p.2) hr]
theorem readB_len {vs fs : List Int} {i j : Int} (hv : ∀ v ∈ vs, 0 ≤ v) (h : readB vs i = some (fs, j)) : fs.length ≤ vs.length := by
  unfold readB at h
  cases hr : readC vs i with
  | none =>
    rw [hr] at h
    cases h
  | some p =>
    rw [hr] at h
    obtain ⟨a1, a2, a3⟩ := readC_fits hv (n := p.1) (j := p.2) hr
    have h' : (rdB p.1.toNat (vs.drop p.2.toNat)).map (fun r => (r.1, p.2 + (r.2 : Int))) = some (fs, j) := h
    cases hd : rdB p.1.toNat (vs.drop p.2.toNat) with
    | none =>
      rw [hd] at h'
      cases h'
    | some r =>
      rw [hd] at h'
      cases h'
      have := rdB_len (fs := r.1) (m := r.2) hd
      omega
theorem run_read_text : ∀ ds q ex, F_read_text ds q ex → u_read_text (enV q ex) (en0 5 ds) := by
  rintro ds q ex ⟨vs, i, rfl, h0, hz, hq, hx⟩
  refine ⟨vs, i, rfl, h0, by omega, fun fs j hr => ⟨rfl, rfl, fs, rfl, ?_, rfl, rfl, ?_⟩, fun hr => ⟨rfl, hx (.inl hr)⟩⟩
  · have := readB_len h0 hr
    omega
  · cases h : fs.all okC with
    | true => exact ifNot rfl ⟨rfl, rfl, hq fs j hr h⟩
    | false => exact ifIs rfl ⟨⟨rfl, rfl⟩, hx (.inr ⟨fs, j, hr, h⟩)⟩
theorem len_read_text : ∀ ds q ex, F_read_text ds q ex → ds.length = 2 := by
  rintro ds q ex ⟨vs, i, rfl, _⟩
  rfl

def u_law_cell_0b : US := (uRet (xIx (xVar 0) (xVar 1)))
def u_law_cell_1 : US := (uRet (xC (.int 0)))
def u_law_cell : US := (uSeq (uIf (xB (xOp yLt (xVar 1) (xCB yLen (xCons (xVar 0) xNil))))
  u_law_cell_0b
  uNx)
  u_law_cell_1)
def F_law_cell : Fn := fun ds q _ => ∃ (ns : List Int) (k : Int), ds = [scr ns, .int k] ∧ 0 ≤ k ∧ q (.va (.int (ns.getD k.toNat 0)))
theorem run_law_cell : ∀ ds q ex, F_law_cell ds q ex → u_law_cell (enV q ex) (en0 2 ds) := by
  rintro ds q ex ⟨ns, k, rfl, h0, hq⟩
  refine ⟨fun hb => ?_, fun hb => ?_⟩
  · have hb' : decide (k < ((ns.map PyData.int).length : Int)) = true := hb
    rw [List.length_map, decide_eq_true_iff] at hb'
    exact ⟨_, ints_at h0 hb', rfl, hq⟩
  · have hb' : decide (k < ((ns.map PyData.int).length : Int)) = false := hb
    rw [List.length_map, decide_eq_false_iff_not] at hb'
    have e : ns.getD k.toNat 0 = 0 := by
      rw [List.getD_eq_getElem?_getD, List.getElem?_eq_none (by omega)]
      rfl
    rw [e] at hq
    exact ⟨rfl, hq⟩
theorem len_law_cell : ∀ ds q ex, F_law_cell ds q ex → ds.length = 2 := by
  rintro ds q ex ⟨ns, k, rfl, _⟩
  rfl

def u_law_draws_2b0b_1 : US := (uAsg (xOp yDiv (xVar 3) (xC (.int 4096))) (yNm 3))
def u_law_draws_2b0b : US := (uSeq (uAp 2 (xOp yMod (xCB yInt1 (xCons (xVar 3) xNil)) (xC (.int 4096))))
  u_law_draws_2b0b_1)
def u_law_draws_2b0e_3 : US := (uAp 2 (xOp yMod (xOp yDiv (xVar 5) (xC (.int 7))) (xC (.int 4096))))
def u_law_draws_2b0e_2 : US := (uSeq (uAsg (xOp yMod (xCB yInt1 (xCons (xR2 yPlus (xR2 yPlus (xR2 yTimes (xVar 5) (xVar 5)) (xVar 0)) (xR2 yTimes (xC (.int 13)) (xVar 4))) xNil)) (xC (.int 2147483587))) (yNm 5))
  u_law_draws_2b0e_3)
def u_law_draws_2b0e_1 : US := (uSeq (uAsg (xOp yMod (xCB yInt1 (xCons (xR2 yPlus (xR2 yPlus (xR2 yTimes (xVar 5) (xVar 5)) (xR2 yTimes (xVar 5) (xC (.int 16807)))) (xR2 yTimes (xVar 4) (xC (.int 7919)))) xNil)) (xC (.int 2147483629))) (yNm 5))
  u_law_draws_2b0e_2)
def u_law_draws_2b0e : US := (uSeq (uAsg (xOp yMod (xCB yInt1 (xCons (xR2 yPlus (xR2 yTimes (xVar 0) (xC (.int 48271))) (xR2 yTimes (xR2 yPlus (xVar 4) (xC (.int 1))) (xC (.int 69621)))) xNil)) (xC (.int 2147483647))) (yNm 5))
  u_law_draws_2b0e_1)
def u_law_draws_2b : US := (uIf (xAnd (xB (xOp yGe (xVar 0) (xOp yPow (xC (.int 10)) (xC (.int 18))))) (xB (xOp yGt (xVar 3) (xC (.int 0)))))
  u_law_draws_2b0b
  u_law_draws_2b0e)
def u_law_draws_3 : US := (uRetV 2)
def u_law_draws_2 : US := (uSeq (uFor (xRng yRng1 (xCons (xVar 1) xNil)) (yNm 4)
  u_law_draws_2b)
  u_law_draws_3)
def u_law_draws_1 : US := (uSeq (uAsg (xVar 0) (yNm 3))
  u_law_draws_2)
def u_law_draws : US := (uSeq (uAsg (xLst xNil) (yNm 2))
  u_law_draws_1)
def F_law_draws : Fn := fun ds q _ => ∃ c n : Int, ds = [.int c, .int n] ∧ 0 ≤ n ∧ n ≤ 1000 ∧ ∀ g : Nat → Int, (∀ k, 0 ≤ g k ∧ g k < 4096) → q (.nw (rowI n.toNat g))
def gput (g : Nat → Int) (k : Nat) (v : Int) : Nat → Int := fun j => if j = k then v else g j
theorem rowI_put (g : Nat → Int) (k : Nat) (v : Int) : rowI (k + 1) (gput g k v) = rowI k g ++ [.int v] := by
  rw [rowI_succ]
  congr 1
  · unfold rowI
    refine List.map_congr_left fun j hj => ?_
    have hj' := List.mem_range.mp hj
    unfold gput
    rw [if_neg (by omega)]
  · unfold gput
    rw [if_pos rfl]
theorem gput_ok {g : Nat → Int} {k : Nat} {v : Int} (h : ∀ k, 0 ≤ g k ∧ g k < 4096) (hv : 0 ≤ v ∧ v < 4096) : ∀ j, 0 ≤ gput g k v j ∧ gput g k v j < 4096 := fun j => by
  unfold gput
  by_cases h1 : j = k
  · rw [if_pos h1]
    exact hv
  · rw [if_neg h1]
    exact h j
theorem draws_mix (c : Int) (i : Nat) (hi : i < 1000) (l : Int) (g : Nat → Int) (s5 s6 : Sl) (V : EnV) (hg : ∀ k, 0 ≤ g k ∧ g k < 4096) (n : Int)
    (k : ∀ g' s6', (∀ k, 0 ≤ g' k ∧ g' k < 4096) → V.nx [.fz (.int c), .fz (.int n), .ow (rowI (i + 1) g'), .fz (.int l), .fz (.int (0 + (i : Nat) * 1)), s6']) :
    (uSeq (uAsg (xOp yMod (xCB yInt1 (xCons (xR2 yPlus (xR2 yTimes (xVar 0) (xC (.int 48271))) (xR2 yTimes (xR2 yPlus (xVar 4) (xC (.int 1))) (xC (.int 69621)))) xNil)) (xC (.int 2147483647))) (yNm 5))
    (uSeq (uAsg (xOp yMod (xCB yInt1 (xCons (xR2 yPlus (xR2 yPlus (xR2 yTimes (xVar 5) (xVar 5)) (xR2 yTimes (xVar 5) (xC (.int 16807)))) (xR2 yTimes (xVar 4) (xC (.int 7919)))) xNil)) (xC (.int 2147483629))) (yNm 5))
    (uSeq (uAsg (xOp yMod (xCB yInt1 (xCons (xR2 yPlus (xR2 yPlus (xR2 yTimes (xVar 5) (xVar 5)) (xVar 0)) (xR2 yTimes (xC (.int 13)) (xVar 4))) xNil)) (xC (.int 2147483587))) (yNm 5))
    (uAp 2 (xOp yMod (xOp yDiv (xVar 5) (xC (.int 7))) (xC (.int 4096))))))) V [.fz (.int c), .fz (.int n), .ow (rowI i g), .fz (.int l), .fz (.int (0 + (i : Nat) * 1)), s6] := by
  have small : ∀ z : Int, CMul z 48271 := fun z => .inr (by decide)
  have small2 : ∀ z : Int, CMul z 69621 := fun z => .inr (by decide)
  have small3 : ∀ z : Int, CMul z 16807 := fun z => .inr (by decide)
  have small4 : ∀ z : Int, CMul z 7919 := fun z => .inr (by decide)
  have p1 : (0 : Int) < 2147483647 := by decide
  have p2 : (0 : Int) < 2147483629 := by decide
  have p3 : (0 : Int) < 2147483587 := by decide
  have own : ∀ z m : Int, 0 < m → m ≤ 2147483647 → CMul (z % m) (z % m) := fun z m h1 h2 => by
    have h3 := Int.emod_nonneg z (show m ≠ 0 by omega)
    have h4 := Int.emod_lt_of_pos z h1
    exact .inl ⟨by omega, by omega⟩
  refine ⟨small _, small2 _, p1, rfl, ?_⟩
  refine ⟨own _ _ p1 (by decide), small3 _, small4 _, p2, rfl, ?_⟩
  refine ⟨own _ _ p2 (by decide), .inl ⟨by decide, by decide⟩, p3, rfl, ?_⟩
  refine ⟨⟨by decide, by decide⟩, (by decide : (0 : Int) < 4096), ⟨rfl, by rw [rowI_len]; exact Nat.lt_of_lt_of_le hi (by decide)⟩, ?_⟩
  have e : ∀ (v : Int) (s6' : Sl), (0 ≤ v ∧ v < 4096) → V.nx [.fz (.int c), .fz (.int n), .ow (rowI i g ++ [.int v]), .fz (.int l), .fz (.int (0 + (i : Nat) * 1)), s6'] := fun v s6' hv => by
    rw [← rowI_put]
    exact k (gput g i v) s6' (gput_ok hg hv)
  exact e _ _ ⟨Int.emod_nonneg _ (by decide), Int.emod_lt_of_pos _ (by decide)⟩
theorem run_law_draws : ∀ ds q ex, F_law_draws ds q ex → u_law_draws (enV q ex) (en0 6 ds) := by
  rintro ds q ex ⟨c, n, rfl, h0, h1, hq⟩
  refine ⟨rfl, rfl, rfl, by omega, by omega, ?_⟩
  refine ⟨fun i e => ∃ (g : Nat → Int) (l : Int) (s5 s6 : Sl), (∀ k, 0 ≤ g k ∧ g k < 4096) ∧ e = [.fz (.int c), .fz (.int n), .ow (rowI i g), .fz (.int l), s5, s6], ⟨fun _ => 0, c, _, _, fun _ => by simp, rfl⟩, ?_, ?_⟩
  · rintro i d e hd ⟨g, l, s5, s6, hg, rfl⟩
    obtain ⟨hi, rfl⟩ := rngD_get hd
    refine ⟨⟨by decide, by decide, by decide⟩, ?_⟩
    have wayA : ∀ V : EnV, (∀ g' s6' l', (∀ k, 0 ≤ g' k ∧ g' k < 4096) → V.nx [.fz (.int c), .fz (.int n), .ow (rowI (i + 1) g'), .fz (.int l'), .fz (.int (0 + (i : Nat) * 1)), s6']) →
        (uSeq (uAp 2 (xOp yMod (xCB yInt1 (xCons (xVar 3) xNil)) (xC (.int 4096)))) (uAsg (xOp yDiv (xVar 3) (xC (.int 4096))) (yNm 3))) V [.fz (.int c), .fz (.int n), .ow (rowI i g), .fz (.int l), .fz (.int (0 + (i : Nat) * 1)), s6] := fun V k => by
      refine ⟨(by decide : (0 : Int) < 4096), ⟨rfl, by rw [rowI_len]; exact Nat.lt_of_lt_of_le (show i < 1000 by omega) (by decide)⟩, ⟨by decide, by decide⟩, rfl, ?_⟩
      have e : ∀ v l' : Int, (0 ≤ v ∧ v < 4096) → V.nx [.fz (.int c), .fz (.int n), .ow (rowI i g ++ [.int v]), .fz (.int l'), .fz (.int (0 + (i : Nat) * 1)), s6] := fun v l' hv => by
        rw [← rowI_put]
        exact k (gput g i v) s6 l' (gput_ok hg hv)
      exact e _ _ ⟨Int.emod_nonneg _ (by decide), Int.emod_lt_of_pos _ (by decide)⟩
    refine iteD (fun hA => ?_) (fun hA => ?_)
    · refine ifD (fun hB => ?_) (fun hB => ?_)
      · exact wayA _ fun g' s6' l' hg' => ⟨g', l', _, s6', hg', rfl⟩
      · exact draws_mix c i (by omega) l g s5 s6 _ hg n fun g' s6' hg' => ⟨g', l, _, s6', hg', rfl⟩
    · exact ifF (draws_mix c i (by omega) l g s5 s6 _ hg n fun g' s6' hg' => ⟨g', l, _, s6', hg', rfl⟩)
  · rintro e ⟨g, l, s5, s6, hg, rfl⟩
    rw [rngD_len]
    exact hq g hg
theorem len_law_draws : ∀ ds q ex, F_law_draws ds q ex → ds.length = 2 := by
  rintro ds q ex ⟨c, n, rfl, _⟩
  rfl

def u_law_is_int : US := (uRet (xAndV (xIsi "int" (xVar 0)) (xNotV (xIsi "bool" (xVar 0)))))
def isIntD : PyData → Bool
  | .int _ => true
  | _ => false
def F_law_is_int : Fn := fun ds q _ => ∃ d, ds = [d] ∧ match d with
  | .dict _ => False
  | d => q (.va (.bool (isIntD d)))
theorem run_law_is_int : ∀ ds q ex, F_law_is_int ds q ex → u_law_is_int (enV q ex) (en0 1 ds) := by
  rintro ds q ex ⟨d, rfl, hq⟩
  cases d <;> first
    | exact ⟨rfl, hq⟩
    | exact hq.elim
theorem len_law_is_int : ∀ ds q ex, F_law_is_int ds q ex → ds.length = 1 := by
  rintro ds q ex ⟨d, rfl, _⟩
  rfl

def u_law_is_number : US := (uRet (xAndV (xCall F_law_is_int (xCons (xVar 0) xNil)) (xOp yEqM (xVar 0) (xVar 1))))
def F_law_is_number : Fn := fun ds q _ => ∃ (d : PyData) (i : Int), ds = [d, .int i] ∧ match d with
  | .dict _ => False
  | .int j => q (.va (.bool (decide (j = i))))
  | _ => q (.va (.bool false))
theorem run_law_is_number : ∀ ds q ex, F_law_is_number ds q ex → u_law_is_number (enV q ex) (en0 2 ds) := by
  rintro ds q ex ⟨d, i, rfl, hq⟩
  cases d <;> first
    | exact ⟨_, rfl, rfl, rfl, hq⟩
    | exact hq.elim
theorem len_law_is_number : ∀ ds q ex, F_law_is_number ds q ex → ds.length = 2 := by
  rintro ds q ex ⟨d, i, rfl, _⟩
  rfl

def u_law_stream_1b : US := (uAsg (xR2 yPlus (xVar 2) (xCall F_law_draws (xCons (xR2 yPlus (xCall F_law_cell (xCons (xVar 0) (xCons (xVar 3) xNil))) (xR2 yTimes (xC (.int 7)) (xVar 3))) (xCons (xC (.int 16)) xNil)))) (yNm 2))
def u_law_stream_2 : US := (uRet (xSl ySlice (xVar 2) xNo (xPart (xVar 1))))
def u_law_stream_1 : US := (uSeq (uFor (xRng yRng1 (xCons (xR2 yPlus (xC (.int 1)) (xOp yDiv (xVar 1) (xC (.int 16)))) xNil)) (yNm 3)
  u_law_stream_1b)
  u_law_stream_2)
def u_law_stream : US := (uSeq (uAsg (xLst xNil) (yNm 2))
  u_law_stream_1)
def F_law_stream : Fn := fun ds q _ => ∃ (ns : List Int) (n : Int), ds = [scr ns, .int n] ∧ 0 ≤ n ∧ n ≤ 10000 ∧ ∀ g : Nat → Int, (∀ k, 0 ≤ g k ∧ g k < 4096) → q (.nw (rowI n.toNat g))
theorem cut_row {n : Nat} {g : Nat → Int} {m : Int} (h0 : 0 ≤ m) (h : m ≤ n) : cutD (rowI n g) none (some m) = rowI m.toNat g := by
  unfold cutD rowI
  have e : HT.sIx ((List.range n).map fun k => PyData.int (g k)).length ((List.range n).map fun k => PyData.int (g k)).length (some m) = m.toNat := by
    rw [List.length_map, List.length_range]
    show (if m < 0 then _ else min m.toNat n) = _
    rw [if_neg (by omega)]
    omega
  rw [e]
  show List.take (m.toNat - 0) (List.drop 0 _) = _
  rw [List.drop_zero, Nat.sub_zero, ← List.map_take, List.take_range, Nat.min_eq_left (by omega)]
theorem run_law_stream : ∀ ds q ex, F_law_stream ds q ex → u_law_stream (enV q ex) (en0 4 ds) := by
  rintro ds q ex ⟨ns, n, rfl, h0, h1, hq⟩
  have hd : 0 ≤ n / 16 := Int.ediv_nonneg h0 (by decide)
  have hd2 : n < 16 * (n / 16) + 16 := by omega
  refine ⟨rfl, rfl, ⟨by decide, by decide⟩, by omega, by omega, ?_⟩
  refine ⟨fun i e => ∃ (g : Nat → Int) (s3 : Sl), (∀ k, 0 ≤ g k ∧ g k < 4096) ∧ e = [.fz (scr ns), .fz (.int n), .ow (rowI (16 * i) g), s3], ⟨fun _ => 0, _, fun _ => by simp, rfl⟩, ?_, ?_⟩
  · rintro i d e hd ⟨g, s3, hg, rfl⟩
    obtain ⟨hi, rfl⟩ := rngD_get hd
    refine ⟨ns, _, rfl, by omega, rfl, .inl ⟨by decide, by decide⟩, ?_⟩
    refine ⟨_, 16, rfl, by decide, by decide, fun g' hg' => ⟨rfl, ?_, rfl, ?_⟩⟩
    · rw [rowI_len, rowI_len]
      exact Nat.le_trans (show 16 * i + 16 ≤ 20000 by omega) (by decide)
    · refine ⟨fun k => if k < 16 * i then g k else g' (k - 16 * i), .fz (.int (0 + (i : Nat) * 1)), fun k => ?_, ?_⟩
      rotate_left
      · have er : rowI (16 * (i + 1)) (fun k => if k < 16 * i then g k else g' (k - 16 * i)) = rowI (16 * i) g ++ rowI (16 : Int).toNat g' := by
          rw [show 16 * (i + 1) = 16 * i + 16 by omega]
          unfold rowI
          rw [List.range_add, List.map_append, List.map_map]
          congr 1
          · refine List.map_congr_left fun j hj => ?_
            have hj' := List.mem_range.mp hj
            show PyData.int (if j < 16 * i then g j else g' (j - 16 * i)) = PyData.int (g j)
            rw [if_pos hj']
          · refine List.map_congr_left fun j _ => ?_
            show PyData.int (if 16 * i + j < 16 * i then g (16 * i + j) else g' (16 * i + j - 16 * i)) = PyData.int (g' j)
            rw [if_neg (by omega), Nat.add_sub_cancel_left]
        rw [er]
        rfl
      · show 0 ≤ (if k < 16 * i then g k else g' (k - 16 * i)) ∧ (if k < 16 * i then g k else g' (k - 16 * i)) < 4096
        by_cases hk : k < 16 * i
        · rw [if_pos hk]
          exact hg k
        · rw [if_neg hk]
          exact hg' _
  · rintro e ⟨g, s3, hg, rfl⟩
    rw [rngD_len]
    refine ⟨rfl, ?_⟩
    rw [cut_row h0 (by omega)]
    exact hq g hg
theorem len_law_stream : ∀ ds q ex, F_law_stream ds q ex → ds.length = 2 := by
  rintro ds q ex ⟨ns, n, rfl, _⟩
  rfl

def u_law_great_2b : US := (uAsg (xIx (xLst (xCons (xC (.int 0)) (xCons (xC (.int 1)) (xCons (xC (.int 124)) (xCons (xC (.int 125)) (xCons (xC (.int 249)) (xCons (xC (.int 250)) (xCons (xC (.int 15624)) (xCons (xC (.int 15625)) (xCons (xC (.int 31249)) xNil)))))))))) (xOp yMod (xIx (xVar 0) (xR2 yPlus (xVar 1) (xC (.int 1)))) (xC (.int 9)))) (yNm 2))
def u_law_great_3 : US := (uRet (xOp yMod (xCB yInt1 (xCons (xVar 2) xNil)) (xOp yPow (xC (.int 10)) (xC (.int 29)))))
def u_law_great_1b : US := (uAsg (xR2 yPlus (xR2 yTimes (xVar 2) (xC (.int 4096))) (xIx (xVar 0) (xOp yMod (xR2 yPlus (xR2 yPlus (xVar 1) (xC (.int 2))) (xVar 3)) (xCB yLen (xCons (xVar 0) xNil))))) (yNm 2))
def u_law_great_2 : US := (uCut (uIf (xB (xOp yEqM (xOp yMod (xOp yDiv (xIx (xVar 0) (xVar 1)) (xC (.int 9))) (xC (.int 6))) (xC (.int 0))))
  u_law_great_2b
  uNx)
  u_law_great_3)
def u_law_great_1 : US := (uSeq (uFor (xRng yRng1 (xCons (xOp yMod (xIx (xVar 0) (xVar 1)) (xC (.int 9))) xNil)) (yNm 3)
  u_law_great_1b)
  u_law_great_2)
def u_law_great : US := (uSeq (uAsg (xIx (xVar 0) (xR2 yPlus (xVar 1) (xC (.int 1)))) (yNm 2))
  u_law_great_1)
def F_law_great : Fn := fun ds q _ => ∃ (n : Nat) (g : Nat → Int) (a : Int), ds = [.list (rowI n g), .int a] ∧ n ≤ 1000 ∧ (∀ k, 0 ≤ g k ∧ g k < 4096) ∧ 0 ≤ a ∧ a + 1 < n ∧ ∀ z, 0 ≤ z → z < 10 ^ 29 → q (.va (.int z))
theorem nine_k {a b c d e f g h j i : Int} {Q : PyData → Prop} (h0 : 0 ≤ i) (h1 : i < 9) (hh : ∀ z : Int, Q (.int z)) : ∃ x, atI [.int a, .int b, .int c, .int d, .int e, .int f, .int g, .int h, .int j] i = some x ∧ Q x := by
  obtain ⟨m, hm, _⟩ := menuD (f := PyData.int) (ms := [a, b, c, d, e, f, g, h, j]) h0 (by show i < ((9 : Nat) : Int); omega)
  exact ⟨_, hm, hh m⟩
theorem run_law_great : ∀ ds q ex, F_law_great ds q ex → u_law_great (enV q ex) (en0 4 ds) := by
  rintro ds q ex ⟨n, g, a, rfl, hn, hg, a0, a1, hq⟩
  have hl : (((rowI n g).length : Nat) : Int) = n := by rw [rowI_len]
  have g0 := hg a.toNat
  have out : ∀ (z : Int) (s : Sl), u_law_great_3 (enV q ex) [.fz (.list (rowI n g)), .fz (.int a), .fz (.int z), s] := fun z s =>
    ⟨⟨by decide, by decide, by decide⟩, (by decide : (0 : Int) < 10 ^ 29), rfl, hq _ (Int.emod_nonneg _ (by decide)) (Int.emod_lt_of_pos _ (by decide))⟩
  refine ⟨_, rowI_at (by omega) (by omega), rfl, _, rowI_at (by omega) (by omega), (by decide : (0 : Int) < 9), by omega, by omega, ?_⟩
  refine for_n (fun i e => ∃ (z : Int) (s : Sl), e = [.fz (.list (rowI n g)), .fz (.int a), .fz (.int z), s]) ⟨_, _, rfl⟩ ?_ ?_
  · rintro i e hi ⟨z, s, rfl⟩
    refine ⟨.inr ⟨by decide, by decide⟩, (by omega : (0 : Int) < ((rowI n g).length : Nat)), ?_⟩
    rw [hl]
    have m0 := Int.emod_nonneg (a + 2 + (0 + (i : Nat) * 1 : Int)) (show (n : Int) ≠ 0 by omega)
    have m1 := Int.emod_lt_of_pos (a + 2 + (0 + (i : Nat) * 1 : Int)) (show 0 < (n : Int) by omega)
    exact ⟨_, rowI_at m0 m1, rfl, _, _, rfl⟩
  · rintro e ⟨z, s, rfl⟩
    refine ⟨fun e => ∃ z s, e = [.fz (.list (rowI n g)), .fz (.int a), .fz (.int z), s], ?_, ?_⟩
    · refine ⟨_, rowI_at (by omega) (by omega), ⟨by decide, by decide⟩, (by decide : (0 : Int) < 6), ?_⟩
      refine ifD (fun h => ?_) (fun h => ⟨z, s, rfl⟩)
      have g1 := hg (a + 1).toNat
      exact ⟨rfl, _, rowI_at (by omega) (by omega), (by decide : (0 : Int) < 9), nine_k (by omega) (by omega) fun z => ⟨rfl, z, s, rfl⟩⟩
    · rintro e ⟨z, s, rfl⟩
      exact out z s
theorem len_law_great : ∀ ds q ex, F_law_great ds q ex → ds.length = 2 := by
  rintro ds q ex ⟨n, g, a, rfl, _⟩
  rfl

def u_law_signed_1b : US := (uRet (xUn yNeg (xVar 2)))
def u_law_signed_2 : US := (uRetV 2)
def u_law_signed_1 : US := (uSeq (uIf (xB (xOp yEqM (xOp yMod (xOp yDiv (xIx (xVar 0) (xVar 1)) (xC (.int 64))) (xC (.int 2))) (xC (.int 1))))
  u_law_signed_1b
  uNx)
  u_law_signed_2)
def u_law_signed : US := (uSeq (uAsg (xCall F_law_great (xCons (xVar 0) (xCons (xVar 1) xNil))) (yNm 2))
  u_law_signed_1)
def F_law_signed : Fn := fun ds q _ => ∃ (n : Nat) (g : Nat → Int) (a : Int), ds = [.list (rowI n g), .int a] ∧ n ≤ 1000 ∧ (∀ k, 0 ≤ g k ∧ g k < 4096) ∧ 0 ≤ a ∧ a + 1 < n ∧ ∀ z, -(10 ^ 29) < z → z < 10 ^ 29 → q (.va (.int z))
theorem run_law_signed : ∀ ds q ex, F_law_signed ds q ex → u_law_signed (enV q ex) (en0 3 ds) := by
  rintro ds q ex ⟨n, g, a, rfl, hn, hg, a0, a1, hq⟩
  refine ⟨n, g, a, rfl, hn, hg, a0, a1, fun z z0 z1 => ⟨rfl, rfl, ?_⟩⟩
  have g0 := hg a.toNat
  refine ⟨_, rowI_at (by omega) (by omega), ⟨by decide, by decide⟩, (by decide : (0 : Int) < 2), ?_⟩
  refine ifD (fun _ => ⟨rfl, hq _ (by omega) (by omega)⟩) (fun _ => hq z (by omega) z1)
theorem len_law_signed : ∀ ds q ex, F_law_signed ds q ex → ds.length = 2 := by
  rintro ds q ex ⟨n, g, a, rfl, _⟩
  rfl

def u_law_number_bytes_1b_2 : US := (uAsg (xOp yDiv (xVar 0) (xC (.int 125))) (yNm 0))
def u_law_number_bytes_1b0b : US := uBk
def u_law_number_bytes_1b_1 : US := (uSeq (uAp 1 (xR2 yPlus (xC (.int 125)) (xOp yMod (xCB yInt1 (xCons (xVar 0) xNil)) (xC (.int 125)))))
  u_law_number_bytes_1b_2)
def u_law_number_bytes_1b : US := (uSeq (uIf (xB (xOp yLt (xVar 0) (xC (.int 125))))
  u_law_number_bytes_1b0b
  uNx)
  u_law_number_bytes_1b_1)
def u_law_number_bytes_2 : US := (uRet (xR2 yPlus (xVar 1) (xLst (xCons (xVar 0) xNil))))
def u_law_number_bytes_1 : US := (uSeq (uFor (xRng yRng1 (xCons (xC (.int 20)) xNil)) (yNm 2)
  u_law_number_bytes_1b)
  u_law_number_bytes_2)
def u_law_number_bytes : US := (uSeq (uAsg (xLst xNil) (yNm 1))
  u_law_number_bytes_1)
def F_law_number_bytes : Fn := fun ds q _ => ∃ n : Int, ds = [.int n] ∧ 0 ≤ n ∧ n < 125 ^ 20 ∧ q (.nw ((digs n).map .int))
theorem run_law_number_bytes : ∀ ds q ex, F_law_number_bytes ds q ex → u_law_number_bytes (enV q ex) (en0 3 ds) := by
  rintro ds q ex ⟨n, rfl, h0, h1, hq⟩
  have out : ∀ (z : Int) (acc : List Int) (s : Sl), acc.length ≤ 20 → z < 125 → acc ++ digs z = digs n → u_law_number_bytes_2 (enV q ex) [.fz (.int z), .ow (acc.map .int), s] := by
    intro z acc s hl hz he
    rw [digs_lt hz] at he
    refine ⟨rfl, ?_, rfl, ?_⟩
    · show (acc.map PyData.int).length + 1 ≤ _
      rw [List.length_map]
      exact sz (by omega)
    · show q (.nw (acc.map PyData.int ++ [.int z]))
      have e : acc.map PyData.int ++ [.int z] = (acc ++ [z]).map PyData.int := by
        rw [List.map_append]
        rfl
      rw [e, he]
      exact hq
  refine ⟨rfl, rfl, by decide, by decide, ?_⟩
  refine for_n (fun i e => ∃ (z : Int) (acc : List Int) (s : Sl), acc.length = i ∧ 0 ≤ z ∧ z < 125 ^ (20 - i) ∧ acc ++ digs z = digs n ∧ e = [.fz (.int z), .ow (acc.map .int), s]) ⟨n, [], _, rfl, h0, h1, rfl, rfl⟩ ?_ ?_
  · rintro i e hi ⟨z, acc, s, hl, z0, z1, he, rfl⟩
    have hi2 : i < 20 := hi
    refine ifD (fun h => out z acc (.fz (.int (0 + (i : Nat) * 1))) (by omega) h he) (fun h => ?_)
    refine ⟨(by decide : (0 : Int) < 125), ⟨rfl, ?_⟩, ⟨by decide, by decide⟩, rfl, z / 125, acc ++ [125 + z % 125], .fz (.int (0 + (i : Nat) * 1)), by rw [List.length_append, hl]; rfl, by omega, ?_, ?_, ?_⟩
    rotate_left 2
    · rw [List.append_assoc, List.singleton_append, ← digs_ge h]
      exact he
    · rw [List.map_append]
      rfl
    · rw [List.length_map]
      exact szl (by omega)
    · have e1 : (125 : Int) ^ (20 - i) = 125 ^ (20 - (i + 1)) * 125 := by
        rw [← Int.pow_succ]
        congr 1
        omega
      rw [e1] at z1
      exact Int.ediv_lt_of_lt_mul (by decide) z1
  · rintro e ⟨z, acc, s, hl, z0, z1, he, rfl⟩
    have z2 : z < 1 := z1
    exact out z acc s (by omega) (by omega) he
theorem len_law_number_bytes : ∀ ds q ex, F_law_number_bytes ds q ex → ds.length = 1 := by
  rintro ds q ex ⟨n, rfl, _⟩
  rfl

def u_law_integer_bytes_0b : US := (uRet (xCall F_law_number_bytes (xCons (xOp ySub (xR2 yTimes (xUn yNeg (xC (.int 2))) (xVar 0)) (xC (.int 1))) xNil)))
def u_law_integer_bytes_1 : US := (uRet (xCall F_law_number_bytes (xCons (xR2 yTimes (xC (.int 2)) (xVar 0)) xNil)))
def u_law_integer_bytes : US := (uSeq (uIf (xB (xOp yLt (xVar 0) (xC (.int 0))))
  u_law_integer_bytes_0b
  uNx)
  u_law_integer_bytes_1)
theorem zz_lt {n : Int} (h0 : -(10 ^ 29) < n) (h1 : n < 10 ^ 29) : zz n < 125 ^ 20 := by
  unfold zz
  have e : (10 : Int) ^ 29 = 100000000000000000000000000000 := by decide
  have e2 : (125 : Int) ^ 20 = 867361737988403547205962240695953369140625 := by decide
  rw [e] at h0 h1
  rw [e2]
  split <;> omega
def F_law_integer_bytes : Fn := fun ds q _ => ∃ n : Int, ds = [.int n] ∧ -(10 ^ 29) < n ∧ n < 10 ^ 29 ∧ q (.nw ((digs (zz n)).map .int))
theorem run_law_integer_bytes : ∀ ds q ex, F_law_integer_bytes ds q ex → u_law_integer_bytes (enV q ex) (en0 1 ds) := by
  rintro ds q ex ⟨n, rfl, l0, l1, hq⟩
  have h0 := zz_nn n
  have h1 := zz_lt l0 l1
  unfold zz at h0 h1 hq
  refine ifD (fun h => ?_) (fun h => ?_)
  · have h' : n < 0 := h
    rw [if_pos h'] at h0 h1 hq
    exact ⟨.inl ⟨by decide, by decide⟩, _, rfl, h0, h1, rfl, rfl, hq⟩
  · have h' : ¬ n < 0 := h
    rw [if_neg h'] at h0 h1 hq
    exact ⟨.inl ⟨by decide, by decide⟩, _, rfl, h0, h1, rfl, rfl, hq⟩
theorem len_law_integer_bytes : ∀ ds q ex, F_law_integer_bytes ds q ex → ds.length = 1 := by
  rintro ds q ex ⟨n, rfl, _⟩
  rfl

def u_law_integers_bytes_1b : US := (uAsg (xR2 yPlus (xVar 1) (xCall F_law_integer_bytes (xCons (xVar 2) xNil))) (yNm 1))
def u_law_integers_bytes_2 : US := (uRetV 1)
def u_law_integers_bytes_1 : US := (uSeq (uFor (xSeq (xVar 0)) (yNm 2)
  u_law_integers_bytes_1b)
  u_law_integers_bytes_2)
def u_law_integers_bytes : US := (uSeq (uAsg (xCall F_law_number_bytes (xCons (xCB yLen (xCons (xVar 0) xNil)) xNil)) (yNm 1))
  u_law_integers_bytes_1)
theorem itsI_len : ∀ ns : List Int, (∀ n ∈ ns, -(10 ^ 29) < n ∧ n < 10 ^ 29) → (itsI ns).length ≤ 20 * ns.length
  | [], _ => Nat.zero_le _
  | n :: ns, h => by
    have h1 := itsI_len ns fun m hm => h m (List.mem_cons_of_mem _ hm)
    have h2 := h n List.mem_cons_self
    have h3 := digs_le 20 (zz n) (zz_nn n) (by decide) (zz_lt h2.1 h2.2)
    have e : itsI (n :: ns) = digs (zz n) ++ itsI ns := by
      rw [show n :: ns = [n] ++ ns from rfl, itsI_app, itsI_one]
    rw [e, List.length_append, List.length_cons]
    omega
theorem wrI_len {ns : List Int} (hl : ns.length ≤ 1000) (h : ∀ n ∈ ns, -(10 ^ 29) < n ∧ n < 10 ^ 29) : (wrI ns).length ≤ 20020 := by
  have h1 := itsI_len ns h
  have h2 := digs_le 20 ns.length (by omega) (by decide) (Int.lt_of_le_of_lt (show ((ns.length : Nat) : Int) ≤ 1000 by omega) (by decide))
  unfold wrI
  rw [List.length_append]
  omega
def F_law_integers_bytes : Fn := fun ds q _ => ∃ (d : PyData) (ns : List Int), ds = [d] ∧ Sq d ns ∧ ns.length ≤ 1000 ∧ (∀ n ∈ ns, -(10 ^ 29) < n ∧ n < 10 ^ 29) ∧ q (.nw ((wrI ns).map .int))
theorem run_law_integers_bytes : ∀ ds q ex, F_law_integers_bytes ds q ex → u_law_integers_bytes (enV q ex) (en0 3 ds) := by
  rintro ds q ex ⟨d, ns, rfl, rfl | rfl, hl, hb, hq⟩
  · have hL : ((ns.map PyData.int).length : Int) = ns.length := dLen
    have hw : (wrI ns).length = (digs ns.length).length + (itsI ns).length := List.length_append
    have hz := wrI_len hl hb
    refine ⟨(ns.length : Int), ?_, by omega, Int.lt_of_le_of_lt (show ((ns.length : Nat) : Int) ≤ 1000 by omega) (by decide), rfl, rfl, ?_⟩
    · show [PyData.int ((ns.map PyData.int).length : Int)] = _
      rw [hL]
    refine ⟨rfl, for_map (fun i e => ∃ s, e = [.fz (.list (ns.map .int)), .ow ((digs ns.length ++ itsI (ns.take i)).map .int), s]) ⟨_, by
      show _ = [_, Sl.ow ((digs ns.length ++ []).map .int), _]
      rw [List.append_nil] <;> rfl⟩ ?_ ?_⟩
    · rintro i n e hn ⟨s, rfl⟩
      have h1 := itsI_take hn
      have h2 := itsI_le ns (i + 1)
      rw [h1, List.length_append] at h2
      have hb' := hb n (List.mem_of_getElem? hn)
      refine ⟨n, rfl, hb'.1, hb'.2, rfl, ?_⟩
      refine ⟨sz ?_, rfl, .fz (.int n), ?_⟩
      · rw [List.length_map, List.length_map, List.length_append]
        omega
      · rw [h1, ← List.append_assoc, List.map_append (l₂ := digs (zz n))]
        rfl
    · rintro e ⟨s, rfl⟩
      rw [List.take_length]
      exact hq
  · have hL : ((ns.map PyData.int).length : Int) = ns.length := dLen
    have hw : (wrI ns).length = (digs ns.length).length + (itsI ns).length := List.length_append
    have hz := wrI_len hl hb
    refine ⟨(ns.length : Int), ?_, by omega, Int.lt_of_le_of_lt (show ((ns.length : Nat) : Int) ≤ 1000 by omega) (by decide), rfl, rfl, ?_⟩
    · show [PyData.int ((ns.map PyData.int).length : Int)] = _
      rw [hL]
    refine ⟨rfl, for_map (fun i e => ∃ s, e = [.fz (.tuple (ns.map .int)), .ow ((digs ns.length ++ itsI (ns.take i)).map .int), s]) ⟨_, by
      show _ = [_, Sl.ow ((digs ns.length ++ []).map .int), _]
      rw [List.append_nil] <;> rfl⟩ ?_ ?_⟩
    · rintro i n e hn ⟨s, rfl⟩
      have h1 := itsI_take hn
      have h2 := itsI_le ns (i + 1)
      rw [h1, List.length_append] at h2
      have hb' := hb n (List.mem_of_getElem? hn)
      refine ⟨n, rfl, hb'.1, hb'.2, rfl, ?_⟩
      refine ⟨sz ?_, rfl, .fz (.int n), ?_⟩
      · rw [List.length_map, List.length_map, List.length_append]
        omega
      · rw [h1, ← List.append_assoc, List.map_append (l₂ := digs (zz n))]
        rfl
    · rintro e ⟨s, rfl⟩
      rw [List.take_length]
      exact hq
theorem len_law_integers_bytes : ∀ ds q ex, F_law_integers_bytes ds q ex → ds.length = 1 := by
  rintro ds q ex ⟨d, ns, rfl, _⟩
  rfl

def u_law_bytes_bytes_1b0b : US := (uAsg (xR2 yPlus (xVar 1) (xLst (xCons (xVar 2) xNil))) (yNm 1))
def u_law_bytes_bytes_1b0e : US := (uAsg (xR2 yPlus (xVar 1) (xLst (xCons (xC (.int 249)) (xCons (xOp ySub (xVar 2) (xC (.int 249))) xNil)))) (yNm 1))
def u_law_bytes_bytes_1b : US := (uIf (xB (xOp yLt (xVar 2) (xC (.int 249))))
  u_law_bytes_bytes_1b0b
  u_law_bytes_bytes_1b0e)
def u_law_bytes_bytes_2 : US := (uRetV 1)
def u_law_bytes_bytes_1 : US := (uSeq (uFor (xSeq (xVar 0)) (yNm 2)
  u_law_bytes_bytes_1b)
  u_law_bytes_bytes_2)
def u_law_bytes_bytes : US := (uSeq (uAsg (xCall F_law_number_bytes (xCons (xCB yLen (xCons (xVar 0) xNil)) xNil)) (yNm 1))
  u_law_bytes_bytes_1)
def F_law_bytes_bytes : Fn := fun ds q _ => ∃ vs : List Int, ds = [.list (vs.map .int)] ∧ vs.length ≤ 1000000 ∧ q (.nw ((wrB vs).map .int))
theorem run_law_bytes_bytes : ∀ ds q ex, F_law_bytes_bytes ds q ex → u_law_bytes_bytes (enV q ex) (en0 3 ds) := by
  rintro ds q ex ⟨vs, rfl, hz, hq⟩
  have hl : ((vs.map PyData.int).length : Int) = vs.length := dLen
  have hb : ((vs.length : Nat) : Int) < 125 ^ 20 := Int.lt_of_le_of_lt (show ((vs.length : Nat) : Int) ≤ 1000000 by omega) (by decide)
  have hd := digs_le 20 vs.length (by omega) (by decide) hb
  refine ⟨(vs.length : Int), by rw [← hl]; rfl, by omega, hb, rfl, rfl, rfl, ?_⟩
  refine for_map (fun i e => ∃ s : Sl, e = [.fz (.list (vs.map .int)), .ow ((digs vs.length ++ escL (vs.take i)).map .int), s]) ⟨_, by rw [show escL (vs.take 0) = [] from rfl, List.append_nil]; rfl⟩ ?_ ?_
  · rintro i v e hi ⟨s, rfl⟩
    have hi2 := get_lt hi
    have he := escL_len (vs.take i)
    rw [List.length_take, Nat.min_eq_left (by omega)] at he
    have hsz : ((digs vs.length ++ escL (vs.take i)).map PyData.int).length + 2 ≤ 16777216 := by
      rw [List.length_map, List.length_append]
      omega
    have e2 : ((digs vs.length ++ escL (vs.take (i + 1))).map PyData.int) = ((digs vs.length ++ escL (vs.take i)).map PyData.int) ++ (esc v).map .int := by
      rw [take_snoc hi, escL_snoc, ← List.append_assoc, List.map_append (l₁ := digs vs.length ++ escL (vs.take i))]
    refine ifD (fun h => ⟨rfl, sz ?_, rfl, ?_⟩) (fun h => ⟨rfl, sz hsz, rfl, ?_⟩)
    · show _ + 1 ≤ _
      omega
    · have e1 : esc v = [v] := if_pos h
      show ∃ s : Sl, (_ : En) = [.fz (.list (vs.map .int)), .ow ((digs vs.length ++ escL (vs.take (i + 1))).map .int), s]
      rw [e2, e1]
      exact ⟨_, rfl⟩
    · have e1 : esc v = [249, v - 249] := if_neg h
      show ∃ s : Sl, (_ : En) = [.fz (.list (vs.map .int)), .ow ((digs vs.length ++ escL (vs.take (i + 1))).map .int), s]
      rw [e2, e1]
      exact ⟨_, rfl⟩
  · rintro e ⟨s, rfl⟩
    rw [List.take_length]
    exact hq
theorem len_law_bytes_bytes : ∀ ds q ex, F_law_bytes_bytes ds q ex → ds.length = 1 := by
  rintro ds q ex ⟨vs, rfl, _⟩
  rfl

def u_law_signs : US := (uRet (xC (.str " !\"#$&'()*+,-./0123456789:;<=>?@ABCDEFGHIJKLMNOPQRSTUVWXYZ[\\]^_`abcdefghijklmnopqrstuvwxyz{|}~")))
def signsZ : Str := " !\"#$&'()*+,-./0123456789:;<=>?@ABCDEFGHIJKLMNOPQRSTUVWXYZ[\\]^_`abcdefghijklmnopqrstuvwxyz{|}~"
theorem signsZ_len : signsZ.length = 94 := by decide +kernel
theorem signsZ_ok : (signsZ.cps.toList.all fun c => okC ((c : Nat) : Int)) = true := by decide +kernel
theorem signsZ_all : ((List.range 127).all fun c => !okC ((c : Nat) : Int) || match Builtin.Str.occurrences signsZ ⟨#[c]⟩ 0 signsZ.length 1 with
  | i :: _ => decide ((32 : Int) + (i : Nat) + (if decide ((4 : Int) < (i : Nat)) then 1 else 0) = (c : Nat))
  | [] => false) = true := by decide +kernel
theorem signsZ_at {c : Nat} (h : okC ((c : Nat) : Int) = true) : ∃ i rest, Builtin.Str.occurrences signsZ ⟨#[c]⟩ 0 signsZ.length 1 = i :: rest ∧ (32 : Int) + (i : Nat) + (if decide ((4 : Int) < (i : Nat)) then 1 else 0) = (c : Nat) := by
  have hc : c < 127 := by
    unfold okC at h
    simp only [Bool.or_eq_true, Bool.and_eq_true, decide_eq_true_eq] at h
    omega
  have := List.all_eq_true.mp signsZ_all c (List.mem_range.mpr hc)
  rw [h] at this
  cases e : Builtin.Str.occurrences signsZ ⟨#[c]⟩ 0 signsZ.length 1 with
  | nil =>
    rw [e] at this
    cases this
  | cons i rest =>
    rw [e] at this
    exact ⟨i, rest, rfl, of_decide_eq_true this⟩
def F_law_signs : Fn := fun ds q _ => ds = [] ∧ q (.va (.str signsZ))
theorem run_law_signs : ∀ ds q ex, F_law_signs ds q ex → u_law_signs (enV q ex) (en0 0 ds) := by
  rintro ds q ex ⟨rfl, hq⟩
  exact ⟨rfl, hq⟩
theorem len_law_signs : ∀ ds q ex, F_law_signs ds q ex → ds.length = 0 := by
  rintro ds q ex ⟨rfl, _⟩
  rfl

def u_law_text_of_1 : US := (uRet (xM1 yJoin (xC (.str "")) (xLc (xRng yRng1 (xCons (xOp yMod (xIx (xVar 0) (xVar 1)) (xR2 yPlus (xVar 2) (xC (.int 1)))) xNil)) (yNm 4) xYes (xIx (xVar 3) (xOp yMod (xOp yDiv (xIx (xVar 0) (xOp yMod (xR2 yPlus (xR2 yPlus (xVar 1) (xC (.int 1))) (xVar 4)) (xCB yLen (xCons (xVar 0) xNil)))) (xR2 yPlus (xC (.int 1)) (xOp yDiv (xVar 4) (xCB yLen (xCons (xVar 0) xNil))))) (xCB yLen (xCons (xVar 3) xNil)))) [4])))
def u_law_text_of : US := (uSeq (uAsg (xCall F_law_signs xNil) (yNm 3))
  u_law_text_of_1)
theorem sign_in {z : Str} {i : Int} (h0 : 0 ≤ i) (h : i < (z.length : Int)) : ∃ c, atI z.cps.toList i = some c ∧ c ∈ z.cps.toList := by
  have hl : z.cps.toList.length = z.length := rfl
  have h1 : i.toNat < z.cps.toList.length := by omega
  exact ⟨z.cps.toList[i.toNat], at_nat h0 (List.getElem?_eq_getElem h1), List.getElem_mem h1⟩
theorem sign_k {z : Str} {i : Int} {Q : Nat → Prop} (h0 : 0 ≤ i) (h : i < (z.length : Int)) (k : ∀ c, c ∈ z.cps.toList → Q c) : ∃ c, atI z.cps.toList i = some c ∧ Q c := by
  obtain ⟨c, h1, h2⟩ := sign_in h0 h
  exact ⟨c, h1, k c h2⟩
def F_law_text_of : Fn := fun ds q _ => ∃ (n : Nat) (g : Nat → Int) (a m : Int), ds = [.list (rowI n g), .int a, .int m] ∧ n ≤ 1000 ∧ (∀ k, 0 ≤ g k ∧ g k < 4096) ∧ 0 ≤ a ∧ a < n ∧ 0 ≤ m ∧ m ≤ 1000 ∧ ∀ cs : List Nat, (cs.length : Int) ≤ m → (∀ c ∈ cs, okC ((c : Nat) : Int) = true) → q (.va (.str ⟨cs.toArray⟩))
theorem run_law_text_of : ∀ ds q ex, F_law_text_of ds q ex → u_law_text_of (enV q ex) (en0 5 ds) := by
  rintro ds q ex ⟨n, g, a, m, rfl, hn, hg, a0, a1, m0, m1, hq⟩
  have hl : (((rowI n g).length : Nat) : Int) = n := by rw [rowI_len]
  have ga := hg a.toNat
  have hsl := signsZ_len
  refine ⟨rfl, rfl, rfl, ⟨_, rfl⟩, _, rowI_at (by omega) (by omega), (by omega : (0 : Int) < m + 1), ?_⟩
  have b0 := Int.emod_nonneg (g a.toNat) (show m + 1 ≠ 0 by omega)
  have b1 := Int.emod_lt_of_pos (g a.toNat) (show 0 < m + 1 by omega)
  refine ⟨by omega, by omega, fun k acc => ∃ cs : List Nat, cs.length = k ∧ (∀ c ∈ cs, okC ((c : Nat) : Int) = true) ∧ acc = cs.map (fun c => PyData.str ⟨#[c]⟩), ⟨[], rfl, (fun c hc => by cases hc), rfl⟩, ?_, ?_⟩
  · rintro k d acc hd ⟨cs, h1, h2, rfl⟩
    obtain ⟨hk, rfl⟩ := rngD_get hd
    have hk2 : k < 1001 := by omega
    refine ⟨(by omega : (0 : Int) < ((rowI n g).length : Nat)), ?_⟩
    rw [hl]
    have p0 := Int.emod_nonneg (a + 1 + (0 + (k : Nat) * 1 : Int)) (show (n : Int) ≠ 0 by omega)
    have p1 := Int.emod_lt_of_pos (a + 1 + (0 + (k : Nat) * 1 : Int)) (show 0 < (n : Int) by omega)
    have gp := hg ((a + 1 + (0 + (k : Nat) * 1 : Int)) % (n : Int)).toNat
    have d0 : (0 : Int) ≤ (0 + (k : Nat) * 1 : Int) / (n : Int) := Int.ediv_nonneg (by omega) (by omega)
    have d1 : (0 + (k : Nat) * 1 : Int) / (n : Int) ≤ (k : Int) := Int.le_trans (Int.ediv_le_self _ (by omega)) (by omega)
    refine ⟨_, rowI_at p0 p1, ⟨by rw [hl]; omega, by rw [hl]; omega⟩, ⟨by rw [hl]; omega, by rw [hl]; omega⟩, sz (by omega), (by rw [hsl]; decide : (0 : Int) < ((signsZ.length : Nat) : Int)), sz (by omega), ?_⟩
    refine sign_k (Int.emod_nonneg _ (by omega)) (Int.emod_lt_of_pos _ (by omega)) fun c hm => ?_
    refine ⟨⟨rfl, ?_⟩, cs ++ [c], by rw [List.length_append, h1]; rfl, fun e he => ?_, by rw [List.map_append]; rfl⟩
    · rw [List.length_map]
      exact szl (by omega)
    · rcases List.mem_append.mp he with h | h
      · exact h2 e h
      · rw [List.mem_singleton.mp h]
        exact List.all_eq_true.mp signsZ_ok c hm
  · rintro acc ⟨cs, h1, h2, rfl⟩
    rw [rngD_len] at h1
    refine ⟨⟨_, rfl⟩, _, cs.map (fun c => (⟨#[c]⟩ : Str)), rfl, .inl (by rw [List.map_map]; rfl), ?_, rfl, ?_⟩
    · have h5 : ("" : Str).length = 0 := rfl
      rw [h5, Nat.mul_zero]
      have := sum_le (B := 1) (cs.map fun c => (⟨#[c]⟩ : Str)) fun z hz => by
        obtain ⟨v, _, rfl⟩ := List.mem_map.mp hz
        exact Nat.le_refl _
      rw [List.length_map] at this
      omega
    · rw [join_singles]
      exact hq cs (by omega) h2
theorem len_law_text_of : ∀ ds q ex, F_law_text_of ds q ex → ds.length = 3 := by
  rintro ds q ex ⟨n, g, a, m, rfl, _⟩
  rfl

def u_law_codes_2b_1 : US := (uAp 2 (xR2 yPlus (xR2 yPlus (xC (.int 32)) (xVar 4)) (xCB yInt1 (xCons (xOp yGt (xVar 4) (xC (.int 4))) xNil))))
def u_law_codes_2b : US := (uSeq (uAsg (xM1 ySIndex (xVar 1) (xVar 3)) (yNm 4))
  u_law_codes_2b_1)
def u_law_codes_3 : US := (uRetV 2)
def u_law_codes_2 : US := (uSeq (uFor (xSeq (xVar 0)) (yNm 3)
  u_law_codes_2b)
  u_law_codes_3)
def u_law_codes_1 : US := (uSeq (uAsg (xLst xNil) (yNm 2))
  u_law_codes_2)
def u_law_codes : US := (uSeq (uAsg (xCall F_law_signs xNil) (yNm 1))
  u_law_codes_1)
def F_law_codes : Fn := fun ds q _ => ∃ cs : List Nat, ds = [.str ⟨cs.toArray⟩] ∧ cs.length ≤ 100000 ∧ (∀ c ∈ cs, okC ((c : Nat) : Int) = true) ∧ q (.nw ((codI cs).map .int))
theorem codI_snoc (cs : List Nat) (c : Nat) : codI (cs ++ [c]) = codI cs ++ [((c : Nat) : Int)] := by
  unfold codI
  rw [List.map_append]
  rfl
theorem run_law_codes : ∀ ds q ex, F_law_codes ds q ex → u_law_codes (enV q ex) (en0 5 ds) := by
  rintro ds q ex ⟨cs, rfl, hz, hc, hq⟩
  refine ⟨rfl, rfl, rfl, rfl, rfl, rfl, ?_⟩
  refine for_map (xs := cs) (G := fun c => .str ⟨#[c]⟩) (fun i e => ∃ s3 s4 : Sl, e = [.fz (.str ⟨cs.toArray⟩), .fz (.str signsZ), .ow ((codI (cs.take i)).map .int), s3, s4]) ⟨_, _, rfl⟩ ?_ ?_
  · rintro i c e hi ⟨s3, s4, rfl⟩
    have hi2 := get_lt hi
    obtain ⟨k, rest, h1, h2⟩ := signsZ_at (hc c (List.mem_of_getElem? hi))
    refine ⟨⟨_, rfl⟩, k, rest, h1, rfl, ⟨rfl, ?_⟩, ?_⟩
    · rw [List.length_map, codI_len, List.length_take]
      exact szl (by omega)
    · show ∃ s3 s4 : Sl, [_, _, Sl.ow ((codI (cs.take i)).map PyData.int ++ [PyData.int (32 + (k : Nat) + (if decide ((4 : Int) < (k : Nat)) = true then 1 else 0))]), _, _] = _
      rw [h2, take_snoc hi, codI_snoc, List.map_append]
      exact ⟨_, _, rfl⟩
  · rintro e ⟨s3, s4, rfl⟩
    rw [List.take_length]
    exact hq
theorem len_law_codes : ∀ ds q ex, F_law_codes ds q ex → ds.length = 1 := by
  rintro ds q ex ⟨cs, rfl, _⟩
  rfl

def u_law_text_bytes : US := (uRet (xCall F_law_bytes_bytes (xCons (xCall F_law_codes (xCons (xVar 0) xNil)) xNil)))
def F_law_text_bytes : Fn := fun ds q _ => ∃ cs : List Nat, ds = [.str ⟨cs.toArray⟩] ∧ cs.length ≤ 100000 ∧ (∀ c ∈ cs, okC ((c : Nat) : Int) = true) ∧ q (.nw ((wrB (codI cs)).map .int))
theorem run_law_text_bytes : ∀ ds q ex, F_law_text_bytes ds q ex → u_law_text_bytes (enV q ex) (en0 1 ds) := by
  rintro ds q ex ⟨cs, rfl, hz, hc, hq⟩
  exact ⟨cs, rfl, hz, hc, rfl, codI cs, rfl, by rw [codI_len]; omega, rfl, rfl, hq⟩
theorem len_law_text_bytes : ∀ ds q ex, F_law_text_bytes ds q ex → ds.length = 1 := by
  rintro ds q ex ⟨cs, rfl, _⟩
  rfl

def u_law_made_3b : US := (uRet (xCall F_law_bytes_bytes (xCons (xLc (xRng yRng1 (xCons (xOp yMod (xIx (xVar 0) (xC (.int 2))) (xC (.int 12))) xNil)) (yNm 2) xYes (xOp yMod (xIx (xVar 0) (xR2 yPlus (xC (.int 4)) (xVar 2))) (xC (.int 256))) [2]) xNil)))
def u_law_made_4 : US := (uRet (xCall F_law_text_bytes (xCons (xCall F_law_text_of (xCons (xVar 0) (xCons (xC (.int 3)) (xCons (xC (.int 12)) xNil)))) xNil)))
def u_law_made_2b : US := (uRet (xCall F_law_integers_bytes (xCons (xLc (xRng yRng1 (xCons (xOp yMod (xIx (xVar 0) (xC (.int 2))) (xC (.int 6))) xNil)) (yNm 2) xYes (xCall F_law_signed (xCons (xVar 0) (xCons (xR2 yPlus (xC (.int 3)) (xVar 2)) xNil))) [2]) xNil)))
def u_law_made_3 : US := (uSeq (uIf (xB (xOp yEqM (xVar 1) (xC (.int 3))))
  u_law_made_3b
  uNx)
  u_law_made_4)
def u_law_made_1b : US := (uRet (xCall F_law_integer_bytes (xCons (xCall F_law_signed (xCons (xVar 0) (xCons (xC (.int 3)) xNil))) xNil)))
def u_law_made_2 : US := (uSeq (uIf (xB (xOp yEqM (xVar 1) (xC (.int 2))))
  u_law_made_2b
  uNx)
  u_law_made_3)
def u_law_made_0b : US := (uRet (xCall F_law_number_bytes (xCons (xCall F_law_great (xCons (xVar 0) (xCons (xC (.int 3)) xNil))) xNil)))
def u_law_made_1 : US := (uSeq (uIf (xB (xOp yEqM (xVar 1) (xC (.int 1))))
  u_law_made_1b
  uNx)
  u_law_made_2)
def u_law_made : US := (uSeq (uIf (xB (xOp yEqM (xVar 1) (xC (.int 0))))
  u_law_made_0b
  uNx)
  u_law_made_1)
/-! ### the readings on what stands at the index -/
def pN (r : List Int) : Option (Int × Nat) := (rG r).bind fun p => if 1 < p.2 ∧ r.getD (p.2 - 1) 0 = 0 then none else some p
def pI : Nat → List Int → Option (List Int × Nat)
  | 0, _ => some ([], 0)
  | n + 1, r => (pN r).bind fun p => (pI n (r.drop p.2)).map fun x => (unzz p.1 :: x.1, p.2 + x.2)
def cntP (it : Nat → List Int → Option (List Int × Nat)) (r : List Int) : Option (List Int × Nat) := (pN r).bind fun p => if (r.length : Int) - p.2 < p.1 then none else (it p.1.toNat (r.drop p.2)).map fun x => (x.1, p.2 + x.2)
def txW (fs : List Int) : Option PyData := if fs.all okC = true then some (.str ⟨(fs.map Int.toNat).toArray⟩) else none
def sfW (w : Int) (r : List Int) : Option (PyData × Nat) :=
  if w = 0 then (pN r).map fun p => (.int p.1, p.2)
  else if w = 1 then (pN r).map fun p => (.int (unzz p.1), p.2)
  else if w = 2 then (cntP pI r).map fun p => (.list (p.1.map .int), p.2)
  else if w = 3 then (cntP rdB r).map fun p => (.list (p.1.map .int), p.2)
  else (cntP rdB r).bind fun p => (txW p.1).map fun x => (x, p.2)
theorem pN_pos {r : List Int} {p : Int × Nat} (h : pN r = some p) : 1 ≤ p.2 ∧ p.2 ≤ r.length := by
  unfold pN at h
  cases hr : rG r with
  | none =>
    rw [hr] at h
    cases h
  | some z =>
    rw [hr] at h
    have h' : (if 1 < z.2 ∧ r.getD (z.2 - 1) 0 = 0 then none else some z) = some p := h
    split at h'
    · cases h'
    · cases h'
      exact rG_pos (n := p.1) (c := p.2) hr
theorem readN_eq (f r : List Int) : readN (f ++ r) (f.length : Int) = (pN r).map fun p => (p.1, (f.length : Int) + p.2) := by
  unfold pN
  cases hr : rG r with
  | none =>
    unfold readN
    rw [if_neg (by omega), show ((f.length : Nat) : Int).toNat = f.length by omega, List.drop_left, hr]
    rfl
  | some p =>
    rw [readN_at (n := p.1) (c := p.2) hr]
    show _ = (if 1 < p.2 ∧ r.getD (p.2 - 1) 0 = 0 then none else some p).map _
    split <;> rfl
theorem rdI_eq : ∀ (n : Nat) (f r : List Int), rdI (f ++ r) n (f.length : Int) = (pI n r).map fun p => (p.1, (f.length : Int) + p.2)
  | 0, f, r => by
    show some ([], (f.length : Int)) = some ([], (f.length : Int) + ((0 : Nat) : Int))
    congr 2
  | n + 1, f, r => by
    show (readN (f ++ r) (f.length : Int)).bind _ = ((pN r).bind _).map _
    rw [readN_eq]
    cases hp : pN r with
    | none => rfl
    | some p =>
      have hc := pN_pos hp
      have hl : (f ++ r.take p.2).length = f.length + p.2 := by
        rw [List.length_append, List.length_take]
        omega
      have ih := rdI_eq n (f ++ r.take p.2) (r.drop p.2)
      rw [List.append_assoc, List.take_append_drop, hl] at ih
      show (rdI (f ++ r) n ((f.length : Int) + (p.2 : Nat))).map _ = ((pI n (r.drop p.2)).map _).map _
      have e : ((f.length + p.2 : Nat) : Int) = (f.length : Int) + (p.2 : Nat) := by omega
      rw [e] at ih
      rw [ih]
      cases pI n (r.drop p.2) with
      | none => rfl
      | some x =>
        show some (unzz p.1 :: x.1, (f.length : Int) + (p.2 : Nat) + (x.2 : Nat)) = some (unzz p.1 :: x.1, (f.length : Int) + ((p.2 + x.2 : Nat) : Int))
        congr 2
        omega
theorem readC_eq (f r : List Int) : readC (f ++ r) (f.length : Int) = (pN r).bind fun p => if (r.length : Int) - p.2 < p.1 then none else some (p.1, (f.length : Int) + p.2) := by
  unfold readC
  rw [readN_eq]
  cases pN r with
  | none => rfl
  | some p =>
    show (if ((f ++ r).length : Int) - ((f.length : Int) + (p.2 : Nat)) < p.1 then none else some (p.1, (f.length : Int) + (p.2 : Nat))) = if (r.length : Int) - (p.2 : Nat) < p.1 then none else _
    have e : ((f ++ r).length : Int) - ((f.length : Int) + (p.2 : Nat)) = (r.length : Int) - (p.2 : Nat) := by
      rw [List.length_append]
      omega
    rw [e]
theorem readI_eq (f r : List Int) : readI (f ++ r) (f.length : Int) = (cntP pI r).map fun p => (p.1, (f.length : Int) + p.2) := by
  unfold readI cntP
  rw [readC_eq]
  cases hp : pN r with
  | none => rfl
  | some p =>
    have hc := pN_pos hp
    show (if (r.length : Int) - (p.2 : Nat) < p.1 then none else some (p.1, (f.length : Int) + (p.2 : Nat))).bind _ = (if (r.length : Int) - (p.2 : Nat) < p.1 then none else _).map _
    split
    · rfl
    · have hl : (f ++ r.take p.2).length = f.length + p.2 := by
        rw [List.length_append, List.length_take]
        omega
      have ih := rdI_eq p.1.toNat (f ++ r.take p.2) (r.drop p.2)
      rw [List.append_assoc, List.take_append_drop, hl] at ih
      have e : ((f.length + p.2 : Nat) : Int) = (f.length : Int) + (p.2 : Nat) := by omega
      rw [e] at ih
      show rdI (f ++ r) p.1.toNat ((f.length : Int) + (p.2 : Nat)) = ((pI p.1.toNat (r.drop p.2)).map _).map _
      rw [ih]
      cases pI p.1.toNat (r.drop p.2) with
      | none => rfl
      | some x =>
        show some (x.1, (f.length : Int) + (p.2 : Nat) + (x.2 : Nat)) = some (x.1, (f.length : Int) + ((p.2 + x.2 : Nat) : Int))
        congr 2
        omega
theorem readB_eq (f r : List Int) : readB (f ++ r) (f.length : Int) = (cntP rdB r).map fun p => (p.1, (f.length : Int) + p.2) := by
  unfold readB cntP
  rw [readC_eq]
  cases hp : pN r with
  | none => rfl
  | some p =>
    show (if (r.length : Int) - (p.2 : Nat) < p.1 then none else some (p.1, (f.length : Int) + (p.2 : Nat))).bind _ = (if (r.length : Int) - (p.2 : Nat) < p.1 then none else _).map _
    split
    · rfl
    · have e : (f ++ r).drop ((f.length : Int) + (p.2 : Nat)).toNat = r.drop p.2 := by
        rw [show ((f.length : Int) + (p.2 : Nat)).toNat = f.length + p.2 by omega, ← List.drop_drop, List.drop_left]
      show (rdB p.1.toNat ((f ++ r).drop ((f.length : Int) + (p.2 : Nat)).toNat)).map _ = ((rdB p.1.toNat (r.drop p.2)).map _).map _
      rw [e]
      cases rdB p.1.toNat (r.drop p.2) with
      | none => rfl
      | some x =>
        show some (x.1, (f.length : Int) + (p.2 : Nat) + (x.2 : Nat)) = some (x.1, (f.length : Int) + ((p.2 + x.2 : Nat) : Int))
        congr 2
        omega
/-! ### a reading looks at the bytes that it takes alone -/
def Loc {α : Type} (P : List Int → Option (α × Nat)) : Prop := ∀ r x c, P r = some (x, c) → c ≤ r.length ∧ (∀ v ∈ r.take c, v ≤ 249) ∧ ∀ r', r'.take c = r.take c → P r' = some (x, c)
theorem loc_rG : Loc rG := by
  intro r
  induction r with
  | nil => intro x c h; cases h
  | cons v vs ih =>
    intro x c h
    unfold rG at h
    by_cases h1 : 249 < v
    · rw [if_pos h1] at h
      cases h
    rw [if_neg h1] at h
    have back : ∀ {r' : List Int} {k : Nat}, r'.take (k + 1) = (v :: vs).take (k + 1) → ∃ t, r' = v :: t ∧ t.take k = vs.take k := fun {r' k} e => by
      cases r' with
      | nil => cases e
      | cons a t =>
        have e' : a :: t.take k = v :: vs.take k := e
        injection e' with e1 e2
        exact ⟨t, by rw [e1], e2⟩
    by_cases h2 : 125 ≤ v
    · rw [if_pos h2] at h
      cases hr : rG vs with
      | none =>
        rw [hr] at h
        cases h
      | some p =>
        rw [hr] at h
        cases h
        obtain ⟨i1, i2, i3⟩ := ih p.1 p.2 hr
        refine ⟨by rw [List.length_cons]; omega, fun u hu => ?_, fun r' e => ?_⟩
        · have hu' : u ∈ v :: vs.take p.2 := hu
          rcases List.mem_cons.mp hu' with rfl | hu'
          · omega
          · exact i2 u hu'
        · obtain ⟨t, rfl, e2⟩ := back e
          exact rG_step h2 (by omega) (i3 t e2)
    · rw [if_neg h2] at h
      cases h
      refine ⟨by rw [List.length_cons]; omega, fun u hu => ?_, fun r' e => ?_⟩
      · have hu' : u ∈ [v] := hu
        rw [List.mem_singleton.mp hu']
        omega
      · obtain ⟨t, rfl, e2⟩ := back (k := 0) e
        exact rG_one (by omega)
theorem getD_take {r : List Int} {c k : Nat} (h : k < c) : r.getD k 0 = (r.take c).getD k 0 := by
  rw [List.getD_eq_getElem?_getD, List.getD_eq_getElem?_getD, List.getElem?_take, if_pos h]
theorem loc_pN : Loc pN := by
  intro r x c h
  have hp := pN_pos h
  unfold pN at h
  cases hr : rG r with
  | none =>
    rw [hr] at h
    cases h
  | some z =>
    rw [hr] at h
    have h' : (if 1 < z.2 ∧ r.getD (z.2 - 1) 0 = 0 then none else some z) = some (x, c) := h
    by_cases hz : 1 < z.2 ∧ r.getD (z.2 - 1) 0 = 0
    · rw [if_pos hz] at h'
      cases h'
    rw [if_neg hz] at h'
    cases h'
    obtain ⟨i1, i2, i3⟩ := loc_rG r x c hr
    refine ⟨i1, i2, fun r' e => ?_⟩
    unfold pN
    rw [i3 r' e]
    show (if 1 < c ∧ r'.getD (c - 1) 0 = 0 then none else some (x, c)) = some (x, c)
    rw [if_neg]
    have hp : 1 ≤ c := hp.1
    rwa [getD_take (show c - 1 < c by omega), e, ← getD_take (show c - 1 < c by omega)]
theorem take_add {r r' : List Int} {a b : Nat} (h : r'.take (a + b) = r.take (a + b)) : r'.take a = r.take a ∧ (r'.drop a).take b = (r.drop a).take b := by
  refine ⟨?_, ?_⟩
  · have := congrArg (List.take a) h
    rwa [List.take_take, List.take_take, Nat.min_eq_left (Nat.le_add_right _ _)] at this
  · have := congrArg (List.drop a) h
    rwa [List.drop_take, List.drop_take, Nat.add_sub_cancel_left] at this
theorem Loc.seq {α β γ : Type} {P : List Int → Option (α × Nat)} {R : α → List Int → Option (β × Nat)} (hP : Loc P) (hR : ∀ a, Loc (R a)) (g : α → β → γ) : Loc fun r => (P r).bind fun p => (R p.1 (r.drop p.2)).map fun x => (g p.1 x.1, p.2 + x.2) := by
  intro r x c h
  dsimp only at h
  cases hp : P r with
  | none =>
    rw [hp] at h
    cases h
  | some p =>
    rw [hp] at h
    have h' : ((R p.1 (r.drop p.2)).map fun x => (g p.1 x.1, p.2 + x.2)) = some (x, c) := h
    cases hr : R p.1 (r.drop p.2) with
    | none =>
      rw [hr] at h'
      cases h'
    | some y =>
      rw [hr] at h'
      cases h'
      obtain ⟨i1, i2, i3⟩ := hP r p.1 p.2 hp
      obtain ⟨j1, j2, j3⟩ := hR p.1 _ y.1 y.2 hr
      rw [List.length_drop] at j1
      refine ⟨by omega, fun v hv => ?_, fun r' e => ?_⟩
      · rw [List.take_add] at hv
        exact (List.mem_append.mp hv).elim (i2 v) (j2 v)
      · obtain ⟨e1, e2⟩ := take_add e
        dsimp only
        rw [i3 r' e1]
        show (R p.1 (r'.drop p.2)).map _ = _
        rw [j3 _ e2]
        rfl
theorem Loc.map {α β : Type} {P : List Int → Option (α × Nat)} (hP : Loc P) (t : α → Option β) : Loc fun r => (P r).bind fun p => (t p.1).map fun x => (x, p.2) := by
  intro r x c h
  dsimp only at h
  cases hp : P r with
  | none =>
    rw [hp] at h
    cases h
  | some p =>
    rw [hp] at h
    have h' : ((t p.1).map fun x => (x, p.2)) = some (x, c) := h
    cases ht : t p.1 with
    | none =>
      rw [ht] at h'
      cases h'
    | some y =>
      rw [ht] at h'
      cases h'
      obtain ⟨i1, i2, i3⟩ := hP r p.1 p.2 hp
      refine ⟨i1, i2, fun r' e => ?_⟩
      dsimp only
      rw [i3 r' e]
      show (t p.1).map _ = _
      rw [ht]
      rfl
theorem loc_nil {α : Type} (a : α) : Loc fun _ => some (a, 0) := by
  intro r x c h
  cases h
  exact ⟨Nat.zero_le _, fun v hv => (by cases hv), fun _ _ => rfl⟩
theorem loc_pI : ∀ n, Loc (pI n)
  | 0 => loc_nil _
  | n + 1 => loc_pN.seq (fun _ => loc_pI n) fun a b => unzz a :: b
theorem pI_ge : ∀ {n : Nat} {r : List Int} {p : List Int × Nat}, pI n r = some p → n ≤ p.2
  | 0, _, _, _ => Nat.zero_le _
  | n + 1, r, p, h => by
    have h : ((pN r).bind fun p => (pI n (r.drop p.2)).map fun x => (unzz p.1 :: x.1, p.2 + x.2)) = some p := h
    cases hp : pN r with
    | none =>
      rw [hp] at h
      cases h
    | some q =>
      rw [hp] at h
      have h' : ((pI n (r.drop q.2)).map fun x => (unzz q.1 :: x.1, q.2 + x.2)) = some p := h
      have := pN_pos hp
      cases hr : pI n (r.drop q.2) with
      | none =>
        rw [hr] at h'
        cases h'
      | some y =>
        rw [hr] at h'
        cases h'
        have := pI_ge hr
        show n + 1 ≤ q.2 + y.2
        omega
/-- one byte -/
def pB1 : List Int → Option (Int × Nat)
  | [] => none
  | v :: vs => if 249 < v then none else if v = 249 then (match vs with
    | [] => none
    | m :: _ => if 6 < m then none else some (249 + m, 2)) else some (v, 1)
theorem rdB_succ (n : Nat) : ∀ r, rdB (n + 1) r = (pB1 r).bind fun p => (rdB n (r.drop p.2)).map fun x => (p.1 :: x.1, p.2 + x.2)
  | [] => rfl
  | v :: vs => by
    show (if 249 < v then none else if v = 249 then (match vs with
      | [] => none
      | m :: ws => if 6 < m then none else (rdB n ws).map fun p => ((249 + m) :: p.1, p.2 + 2)) else (rdB n vs).map fun p => (v :: p.1, p.2 + 1)) = (if 249 < v then none else if v = 249 then (match vs with
      | [] => none
      | m :: _ => if 6 < m then none else some (249 + m, 2)) else some (v, 1)).bind fun p => (rdB n ((v :: vs).drop p.2)).map fun x => (p.1 :: x.1, p.2 + x.2)
    by_cases h1 : 249 < v
    · rw [if_pos h1, if_pos h1]
      rfl
    rw [if_neg h1, if_neg h1]
    by_cases h2 : v = 249
    · rw [if_pos h2, if_pos h2]
      cases vs with
      | nil => rfl
      | cons m ws =>
        show (if 6 < m then none else _) = (if 6 < m then none else some (249 + m, 2)).bind _
        split
        · rfl
        · show _ = (rdB n ws).map fun x => ((249 + m) :: x.1, 2 + x.2)
          congr 1
          funext x
          rw [Nat.add_comm]
    · rw [if_neg h2, if_neg h2]
      show _ = (rdB n vs).map fun x => (v :: x.1, 1 + x.2)
      congr 1
      funext x
      rw [Nat.add_comm]
theorem pB1_cons (v : Int) (vs : List Int) : pB1 (v :: vs) = if 249 < v then none else if v = 249 then (match vs with
    | [] => none
    | m :: _ => if 6 < m then none else some (249 + m, 2)) else some (v, 1) := rfl
theorem pB1_pos : ∀ {r : List Int} {q : Int × Nat}, pB1 r = some q → 1 ≤ q.2
  | [], _, h => by cases h
  | v :: vs, q, h => by
    rw [pB1_cons] at h
    by_cases h1 : 249 < v
    · rw [if_pos h1] at h
      cases h
    rw [if_neg h1] at h
    by_cases h2 : v = 249
    · rw [if_pos h2] at h
      cases vs with
      | nil => cases h
      | cons m ws =>
        have h' : (if 6 < m then none else some (249 + m, 2)) = some q := h
        by_cases h3 : 6 < m
        · rw [if_pos h3] at h'
          cases h'
        rw [if_neg h3] at h'
        cases h'
        exact Nat.le_succ 1
    · rw [if_neg h2] at h
      cases h
      exact Nat.le_refl _
theorem loc_pB1 : Loc pB1 := by
  intro r x c h
  cases r with
  | nil => cases h
  | cons v vs =>
    rw [pB1_cons] at h
    by_cases h1 : 249 < v
    · rw [if_pos h1] at h
      cases h
    rw [if_neg h1] at h
    by_cases h2 : v = 249
    · rw [if_pos h2] at h
      cases vs with
      | nil => cases h
      | cons m ws =>
        have h' : (if 6 < m then none else some (249 + m, 2)) = some (x, c) := h
        by_cases h3 : 6 < m
        · rw [if_pos h3] at h'
          cases h'
        rw [if_neg h3] at h'
        cases h'
        refine ⟨by simp, fun u hu => ?_, fun r' e => ?_⟩
        · have hu' : u ∈ [v, m] := hu
          simp only [List.mem_cons, List.not_mem_nil, or_false] at hu'
          omega
        · have e' : r'.take 2 = [v, m] := e
          match r', e' with
          | a :: b :: t, e' =>
            have e3 : [a, b] = [v, m] := e'
            injection e3 with e1 e2
            injection e2 with e2
            subst e1 e2
            show (if 249 < a then none else if a = 249 then (if 6 < b then none else some (249 + b, 2)) else _) = _
            rw [if_neg h1, if_pos h2, if_neg h3]
    · rw [if_neg h2] at h
      have hx : v = x ∧ 1 = c := by
        cases h
        exact ⟨rfl, rfl⟩
      obtain ⟨rfl, rfl⟩ := hx
      refine ⟨by simp, fun u hu => ?_, fun r' e => ?_⟩
      · have hu' : u ∈ [v] := hu
        rw [List.mem_singleton.mp hu']
        omega
      · have e' : r'.take 1 = [v] := e
        match r', e' with
        | a :: t, e' =>
          have e3 : [a] = [v] := e'
          injection e3 with e1
          rw [e1, pB1_cons, if_neg h1, if_neg h2]
theorem loc_rdB : ∀ n, Loc (rdB n)
  | 0 => loc_nil _
  | n + 1 => by
    have e : rdB (n + 1) = fun r => (pB1 r).bind fun p => (rdB n (r.drop p.2)).map fun x => (p.1 :: x.1, p.2 + x.2) := funext (rdB_succ n)
    rw [e]
    exact loc_pB1.seq (fun _ => loc_rdB n) fun a b => a :: b
theorem rdB_ge : ∀ {n : Nat} {r : List Int} {p : List Int × Nat}, rdB n r = some p → n ≤ p.2
  | 0, _, _, _ => Nat.zero_le _
  | n + 1, r, p, h => by
    rw [rdB_succ] at h
    cases hp : pB1 r with
    | none =>
      rw [hp] at h
      cases h
    | some q =>
      rw [hp] at h
      have h' : ((rdB n (r.drop q.2)).map fun x => (q.1 :: x.1, q.2 + x.2)) = some p := h
      have hq : 1 ≤ q.2 := pB1_pos hp
      cases hr : rdB n (r.drop q.2) with
      | none =>
        rw [hr] at h'
        cases h'
      | some y =>
        rw [hr] at h'
        cases h'
        have := rdB_ge hr
        show n + 1 ≤ q.2 + y.2
        omega
theorem loc_cnt {it : Nat → List Int → Option (List Int × Nat)} (h1 : ∀ n, Loc (it n)) (h2 : ∀ {n : Nat} {r : List Int} {p : List Int × Nat}, it n r = some p → n ≤ p.2) : Loc (cntP it) := by
  intro r x c h
  have hS := loc_pN.seq (R := fun a => it a.toNat) (fun a => h1 a.toNat) fun _ b => b
  unfold cntP at h
  cases hp : pN r with
  | none =>
    rw [hp] at h
    cases h
  | some p =>
    rw [hp] at h
    have h' : (if (r.length : Int) - p.2 < p.1 then none else (it p.1.toNat (r.drop p.2)).map fun x => (x.1, p.2 + x.2)) = some (x, c) := h
    split at h'
    · cases h'
    cases hr : it p.1.toNat (r.drop p.2) with
    | none =>
      rw [hr] at h'
      cases h'
    | some y =>
      rw [hr] at h'
      cases h'
      have hgo := h2 hr
      obtain ⟨i1, i2, i3⟩ := hS r y.1 (p.2 + y.2) (by
        show (pN r).bind _ = _
        rw [hp]
        show (it p.1.toNat (r.drop p.2)).map _ = _
        rw [hr]
        rfl)
      refine ⟨i1, i2, fun r' e => ?_⟩
      have e1 := (loc_pN r p.1 p.2 hp).2.2 r' (take_add e).1
      have e2 := i3 r' e
      have hl : p.2 + y.2 ≤ r'.length := by
        have := congrArg List.length e
        rw [List.length_take, List.length_take] at this
        omega
      unfold cntP
      rw [e1]
      have e2' : (pN r').bind (fun p => (it p.1.toNat (r'.drop p.2)).map fun x => (x.1, p.2 + x.2)) = some (y.1, p.2 + y.2) := e2
      rw [e1] at e2'
      show (if (r'.length : Int) - p.2 < p.1 then none else (it p.1.toNat (r'.drop p.2)).map fun x => (x.1, p.2 + x.2)) = _
      rw [if_neg (by omega)]
      exact e2'
theorem loc_sfW (w : Int) : Loc (sfW w) := by
  have m : ∀ {P : List Int → Option (List Int × Nat)} (f : List Int → PyData), Loc P → Loc fun r => (P r).map fun p => (f p.1, p.2) := fun {P} f h => by
    have e : (fun r => (P r).map fun p => (f p.1, p.2)) = fun r => (P r).bind fun p => (some (f p.1)).map fun x => (x, p.2) := by
      funext r
      cases P r <;> rfl
    rw [e]
    exact h.map fun a => some (f a)
  have m1 : ∀ {P : List Int → Option (Int × Nat)} (f : Int → PyData), Loc P → Loc fun r => (P r).map fun p => (f p.1, p.2) := fun {P} f h => by
    have e : (fun r => (P r).map fun p => (f p.1, p.2)) = fun r => (P r).bind fun p => (some (f p.1)).map fun x => (x, p.2) := by
      funext r
      cases P r <;> rfl
    rw [e]
    exact h.map fun a => some (f a)
  unfold sfW
  by_cases h0 : w = 0
  · simp only [if_pos h0]
    exact m1 (fun n => .int n) loc_pN
  simp only [if_neg h0]
  by_cases h0 : w = 1
  · simp only [if_pos h0]
    exact m1 (fun n => .int (unzz n)) loc_pN
  simp only [if_neg h0]
  by_cases h0 : w = 2
  · simp only [if_pos h0]
    exact m (fun ns => .list (ns.map .int)) (loc_cnt loc_pI pI_ge)
  simp only [if_neg h0]
  by_cases h0 : w = 3
  · simp only [if_pos h0]
    exact m (fun ns => .list (ns.map .int)) (loc_cnt loc_rdB rdB_ge)
  simp only [if_neg h0]
  exact (loc_cnt loc_rdB rdB_ge).map txW
/-! ### what is made can be read -/
theorem pN_digs {n : Int} (h0 : 0 ≤ n) (back : List Int) : pN (digs n ++ back) = some (n, (digs n).length) := by
  have h := readN_ok (front := []) (back := back) h0
  rw [readN_eq] at h
  cases hp : pN (digs n ++ back) with
  | none =>
    rw [hp] at h
    cases h
  | some p =>
    rw [hp] at h
    have h' : some (p.1, (([] : List Int).length : Int) + (p.2 : Nat)) = some (n, (([] : List Int).length : Int) + ((digs n).length : Nat)) := h
    injection h' with h'
    injection h' with e1 e2
    have e3 : p.2 = (digs n).length := by omega
    exact congrArg some (Prod.ext e1 e3)
theorem pI_ok : ∀ (ns back : List Int), pI ns.length (itsI ns ++ back) = some (ns, (itsI ns).length)
  | [], back => rfl
  | n :: ns, back => by
    have e : itsI (n :: ns) = digs (zz n) ++ itsI ns := by
      rw [show n :: ns = [n] ++ ns from rfl, itsI_app, itsI_one]
    rw [e, List.append_assoc]
    show (pN (digs (zz n) ++ (itsI ns ++ back))).bind _ = _
    rw [pN_digs (zz_nn n)]
    show (pI ns.length ((digs (zz n) ++ (itsI ns ++ back)).drop (digs (zz n)).length)).map _ = _
    rw [List.drop_left, pI_ok ns back]
    show some (unzz (zz n) :: ns, _) = _
    rw [unzz_zz, List.length_append]
theorem cnt_wrI (ns back : List Int) : cntP pI (wrI ns ++ back) = some (ns, (wrI ns).length) := by
  have hge := itsI_ge ns
  unfold wrI cntP
  rw [List.append_assoc, pN_digs (by omega)]
  show (if ((digs ns.length ++ (itsI ns ++ back)).length : Int) - (digs ns.length).length < (ns.length : Int) then none else (pI ((ns.length : Nat) : Int).toNat ((digs ns.length ++ (itsI ns ++ back)).drop (digs ns.length).length)).map _) = _
  rw [if_neg (by rw [List.length_append, List.length_append]; omega), show ((ns.length : Nat) : Int).toNat = ns.length by omega, List.drop_left, pI_ok]
  show some (ns, _) = _
  rw [List.length_append]
theorem cnt_wrB {vs : List Int} (h : ∀ v ∈ vs, 0 ≤ v ∧ v < 256) (back : List Int) : cntP rdB (wrB vs ++ back) = some (vs, (wrB vs).length) := by
  have hr := readB_ok (front := []) (back := back) h
  rw [readB_eq] at hr
  cases hp : cntP rdB (wrB vs ++ back) with
  | none =>
    rw [hp] at hr
    cases hr
  | some p =>
    rw [hp] at hr
    have h' : some (p.1, (([] : List Int).length : Int) + (p.2 : Nat)) = some (vs, (([] : List Int).length : Int) + ((wrB vs).length : Nat)) := hr
    injection h' with h'
    injection h' with e1 e2
    have e3 : p.2 = (wrB vs).length := by omega
    exact congrArg some (Prod.ext e1 e3)
structure MadeW (w : Int) (V : List Int) : Prop where
  fst : ∃ m rest, V = digs m ++ rest ∧ 0 ≤ m
  len : V.length ≤ 100000
  nn : ∀ v ∈ V, 0 ≤ v
  ok : ∀ back, ∃ d, sfW w (V ++ back) = some (d, V.length)
theorem made0 {z : Int} (h0 : 0 ≤ z) (h1 : z < 10 ^ 29) : MadeW 0 (digs z) := ⟨⟨z, [], (List.append_nil _).symm, h0⟩, Nat.le_trans (digs_le 20 z h0 (by decide) (Int.lt_trans h1 (by decide))) (by decide), digs_nn z h0, fun back => ⟨.int z, by
  show (pN (digs z ++ back)).map _ = _
  rw [pN_digs h0]
  rfl⟩⟩
theorem made1 {z : Int} (h0 : -(10 ^ 29) < z) (h1 : z < 10 ^ 29) : MadeW 1 (digs (zz z)) := ⟨⟨zz z, [], (List.append_nil _).symm, zz_nn z⟩, Nat.le_trans (digs_le 20 (zz z) (zz_nn z) (by decide) (zz_lt h0 h1)) (by decide), digs_nn _ (zz_nn z), fun back => ⟨.int (unzz (zz z)), by
  show (pN (digs (zz z) ++ back)).map _ = _
  rw [pN_digs (zz_nn z)]
  rfl⟩⟩
theorem made2 {ns : List Int} (hl : ns.length ≤ 1000) (h : ∀ n ∈ ns, -(10 ^ 29) < n ∧ n < 10 ^ 29) : MadeW 2 (wrI ns) := ⟨⟨ns.length, itsI ns, rfl, by omega⟩, Nat.le_trans (wrI_len hl h) (by decide), wrI_nn ns, fun back => ⟨.list (ns.map .int), by
  show (cntP pI (wrI ns ++ back)).map _ = _
  rw [cnt_wrI]
  rfl⟩⟩
theorem wrB_lenW {vs : List Int} (h : vs.length ≤ 200) : (wrB vs).length ≤ 100000 := by
  have h1 := escL_len vs
  have h2 := digs_le 20 vs.length (by omega) (by decide) (Int.lt_of_le_of_lt (show ((vs.length : Nat) : Int) ≤ 200 by omega) (by decide))
  unfold wrB
  rw [List.length_append]
  omega
theorem made3 {vs : List Int} (hl : vs.length ≤ 200) (h : ∀ v ∈ vs, 0 ≤ v ∧ v < 256) : MadeW 3 (wrB vs) := ⟨⟨vs.length, escL vs, rfl, by omega⟩, wrB_lenW hl, wrB_nn h, fun back => ⟨.list (vs.map .int), by
  show (cntP rdB (wrB vs ++ back)).map _ = _
  rw [cnt_wrB h]
  rfl⟩⟩
theorem sfW_text (w : Int) (h : 3 < w) (r : List Int) : sfW w r = (cntP rdB r).bind fun p => (txW p.1).map fun x => (x, p.2) := by
  unfold sfW
  rw [if_neg (by omega), if_neg (by omega), if_neg (by omega), if_neg (by omega)]
theorem made4 {w : Int} (hw : 3 < w) {vs : List Int} (hl : vs.length ≤ 200) (h : ∀ v ∈ vs, 0 ≤ v ∧ v < 256) (ho : vs.all okC = true) : MadeW w (wrB vs) := ⟨⟨vs.length, escL vs, rfl, by omega⟩, wrB_lenW hl, wrB_nn h, fun back => ⟨.str ⟨(vs.map Int.toNat).toArray⟩, by
  rw [sfW_text w hw, cnt_wrB h]
  show (if vs.all okC = true then some _ else none : Option PyData).map _ = _
  rw [if_pos ho]
  rfl⟩⟩
def F_law_made : Fn := fun ds q _ => ∃ (g : Nat → Int) (w : Int), ds = [.list (rowI 32 g), .int w] ∧ (∀ k, 0 ≤ g k ∧ g k < 4096) ∧ 0 ≤ w ∧ w < 5 ∧ ∀ V : List Int, MadeW w V → q (.nw (V.map .int))
theorem run_law_made : ∀ ds q ex, F_law_made ds q ex → u_law_made (enV q ex) (en0 3 ds) := by
  rintro ds q ex ⟨g, w, rfl, hg, w0, w5, hq⟩
  refine ifD (fun h => ?_) (fun h0 => ?_)
  · have h : w = 0 := h
    subst h
    exact ⟨32, g, 3, rfl, by decide, hg, by decide, by decide, fun z z0 z1 => ⟨rfl, z, rfl, z0, Int.lt_trans z1 (by decide), rfl, rfl, hq _ (made0 z0 z1)⟩⟩
  have h0 : ¬ w = 0 := h0
  refine ifD (fun h => ?_) (fun h1 => ?_)
  · have h : w = 1 := h
    subst h
    exact ⟨32, g, 3, rfl, by decide, hg, by decide, by decide, fun z z0 z1 => ⟨rfl, z, rfl, z0, z1, rfl, rfl, hq _ (made1 z0 z1)⟩⟩
  have h1 : ¬ w = 1 := h1
  refine ifD (fun h => ?_) (fun h2 => ?_)
  · have h : w = 2 := h
    subst h
    have g2 := hg 2
    refine ⟨_, rowI_at (by decide) (by decide), (by decide : (0 : Int) < 6), ?_⟩
    have hm : 0 ≤ g (2 : Int).toNat % 6 ∧ g (2 : Int).toNat % 6 < 6 := by
      show 0 ≤ g 2 % 6 ∧ g 2 % 6 < 6
      omega
    refine ⟨by omega, by omega, fun k acc => ∃ ns : List Int, ns.length = k ∧ (∀ n ∈ ns, -(10 ^ 29) < n ∧ n < 10 ^ 29) ∧ acc = ns.map PyData.int, ⟨[], rfl, (fun _ h => by cases h), rfl⟩, ?_, ?_⟩
    · rintro k d acc hd ⟨ns, e1, e2, rfl⟩
      obtain ⟨hk, rfl⟩ := rngD_get hd
      refine ⟨32, g, 3 + (0 + (k : Nat) * 1), rfl, by decide, hg, by omega, by omega, fun z z0 z1 => ⟨rfl, ⟨rfl, szl (by rw [List.length_map]; omega)⟩, ns ++ [z], by rw [List.length_append, e1]; rfl, fun n hn => ?_, by rw [List.map_append]; rfl⟩⟩
      rcases List.mem_append.mp hn with hn | hn
      · exact e2 n hn
      · rw [List.mem_singleton.mp hn]
        exact ⟨z0, z1⟩
    · rintro acc ⟨ns, e1, e2, rfl⟩
      rw [rngD_len] at e1
      exact ⟨.list (ns.map .int), ns, rfl, .inl rfl, by omega, e2, rfl, rfl, hq _ (made2 (by omega) e2)⟩
  have h2 : ¬ w = 2 := h2
  refine ifD (fun h => ?_) (fun h3 => ?_)
  · have h : w = 3 := h
    subst h
    have g2 := hg 2
    refine ⟨_, rowI_at (by decide) (by decide), (by decide : (0 : Int) < 12), ?_⟩
    have hm : 0 ≤ g (2 : Int).toNat % 12 ∧ g (2 : Int).toNat % 12 < 12 := by
      show 0 ≤ g 2 % 12 ∧ g 2 % 12 < 12
      omega
    refine ⟨by omega, by omega, fun k acc => ∃ ns : List Int, ns.length = k ∧ (∀ n ∈ ns, 0 ≤ n ∧ n < 256) ∧ acc = ns.map PyData.int, ⟨[], rfl, (fun _ h => by cases h), rfl⟩, ?_, ?_⟩
    · rintro k d acc hd ⟨ns, e1, e2, rfl⟩
      obtain ⟨hk, rfl⟩ := rngD_get hd
      refine ⟨_, rowI_at (i := 4 + (0 + (k : Nat) * 1)) (by omega) (by omega), (by decide : (0 : Int) < 256), ⟨rfl, szl (by rw [List.length_map]; omega)⟩, ns ++ [g (4 + (0 + (k : Nat) * 1) : Int).toNat % 256], by rw [List.length_append, e1]; rfl, fun n hn => ?_, by rw [List.map_append]; rfl⟩
      rcases List.mem_append.mp hn with hn | hn
      · exact e2 n hn
      · rw [List.mem_singleton.mp hn]
        omega
    · rintro acc ⟨ns, e1, e2, rfl⟩
      rw [rngD_len] at e1
      exact ⟨ns, rfl, by omega, rfl, rfl, hq _ (made3 (by omega) e2)⟩
  have h3 : ¬ w = 3 := h3
  refine ⟨32, g, 3, 12, rfl, by decide, hg, by decide, by decide, by decide, by decide, fun cs hcl hco => ⟨rfl, cs, rfl, by omega, hco, rfl, rfl, hq _ (made4 (by omega) ?_ ?_ ?_)⟩⟩
  · rw [codI_len]
    omega
  · intro v hv
    obtain ⟨c, hc, rfl⟩ := List.mem_map.mp hv
    have := hco c hc
    unfold okC at this
    simp only [Bool.or_eq_true, Bool.and_eq_true, decide_eq_true_eq] at this
    omega
  · exact List.all_eq_true.mpr fun v hv => by
      obtain ⟨c, hc, rfl⟩ := List.mem_map.mp hv
      exact hco c hc
theorem len_law_made : ∀ ds q ex, F_law_made ds q ex → ds.length = 2 := by
  rintro ds q ex ⟨g, w, rfl, _⟩
  rfl

def u_law_read_3b : US := (uRet (xCall F_read_bytes (xCons (xVar 1) (xCons (xVar 2) xNil))))
def u_law_read_4 : US := (uRet (xCall F_read_text (xCons (xVar 1) (xCons (xVar 2) xNil))))
def u_law_read_2b : US := (uRet (xCall F_read_integers (xCons (xVar 1) (xCons (xVar 2) xNil))))
def u_law_read_3 : US := (uSeq (uIf (xB (xOp yEqM (xVar 0) (xC (.int 3))))
  u_law_read_3b
  uNx)
  u_law_read_4)
def u_law_read_1b : US := (uRet (xCall F_read_integer (xCons (xVar 1) (xCons (xVar 2) xNil))))
def u_law_read_2 : US := (uSeq (uIf (xB (xOp yEqM (xVar 0) (xC (.int 2))))
  u_law_read_2b
  uNx)
  u_law_read_3)
def u_law_read_0b : US := (uRet (xCall F_read_number (xCons (xVar 1) (xCons (xVar 2) xNil))))
def u_law_read_1 : US := (uSeq (uIf (xB (xOp yEqM (xVar 0) (xC (.int 1))))
  u_law_read_1b
  uNx)
  u_law_read_2)
def u_law_read : US := (uSeq (uIf (xB (xOp yEqM (xVar 0) (xC (.int 0))))
  u_law_read_0b
  uNx)
  u_law_read_1)
/-- what a reading hands out -/
def rdW (w : Int) (vs : List Int) (i : Int) : Option (PyData × Int) :=
  if w = 0 then (readN vs i).map fun p => (.int p.1, p.2)
  else if w = 1 then (readN vs i).map fun p => (.int (unzz p.1), p.2)
  else if w = 2 then (readI vs i).map fun p => (.list (p.1.map .int), p.2)
  else if w = 3 then (readB vs i).map fun p => (.list (p.1.map .int), p.2)
  else (readB vs i).bind fun p => if p.1.all okC = true then some (.str ⟨(p.1.map Int.toNat).toArray⟩, p.2) else none
def F_law_read : Fn := fun ds q ex => ∃ (w : Int) (vs : List Int) (i : Int), ds = [.int w, .list (vs.map .int), .int i] ∧ (∀ v ∈ vs, 0 ≤ v) ∧ vs.length ≤ 1000000 ∧ (∀ d j, rdW w vs i = some (d, j) → q (.va (.tuple [d, .int j]))) ∧ (rdW w vs i = none → ex ⟨"Unreadable", [("index", .int i)]⟩)
theorem run_law_read : ∀ ds q ex, F_law_read ds q ex → u_law_read (enV q ex) (en0 3 ds) := by
  rintro ds q ex ⟨w, vs, i, rfl, h0, hz, hq, hx⟩
  unfold rdW at hq hx
  refine ifD (fun h => ?_) (fun h => ?_)
  · have h : w = 0 := h
    rw [if_pos h] at hq hx
    exact ⟨vs, i, rfl, h0, fun n j hr => ⟨rfl, rfl, hq _ _ (by rw [hr]; rfl)⟩, fun hr => ⟨rfl, hx (by rw [hr]; rfl)⟩⟩
  have h : ¬ w = 0 := h
  rw [if_neg h] at hq hx
  refine ifD (fun h => ?_) (fun h => ?_)
  · have h : w = 1 := h
    rw [if_pos h] at hq hx
    exact ⟨vs, i, rfl, h0, fun n j hr => ⟨rfl, rfl, hq _ _ (by rw [hr]; rfl)⟩, fun hr => ⟨rfl, hx (by rw [hr]; rfl)⟩⟩
  have h : ¬ w = 1 := h
  rw [if_neg h] at hq hx
  refine ifD (fun h => ?_) (fun h => ?_)
  · have h : w = 2 := h
    rw [if_pos h] at hq hx
    exact ⟨vs, i, rfl, h0, by omega, fun n j hr => ⟨rfl, rfl, hq _ _ (by rw [hr]; rfl)⟩, fun hr => ⟨rfl, hx (by rw [hr]; rfl)⟩⟩
  have h : ¬ w = 2 := h
  rw [if_neg h] at hq hx
  refine ifD (fun h => ?_) (fun h => ?_)
  · have h : w = 3 := h
    rw [if_pos h] at hq hx
    exact ⟨vs, i, rfl, h0, by omega, fun n j hr => ⟨rfl, rfl, hq _ _ (by rw [hr]; rfl)⟩, fun hr => ⟨rfl, hx (by rw [hr]; rfl)⟩⟩
  have h : ¬ w = 3 := h
  rw [if_neg h] at hq hx
  refine ⟨vs, i, rfl, h0, hz, fun fs j hr ho => ⟨rfl, rfl, hq _ _ ?_⟩, fun hr => ⟨rfl, hx ?_⟩⟩
  · rw [hr]
    show (if fs.all okC = true then _ else _) = _
    rw [if_pos ho]
  · rcases hr with hr | ⟨fs, j, hr, ho⟩
    · rw [hr]
      rfl
    · rw [hr]
      show (if fs.all okC = true then _ else _) = _
      rw [if_neg (by rw [ho]; decide)]
theorem len_law_read : ∀ ds q ex, F_law_read ds q ex → ds.length = 3 := by
  rintro ds q ex ⟨w, vs, i, rfl, _⟩
  rfl

def u_law_first_end_0b0b : US := (uRetV 1)
def u_law_first_end_0b : US := (uIf (xB (xOp yLt (xIx (xVar 0) (xVar 1)) (xC (.int 125))))
  u_law_first_end_0b0b
  uNx)
def u_law_first_end_1 : US := (uRet (xC (.int 0)))
def u_law_first_end : US := (uSeq (uFor (xRng yRng1 (xCons (xCB yLen (xCons (xVar 0) xNil)) xNil)) (yNm 1)
  u_law_first_end_0b)
  u_law_first_end_1)
def F_law_first_end : Fn := fun ds q _ => ∃ (n : Int) (rest : List Int), ds = [.list ((digs n ++ rest).map .int)] ∧ 0 ≤ n ∧ (digs n ++ rest).length ≤ 1000000 ∧ q (.va (.int (((digs n).length : Nat) - 1 : Int)))
theorem digs_at (n : Int) (h0 : 0 ≤ n) : ∀ k, k < (digs n).length → ((digs n).getD k 0 < 125 ↔ k = (digs n).length - 1) := by
  intro k hk
  by_cases h : n < 125
  · rw [digs_lt h] at hk ⊢
    have hk' : k < 1 := hk
    obtain rfl : k = 0 := by omega
    exact ⟨fun _ => rfl, fun _ => h⟩
  · have hp := digs_pos (n / 125)
    rw [digs_ge h] at hk ⊢
    cases k with
    | zero =>
      refine ⟨fun z => ?_, fun z => ?_⟩
      · have z' : 125 + n % 125 < 125 := z
        omega
      · have z' : 0 = (digs (n / 125)).length + 1 - 1 := z
        omega
    | succ k =>
      have hk' : k < (digs (n / 125)).length := by
        rw [List.length_cons] at hk
        omega
      have ih := digs_at (n / 125) (by omega) k hk'
      show (digs (n / 125)).getD k 0 < 125 ↔ k + 1 = (digs (n / 125)).length + 1 - 1
      rw [ih]
      omega
termination_by n.toNat
decreasing_by omega
theorem run_law_first_end : ∀ ds q ex, F_law_first_end ds q ex → u_law_first_end (enV q ex) (en0 2 ds) := by
  rintro ds q ex ⟨n, rest, rfl, h0, hz, hq⟩
  have hL : (((digs n ++ rest).map PyData.int).length : Int) = ((digs n ++ rest).length : Nat) := dLen
  have hp := digs_pos n
  refine ⟨by omega, by omega, ?_⟩
  refine for_n (fun k e => k < (digs n).length ∧ ∃ s1, e = [.fz (.list ((digs n ++ rest).map .int)), s1]) ⟨hp, _, rfl⟩ ?_ ?_
  · rintro k e hk ⟨h1, s1, rfl⟩
    have h2 : (digs n ++ rest).getD k 0 = (digs n).getD k 0 := by
      rw [List.getD_eq_getElem?_getD, List.getElem?_append_left h1, ← List.getD_eq_getElem?_getD]
    have ha := ints_at (ns := digs n ++ rest) (i := 0 + (k : Nat) * 1) (by omega) (by rw [List.length_append]; omega)
    have e1 : (0 + (k : Nat) * 1 : Int).toNat = k := by omega
    rw [e1, h2] at ha
    refine ⟨_, ha, ?_⟩
    have hd := digs_at n h0 k h1
    refine ifD (fun h => ?_) (fun h => ?_)
    · have h3 := hd.mp h
      have e2 : (0 + (k : Nat) * 1 : Int) = ((digs n).length : Nat) - 1 := by omega
      show q (.va (.int (0 + (k : Nat) * 1 : Int)))
      rw [e2]
      exact hq
    · have h3 : ¬ k = (digs n).length - 1 := fun z => h (hd.mpr z)
      exact ⟨by omega, _, rfl⟩
  · rintro e ⟨h1, s1, rfl⟩
    exfalso
    rw [List.length_append] at hL
    omega
theorem len_law_first_end : ∀ ds q ex, F_law_first_end ds q ex → ds.length = 1 := by
  rintro ds q ex ⟨n, rest, rfl, _⟩
  rfl

def u_law_9b : US := (uAsg (xCall F_law_read (xCons (xVar 2) (xCons (xR2 yPlus (xR2 yPlus (xVar 4) (xVar 3)) (xVar 6)) (xCons (xVar 5) xNil)))) (yNm 10))
def u_law_9x (a : Addr) (k : Value) (d : Option Addr) : US := (uRet (xAndV (xOp yLt (xVar 7) (xC (.int 6))) (xAndV (xCall F_law_is_number (xCons (xXf 11 a k d "Unreadable" "index") (xCons (xVar 5) xNil))) (xNotV (xIsX 11 a k d (isaL tI_InvalidValue))))))
def u_law_10 : US := (uRet (xAndV (xOp yEqM (xVar 7) (xC (.int 6))) (xAndV (xIsi "tuple" (xVar 10)) (xCall F_law_is_number (xCons (xIx (xVar 10) (xC (.int 1))) (xCons (xR2 yPlus (xCB yLen (xCons (xVar 4) xNil)) (xCB yLen (xCons (xVar 3) xNil))) xNil))))))
def u_law_8b_1 : US := (uAsg (xLst xNil) (yNm 6))
def u_law_8b : US := (uSeq (uAsg (xSl ySlice (xVar 3) xNo (xPart (xVar 8))) (yNm 3))
  u_law_8b_1)
def u_law_8e0b : US := (uPut 3 (xVar 8) (xR2 yPlus (xC (.int 250)) (xOp yMod (xIx (xVar 1) (xC (.int 17))) (xC (.int 6)))))
def u_law_8e0e0b_1 : US := (uAsg (xR2 yPlus (xR2 yPlus (xSl ySlice (xVar 3) xNo (xPart (xVar 9))) (xLst (xCons (xR2 yPlus (xIx (xVar 3) (xVar 9)) (xC (.int 125))) (xCons (xC (.int 0)) xNil)))) (xSl ySlice (xVar 3) (xPart (xR2 yPlus (xVar 9) (xC (.int 1)))) xNo)) (yNm 3))
def u_law_8e0e0b : US := (uSeq (uAsg (xCall F_law_first_end (xCons (xVar 3) xNil)) (yNm 9))
  u_law_8e0e0b_1)
def u_law_8e0e0e0b : US := (uAsg (xLst (xCons (xC (.int 1)) (xCons (xC (.int 249)) (xCons (xR2 yPlus (xC (.int 7)) (xOp yMod (xIx (xVar 1) (xC (.int 17))) (xC (.int 243)))) xNil)))) (yNm 3))
def u_law_8e0e0e0e0b : US := (uAsg (xCall F_law_bytes_bytes (xCons (xSl ySlice (xLst (xCons (xC (.int 65)) (xCons (xIx (xLst (xCons (xC (.int 37)) (xCons (xC (.int 31)) (xCons (xC (.int 127)) (xCons (xOp yMod (xIx (xVar 1) (xC (.int 17))) (xC (.int 32))) (xCons (xR2 yPlus (xC (.int 128)) (xOp yMod (xIx (xVar 1) (xC (.int 17))) (xC (.int 128)))) xNil)))))) (xOp yMod (xIx (xVar 1) (xC (.int 16))) (xC (.int 5)))) (xCons (xC (.int 66)) xNil)))) xNo (xPart (xR2 yPlus (xC (.int 2)) (xOp yMod (xIx (xVar 1) (xC (.int 15))) (xC (.int 2)))))) xNil)) (yNm 3))
def u_law_8e0e0e0e0e0b : US := (uAsg (xIx (xLst (xCons (xUn yNeg (xC (.int 1))) (xCons (xOp ySub (xUn yNeg (xC (.int 1))) (xOp yMod (xIx (xVar 1) (xC (.int 17))) (xC (.int 9)))) (xCons (xCB yLen (xCons (xR2 yPlus (xR2 yPlus (xVar 4) (xVar 3)) (xVar 6)) xNil)) (xCons (xR2 yPlus (xCB yLen (xCons (xR2 yPlus (xR2 yPlus (xVar 4) (xVar 3)) (xVar 6)) xNil)) (xOp yMod (xIx (xVar 1) (xC (.int 17))) (xC (.int 9)))) xNil))))) (xOp yMod (xIx (xVar 1) (xC (.int 16))) (xC (.int 4)))) (yNm 5))
def u_law_8e0e0e0e0e0e : US := (uAsg (xC (.int 6)) (yNm 7))
def u_law_8e0e0e0e0e : US := (uIf (xB (xOp yEqM (xVar 7) (xC (.int 5))))
  u_law_8e0e0e0e0e0b
  u_law_8e0e0e0e0e0e)
def u_law_8e0e0e0e : US := (uIf (xAnd (xB (xOp yEqM (xVar 7) (xC (.int 4)))) (xB (xOp yEqM (xVar 2) (xC (.int 4)))))
  u_law_8e0e0e0e0b
  u_law_8e0e0e0e0e)
def u_law_8e0e0e : US := (uIf (xAnd (xB (xOp yEqM (xVar 7) (xC (.int 3)))) (xB (xOp yGt (xVar 2) (xC (.int 2)))))
  u_law_8e0e0e0b
  u_law_8e0e0e0e)
def u_law_8e0e : US := (uIf (xB (xOp yEqM (xVar 7) (xC (.int 2))))
  u_law_8e0e0b
  u_law_8e0e0e)
def u_law_8e : US := (uIf (xB (xOp yEqM (xVar 7) (xC (.int 1))))
  u_law_8e0b
  u_law_8e0e)
def u_law_9 : US := (uSeq (uTryAs (isaL tI_Unreadable) 11 u_law_9b
  (fun a k d => (u_law_9x a k d)))
  u_law_10)
def u_law_8 : US := (uCut (uIf (xB (xOp yEqM (xVar 7) (xC (.int 0))))
  u_law_8b
  u_law_8e)
  u_law_9)
def u_law_7 : US := (uSeq (uAsg (xOp yMod (xIx (xVar 1) (xC (.int 19))) (xCB yLen (xCons (xVar 3) xNil))) (yNm 8))
  u_law_8)
def u_law_6 : US := (uSeq (uAsg (xOp yMod (xIx (xVar 1) (xC (.int 18))) (xC (.int 7))) (yNm 7))
  u_law_7)
def u_law_5 : US := (uSeq (uAsg (xLc (xRng yRng1 (xCons (xOp yMod (xOp yDiv (xIx (xVar 1) (xC (.int 1))) (xC (.int 4))) (xC (.int 4))) xNil)) (yNm 12) xYes (xOp yMod (xIx (xVar 1) (xR2 yPlus (xC (.int 24)) (xVar 12))) (xC (.int 256))) [12]) (yNm 6))
  u_law_6)
def u_law_4 : US := (uSeq (uAsg (xCB yLen (xCons (xVar 4) xNil)) (yNm 5))
  u_law_5)
def u_law_3 : US := (uSeq (uAsg (xLc (xRng yRng1 (xCons (xOp yMod (xIx (xVar 1) (xC (.int 1))) (xC (.int 4))) xNil)) (yNm 12) xYes (xOp yMod (xIx (xVar 1) (xR2 yPlus (xC (.int 20)) (xVar 12))) (xC (.int 250))) [12]) (yNm 4))
  u_law_4)
def u_law_2 : US := (uSeq (uAsg (xCall F_law_made (xCons (xVar 1) (xCons (xVar 2) xNil))) (yNm 3))
  u_law_3)
def u_law_1 : US := (uSeq (uFrz 1 (uAsg (xOp yMod (xIx (xVar 1) (xC (.int 0))) (xC (.int 5))) (yNm 2)))
  u_law_2)
def u_law : US := (uSeq (uAsg (xCall F_law_stream (xCons (xVar 0) (xCons (xC (.int 32)) xNil))) (yNm 1))
  u_law_1)
-- frz 2 _law_draws_here
def F_law : Fn := fun ds q _ => ∃ ns : List Int, ds = [scr ns] ∧ ns.length ≤ 63 ∧ q (.va (.bool true))
theorem len_law : ∀ ds q ex, F_law ds q ex → ds.length = 1 := by
  rintro ds q ex ⟨ns, rfl, _⟩
  rfl
theorem rdW_eq (w : Int) (f r : List Int) : rdW w (f ++ r) (f.length : Int) = (sfW w r).map fun p => (p.1, (f.length : Int) + p.2) := by
  unfold rdW sfW
  rw [readN_eq, readI_eq, readB_eq]
  split
  · cases pN r <;> rfl
  split
  · cases pN r <;> rfl
  split
  · cases cntP pI r <;> rfl
  split
  · cases cntP rdB r <;> rfl
  · cases cntP rdB r with
    | none => rfl
    | some p =>
      show (if p.1.all okC = true then _ else none) = ((if p.1.all okC = true then some _ else none : Option PyData).map _).map _
      split <;> rfl
/-! ### what may not be read -/
theorem bad_cut {w : Int} {V : List Int} (h : MadeW w V) {a : Nat} (ha : a < V.length) : sfW w (V.take a ++ []) = none := by
  rw [List.append_nil]
  cases hr : sfW w (V.take a) with
  | none => rfl
  | some p =>
    obtain ⟨i1, _, i3⟩ := loc_sfW w _ p.1 p.2 hr
    rw [List.length_take] at i1
    obtain ⟨d, hd⟩ := h.ok []
    rw [List.append_nil] at hd
    have h2 := i3 V (by rw [List.take_take, Nat.min_eq_left (by omega)])
    rw [hd] at h2
    injection h2 with h2
    injection h2 with _ h2
    omega
theorem bad_byte {w : Int} {V : List Int} (h : MadeW w V) {a : Nat} (ha : a < V.length) {b : Int} (hb : 249 < b) (back : List Int) : sfW w (V.set a b ++ back) = none := by
  cases hr : sfW w (V.set a b ++ back) with
  | none => rfl
  | some p =>
    obtain ⟨i1, i2, i3⟩ := loc_sfW w _ p.1 p.2 hr
    by_cases hc : a < p.2
    · have hm : b ∈ (V.set a b ++ back).take p.2 := by
        refine List.mem_iff_getElem?.mpr ⟨a, ?_⟩
        rw [List.getElem?_take, if_pos hc, List.getElem?_append_left (by rw [List.length_set]; exact ha), List.getElem?_set_self ha]
      have := i2 b hm
      omega
    · obtain ⟨d, hd⟩ := h.ok back
      have e : (V ++ back).take p.2 = (V.set a b ++ back).take p.2 := by
        apply List.ext_getElem?
        intro j
        rw [List.getElem?_take, List.getElem?_take]
        by_cases hj : j < p.2
        · rw [if_pos hj, if_pos hj]
          by_cases hv : j < V.length
          · rw [List.getElem?_append_left hv, List.getElem?_append_left (by rw [List.length_set]; exact hv), List.getElem?_set_ne (by omega)]
          · rw [List.getElem?_append_right (by omega), List.getElem?_append_right (by rw [List.length_set]; omega), List.length_set]
        · rw [if_neg hj, if_neg hj]
      have h2 := i3 (V ++ back) e
      rw [hd] at h2
      injection h2 with h2
      injection h2 with _ h2
      omega
theorem sfW_pN {r : List Int} (h : pN r = none) (w : Int) : sfW w r = none := by
  unfold sfW cntP
  rw [h]
  split
  · rfl
  split
  · rfl
  split
  · rfl
  split <;> rfl
theorem bad_zero {m : Int} (h0 : 0 ≤ m) (w : Int) (rest : List Int) : sfW w (digz m ++ rest) = none := by
  refine sfW_pN ?_ w
  obtain ⟨z, hz⟩ := rG_digz m h0 rest
  have hp := digs_pos m
  unfold pN
  rw [hz]
  show (if 1 < (digs m).length + 1 ∧ (digz m ++ rest).getD ((digs m).length + 1 - 1) 0 = 0 then none else some (z, (digs m).length + 1)) = none
  rw [if_pos]
  refine ⟨by omega, ?_⟩
  rw [Nat.add_sub_cancel, List.getD_eq_getElem?_getD, List.getElem?_append_left (by rw [digz_len]; omega), ← List.getD_eq_getElem?_getD, digz_last]
theorem bad_high {w : Int} (hw : 2 < w) {x : Int} (hx : 6 < x) (back : List Int) : sfW w ([1, 249, x] ++ back) = none := by
  have hr : cntP rdB ([1, 249, x] ++ back) = none := by
    show (if (([1, 249, x] ++ back).length : Int) - (1 : Nat) < 1 then none else (rdB 1 (249 :: x :: back)).map _) = none
    rw [rdB_succ]
    have e : pB1 (249 :: x :: back) = none := by
      rw [pB1_cons, if_neg (by decide), if_pos rfl]
      show (if 6 < x then none else _) = none
      rw [if_pos hx]
    rw [e]
    split <;> rfl
  unfold sfW
  rw [if_neg (by omega), if_neg (by omega), if_neg (by omega), hr]
  split <;> rfl
theorem bad_text {w : Int} (hw : 3 < w) {vs : List Int} (h : ∀ v ∈ vs, 0 ≤ v ∧ v < 256) (ho : vs.all okC = false) (back : List Int) : sfW w (wrB vs ++ back) = none := by
  rw [sfW_text w hw, cnt_wrB h]
  show (if vs.all okC = true then some _ else none : Option PyData).map _ = none
  rw [if_neg (by rw [ho]; decide)]
  rfl
theorem out_of {w : Int} {vs : List Int} {i : Int} (h : i < 0 ∨ (vs.length : Int) ≤ i) : rdW w vs i = none := by
  have hN : readN vs i = none := by
    unfold readN
    by_cases h0 : i < 0
    · rw [if_pos h0]
    · rw [if_neg h0, List.drop_eq_nil_of_le (by omega)]
      rfl
  unfold rdW readI readB readC
  rw [hN]
  split
  · rfl
  split
  · rfl
  split
  · rfl
  split <;> rfl
theorem digz_cut (m : Int) (rest : List Int) : (digs m ++ rest).take ((digs m).length - 1) ++ [(digs m ++ rest).getD ((digs m).length - 1) 0 + 125, 0] ++ (digs m ++ rest).drop ((digs m).length - 1 + 1) = digz m ++ rest := by
  have hp := digs_pos m
  have e1 : (digs m ++ rest).take ((digs m).length - 1) = (digs m).dropLast := by
    rw [List.take_append_of_le_length (by omega), List.dropLast_eq_take]
  have e2 : (digs m ++ rest).getD ((digs m).length - 1) 0 = (digs m).getD ((digs m).length - 1) 0 := by
    rw [List.getD_eq_getElem?_getD, List.getElem?_append_left (by omega), ← List.getD_eq_getElem?_getD]
  have e3 : (digs m ++ rest).drop ((digs m).length - 1 + 1) = rest := by
    rw [show (digs m).length - 1 + 1 = (digs m).length by omega, List.drop_left]
  rw [e1, e2, e3]
  rfl
/-! ### the law -/
theorem law_9 {q : Rs → Prop} {ex : Xk} (hq : q (.va (.bool true))) {w : Int} {front V back : List Int} {idx t : Int} (hn : ∀ v ∈ front ++ (V ++ back), 0 ≤ v) (hl : (front ++ (V ++ back)).length ≤ 1000000)
    (hd : (t < 6 ∧ rdW w (front ++ (V ++ back)) idx = none) ∨ (t = 6 ∧ ∃ d, rdW w (front ++ (V ++ back)) idx = some (d, (front.length : Int) + (V.length : Nat)))) (s0 s1 s8 s9 s10 s12 : Sl) :
    u_law_9 (enV q ex) [s0, s1, .fz (.int w), .ow (V.map .int), .ow (front.map .int), .fz (.int idx), .ow (back.map .int), .fz (.int t), s8, s9, s10, .no, s12] := by
  have e : front.map PyData.int ++ V.map PyData.int ++ back.map PyData.int = (front ++ (V ++ back)).map PyData.int := by
    simp only [List.map_append, List.append_assoc]
  have lf : (front.map PyData.int).length = front.length := List.length_map ..
  have lv : (V.map PyData.int).length = V.length := List.length_map ..
  have lb : (back.map PyData.int).length = back.length := List.length_map ..
  rw [List.length_append, List.length_append] at hl
  refine ⟨sz (by rw [lf, lv]; omega), sz (by rw [List.length_append, lf, lv, lb]; omega), w, front ++ (V ++ back), idx, ?_, hn, by rw [List.length_append, List.length_append]; exact hl, fun d j hr => ?_, fun hr => ?_⟩
  · show [_, PyData.list (front.map PyData.int ++ V.map PyData.int ++ back.map PyData.int), _] = _
    rw [e]
    rfl
  · rcases hd with ⟨_, h0⟩ | ⟨h6, d', h0⟩
    · rw [h0] at hr
      cases hr
    · rw [h0] at hr
      cases hr
      subst h6
      have lf' : ((front.map PyData.int).length : Int) = front.length := dLen
      have lv' : ((V.map PyData.int).length : Int) = V.length := dLen
      refine ⟨rfl, rfl, _, rfl, .int ((front.length : Int) + (V.length : Nat)), ((front.map PyData.int).length : Int) + ((V.map PyData.int).length : Int), rfl, ?_⟩
      rw [lf', lv']
      show _ ∧ _ ∧ q (.va (.bool (decide ((front.length : Int) + (V.length : Nat) = (front.length : Int) + (V.length : Nat)))))
      rw [decide_eq_true rfl]
      exact ⟨rfl, rfl, hq⟩
  · rcases hd with ⟨h6, _⟩ | ⟨h6, d', h0⟩
    · refine ⟨rfl, fun a k d => ?_⟩
      refine iteIs (b := decide (t < 6)) (decide_eq_true h6) ?_
      exact ⟨⟨rfl, rfl, rfl⟩, rfl, .int idx, idx, rfl, rfl, iteIs (b := decide (idx = idx)) (decide_eq_true rfl) ⟨⟨rfl, rfl, rfl⟩, rfl, hq⟩⟩
    · rw [h0] at hr
      cases hr
def JL (s0 s12 : Sl) (g : Nat → Int) (w : Int) (front : List Int) : En → Prop := fun e' => ∃ (V' back' : List Int) (idx t' : Int) (s8 s9 : Sl), e' = [s0, .fz (.list (rowI 32 g)), .fz (.int w), .ow (V'.map .int), .ow (front.map .int), .fz (.int idx), .ow (back'.map .int), .fz (.int t'), s8, s9, .no, .no, s12] ∧ (∀ v ∈ front ++ (V' ++ back'), 0 ≤ v) ∧ (front ++ (V' ++ back')).length ≤ 1000000 ∧
    ((t' < 6 ∧ rdW w (front ++ (V' ++ back')) idx = none) ∨ (t' = 6 ∧ ∃ d, rdW w (front ++ (V' ++ back')) idx = some (d, (front.length : Int) + (V'.length : Nat))))
theorem at_lit {α : Type} {ds : List α} {i j : Int} {d : α} (h : i = j) (e : atI ds j = some d) : atI ds i = some d := h ▸ e
theorem law_8 {q : Rs → Prop} {ex : Xk} (hq : q (.va (.bool true))) {g : Nat → Int} (hg : ∀ k, 0 ≤ g k ∧ g k < 4096) {w : Int} (w0 : 0 ≤ w) (w5 : w < 5) {V front back : List Int} (hV : MadeW w V) (fb : byteL front) (fl : front.length < 4) (bb : byteL back) (bl : back.length < 4) {t a : Int} (t0 : 0 ≤ t) (t7 : t < 7) (a0 : 0 ≤ a) (a1 : a < V.length) (s0 s12 : Sl) :
    u_law_8 (enV q ex) [s0, .fz (.list (rowI 32 g)), .fz (.int w), .ow (V.map .int), .ow (front.map .int), .fz (.int (front.length : Nat)), .ow (back.map .int), .fz (.int t), .fz (.int a), .no, .no, .no, s12] := by
  have hVl := hV.len
  have nn : ∀ {V' back' : List Int}, (∀ v ∈ V', 0 ≤ v) → (∀ v ∈ back', 0 ≤ v) → ∀ v ∈ front ++ (V' ++ back'), 0 ≤ v := fun h1 h2 v hv => by
    rcases List.mem_append.mp hv with h | h
    · exact (fb v h).1
    · exact (List.mem_append.mp h).elim (h1 v) (h2 v)
  have ln : ∀ {V' back' : List Int}, V'.length ≤ 200000 → back'.length < 4 → (front ++ (V' ++ back')).length ≤ 1000000 := fun h1 h2 => by
    rw [List.length_append, List.length_append]
    omega
  have bnn : ∀ v ∈ back, 0 ≤ v := fun v hv => (bb v hv).1
  refine ⟨JL s0 s12 g w front, ?_, ?_⟩
  rotate_left
  · rintro e' ⟨V', back', idx, t', s8, s9, rfl, h1, h2, h3⟩
    exact law_9 hq h1 h2 h3 _ _ _ _ _ _
  have none_of : ∀ {V' back' : List Int}, sfW w (V' ++ back') = none → rdW w (front ++ (V' ++ back')) (front.length : Int) = none := fun h => by
    rw [rdW_eq, h]
    rfl
  refine ifD (fun h => ?_) (fun h0 => ?_)
  · -- cut
    have h : t = 0 := h
    subst h
    have e := cut_to (vs := V) (f := PyData.int) a0
    have hb := bad_cut hV (a := a.toNat) (by omega)
    refine ⟨rfl, rfl, rfl, V.take a.toNat, [], front.length, 0, .fz (.int a), .no, ?_, nn (fun v hv => hV.nn v (List.mem_of_mem_take hv)) (fun v hv => by cases hv), ln (by rw [List.length_take]; omega) (by decide), .inl ⟨by decide, none_of hb⟩⟩
    show [_, _, _, Sl.ow (cutD (V.map PyData.int) none (some a)), _, _, _, _, _, _, _, _, _] = _
    rw [e]
    rfl
  have h0 : ¬ t = 0 := h0
  refine ifD (fun h => ?_) (fun h1 => ?_)
  · have h : t = 1 := h
    subst h
    have g17 := hg 17
    refine ⟨_, rowI_at (by decide) (by decide), (by decide : (0 : Int) < 6), a.toNat, ?_, rfl, V.set a.toNat (250 + g 17 % 6), back, front.length, 1, .fz (.int a), .no, ?_, nn (fun v hv => ?_) bnn, ln (by rw [List.length_set]; omega) bl, .inl ⟨by decide, none_of (bad_byte hV (by omega) (by omega) back)⟩⟩
    · unfold ixN
      rw [if_pos a0, if_pos (by rw [List.length_map]; exact a1)]
    · show [_, _, _, Sl.ow ((V.map PyData.int).set a.toNat (.int (250 + g 17 % 6))), _, _, _, _, _, _, _, _, _] = _
      rw [setD]
    · rcases List.mem_or_eq_of_mem_set hv with h | h
      · exact hV.nn v h
      · omega
  have h1 : ¬ t = 1 := h1
  refine ifD (fun h => ?_) (fun h2 => ?_)
  · have h : t = 2 := h
    subst h
    obtain ⟨m, rest, rfl, m0⟩ := hV.fst
    have hp := digs_pos m
    have hlm : (digs m).length ≤ (digs m ++ rest).length := by
      rw [List.length_append]
      omega
    have e1 := cut_to (vs := digs m ++ rest) (f := PyData.int) (m := ((digs m).length : Int) - 1) (by omega)
    have e2 := cut_from (vs := digs m ++ rest) (f := PyData.int) (m := ((digs m).length : Int) - 1 + 1) (by omega)
    have e3 := ints_at (ns := digs m ++ rest) (i := ((digs m).length : Int) - 1) (by omega) (by omega)
    have t1 : (((digs m).length : Int) - 1).toNat = (digs m).length - 1 := by omega
    have t2 : (((digs m).length : Int) - 1 + 1).toNat = (digs m).length - 1 + 1 := by omega
    rw [t1] at e1 e3
    rw [t2] at e2
    have hz := digz_cut m rest
    refine ⟨m, rest, rfl, m0, by omega, rfl, rfl, ?_⟩
    have k1 : (cutD ((digs m ++ rest).map PyData.int) none (some (((digs m).length : Int) - 1))).length + 2 ≤ 16777216 := by
      rw [e1, List.length_map, List.length_take]
      omega
    have k2 : (cutD ((digs m ++ rest).map PyData.int) none (some (((digs m).length : Int) - 1)) ++ [PyData.int ((digs m ++ rest).getD ((digs m).length - 1) 0 + 125), PyData.int 0]).length + (cutD ((digs m ++ rest).map PyData.int) (some (((digs m).length : Int) - 1 + 1)) none).length ≤ 16777216 := by
      rw [e1, e2, List.length_append, List.length_map, List.length_map, List.length_take, List.length_drop]
      show _ + 2 + _ ≤ _
      omega
    refine ⟨_, e3, rfl, sz k1, sz k2, rfl, digz m ++ rest, back, front.length, 2, .fz (.int a), .fz (.int (((digs m).length : Int) - 1)), ?_, nn (fun v hv => ?_) bnn, ln ?_ bl, .inl ⟨by decide, none_of ?_⟩⟩
    · show [_, _, _, Sl.ow (cutD ((digs m ++ rest).map PyData.int) none (some (((digs m).length : Int) - 1)) ++ [PyData.int ((digs m ++ rest).getD ((digs m).length - 1) 0 + 125), PyData.int 0] ++ cutD ((digs m ++ rest).map PyData.int) (some (((digs m).length : Int) - 1 + 1)) none), _, _, _, _, _, _, _, _, _] = _
      rw [e1, e2, ← hz, List.map_append, List.map_append]
      rfl
    · rcases List.mem_append.mp hv with h | h
      · exact digz_nn m0 v h
      · exact hV.nn v (List.mem_append.mpr (.inr h))
    · rw [List.length_append, digz_len]
      rw [List.length_append] at hVl
      omega
    · rw [List.append_assoc]
      exact bad_zero m0 w (rest ++ back)
  have h2 : ¬ t = 2 := h2
  have six : u_law_8e0e0e0e0e0e { (enV q ex) with nx := JL s0 s12 g w front } [s0, .fz (.list (rowI 32 g)), .fz (.int w), .ow (V.map .int), .ow (front.map .int), .fz (.int (front.length : Nat)), .ow (back.map .int), .fz (.int t), .fz (.int a), .no, .no, .no, s12] := by
    obtain ⟨d, hd⟩ := hV.ok back
    refine ⟨rfl, V, back, front.length, 6, .fz (.int a), .no, rfl, nn hV.nn bnn, ln (by omega) bl, .inr ⟨rfl, d, ?_⟩⟩
    rw [rdW_eq, hd]
    rfl
  have five : u_law_8e0e0e0e0e { (enV q ex) with nx := JL s0 s12 g w front } [s0, .fz (.list (rowI 32 g)), .fz (.int w), .ow (V.map .int), .ow (front.map .int), .fz (.int (front.length : Nat)), .ow (back.map .int), .fz (.int t), .fz (.int a), .no, .no, .no, s12] := by
    refine ifD (fun h => ?_) (fun _ => six)
    have h : t = 5 := h
    subst h
    have g17 := hg 17
    have g16 := hg 16
    have lf : (front.map PyData.int).length = front.length := List.length_map ..
    have lv : (V.map PyData.int).length = V.length := List.length_map ..
    have lb : (back.map PyData.int).length = back.length := List.length_map ..
    have hj : g 16 % 4 = 0 ∨ g 16 % 4 = 1 ∨ g 16 % 4 = 2 ∨ g 16 % 4 = 3 := by omega
    have z1 : (front.map PyData.int).length + (V.map PyData.int).length ≤ sizeLine := sz (by rw [lf, lv]; omega)
    have z2 : (front.map PyData.int ++ V.map PyData.int).length + (back.map PyData.int).length ≤ sizeLine := sz (by rw [List.length_append, lf, lv, lb]; omega)
    have fin : ∀ idx : Int, (idx < 0 ∨ ((front ++ (V ++ back)).length : Int) ≤ idx) → JL s0 s12 g w front [s0, .fz (.list (rowI 32 g)), .fz (.int w), .ow (V.map .int), .ow (front.map .int), .fz (.int idx), .ow (back.map .int), .fz (.int 5), .fz (.int a), .no, .no, .no, s12] := fun idx h =>
      ⟨V, back, idx, 5, .fz (.int a), .no, rfl, nn hV.nn bnn, ln (by omega) bl, .inl ⟨by decide, out_of h⟩⟩
    have ll : (front.map PyData.int ++ V.map PyData.int ++ back.map PyData.int).length = (front ++ (V ++ back)).length := by
      simp only [List.length_append, List.length_map]
      omega
    refine ⟨_, rowI_at (by decide) (by decide), (by decide : (0 : Int) < 9), z1, z2, z1, z2, _, rowI_at (by decide) (by decide), (by decide : (0 : Int) < 9), rfl, _, rowI_at (by decide) (by decide), (by decide : (0 : Int) < 4), ?_⟩
    rcases hj with hj | hj | hj | hj
    · exact ⟨_, at_lit hj rfl, rfl, fin (-1) (.inl (by decide))⟩
    · exact ⟨_, at_lit hj rfl, rfl, fin (-1 - g 17 % 9) (.inl (by omega))⟩
    · exact ⟨_, at_lit hj rfl, rfl, fin ((front.map PyData.int ++ V.map PyData.int ++ back.map PyData.int).length : Nat) (.inr (by rw [ll]; exact Int.le_refl _))⟩
    · exact ⟨_, at_lit hj rfl, rfl, fin (((front.map PyData.int ++ V.map PyData.int ++ back.map PyData.int).length : Nat) + g 17 % 9) (.inr (by rw [ll]; omega))⟩
  have four : u_law_8e0e0e0e { (enV q ex) with nx := JL s0 s12 g w front } [s0, .fz (.list (rowI 32 g)), .fz (.int w), .ow (V.map .int), .ow (front.map .int), .fz (.int (front.length : Nat)), .ow (back.map .int), .fz (.int t), .fz (.int a), .no, .no, .no, s12] := by
    refine iteD (fun h => ifD (fun hw => ?_) (fun _ => five)) (fun h => ifF five)
    have h : t = 4 := h
    subst h
    have hw : w = 4 := hw
    subst hw
    have g17 := hg 17
    have g16 := hg 16
    have g15 := hg 15
    obtain ⟨X, hX, x0, x1, hbad⟩ : ∃ X : Int, atI [PyData.int 37, .int 31, .int 127, .int (g 17 % 32), .int (128 + g 17 % 128)] (g 16 % 5) = some (.int X) ∧ 0 ≤ X ∧ X < 256 ∧ okC X = false := by
      have lo : okC (g 17 % 32) = false := by
        unfold okC
        rw [decide_eq_false (by omega : ¬ (32 : Int) ≤ g 17 % 32), decide_eq_false (by omega : ¬ (38 : Int) ≤ g 17 % 32)]
        rfl
      have hi : okC (128 + g 17 % 128) = false := by
        unfold okC
        rw [decide_eq_false (by omega : ¬ 128 + g 17 % 128 ≤ (36 : Int)), decide_eq_false (by omega : ¬ 128 + g 17 % 128 ≤ (126 : Int)), Bool.and_false, Bool.and_false]
        rfl
      have hj : g 16 % 5 = 0 ∨ g 16 % 5 = 1 ∨ g 16 % 5 = 2 ∨ g 16 % 5 = 3 ∨ g 16 % 5 = 4 := by omega
      rcases hj with hj | hj | hj | hj | hj
      · exact ⟨37, at_lit hj rfl, by decide, by decide, by decide⟩
      · exact ⟨31, at_lit hj rfl, by decide, by decide, by decide⟩
      · exact ⟨127, at_lit hj rfl, by decide, by decide, by decide⟩
      · exact ⟨g 17 % 32, at_lit hj rfl, by omega, by omega, lo⟩
      · exact ⟨128 + g 17 % 128, at_lit hj rfl, by omega, by omega, hi⟩
    have ec := cut_to (vs := [65, X, 66]) (f := PyData.int) (m := 2 + g 15 % 2) (by omega)
    have hm : (2 + g 15 % 2).toNat = 2 ∨ (2 + g 15 % 2).toNat = 3 := by omega
    have hvs : (([65, X, 66] : List Int).take (2 + g 15 % 2).toNat = [65, X]) ∨ (([65, X, 66] : List Int).take (2 + g 15 % 2).toNat = [65, X, 66]) := by
      rcases hm with hm | hm
      · rw [hm]
        exact .inl rfl
      · rw [hm]
        exact .inr rfl
    obtain ⟨vs, hve⟩ : ∃ vs, vs = ([65, X, 66] : List Int).take (2 + g 15 % 2).toNat := ⟨_, rfl⟩
    rw [← hve] at ec hvs
    have hvb : ∀ v ∈ vs, 0 ≤ v ∧ v < 256 := fun v hv => by
      rcases hvs with e | e
      · rw [e] at hv
        simp only [List.mem_cons, List.not_mem_nil, or_false] at hv
        omega
      · rw [e] at hv
        simp only [List.mem_cons, List.not_mem_nil, or_false] at hv
        omega
    have hvl : vs.length ≤ 3 := by
      rcases hvs with e | e
      · rw [e]
        exact Nat.le_succ 2
      · rw [e]
        exact Nat.le_refl 3
    have hall : vs.all okC = false := by
      rcases hvs with e | e <;> rw [e] <;> simp [hbad]
    refine ⟨_, rowI_at (by decide) (by decide), (by decide : (0 : Int) < 32), _, rowI_at (by decide) (by decide), (by decide : (0 : Int) < 128), rfl, _, rowI_at (by decide) (by decide), (by decide : (0 : Int) < 5), .int X, hX, rfl, _, rowI_at (by decide) (by decide), (by decide : (0 : Int) < 2), vs, ?_, by omega, nw_ok _ _, rfl, wrB vs, back, front.length, 4, .fz (.int a), .no, rfl, nn (wrB_nn hvb) bnn, ln (Nat.le_trans (wrB_lenW (by omega)) (by decide)) bl, .inl ⟨by decide, none_of (bad_text (by decide) hvb hall back)⟩⟩
    show [PyData.list (cutD ([65, X, 66].map PyData.int) none (some (2 + g 15 % 2)))] = _
    rw [ec]
  refine iteD (fun h => ifD (fun hw => ?_) (fun _ => four)) (fun h => ifF four)
  have h : t = 3 := h
  subst h
  have hw : 2 < w := hw
  have g17 := hg 17
  refine ⟨_, rowI_at (by decide) (by decide), (by decide : (0 : Int) < 243), rfl, rfl, [1, 249, 7 + g 17 % 243], back, front.length, 3, .fz (.int a), .no, rfl, nn (fun v hv => ?_) bnn, ln (show 3 ≤ 200000 by decide) bl, .inl ⟨by decide, none_of (bad_high hw (by omega) back)⟩⟩
  simp only [List.mem_cons, List.not_mem_nil, or_false] at hv
  omega
theorem run_law : ∀ ds q ex, F_law ds q ex → u_law (enV q ex) (en0 13 ds) := by
  rintro ds q ex ⟨ns, rfl, hn, hq⟩
  refine ⟨ns, 32, rfl, by decide, by decide, fun g hg => ⟨rfl, rfl, ?_⟩⟩
  have g0 := hg 0
  have g1 := hg 1
  refine ⟨_, rowI_at (by decide) (by decide), (by decide : (0 : Int) < 5), rfl, ?_⟩
  refine ⟨g, g 0 % 5, rfl, hg, by omega, by omega, fun V hV => ⟨rfl, rfl, ?_⟩⟩
  refine ⟨_, rowI_at (by decide) (by decide), (by decide : (0 : Int) < 4), ?_⟩
  have g12 := hg (1 : Int).toNat
  refine ⟨by omega, by omega, fun k acc => ∃ vs : List Int, vs.length = k ∧ byteL vs ∧ acc = vs.map PyData.int, ⟨[], rfl, (fun c hc => by cases hc), rfl⟩, ?_, ?_⟩
  · rintro k d acc hd ⟨vs, h1, h2, rfl⟩
    obtain ⟨hk, rfl⟩ := rngD_get hd
    have hk2 : k < 4 := by omega
    refine ⟨_, rowI_at (by omega) (by omega), (by decide : (0 : Int) < 250), ⟨rfl, ?_⟩, vs ++ [_], by rw [List.length_append, h1]; rfl, fun e he => ?_, by rw [List.map_append]; rfl⟩
    · rw [List.length_map]
      exact szl (by omega)
    · rcases List.mem_append.mp he with h | h
      · exact h2 e h
      · rw [List.mem_singleton.mp h]
        have := emod_bd (g (20 + (0 + (k : Nat) * 1) : Int).toNat) (show (0 : Int) < 250 by decide)
        exact ⟨this.1, by omega⟩
  rintro acc ⟨front, f1, fb, rfl⟩
  rw [rngD_len] at f1
  have f2 : front.length < 4 := by omega
  clear f1
  refine ⟨rfl, rfl, _, rowI_at (by decide) (by decide), ⟨by decide, by decide⟩, (by decide : (0 : Int) < 4), ?_⟩
  have g13 := emod_bd (g (1 : Int).toNat / 4) (show (0 : Int) < 4 by decide)
  refine ⟨by omega, by omega, fun k acc => ∃ vs : List Int, vs.length = k ∧ byteL vs ∧ acc = vs.map PyData.int, ⟨[], rfl, (fun c hc => by cases hc), rfl⟩, ?_, ?_⟩
  · rintro k d acc hd ⟨vs, h1, h2, rfl⟩
    obtain ⟨hk, rfl⟩ := rngD_get hd
    have hk2 : k < 4 := by omega
    refine ⟨_, rowI_at (by omega) (by omega), (by decide : (0 : Int) < 256), ⟨rfl, ?_⟩, vs ++ [_], by rw [List.length_append, h1]; rfl, fun e he => ?_, by rw [List.map_append]; rfl⟩
    · rw [List.length_map]
      exact szl (by omega)
    · rcases List.mem_append.mp he with h | h
      · exact h2 e h
      · rw [List.mem_singleton.mp h]
        exact ⟨Int.emod_nonneg _ (by decide), Int.emod_lt_of_pos _ (by decide)⟩
  rintro acc ⟨back, b1, bb, rfl⟩
  rw [rngD_len] at b1
  have b2 : back.length < 4 := by omega
  clear b1
  have hVp : 0 < V.length := by
    obtain ⟨m, rest, rfl, _⟩ := hV.fst
    have := digs_pos m
    rw [List.length_append]
    omega
  have lv : ((V.map PyData.int).length : Int) = V.length := dLen
  have lfr : ((front.map PyData.int).length : Int) = front.length := dLen
  refine ⟨rfl, _, rowI_at (by decide) (by decide), (by decide : (0 : Int) < 7), rfl, _, rowI_at (by decide) (by decide), (by rw [lv]; omega : (0 : Int) < ((V.map PyData.int).length : Nat)), rfl, ?_⟩
  have m7 := emod_bd (g 18) (show (0 : Int) < 7 by decide)
  have mV := emod_bd (g 19) (show (0 : Int) < (V.length : Int) by omega)
  have h8 := law_8 (t := g 18 % 7) (a := g 19 % (V.length : Int)) hq hg (show 0 ≤ g 0 % 5 by omega) (show g 0 % 5 < 5 by omega) hV fb f2 bb b2 m7.1 m7.2 mV.1 mV.2 (.fz (scr ns)) .no (ex := ex)
  rw [← lv, ← lfr] at h8
  exact h8

theorem law_end {K : PySem.W.Frag} {H : Hp} {a : Addr} {ns : List Int} (hl : ns.length ≤ 63) (hS : SqL K H a (ns.map V.int)) : spF K F_law [.ref a] H (fun v _ => v = .bl true) fun _ _ _ => False :=
  ⟨H, [scr ns], fun r => r = .va (.bool true), fun _ => False, Same.refl H, .cons (.scr hS) .nil, ⟨ns, rfl, hl, rfl⟩, fun G' H' v r _ _ rr e => by
    subst e
    exact rp_bl rr, fun _ _ _ _ _ _ _ _ z => z.elim⟩
end Pv
set_option maxHeartbeats 4000000
namespace Pv
open PySem L2 PySem.Spec PyProof.Rows
/-! ### the text -/
def top (i : Nat) : Stmt := PySem.Challenge.pw_tessera_k04_refused_readings.main.body.getD i (.Pass ⟨0, 0, 0, 0⟩)
abbrev s_byte_at : Stmt := top 8
abbrev N_byte_at : List Str := ["values", "at", "index"]
theorem sc_byte_at : FnScope N_byte_at ["values", "at", "index"] (defScope s_byte_at) := ⟨rfl, rfl, rfl, by decide +kernel, rfl, by decide +kernel, by decide +kernel⟩
abbrev s_read_number : Stmt := top 9
abbrev N_read_number : List Str := ["values", "index", "number", "scale", "at"]
theorem sc_read_number : FnScope N_read_number ["values", "index"] (defScope s_read_number) := ⟨rfl, rfl, rfl, by decide +kernel, rfl, by decide +kernel, by decide +kernel⟩
abbrev s_read_integer : Stmt := top 10
abbrev N_read_integer : List Str := ["values", "index", "number", "at"]
theorem sc_read_integer : FnScope N_read_integer ["values", "index"] (defScope s_read_integer) := ⟨rfl, rfl, rfl, by decide +kernel, rfl, by decide +kernel, by decide +kernel⟩
abbrev s_read_count : Stmt := top 11
abbrev N_read_count : List Str := ["values", "index", "count", "at"]
theorem sc_read_count : FnScope N_read_count ["values", "index"] (defScope s_read_count) := ⟨rfl, rfl, rfl, by decide +kernel, rfl, by decide +kernel, by decide +kernel⟩
abbrev s_read_integers : Stmt := top 12
abbrev N_read_integers : List Str := ["values", "index", "count", "at", "numbers", "_", "number"]
theorem sc_read_integers : FnScope N_read_integers ["values", "index"] (defScope s_read_integers) := ⟨rfl, rfl, rfl, by decide +kernel, rfl, by decide +kernel, by decide +kernel⟩
abbrev s_read_bytes : Stmt := top 13
abbrev N_read_bytes : List Str := ["values", "index", "count", "at", "found", "_", "value", "more"]
theorem sc_read_bytes : FnScope N_read_bytes ["values", "index"] (defScope s_read_bytes) := ⟨rfl, rfl, rfl, by decide +kernel, rfl, by decide +kernel, by decide +kernel⟩
abbrev s_letter_of : Stmt := top 14
abbrev N_letter_of : List Str := ["code"]
theorem sc_letter_of : FnScope N_letter_of ["code"] (defScope s_letter_of) := ⟨rfl, rfl, rfl, by decide +kernel, rfl, by decide +kernel, by decide +kernel⟩
abbrev s_text_of : Stmt := top 15
abbrev N_text_of : List Str := ["codes", "letters", "code"]
theorem sc_text_of : FnScope N_text_of ["codes"] (defScope s_text_of) := ⟨rfl, rfl, rfl, by decide +kernel, rfl, by decide +kernel, by decide +kernel⟩
abbrev s_read_text : Stmt := top 16
abbrev N_read_text : List Str := ["values", "index", "codes", "at", "text"]
theorem sc_read_text : FnScope N_read_text ["values", "index"] (defScope s_read_text) := ⟨rfl, rfl, rfl, by decide +kernel, rfl, by decide +kernel, by decide +kernel⟩
abbrev s_law_cell : Stmt := top 18
abbrev N_law_cell : List Str := ["_law_script", "_law_k"]
theorem sc_law_cell : FnScope N_law_cell ["_law_script", "_law_k"] (defScope s_law_cell) := ⟨rfl, rfl, rfl, by decide +kernel, rfl, by decide +kernel, by decide +kernel⟩
abbrev s_law_draws : Stmt := top 19
abbrev N_law_draws : List Str := ["_law_cell_here", "_law_count", "_law_rows", "_law_left", "_law_k", "_law_mixed"]
theorem sc_law_draws : FnScope N_law_draws ["_law_cell_here", "_law_count"] (defScope s_law_draws) := ⟨rfl, rfl, rfl, by decide +kernel, rfl, by decide +kernel, by decide +kernel⟩
abbrev s_law_is_int : Stmt := top 20
abbrev N_law_is_int : List Str := ["_law_x"]
theorem sc_law_is_int : FnScope N_law_is_int ["_law_x"] (defScope s_law_is_int) := ⟨rfl, rfl, rfl, by decide +kernel, rfl, by decide +kernel, by decide +kernel⟩
abbrev s_law_is_number : Stmt := top 21
abbrev N_law_is_number : List Str := ["_law_x", "_law_due"]
theorem sc_law_is_number : FnScope N_law_is_number ["_law_x", "_law_due"] (defScope s_law_is_number) := ⟨rfl, rfl, rfl, by decide +kernel, rfl, by decide +kernel, by decide +kernel⟩
abbrev s_law_stream : Stmt := top 22
abbrev N_law_stream : List Str := ["_law_script", "_law_count", "_law_rows", "_law_k"]
theorem sc_law_stream : FnScope N_law_stream ["_law_script", "_law_count"] (defScope s_law_stream) := ⟨rfl, rfl, rfl, by decide +kernel, rfl, by decide +kernel, by decide +kernel⟩
abbrev s_law_great : Stmt := top 23
abbrev N_law_great : List Str := ["_law_draws_here", "_law_at", "_law_number", "_law_k"]
theorem sc_law_great : FnScope N_law_great ["_law_draws_here", "_law_at"] (defScope s_law_great) := ⟨rfl, rfl, rfl, by decide +kernel, rfl, by decide +kernel, by decide +kernel⟩
abbrev s_law_signed : Stmt := top 24
abbrev N_law_signed : List Str := ["_law_draws_here", "_law_at", "_law_number"]
theorem sc_law_signed : FnScope N_law_signed ["_law_draws_here", "_law_at"] (defScope s_law_signed) := ⟨rfl, rfl, rfl, by decide +kernel, rfl, by decide +kernel, by decide +kernel⟩
abbrev s_law_number_bytes : Stmt := top 25
abbrev N_law_number_bytes : List Str := ["_law_number", "_law_rows", "_law_k"]
theorem sc_law_number_bytes : FnScope N_law_number_bytes ["_law_number"] (defScope s_law_number_bytes) := ⟨rfl, rfl, rfl, by decide +kernel, rfl, by decide +kernel, by decide +kernel⟩
abbrev s_law_integer_bytes : Stmt := top 26
abbrev N_law_integer_bytes : List Str := ["_law_number"]
theorem sc_law_integer_bytes : FnScope N_law_integer_bytes ["_law_number"] (defScope s_law_integer_bytes) := ⟨rfl, rfl, rfl, by decide +kernel, rfl, by decide +kernel, by decide +kernel⟩
abbrev s_law_integers_bytes : Stmt := top 27
abbrev N_law_integers_bytes : List Str := ["_law_numbers", "_law_rows", "_law_number"]
theorem sc_law_integers_bytes : FnScope N_law_integers_bytes ["_law_numbers"] (defScope s_law_integers_bytes) := ⟨rfl, rfl, rfl, by decide +kernel, rfl, by decide +kernel, by decide +kernel⟩
abbrev s_law_bytes_bytes : Stmt := top 28
abbrev N_law_bytes_bytes : List Str := ["_law_values", "_law_rows", "_law_value"]
theorem sc_law_bytes_bytes : FnScope N_law_bytes_bytes ["_law_values"] (defScope s_law_bytes_bytes) := ⟨rfl, rfl, rfl, by decide +kernel, rfl, by decide +kernel, by decide +kernel⟩
abbrev s_law_signs : Stmt := top 29
abbrev N_law_signs : List Str := []
theorem sc_law_signs : FnScope N_law_signs [] (defScope s_law_signs) := ⟨rfl, rfl, rfl, by decide +kernel, rfl, by decide +kernel, by decide +kernel⟩
abbrev s_law_text_of : Stmt := top 30
abbrev N_law_text_of : List Str := ["_law_draws_here", "_law_at", "_law_most", "_law_signs_here", "_law_k"]
theorem sc_law_text_of : FnScope N_law_text_of ["_law_draws_here", "_law_at", "_law_most"] (defScope s_law_text_of) := ⟨rfl, rfl, rfl, by decide +kernel, rfl, by decide +kernel, by decide +kernel⟩
abbrev s_law_codes : Stmt := top 31
abbrev N_law_codes : List Str := ["_law_text", "_law_signs_here", "_law_rows", "_law_sign", "_law_at"]
theorem sc_law_codes : FnScope N_law_codes ["_law_text"] (defScope s_law_codes) := ⟨rfl, rfl, rfl, by decide +kernel, rfl, by decide +kernel, by decide +kernel⟩
abbrev s_law_text_bytes : Stmt := top 32
abbrev N_law_text_bytes : List Str := ["_law_text"]
theorem sc_law_text_bytes : FnScope N_law_text_bytes ["_law_text"] (defScope s_law_text_bytes) := ⟨rfl, rfl, rfl, by decide +kernel, rfl, by decide +kernel, by decide +kernel⟩
abbrev s_law_made : Stmt := top 33
abbrev N_law_made : List Str := ["_law_draws_here", "_law_way", "_law_k"]
theorem sc_law_made : FnScope N_law_made ["_law_draws_here", "_law_way"] (defScope s_law_made) := ⟨rfl, rfl, rfl, by decide +kernel, rfl, by decide +kernel, by decide +kernel⟩
abbrev s_law_read : Stmt := top 34
abbrev N_law_read : List Str := ["_law_way", "_law_values", "_law_index"]
theorem sc_law_read : FnScope N_law_read ["_law_way", "_law_values", "_law_index"] (defScope s_law_read) := ⟨rfl, rfl, rfl, by decide +kernel, rfl, by decide +kernel, by decide +kernel⟩
abbrev s_law_first_end : Stmt := top 35
abbrev N_law_first_end : List Str := ["_law_values", "_law_k"]
theorem sc_law_first_end : FnScope N_law_first_end ["_law_values"] (defScope s_law_first_end) := ⟨rfl, rfl, rfl, by decide +kernel, rfl, by decide +kernel, by decide +kernel⟩
abbrev s_law : Stmt := top 36
abbrev N_law : List Str := ["_law_script", "_law_draws_here", "_law_way", "_law_values", "_law_front", "_law_index", "_law_back", "_law_turn", "_law_at", "_law_end", "_law_told", "e", "_law_k"]
theorem sc_law : FnScope N_law ["_law_script"] (defScope s_law) := ⟨rfl, rfl, rfl, by decide +kernel, rfl, by decide +kernel, by decide +kernel⟩
structure Tx (P : Program) (w : World) (K : PySem.W.Frag) (mg : Str → Option Value) : Prop where
  b_len : mg "len" = none
  b_super : mg "super" = none
  b_range : mg "range" = none
  b_int : mg "int" = none
  b_isinstance : mg "isinstance" = none
  b_bool : mg "bool" = none
  b_tuple : mg "tuple" = none
  c_HIGHEST : ∃ t, mg "HIGHEST" = some (.int 249 t)
  c_BASE : ∃ t, mg "BASE" = some (.int 125 t)
  c_PRINTABLE : mg "PRINTABLE" = some (.ref (He.ga K "PRINTABLE")) ∧ ∀ H : Hp, SqT K H (He.ga K "PRINTABLE") (dv_PRINTABLE.map (He.Dv.v K))
  gx_Unreadable : mg "Unreadable" = some (.ref (He.ga K "Unreadable"))
  gx_InvalidValue : mg "InvalidValue" = some (.ref (He.ga K "InvalidValue"))
  xc_Unreadable : XcK P K (He.ga K "Unreadable") ["index"]
  isa_Unreadable : Isa K (.ref (He.ga K "Unreadable")) (isaL tI_Unreadable)
  isi_InvalidValue : IsaI K "InvalidValue" (isaL tI_InvalidValue)
  xf_Unreadable : XfC K (He.ga K "Unreadable") ∧ ∀ f ∈ (["index"] : List Str), PySem.W.findIn K (.ref (He.ga K "Unreadable")) f = some none
section
variable {P : Program} {w : World} {K : PySem.W.Frag} {mg : Str → Option Value} {base : Heap} {CX : CXT}
theorem ok_byte_at (T : Tx P w K mg) {f : Addr} {fd : FuncData} (D_byte_at : Dn K mg "byte_at" s_byte_at ["values", "at", "index"] f fd)
    : FnOk P w K mg base (L2N.CX P w) 2 f fd ["values", "at", "index"] (spF K F_byte_at) := by
  refine defE (N := N_byte_at) (u := u_byte_at) D_byte_at.F sc_byte_at len_byte_at run_byte_at (fun cdv A outer s H E hr => ?_)
  exact ⟨_, (vss_cons (vs_if (VW.vt (vw_or (vt_cmp op_lt r2_lt (ve_var 1) ve_int (nomark _)) (vw_or (vt_cmp op_ge r2_ge (ve_var 1) (ve_len (by rfl) T.b_len (va_cons (ve_var 0) va_nil)) (nomark _)) (vw_or1 (vt_cmp op_gt r2_gt (ve_ix (ve_var 0) (ve_var 1)) (ve_globI (by rfl) T.c_HIGHEST) (nomark _))))))
  (vss_one (vs_raise (by rfl) (L2N.takes_of rfl rfl rfl rfl) T.xc_Unreadable hr (by decide) (by rfl) T.gx_Unreadable T.b_super (va_cons (ve_var 2) va_nil)))
  vss_nil)
  (vss_one (vs_ret (ve_ix (ve_var 0) (ve_var 1)))))⟩
theorem ok_read_number (T : Tx P w K mg) {f : Addr} {fd : FuncData} (D_read_number : Dn K mg "read_number" s_read_number ["values", "index"] f fd)
    {f_byte_at : Addr} {fd_byte_at : FuncData} (D_byte_at : Dn K mg "byte_at" s_byte_at ["values", "at", "index"] f_byte_at fd_byte_at) (G_byte_at : FnOk P w K mg base (L2N.CX P w) 2 f_byte_at fd_byte_at ["values", "at", "index"] (spF K F_byte_at))
    : FnOk P w K mg base (L2N.CX P w) 3 f fd ["values", "index"] (spF K F_read_number) := by
  refine defE (N := N_read_number) (u := u_read_number) D_read_number.F sc_read_number len_read_number run_read_number (fun cdv A outer s H E hr => ?_)
  exact ⟨_, (vss_cons (vs_set 2 sc_read_number.nd ve_int)
  (vss_cons (vs_set 3 sc_read_number.nd ve_int)
  (vss_cons (vs_set 4 sc_read_number.nd (ve_var 1))
  (vss_cons (vs_while PassesOwn.leaving (vt_cmp op_ge r2_ge (ve_call G_byte_at (hr.mono (by decide)) (by rfl) D_byte_at.gm D_byte_at.kp D_byte_at.b (L2N.passAt (L2N.takes_of rfl rfl rfl rfl)) (va_cons (ve_var 0) (va_cons (ve_var 4) (va_cons (ve_var 1) va_nil)))) (ve_globI (by rfl) T.c_BASE) (nomark _))
  (vss_cons (vs_add 2 sc_read_number.nd (ve_times (ve_var 3) (ve_sub (ve_ix (ve_var 0) (ve_var 4)) (ve_globI (by rfl) T.c_BASE))))
  (vss_cons (vs_mul 3 sc_read_number.nd (ve_globI (by rfl) T.c_BASE))
  (vss_one (vs_add 4 sc_read_number.nd ve_int)))))
  (vss_cons (vs_if (VW.vt (vw_and (vt_cmp (op_eq.or (op_eqD hr.units)) r2_eqM (ve_ix (ve_var 0) (ve_var 4)) ve_int (nomark _)) (vw_and1 (vt_cmp op_gt r2_gt (ve_var 4) (ve_var 1) (nomark _)))))
  (vss_one (vs_raise (by rfl) (L2N.takes_of rfl rfl rfl rfl) T.xc_Unreadable hr (by decide) (by rfl) T.gx_Unreadable T.b_super (va_cons (ve_var 1) va_nil)))
  vss_nil)
  (vss_one (vs_ret (ve_tup (va_cons (ve_plus (ve_var 2) (ve_times (ve_var 3) (ve_ix (ve_var 0) (ve_var 4)))) (va_cons (ve_plus (ve_var 4) ve_int) va_nil))))))))))⟩
theorem ok_read_integer (T : Tx P w K mg) {f : Addr} {fd : FuncData} (D_read_integer : Dn K mg "read_integer" s_read_integer ["values", "index"] f fd)
    {f_read_number : Addr} {fd_read_number : FuncData} (D_read_number : Dn K mg "read_number" s_read_number ["values", "index"] f_read_number fd_read_number) (G_read_number : FnOk P w K mg base (L2N.CX P w) 3 f_read_number fd_read_number ["values", "index"] (spF K F_read_number))
    : FnOk P w K mg base (L2N.CX P w) 4 f fd ["values", "index"] (spF K F_read_integer) := by
  refine defE (N := N_read_integer) (u := u_read_integer) D_read_integer.F sc_read_integer len_read_integer run_read_integer (fun cdv A outer s H E hr => ?_)
  exact ⟨_, (vss_cons (vs_asg (ve_call G_read_number (hr.mono (by decide)) (by rfl) D_read_number.gm D_read_number.kp D_read_number.b (L2N.passAt (L2N.takes_of rfl rfl rfl rfl)) (va_cons (ve_var 0) (va_cons (ve_var 1) va_nil))) (vg_tup (by rfl) (vgs_cons (vg_name 2 sc_read_integer.nd) (vgs_cons (vg_name 3 sc_read_integer.nd) vgs_nil)) (len_cons (len_cons len_nil))))
  (vss_cons (vs_if (vt_cmp (op_eq.or (op_eqD hr.units)) r2_eqM (ve_mod (ve_var 2) ve_int) ve_int (nomark _))
  (vss_one (vs_ret (ve_tup (va_cons (ve_neg (ve_div (ve_plus (ve_var 2) ve_int) ve_int)) (va_cons (ve_var 3) va_nil)))))
  vss_nil)
  (vss_one (vs_ret (ve_tup (va_cons (ve_div (ve_var 2) ve_int) (va_cons (ve_var 3) va_nil)))))))⟩
theorem ok_read_count (T : Tx P w K mg) {f : Addr} {fd : FuncData} (D_read_count : Dn K mg "read_count" s_read_count ["values", "index"] f fd)
    {f_read_number : Addr} {fd_read_number : FuncData} (D_read_number : Dn K mg "read_number" s_read_number ["values", "index"] f_read_number fd_read_number) (G_read_number : FnOk P w K mg base (L2N.CX P w) 3 f_read_number fd_read_number ["values", "index"] (spF K F_read_number))
    : FnOk P w K mg base (L2N.CX P w) 4 f fd ["values", "index"] (spF K F_read_count) := by
  refine defE (N := N_read_count) (u := u_read_count) D_read_count.F sc_read_count len_read_count run_read_count (fun cdv A outer s H E hr => ?_)
  exact ⟨_, (vss_cons (vs_asg (ve_call G_read_number (hr.mono (by decide)) (by rfl) D_read_number.gm D_read_number.kp D_read_number.b (L2N.passAt (L2N.takes_of rfl rfl rfl rfl)) (va_cons (ve_var 0) (va_cons (ve_var 1) va_nil))) (vg_tup (by rfl) (vgs_cons (vg_name 2 sc_read_count.nd) (vgs_cons (vg_name 3 sc_read_count.nd) vgs_nil)) (len_cons (len_cons len_nil))))
  (vss_cons (vs_if (vt_cmp op_gt r2_gt (ve_var 2) (ve_sub (ve_len (by rfl) T.b_len (va_cons (ve_var 0) va_nil)) (ve_var 3)) (nomark _))
  (vss_one (vs_raise (by rfl) (L2N.takes_of rfl rfl rfl rfl) T.xc_Unreadable hr (by decide) (by rfl) T.gx_Unreadable T.b_super (va_cons (ve_var 1) va_nil)))
  vss_nil)
  (vss_one (vs_ret (ve_tup (va_cons (ve_var 2) (va_cons (ve_var 3) va_nil)))))))⟩
theorem ok_read_integers (T : Tx P w K mg) {f : Addr} {fd : FuncData} (D_read_integers : Dn K mg "read_integers" s_read_integers ["values", "index"] f fd)
    {f_read_integer : Addr} {fd_read_integer : FuncData} (D_read_integer : Dn K mg "read_integer" s_read_integer ["values", "index"] f_read_integer fd_read_integer) (G_read_integer : FnOk P w K mg base (L2N.CX P w) 4 f_read_integer fd_read_integer ["values", "index"] (spF K F_read_integer))
    {f_read_count : Addr} {fd_read_count : FuncData} (D_read_count : Dn K mg "read_count" s_read_count ["values", "index"] f_read_count fd_read_count) (G_read_count : FnOk P w K mg base (L2N.CX P w) 4 f_read_count fd_read_count ["values", "index"] (spF K F_read_count))
    : FnOk P w K mg base (L2.CX P w) 5 f fd ["values", "index"] (spF K F_read_integers) := by
  refine defE (N := N_read_integers) (u := u_read_integers) D_read_integers.F sc_read_integers len_read_integers run_read_integers (fun cdv A outer s H E hr => ?_)
  exact ⟨_, (vss_cons (vs_asg (ve_call G_read_count (hr.mono (by decide)) (by rfl) D_read_count.gm D_read_count.kp D_read_count.b (passNC (L2.takes_of rfl rfl rfl rfl)) (va_cons (ve_var 0) (va_cons (ve_var 1) va_nil))) (vg_tup (by rfl) (vgs_cons (vg_name 2 sc_read_integers.nd) (vgs_cons (vg_name 3 sc_read_integers.nd) vgs_nil)) (len_cons (len_cons len_nil))))
  (vss_cons (vs_set 4 sc_read_integers.nd (ve_lst va_nil))
  (vss_cons (vs_for PassesOwn.leaving (by rfl) (vi_rng1 (by rfl) T.b_range (va_cons (ve_var 2) va_nil)) (vg_name 5 sc_read_integers.nd)
  (vss_cons (vs_tryR rfl rfl ⟨rfl, by decide, .inl T.gx_Unreadable⟩ T.isa_Unreadable (fun hd => L2H.passesAt_of rfl hd) (L2.takes_of rfl rfl rfl rfl) (fun W' pn xe tk po => ⟨_, (vss_one (vs_asg (ve_call G_read_integer (hr.mono (by decide)) (by rfl) D_read_integer.gm D_read_integer.kp D_read_integer.b (L2N.passAt tk) (va_cons (ve_var 0) (va_cons (ve_var 3) va_nil))) (vg_tup (by rfl) (vgs_cons (vg_name 6 sc_read_integers.nd) (vgs_cons (vg_name 3 sc_read_integers.nd) vgs_nil)) (len_cons (len_cons len_nil)))))⟩)
  (fun a ob k d pn tk hot => ⟨_, (vss_one (vs_raiseR hot tk T.xc_Unreadable (L2H.roomH_mark hr (some (.ref a))) (by decide) (by rfl) T.gx_Unreadable T.b_super (va_cons (ve_var 1) va_nil)))⟩))
  (vss_one (vs_ap 4 (ve_var 6)))))
  (vss_one (vs_frz 4 (vs_ret (ve_tup (va_cons (ve_var 4) (va_cons (ve_var 3) va_nil)))))))))⟩
theorem ok_read_bytes (T : Tx P w K mg) {f : Addr} {fd : FuncData} (D_read_bytes : Dn K mg "read_bytes" s_read_bytes ["values", "index"] f fd)
    {f_byte_at : Addr} {fd_byte_at : FuncData} (D_byte_at : Dn K mg "byte_at" s_byte_at ["values", "at", "index"] f_byte_at fd_byte_at) (G_byte_at : FnOk P w K mg base (L2N.CX P w) 2 f_byte_at fd_byte_at ["values", "at", "index"] (spF K F_byte_at))
    {f_read_count : Addr} {fd_read_count : FuncData} (D_read_count : Dn K mg "read_count" s_read_count ["values", "index"] f_read_count fd_read_count) (G_read_count : FnOk P w K mg base (L2N.CX P w) 4 f_read_count fd_read_count ["values", "index"] (spF K F_read_count))
    : FnOk P w K mg base (L2N.CX P w) 5 f fd ["values", "index"] (spF K F_read_bytes) := by
  refine defE (N := N_read_bytes) (u := u_read_bytes) D_read_bytes.F sc_read_bytes len_read_bytes run_read_bytes (fun cdv A outer s H E hr => ?_)
  exact ⟨_, (vss_cons (vs_asg (ve_call G_read_count (hr.mono (by decide)) (by rfl) D_read_count.gm D_read_count.kp D_read_count.b (L2N.passAt (L2N.takes_of rfl rfl rfl rfl)) (va_cons (ve_var 0) (va_cons (ve_var 1) va_nil))) (vg_tup (by rfl) (vgs_cons (vg_name 2 sc_read_bytes.nd) (vgs_cons (vg_name 3 sc_read_bytes.nd) vgs_nil)) (len_cons (len_cons len_nil))))
  (vss_cons (vs_set 4 sc_read_bytes.nd (ve_lst va_nil))
  (vss_cons (vs_for PassesOwn.leaving (by rfl) (vi_rng1 (by rfl) T.b_range (va_cons (ve_var 2) va_nil)) (vg_name 5 sc_read_bytes.nd)
  (vss_cons (vs_set 6 sc_read_bytes.nd (ve_call G_byte_at (hr.mono (by decide)) (by rfl) D_byte_at.gm D_byte_at.kp D_byte_at.b (L2N.passAt (L2N.takes_of rfl rfl rfl rfl)) (va_cons (ve_var 0) (va_cons (ve_var 3) (va_cons (ve_var 1) va_nil)))))
  (vss_cons (vs_add 3 sc_read_bytes.nd ve_int)
  (vss_cut (vs_if (vt_cmp (op_eq.or (op_eqD hr.units)) r2_eqM (ve_var 6) (ve_globI (by rfl) T.c_HIGHEST) (nomark _))
  (vss_cons (vs_set 7 sc_read_bytes.nd (ve_call G_byte_at (hr.mono (by decide)) (by rfl) D_byte_at.gm D_byte_at.kp D_byte_at.b (L2N.passAt (L2N.takes_of rfl rfl rfl rfl)) (va_cons (ve_var 0) (va_cons (ve_var 3) (va_cons (ve_var 1) va_nil)))))
  (vss_cons (vs_if (vt_cmp op_gt r2_gt (ve_var 7) (ve_sub ve_int (ve_globI (by rfl) T.c_HIGHEST)) (nomark _))
  (vss_one (vs_raise (by rfl) (L2N.takes_of rfl rfl rfl rfl) T.xc_Unreadable hr (by decide) (by rfl) T.gx_Unreadable T.b_super (va_cons (ve_var 1) va_nil)))
  vss_nil)
  (vss_cons (vs_add 6 sc_read_bytes.nd (ve_var 7))
  (vss_one (vs_add 3 sc_read_bytes.nd ve_int)))))
  vss_nil)
  (vss_one (vs_ap 4 (ve_var 6)))))))
  (vss_one (vs_frz 4 (vs_ret (ve_tup (va_cons (ve_var 4) (va_cons (ve_var 3) va_nil)))))))))⟩
theorem ok_letter_of (T : Tx P w K mg) {f : Addr} {fd : FuncData} (D_letter_of : Dn K mg "letter_of" s_letter_of ["code"] f fd)
    : FnOk P w K mg base CX 1 f fd ["code"] (spF K F_letter_of) := by
  refine def0 (N := N_letter_of) (u := u_letter_of) D_letter_of.F sc_letter_of len_letter_of run_letter_of (fun cdv A outer s H E hr => ?_) (fun _ _ _ _ h => h)
  exact ⟨_, (vss_cons (vs_if (vt_chain op_le op_le r2_le r2_le ve_int (ve_var 0) ve_int)
  (vss_one (vs_ret (ve_ix (ve_ix (ve_globT (ds := dv_PRINTABLE.map dvD) (by rfl) T.c_PRINTABLE.1 T.c_PRINTABLE.2 (fun G => dvs_rp G rfl)) ve_int) (ve_sub (ve_var 0) ve_int))))
  vss_nil)
  (vss_cons (vs_if (vt_chain op_le op_le r2_le r2_le ve_int (ve_var 0) ve_int)
  (vss_one (vs_ret (ve_ix (ve_ix (ve_globT (ds := dv_PRINTABLE.map dvD) (by rfl) T.c_PRINTABLE.1 T.c_PRINTABLE.2 (fun G => dvs_rp G rfl)) ve_int) (ve_sub (ve_var 0) ve_int))))
  vss_nil)
  (vss_one (vs_ret ve_str))))⟩
theorem ok_text_of (T : Tx P w K mg) {f : Addr} {fd : FuncData} (D_text_of : Dn K mg "text_of" s_text_of ["codes"] f fd)
    {f_letter_of : Addr} {fd_letter_of : FuncData} (D_letter_of : Dn K mg "letter_of" s_letter_of ["code"] f_letter_of fd_letter_of) (G_letter_of : FnOk P w K mg base (L2N.CX P w) 1 f_letter_of fd_letter_of ["code"] (spF K F_letter_of))
    : FnOk P w K mg base CX 2 f fd ["codes"] (spF K F_text_of) := by
  refine def0 (N := N_text_of) (u := u_text_of) D_text_of.F sc_text_of len_text_of run_text_of (fun cdv A outer s H E hr => ?_) (fun _ _ _ _ h => h)
  exact ⟨_, (vss_cons (vs_setLc 1 (own := [("code", 2)]) (by rfl) sc_text_of.nd (by decide) (vi_seq (ve_var 0)) (blkOk_by (own := [("code", 2)]) (N := N_text_of) (sc := defScope s_text_of) (by decide +kernel)) (fun _ _ _ _ _ => (vg_name 2 sc_text_of.nd)) (fun _ _ _ _ _ => vts_nil) (fun _ _ _ _ _ => (ve_call G_letter_of (hr.mono (by decide)) (by rfl) D_letter_of.gm D_letter_of.kp D_letter_of.b (passQ quietN) (va_cons (ve_var 2) va_nil))) s H)
  (vss_cons (vs_if (vt_cmp (op_in_seq.or op_in_sign) r2_inM ve_str (ve_var 1) (by rfl))
  (vss_one (vs_ret ve_non))
  vss_nil)
  (vss_one (vs_ret (ve_join ve_str (ve_var 1))))))⟩
theorem ok_read_text (T : Tx P w K mg) {f : Addr} {fd : FuncData} (D_read_text : Dn K mg "read_text" s_read_text ["values", "index"] f fd)
    {f_text_of : Addr} {fd_text_of : FuncData} (D_text_of : Dn K mg "text_of" s_text_of ["codes"] f_text_of fd_text_of) (G_text_of : FnOk P w K mg base (L2N.CX P w) 2 f_text_of fd_text_of ["codes"] (spF K F_text_of))
    {f_read_bytes : Addr} {fd_read_bytes : FuncData} (D_read_bytes : Dn K mg "read_bytes" s_read_bytes ["values", "index"] f_read_bytes fd_read_bytes) (G_read_bytes : FnOk P w K mg base (L2N.CX P w) 5 f_read_bytes fd_read_bytes ["values", "index"] (spF K F_read_bytes))
    : FnOk P w K mg base (L2N.CX P w) 6 f fd ["values", "index"] (spF K F_read_text) := by
  refine defE (N := N_read_text) (u := u_read_text) D_read_text.F sc_read_text len_read_text run_read_text (fun cdv A outer s H E hr => ?_)
  exact ⟨_, (vss_cons (vs_asg (ve_call G_read_bytes (hr.mono (by decide)) (by rfl) D_read_bytes.gm D_read_bytes.kp D_read_bytes.b (L2N.passAt (L2N.takes_of rfl rfl rfl rfl)) (va_cons (ve_var 0) (va_cons (ve_var 1) va_nil))) (vg_tup (by rfl) (vgs_cons (vg_name 2 sc_read_text.nd) (vgs_cons (vg_name 3 sc_read_text.nd) vgs_nil)) (len_cons (len_cons len_nil))))
  (vss_cons (vs_set 4 sc_read_text.nd (ve_call G_text_of (hr.mono (by decide)) (by rfl) D_text_of.gm D_text_of.kp D_text_of.b (L2N.passAt (L2N.takes_of rfl rfl rfl rfl)) (va_cons (ve_var 2) va_nil)))
  (vss_cons (vs_if (vt_cmp op_isN r2_isN (ve_var 4) ve_non (nomark _))
  (vss_one (vs_raise (by rfl) (L2N.takes_of rfl rfl rfl rfl) T.xc_Unreadable hr (by decide) (by rfl) T.gx_Unreadable T.b_super (va_cons (ve_var 1) va_nil)))
  vss_nil)
  (vss_one (vs_ret (ve_tup (va_cons (ve_var 4) (va_cons (ve_var 3) va_nil))))))))⟩
theorem ok_law_cell (T : Tx P w K mg) {f : Addr} {fd : FuncData} (D_law_cell : Dn K mg "_law_cell" s_law_cell ["_law_script", "_law_k"] f fd)
    : FnOk P w K mg base CX 1 f fd ["_law_script", "_law_k"] (spF K F_law_cell) := by
  refine def0 (N := N_law_cell) (u := u_law_cell) D_law_cell.F sc_law_cell len_law_cell run_law_cell (fun cdv A outer s H E hr => ?_) (fun _ _ _ _ h => h)
  exact ⟨_, (vss_cons (vs_if (vt_cmp op_lt r2_lt (ve_var 1) (ve_len (by rfl) T.b_len (va_cons (ve_var 0) va_nil)) (nomark _))
  (vss_one (vs_ret (ve_ix (ve_var 0) (ve_var 1))))
  vss_nil)
  (vss_one (vs_ret ve_int)))⟩
theorem ok_law_draws (T : Tx P w K mg) {f : Addr} {fd : FuncData} (D_law_draws : Dn K mg "_law_draws" s_law_draws ["_law_cell_here", "_law_count"] f fd)
    : FnOk P w K mg base CX 1 f fd ["_law_cell_here", "_law_count"] (spF K F_law_draws) := by
  refine def0 (N := N_law_draws) (u := u_law_draws) D_law_draws.F sc_law_draws len_law_draws run_law_draws (fun cdv A outer s H E hr => ?_) (fun _ _ _ _ h => h)
  exact ⟨_, (vss_cons (vs_set 2 sc_law_draws.nd (ve_lst va_nil))
  (vss_cons (vs_set 3 sc_law_draws.nd (ve_var 0))
  (vss_cons (vs_for PassesOwn.never (by rfl) (vi_rng1 (by rfl) T.b_range (va_cons (ve_var 1) va_nil)) (vg_name 4 sc_law_draws.nd)
  (vss_one (vs_if (VW.vt (vw_and (vt_cmp op_ge r2_ge (ve_var 0) (ve_pow ve_int ve_int) (nomark _)) (vw_and1 (vt_cmp op_gt r2_gt (ve_var 3) ve_int (nomark _)))))
  (vss_cons (vs_ap 2 (ve_mod (ve_intf (by rfl) T.b_int (va_cons (ve_var 3) va_nil)) ve_int))
  (vss_one (vs_set 3 sc_law_draws.nd (ve_div (ve_var 3) ve_int))))
  (vss_cons (vs_set 5 sc_law_draws.nd (ve_mod (ve_intf (by rfl) T.b_int (va_cons (ve_plus (ve_times (ve_var 0) ve_int) (ve_times (ve_plus (ve_var 4) ve_int) ve_int)) va_nil)) ve_int))
  (vss_cons (vs_set 5 sc_law_draws.nd (ve_mod (ve_intf (by rfl) T.b_int (va_cons (ve_plus (ve_plus (ve_times (ve_var 5) (ve_var 5)) (ve_times (ve_var 5) ve_int)) (ve_times (ve_var 4) ve_int)) va_nil)) ve_int))
  (vss_cons (vs_set 5 sc_law_draws.nd (ve_mod (ve_intf (by rfl) T.b_int (va_cons (ve_plus (ve_plus (ve_times (ve_var 5) (ve_var 5)) (ve_var 0)) (ve_times ve_int (ve_var 4))) va_nil)) ve_int))
  (vss_one (vs_ap 2 (ve_mod (ve_div (ve_var 5) ve_int) ve_int)))))))))
  (vss_one (vs_retv 2)))))⟩
theorem ok_law_is_int (T : Tx P w K mg) {f : Addr} {fd : FuncData} (D_law_is_int : Dn K mg "_law_is_int" s_law_is_int ["_law_x"] f fd)
    : FnOk P w K mg base CX 1 f fd ["_law_x"] (spF K F_law_is_int) := by
  refine def0 (N := N_law_is_int) (u := u_law_is_int) D_law_is_int.F sc_law_is_int len_law_is_int run_law_is_int (fun cdv A outer s H E hr => ?_) (fun _ _ _ _ h => h)
  exact ⟨_, (vss_one (vs_ret (ve_and (ve_isi (T := "int") (by decide) (by rfl) T.b_isinstance (by rfl) T.b_int (by decide +kernel) (ve_var 0)) (ve_one (ve_not (ve_isi (T := "bool") (by decide) (by rfl) T.b_isinstance (by rfl) T.b_bool (by decide +kernel) (ve_var 0)))))))⟩
theorem okA_law_is_int (T : Tx P w K mg) {f : Addr} {fd : FuncData} (D_law_is_int : Dn K mg "_law_is_int" s_law_is_int ["_law_x"] f fd)
    : FnA P w K mg base (L2N.CX P w) 1 f fd ["_law_x"] (spF K F_law_is_int) := by
  refine defA (N := N_law_is_int) (u := u_law_is_int) D_law_is_int.F sc_law_is_int len_law_is_int run_law_is_int (fun cdv A outer s H E p hr => ?_) (fun _ _ _ _ h => h)
  exact ⟨_, (vss_one (vs_ret (ve_and (ve_isi (T := "int") (by decide) (by rfl) T.b_isinstance (by rfl) T.b_int (by decide +kernel) (ve_var 0)) (ve_one (ve_not (ve_isi (T := "bool") (by decide) (by rfl) T.b_isinstance (by rfl) T.b_bool (by decide +kernel) (ve_var 0)))))))⟩
theorem ok_law_is_number (T : Tx P w K mg) {f : Addr} {fd : FuncData} (D_law_is_number : Dn K mg "_law_is_number" s_law_is_number ["_law_x", "_law_due"] f fd)
    {f_law_is_int : Addr} {fd_law_is_int : FuncData} (D_law_is_int : Dn K mg "_law_is_int" s_law_is_int ["_law_x"] f_law_is_int fd_law_is_int) (G_law_is_int : FnOk P w K mg base (L2N.CX P w) 1 f_law_is_int fd_law_is_int ["_law_x"] (spF K F_law_is_int))
    (A_law_is_int : FnA P w K mg base (L2N.CX P w) 1 f_law_is_int fd_law_is_int ["_law_x"] (spF K F_law_is_int))
    : FnOk P w K mg base CX 2 f fd ["_law_x", "_law_due"] (spF K F_law_is_number) := by
  refine def0 (N := N_law_is_number) (u := u_law_is_number) D_law_is_number.F sc_law_is_number len_law_is_number run_law_is_number (fun cdv A outer s H E hr => ?_) (fun _ _ _ _ h => h)
  exact ⟨_, (vss_one (vs_ret (ve_and (ve_call G_law_is_int (hr.mono (by decide)) (by rfl) D_law_is_int.gm D_law_is_int.kp D_law_is_int.b (passQ quietN) (va_cons (ve_var 0) va_nil)) (ve_one (ve_cmp (op_eq.or (op_eqD hr.units)) r2_eqM (ve_var 0) (ve_var 1) (nomark _))))))⟩
theorem okA_law_is_number (T : Tx P w K mg) {f : Addr} {fd : FuncData} (D_law_is_number : Dn K mg "_law_is_number" s_law_is_number ["_law_x", "_law_due"] f fd)
    {f_law_is_int : Addr} {fd_law_is_int : FuncData} (D_law_is_int : Dn K mg "_law_is_int" s_law_is_int ["_law_x"] f_law_is_int fd_law_is_int) (A_law_is_int : FnA P w K mg base (L2N.CX P w) 1 f_law_is_int fd_law_is_int ["_law_x"] (spF K F_law_is_int))
    : FnA P w K mg base (L2N.CX P w) 2 f fd ["_law_x", "_law_due"] (spF K F_law_is_number) := by
  refine defA (N := N_law_is_number) (u := u_law_is_number) D_law_is_number.F sc_law_is_number len_law_is_number run_law_is_number (fun cdv A outer s H E p hr => ?_) (fun _ _ _ _ h => h)
  exact ⟨_, (vss_one (vs_ret (ve_and (ve_callA A_law_is_int (hr.mono (by decide)) ⟨_, List.mem_cons_self⟩ (by rfl) D_law_is_int.gm D_law_is_int.kp D_law_is_int.b (passQ quietN) (va_cons (ve_var 0) va_nil)) (ve_one (ve_cmp (op_eq.or (op_eqD hr.units)) r2_eqM (ve_var 0) (ve_var 1) (nomark _))))))⟩
theorem ok_law_stream (T : Tx P w K mg) {f : Addr} {fd : FuncData} (D_law_stream : Dn K mg "_law_stream" s_law_stream ["_law_script", "_law_count"] f fd)
    {f_law_draws : Addr} {fd_law_draws : FuncData} (D_law_draws : Dn K mg "_law_draws" s_law_draws ["_law_cell_here", "_law_count"] f_law_draws fd_law_draws) (G_law_draws : FnOk P w K mg base (L2N.CX P w) 1 f_law_draws fd_law_draws ["_law_cell_here", "_law_count"] (spF K F_law_draws))
    {f_law_cell : Addr} {fd_law_cell : FuncData} (D_law_cell : Dn K mg "_law_cell" s_law_cell ["_law_script", "_law_k"] f_law_cell fd_law_cell) (G_law_cell : FnOk P w K mg base (L2N.CX P w) 1 f_law_cell fd_law_cell ["_law_script", "_law_k"] (spF K F_law_cell))
    : FnOk P w K mg base CX 2 f fd ["_law_script", "_law_count"] (spF K F_law_stream) := by
  refine def0 (N := N_law_stream) (u := u_law_stream) D_law_stream.F sc_law_stream len_law_stream run_law_stream (fun cdv A outer s H E hr => ?_) (fun _ _ _ _ h => h)
  exact ⟨_, (vss_cons (vs_set 2 sc_law_stream.nd (ve_lst va_nil))
  (vss_cons (vs_for PassesOwn.never (by rfl) (vi_rng1 (by rfl) T.b_range (va_cons (ve_plus ve_int (ve_div (ve_var 1) ve_int)) va_nil)) (vg_name 3 sc_law_stream.nd)
  (vss_one (vs_set 2 sc_law_stream.nd (ve_plus (ve_var 2) (ve_call G_law_draws (hr.mono (by decide)) (by rfl) D_law_draws.gm D_law_draws.kp D_law_draws.b (passQ quietN) (va_cons (ve_plus (ve_call G_law_cell (hr.mono (by decide)) (by rfl) D_law_cell.gm D_law_cell.kp D_law_cell.b (passQ quietN) (va_cons (ve_var 0) (va_cons (ve_var 3) va_nil))) (ve_times ve_int (ve_var 3))) (va_cons ve_int va_nil)))))))
  (vss_one (vs_ret (ve_slice (ve_var 2) vo_none (vo_some (ve_var 1)))))))⟩
theorem ok_law_great (T : Tx P w K mg) {f : Addr} {fd : FuncData} (D_law_great : Dn K mg "_law_great" s_law_great ["_law_draws_here", "_law_at"] f fd)
    : FnOk P w K mg base CX 1 f fd ["_law_draws_here", "_law_at"] (spF K F_law_great) := by
  refine def0 (N := N_law_great) (u := u_law_great) D_law_great.F sc_law_great len_law_great run_law_great (fun cdv A outer s H E hr => ?_) (fun _ _ _ _ h => h)
  exact ⟨_, (vss_cons (vs_set 2 sc_law_great.nd (ve_ix (ve_var 0) (ve_plus (ve_var 1) ve_int)))
  (vss_cons (vs_for PassesOwn.never (by rfl) (vi_rng1 (by rfl) T.b_range (va_cons (ve_mod (ve_ix (ve_var 0) (ve_var 1)) ve_int) va_nil)) (vg_name 3 sc_law_great.nd)
  (vss_one (vs_set 2 sc_law_great.nd (ve_plus (ve_times (ve_var 2) ve_int) (ve_ix (ve_var 0) (ve_mod (ve_plus (ve_plus (ve_var 1) ve_int) (ve_var 3)) (ve_len (by rfl) T.b_len (va_cons (ve_var 0) va_nil))))))))
  (vss_cut (vs_if (vt_cmp (op_eq.or (op_eqD hr.units)) r2_eqM (ve_mod (ve_div (ve_ix (ve_var 0) (ve_var 1)) ve_int) ve_int) ve_int (nomark _))
  (vss_one (vs_set 2 sc_law_great.nd (ve_ix (ve_lst (va_cons ve_int (va_cons ve_int (va_cons ve_int (va_cons ve_int (va_cons ve_int (va_cons ve_int (va_cons ve_int (va_cons ve_int (va_cons ve_int va_nil)))))))))) (ve_mod (ve_ix (ve_var 0) (ve_plus (ve_var 1) ve_int)) ve_int))))
  vss_nil)
  (vss_one (vs_ret (ve_mod (ve_intf (by rfl) T.b_int (va_cons (ve_var 2) va_nil)) (ve_pow ve_int ve_int)))))))⟩
theorem ok_law_signed (T : Tx P w K mg) {f : Addr} {fd : FuncData} (D_law_signed : Dn K mg "_law_signed" s_law_signed ["_law_draws_here", "_law_at"] f fd)
    {f_law_great : Addr} {fd_law_great : FuncData} (D_law_great : Dn K mg "_law_great" s_law_great ["_law_draws_here", "_law_at"] f_law_great fd_law_great) (G_law_great : FnOk P w K mg base (L2N.CX P w) 1 f_law_great fd_law_great ["_law_draws_here", "_law_at"] (spF K F_law_great))
    : FnOk P w K mg base CX 2 f fd ["_law_draws_here", "_law_at"] (spF K F_law_signed) := by
  refine def0 (N := N_law_signed) (u := u_law_signed) D_law_signed.F sc_law_signed len_law_signed run_law_signed (fun cdv A outer s H E hr => ?_) (fun _ _ _ _ h => h)
  exact ⟨_, (vss_cons (vs_set 2 sc_law_signed.nd (ve_call G_law_great (hr.mono (by decide)) (by rfl) D_law_great.gm D_law_great.kp D_law_great.b (passQ quietN) (va_cons (ve_var 0) (va_cons (ve_var 1) va_nil))))
  (vss_cons (vs_if (vt_cmp (op_eq.or (op_eqD hr.units)) r2_eqM (ve_mod (ve_div (ve_ix (ve_var 0) (ve_var 1)) ve_int) ve_int) ve_int (nomark _))
  (vss_one (vs_ret (ve_neg (ve_var 2))))
  vss_nil)
  (vss_one (vs_retv 2))))⟩
theorem ok_law_number_bytes (T : Tx P w K mg) {f : Addr} {fd : FuncData} (D_law_number_bytes : Dn K mg "_law_number_bytes" s_law_number_bytes ["_law_number"] f fd)
    : FnOk P w K mg base CX 1 f fd ["_law_number"] (spF K F_law_number_bytes) := by
  refine def0 (N := N_law_number_bytes) (u := u_law_number_bytes) D_law_number_bytes.F sc_law_number_bytes len_law_number_bytes run_law_number_bytes (fun cdv A outer s H E hr => ?_) (fun _ _ _ _ h => h)
  exact ⟨_, (vss_cons (vs_set 1 sc_law_number_bytes.nd (ve_lst va_nil))
  (vss_cons (vs_for PassesOwn.never (by rfl) (vi_rng1 (by rfl) T.b_range (va_cons ve_int va_nil)) (vg_name 2 sc_law_number_bytes.nd)
  (vss_cons (vs_if (vt_cmp op_lt r2_lt (ve_var 0) ve_int (nomark _))
  (vss_one vs_break)
  vss_nil)
  (vss_cons (vs_ap 1 (ve_plus ve_int (ve_mod (ve_intf (by rfl) T.b_int (va_cons (ve_var 0) va_nil)) ve_int)))
  (vss_one (vs_set 0 sc_law_number_bytes.nd (ve_div (ve_var 0) ve_int))))))
  (vss_one (vs_ret (ve_plus (ve_var 1) (ve_lst (va_cons (ve_var 0) va_nil)))))))⟩
theorem ok_law_integer_bytes (T : Tx P w K mg) {f : Addr} {fd : FuncData} (D_law_integer_bytes : Dn K mg "_law_integer_bytes" s_law_integer_bytes ["_law_number"] f fd)
    {f_law_number_bytes : Addr} {fd_law_number_bytes : FuncData} (D_law_number_bytes : Dn K mg "_law_number_bytes" s_law_number_bytes ["_law_number"] f_law_number_bytes fd_law_number_bytes) (G_law_number_bytes : FnOk P w K mg base (L2N.CX P w) 1 f_law_number_bytes fd_law_number_bytes ["_law_number"] (spF K F_law_number_bytes))
    : FnOk P w K mg base CX 2 f fd ["_law_number"] (spF K F_law_integer_bytes) := by
  refine def0 (N := N_law_integer_bytes) (u := u_law_integer_bytes) D_law_integer_bytes.F sc_law_integer_bytes len_law_integer_bytes run_law_integer_bytes (fun cdv A outer s H E hr => ?_) (fun _ _ _ _ h => h)
  exact ⟨_, (vss_cons (vs_if (vt_cmp op_lt r2_lt (ve_var 0) ve_int (nomark _))
  (vss_one (vs_ret (ve_call G_law_number_bytes (hr.mono (by decide)) (by rfl) D_law_number_bytes.gm D_law_number_bytes.kp D_law_number_bytes.b (passQ quietN) (va_cons (ve_sub (ve_times (ve_neg ve_int) (ve_var 0)) ve_int) va_nil))))
  vss_nil)
  (vss_one (vs_ret (ve_call G_law_number_bytes (hr.mono (by decide)) (by rfl) D_law_number_bytes.gm D_law_number_bytes.kp D_law_number_bytes.b (passQ quietN) (va_cons (ve_times ve_int (ve_var 0)) va_nil)))))⟩
theorem ok_law_integers_bytes (T : Tx P w K mg) {f : Addr} {fd : FuncData} (D_law_integers_bytes : Dn K mg "_law_integers_bytes" s_law_integers_bytes ["_law_numbers"] f fd)
    {f_law_integer_bytes : Addr} {fd_law_integer_bytes : FuncData} (D_law_integer_bytes : Dn K mg "_law_integer_bytes" s_law_integer_bytes ["_law_number"] f_law_integer_bytes fd_law_integer_bytes) (G_law_integer_bytes : FnOk P w K mg base (L2N.CX P w) 2 f_law_integer_bytes fd_law_integer_bytes ["_law_number"] (spF K F_law_integer_bytes))
    {f_law_number_bytes : Addr} {fd_law_number_bytes : FuncData} (D_law_number_bytes : Dn K mg "_law_number_bytes" s_law_number_bytes ["_law_number"] f_law_number_bytes fd_law_number_bytes) (G_law_number_bytes : FnOk P w K mg base (L2N.CX P w) 1 f_law_number_bytes fd_law_number_bytes ["_law_number"] (spF K F_law_number_bytes))
    : FnOk P w K mg base CX 3 f fd ["_law_numbers"] (spF K F_law_integers_bytes) := by
  refine def0 (N := N_law_integers_bytes) (u := u_law_integers_bytes) D_law_integers_bytes.F sc_law_integers_bytes len_law_integers_bytes run_law_integers_bytes (fun cdv A outer s H E hr => ?_) (fun _ _ _ _ h => h)
  exact ⟨_, (vss_cons (vs_set 1 sc_law_integers_bytes.nd (ve_call G_law_number_bytes (hr.mono (by decide)) (by rfl) D_law_number_bytes.gm D_law_number_bytes.kp D_law_number_bytes.b (passQ quietN) (va_cons (ve_len (by rfl) T.b_len (va_cons (ve_var 0) va_nil)) va_nil)))
  (vss_cons (vs_for PassesOwn.never (by rfl) (vi_seq (ve_var 0)) (vg_name 2 sc_law_integers_bytes.nd)
  (vss_one (vs_set 1 sc_law_integers_bytes.nd (ve_plus (ve_var 1) (ve_call G_law_integer_bytes (hr.mono (by decide)) (by rfl) D_law_integer_bytes.gm D_law_integer_bytes.kp D_law_integer_bytes.b (passQ quietN) (va_cons (ve_var 2) va_nil))))))
  (vss_one (vs_retv 1))))⟩
theorem ok_law_bytes_bytes (T : Tx P w K mg) {f : Addr} {fd : FuncData} (D_law_bytes_bytes : Dn K mg "_law_bytes_bytes" s_law_bytes_bytes ["_law_values"] f fd)
    {f_law_number_bytes : Addr} {fd_law_number_bytes : FuncData} (D_law_number_bytes : Dn K mg "_law_number_bytes" s_law_number_bytes ["_law_number"] f_law_number_bytes fd_law_number_bytes) (G_law_number_bytes : FnOk P w K mg base (L2N.CX P w) 1 f_law_number_bytes fd_law_number_bytes ["_law_number"] (spF K F_law_number_bytes))
    : FnOk P w K mg base CX 2 f fd ["_law_values"] (spF K F_law_bytes_bytes) := by
  refine def0 (N := N_law_bytes_bytes) (u := u_law_bytes_bytes) D_law_bytes_bytes.F sc_law_bytes_bytes len_law_bytes_bytes run_law_bytes_bytes (fun cdv A outer s H E hr => ?_) (fun _ _ _ _ h => h)
  exact ⟨_, (vss_cons (vs_set 1 sc_law_bytes_bytes.nd (ve_call G_law_number_bytes (hr.mono (by decide)) (by rfl) D_law_number_bytes.gm D_law_number_bytes.kp D_law_number_bytes.b (passQ quietN) (va_cons (ve_len (by rfl) T.b_len (va_cons (ve_var 0) va_nil)) va_nil)))
  (vss_cons (vs_for PassesOwn.never (by rfl) (vi_seq (ve_var 0)) (vg_name 2 sc_law_bytes_bytes.nd)
  (vss_one (vs_if (vt_cmp op_lt r2_lt (ve_var 2) ve_int (nomark _))
  (vss_one (vs_set 1 sc_law_bytes_bytes.nd (ve_plus (ve_var 1) (ve_lst (va_cons (ve_var 2) va_nil)))))
  (vss_one (vs_set 1 sc_law_bytes_bytes.nd (ve_plus (ve_var 1) (ve_lst (va_cons ve_int (va_cons (ve_sub (ve_var 2) ve_int) va_nil)))))))))
  (vss_one (vs_retv 1))))⟩
theorem ok_law_signs (T : Tx P w K mg) {f : Addr} {fd : FuncData} (D_law_signs : Dn K mg "_law_signs" s_law_signs [] f fd)
    : FnOk P w K mg base CX 1 f fd [] (spF K F_law_signs) := by
  refine def0 (N := N_law_signs) (u := u_law_signs) D_law_signs.F sc_law_signs len_law_signs run_law_signs (fun cdv A outer s H E hr => ?_) (fun _ _ _ _ h => h)
  exact ⟨_, (vss_one (vs_ret ve_str))⟩
theorem ok_law_text_of (T : Tx P w K mg) {f : Addr} {fd : FuncData} (D_law_text_of : Dn K mg "_law_text_of" s_law_text_of ["_law_draws_here", "_law_at", "_law_most"] f fd)
    {f_law_signs : Addr} {fd_law_signs : FuncData} (D_law_signs : Dn K mg "_law_signs" s_law_signs [] f_law_signs fd_law_signs) (G_law_signs : FnOk P w K mg base (L2N.CX P w) 1 f_law_signs fd_law_signs [] (spF K F_law_signs))
    : FnOk P w K mg base CX 2 f fd ["_law_draws_here", "_law_at", "_law_most"] (spF K F_law_text_of) := by
  refine def0 (N := N_law_text_of) (u := u_law_text_of) D_law_text_of.F sc_law_text_of len_law_text_of run_law_text_of (fun cdv A outer s H E hr => ?_) (fun _ _ _ _ h => h)
  exact ⟨_, (vss_cons (vs_set 3 sc_law_text_of.nd (ve_call0 G_law_signs (hr.mono (by decide)) (by rfl) D_law_signs.gm D_law_signs.kp D_law_signs.b (passQ quietN)))
  (vss_one (vs_ret (ve_join ve_str (ve_lc (own := [("_law_k", 4)]) (by rfl) sc_law_text_of.nd (by decide) (vi_rng1 (by rfl) T.b_range (va_cons (ve_mod (ve_ix (ve_var 0) (ve_var 1)) (ve_plus (ve_var 2) ve_int)) va_nil)) (blkOk_by (own := [("_law_k", 4)]) (N := N_law_text_of) (sc := defScope s_law_text_of) (by decide +kernel)) (fun _ _ _ _ _ => (vg_name 4 sc_law_text_of.nd)) (fun _ _ _ _ _ => vts_nil) (fun _ _ _ _ _ => (ve_ix (ve_var 3) (ve_mod (ve_div (ve_ix (ve_var 0) (ve_mod (ve_plus (ve_plus (ve_var 1) ve_int) (ve_var 4)) (ve_len (by rfl) T.b_len (va_cons (ve_var 0) va_nil)))) (ve_plus ve_int (ve_div (ve_var 4) (ve_len (by rfl) T.b_len (va_cons (ve_var 0) va_nil))))) (ve_len (by rfl) T.b_len (va_cons (ve_var 3) va_nil))))) s H)))))⟩
theorem ok_law_codes (T : Tx P w K mg) {f : Addr} {fd : FuncData} (D_law_codes : Dn K mg "_law_codes" s_law_codes ["_law_text"] f fd)
    {f_law_signs : Addr} {fd_law_signs : FuncData} (D_law_signs : Dn K mg "_law_signs" s_law_signs [] f_law_signs fd_law_signs) (G_law_signs : FnOk P w K mg base (L2N.CX P w) 1 f_law_signs fd_law_signs [] (spF K F_law_signs))
    : FnOk P w K mg base CX 2 f fd ["_law_text"] (spF K F_law_codes) := by
  refine def0 (N := N_law_codes) (u := u_law_codes) D_law_codes.F sc_law_codes len_law_codes run_law_codes (fun cdv A outer s H E hr => ?_) (fun _ _ _ _ h => h)
  exact ⟨_, (vss_cons (vs_set 1 sc_law_codes.nd (ve_call0 G_law_signs (hr.mono (by decide)) (by rfl) D_law_signs.gm D_law_signs.kp D_law_signs.b (passQ quietN)))
  (vss_cons (vs_set 2 sc_law_codes.nd (ve_lst va_nil))
  (vss_cons (vs_for PassesOwn.never (by rfl) (vi_seq (ve_var 0)) (vg_name 3 sc_law_codes.nd)
  (vss_cons (vs_set 4 sc_law_codes.nd (ve_sindex (ve_var 1) (ve_var 3)))
  (vss_one (vs_ap 2 (ve_plus (ve_plus ve_int (ve_var 4)) (ve_intf (by rfl) T.b_int (va_cons (ve_cmp op_gt r2_gt (ve_var 4) ve_int (nomark _)) va_nil)))))))
  (vss_one (vs_retv 2)))))⟩
theorem ok_law_text_bytes (T : Tx P w K mg) {f : Addr} {fd : FuncData} (D_law_text_bytes : Dn K mg "_law_text_bytes" s_law_text_bytes ["_law_text"] f fd)
    {f_law_bytes_bytes : Addr} {fd_law_bytes_bytes : FuncData} (D_law_bytes_bytes : Dn K mg "_law_bytes_bytes" s_law_bytes_bytes ["_law_values"] f_law_bytes_bytes fd_law_bytes_bytes) (G_law_bytes_bytes : FnOk P w K mg base (L2N.CX P w) 2 f_law_bytes_bytes fd_law_bytes_bytes ["_law_values"] (spF K F_law_bytes_bytes))
    {f_law_codes : Addr} {fd_law_codes : FuncData} (D_law_codes : Dn K mg "_law_codes" s_law_codes ["_law_text"] f_law_codes fd_law_codes) (G_law_codes : FnOk P w K mg base (L2N.CX P w) 2 f_law_codes fd_law_codes ["_law_text"] (spF K F_law_codes))
    : FnOk P w K mg base CX 3 f fd ["_law_text"] (spF K F_law_text_bytes) := by
  refine def0 (N := N_law_text_bytes) (u := u_law_text_bytes) D_law_text_bytes.F sc_law_text_bytes len_law_text_bytes run_law_text_bytes (fun cdv A outer s H E hr => ?_) (fun _ _ _ _ h => h)
  exact ⟨_, (vss_one (vs_ret (ve_call G_law_bytes_bytes (hr.mono (by decide)) (by rfl) D_law_bytes_bytes.gm D_law_bytes_bytes.kp D_law_bytes_bytes.b (passQ quietN) (va_cons (ve_call G_law_codes (hr.mono (by decide)) (by rfl) D_law_codes.gm D_law_codes.kp D_law_codes.b (passQ quietN) (va_cons (ve_var 0) va_nil)) va_nil))))⟩
theorem ok_law_made (T : Tx P w K mg) {f : Addr} {fd : FuncData} (D_law_made : Dn K mg "_law_made" s_law_made ["_law_draws_here", "_law_way"] f fd)
    {f_law_text_bytes : Addr} {fd_law_text_bytes : FuncData} (D_law_text_bytes : Dn K mg "_law_text_bytes" s_law_text_bytes ["_law_text"] f_law_text_bytes fd_law_text_bytes) (G_law_text_bytes : FnOk P w K mg base (L2N.CX P w) 3 f_law_text_bytes fd_law_text_bytes ["_law_text"] (spF K F_law_text_bytes))
    {f_law_text_of : Addr} {fd_law_text_of : FuncData} (D_law_text_of : Dn K mg "_law_text_of" s_law_text_of ["_law_draws_here", "_law_at", "_law_most"] f_law_text_of fd_law_text_of) (G_law_text_of : FnOk P w K mg base (L2N.CX P w) 2 f_law_text_of fd_law_text_of ["_law_draws_here", "_law_at", "_law_most"] (spF K F_law_text_of))
    {f_law_bytes_bytes : Addr} {fd_law_bytes_bytes : FuncData} (D_law_bytes_bytes : Dn K mg "_law_bytes_bytes" s_law_bytes_bytes ["_law_values"] f_law_bytes_bytes fd_law_bytes_bytes) (G_law_bytes_bytes : FnOk P w K mg base (L2N.CX P w) 2 f_law_bytes_bytes fd_law_bytes_bytes ["_law_values"] (spF K F_law_bytes_bytes))
    {f_law_integers_bytes : Addr} {fd_law_integers_bytes : FuncData} (D_law_integers_bytes : Dn K mg "_law_integers_bytes" s_law_integers_bytes ["_law_numbers"] f_law_integers_bytes fd_law_integers_bytes) (G_law_integers_bytes : FnOk P w K mg base (L2N.CX P w) 3 f_law_integers_bytes fd_law_integers_bytes ["_law_numbers"] (spF K F_law_integers_bytes))
    {f_law_signed : Addr} {fd_law_signed : FuncData} (D_law_signed : Dn K mg "_law_signed" s_law_signed ["_law_draws_here", "_law_at"] f_law_signed fd_law_signed) (G_law_signed : FnOk P w K mg base (L2N.CX P w) 2 f_law_signed fd_law_signed ["_law_draws_here", "_law_at"] (spF K F_law_signed))
    {f_law_integer_bytes : Addr} {fd_law_integer_bytes : FuncData} (D_law_integer_bytes : Dn K mg "_law_integer_bytes" s_law_integer_bytes ["_law_number"] f_law_integer_bytes fd_law_integer_bytes) (G_law_integer_bytes : FnOk P w K mg base (L2N.CX P w) 2 f_law_integer_bytes fd_law_integer_bytes ["_law_number"] (spF K F_law_integer_bytes))
    {f_law_number_bytes : Addr} {fd_law_number_bytes : FuncData} (D_law_number_bytes : Dn K mg "_law_number_bytes" s_law_number_bytes ["_law_number"] f_law_number_bytes fd_law_number_bytes) (G_law_number_bytes : FnOk P w K mg base (L2N.CX P w) 1 f_law_number_bytes fd_law_number_bytes ["_law_number"] (spF K F_law_number_bytes))
    {f_law_great : Addr} {fd_law_great : FuncData} (D_law_great : Dn K mg "_law_great" s_law_great ["_law_draws_here", "_law_at"] f_law_great fd_law_great) (G_law_great : FnOk P w K mg base (L2N.CX P w) 1 f_law_great fd_law_great ["_law_draws_here", "_law_at"] (spF K F_law_great))
    : FnOk P w K mg base CX 4 f fd ["_law_draws_here", "_law_way"] (spF K F_law_made) := by
  refine def0 (N := N_law_made) (u := u_law_made) D_law_made.F sc_law_made len_law_made run_law_made (fun cdv A outer s H E hr => ?_) (fun _ _ _ _ h => h)
  exact ⟨_, (vss_cons (vs_if (vt_cmp (op_eq.or (op_eqD hr.units)) r2_eqM (ve_var 1) ve_int (nomark _))
  (vss_one (vs_ret (ve_call G_law_number_bytes (hr.mono (by decide)) (by rfl) D_law_number_bytes.gm D_law_number_bytes.kp D_law_number_bytes.b (passQ quietN) (va_cons (ve_call G_law_great (hr.mono (by decide)) (by rfl) D_law_great.gm D_law_great.kp D_law_great.b (passQ quietN) (va_cons (ve_var 0) (va_cons ve_int va_nil))) va_nil))))
  vss_nil)
  (vss_cons (vs_if (vt_cmp (op_eq.or (op_eqD hr.units)) r2_eqM (ve_var 1) ve_int (nomark _))
  (vss_one (vs_ret (ve_call G_law_integer_bytes (hr.mono (by decide)) (by rfl) D_law_integer_bytes.gm D_law_integer_bytes.kp D_law_integer_bytes.b (passQ quietN) (va_cons (ve_call G_law_signed (hr.mono (by decide)) (by rfl) D_law_signed.gm D_law_signed.kp D_law_signed.b (passQ quietN) (va_cons (ve_var 0) (va_cons ve_int va_nil))) va_nil))))
  vss_nil)
  (vss_cons (vs_if (vt_cmp (op_eq.or (op_eqD hr.units)) r2_eqM (ve_var 1) ve_int (nomark _))
  (vss_one (vs_ret (ve_call G_law_integers_bytes (hr.mono (by decide)) (by rfl) D_law_integers_bytes.gm D_law_integers_bytes.kp D_law_integers_bytes.b (passQ quietN) (va_cons (ve_lc (own := [("_law_k", 2)]) (by rfl) sc_law_made.nd (by decide) (vi_rng1 (by rfl) T.b_range (va_cons (ve_mod (ve_ix (ve_var 0) ve_int) ve_int) va_nil)) (blkOk_by (own := [("_law_k", 2)]) (N := N_law_made) (sc := defScope s_law_made) (by decide +kernel)) (fun _ _ _ _ _ => (vg_name 2 sc_law_made.nd)) (fun _ _ _ _ _ => vts_nil) (fun _ _ _ _ _ => (ve_call G_law_signed (hr.mono (by decide)) (by rfl) D_law_signed.gm D_law_signed.kp D_law_signed.b (passQ quietN) (va_cons (ve_var 0) (va_cons (ve_plus ve_int (ve_var 2)) va_nil)))) s H) va_nil))))
  vss_nil)
  (vss_cons (vs_if (vt_cmp (op_eq.or (op_eqD hr.units)) r2_eqM (ve_var 1) ve_int (nomark _))
  (vss_one (vs_ret (ve_call G_law_bytes_bytes (hr.mono (by decide)) (by rfl) D_law_bytes_bytes.gm D_law_bytes_bytes.kp D_law_bytes_bytes.b (passQ quietN) (va_cons (ve_lc (own := [("_law_k", 2)]) (by rfl) sc_law_made.nd (by decide) (vi_rng1 (by rfl) T.b_range (va_cons (ve_mod (ve_ix (ve_var 0) ve_int) ve_int) va_nil)) (blkOk_by (own := [("_law_k", 2)]) (N := N_law_made) (sc := defScope s_law_made) (by decide +kernel)) (fun _ _ _ _ _ => (vg_name 2 sc_law_made.nd)) (fun _ _ _ _ _ => vts_nil) (fun _ _ _ _ _ => (ve_mod (ve_ix (ve_var 0) (ve_plus ve_int (ve_var 2))) ve_int)) s H) va_nil))))
  vss_nil)
  (vss_one (vs_ret (ve_call G_law_text_bytes (hr.mono (by decide)) (by rfl) D_law_text_bytes.gm D_law_text_bytes.kp D_law_text_bytes.b (passQ quietN) (va_cons (ve_call G_law_text_of (hr.mono (by decide)) (by rfl) D_law_text_of.gm D_law_text_of.kp D_law_text_of.b (passQ quietN) (va_cons (ve_var 0) (va_cons ve_int (va_cons ve_int va_nil)))) va_nil))))))))⟩
theorem ok_law_read (T : Tx P w K mg) {f : Addr} {fd : FuncData} (D_law_read : Dn K mg "_law_read" s_law_read ["_law_way", "_law_values", "_law_index"] f fd)
    {f_read_text : Addr} {fd_read_text : FuncData} (D_read_text : Dn K mg "read_text" s_read_text ["values", "index"] f_read_text fd_read_text) (G_read_text : FnOk P w K mg base (L2N.CX P w) 6 f_read_text fd_read_text ["values", "index"] (spF K F_read_text))
    {f_read_bytes : Addr} {fd_read_bytes : FuncData} (D_read_bytes : Dn K mg "read_bytes" s_read_bytes ["values", "index"] f_read_bytes fd_read_bytes) (G_read_bytes : FnOk P w K mg base (L2N.CX P w) 5 f_read_bytes fd_read_bytes ["values", "index"] (spF K F_read_bytes))
    {f_read_integers : Addr} {fd_read_integers : FuncData} (D_read_integers : Dn K mg "read_integers" s_read_integers ["values", "index"] f_read_integers fd_read_integers) (G_read_integers : FnOk P w K mg base (L2.CX P w) 5 f_read_integers fd_read_integers ["values", "index"] (spF K F_read_integers))
    {f_read_integer : Addr} {fd_read_integer : FuncData} (D_read_integer : Dn K mg "read_integer" s_read_integer ["values", "index"] f_read_integer fd_read_integer) (G_read_integer : FnOk P w K mg base (L2N.CX P w) 4 f_read_integer fd_read_integer ["values", "index"] (spF K F_read_integer))
    {f_read_number : Addr} {fd_read_number : FuncData} (D_read_number : Dn K mg "read_number" s_read_number ["values", "index"] f_read_number fd_read_number) (G_read_number : FnOk P w K mg base (L2N.CX P w) 3 f_read_number fd_read_number ["values", "index"] (spF K F_read_number))
    : FnOk P w K mg base (L2.CX P w) 7 f fd ["_law_way", "_law_values", "_law_index"] (spF K F_law_read) := by
  refine defE (N := N_law_read) (u := u_law_read) D_law_read.F sc_law_read len_law_read run_law_read (fun cdv A outer s H E hr => ?_)
  exact ⟨_, (vss_cons (vs_if (vt_cmp (op_eq.or (op_eqD hr.units)) r2_eqM (ve_var 0) ve_int (nomark _))
  (vss_one (vs_ret (ve_call G_read_number (hr.mono (by decide)) (by rfl) D_read_number.gm D_read_number.kp D_read_number.b (passNC (L2.takes_of rfl rfl rfl rfl)) (va_cons (ve_var 1) (va_cons (ve_var 2) va_nil)))))
  vss_nil)
  (vss_cons (vs_if (vt_cmp (op_eq.or (op_eqD hr.units)) r2_eqM (ve_var 0) ve_int (nomark _))
  (vss_one (vs_ret (ve_call G_read_integer (hr.mono (by decide)) (by rfl) D_read_integer.gm D_read_integer.kp D_read_integer.b (passNC (L2.takes_of rfl rfl rfl rfl)) (va_cons (ve_var 1) (va_cons (ve_var 2) va_nil)))))
  vss_nil)
  (vss_cons (vs_if (vt_cmp (op_eq.or (op_eqD hr.units)) r2_eqM (ve_var 0) ve_int (nomark _))
  (vss_one (vs_ret (ve_call G_read_integers (hr.mono (by decide)) (by rfl) D_read_integers.gm D_read_integers.kp D_read_integers.b (passCC (L2.takes_of rfl rfl rfl rfl)) (va_cons (ve_var 1) (va_cons (ve_var 2) va_nil)))))
  vss_nil)
  (vss_cons (vs_if (vt_cmp (op_eq.or (op_eqD hr.units)) r2_eqM (ve_var 0) ve_int (nomark _))
  (vss_one (vs_ret (ve_call G_read_bytes (hr.mono (by decide)) (by rfl) D_read_bytes.gm D_read_bytes.kp D_read_bytes.b (passNC (L2.takes_of rfl rfl rfl rfl)) (va_cons (ve_var 1) (va_cons (ve_var 2) va_nil)))))
  vss_nil)
  (vss_one (vs_ret (ve_call G_read_text (hr.mono (by decide)) (by rfl) D_read_text.gm D_read_text.kp D_read_text.b (passNC (L2.takes_of rfl rfl rfl rfl)) (va_cons (ve_var 1) (va_cons (ve_var 2) va_nil)))))))))⟩
theorem ok_law_first_end (T : Tx P w K mg) {f : Addr} {fd : FuncData} (D_law_first_end : Dn K mg "_law_first_end" s_law_first_end ["_law_values"] f fd)
    : FnOk P w K mg base CX 1 f fd ["_law_values"] (spF K F_law_first_end) := by
  refine def0 (N := N_law_first_end) (u := u_law_first_end) D_law_first_end.F sc_law_first_end len_law_first_end run_law_first_end (fun cdv A outer s H E hr => ?_) (fun _ _ _ _ h => h)
  exact ⟨_, (vss_cons (vs_for PassesOwn.never (by rfl) (vi_rng1 (by rfl) T.b_range (va_cons (ve_len (by rfl) T.b_len (va_cons (ve_var 0) va_nil)) va_nil)) (vg_name 1 sc_law_first_end.nd)
  (vss_one (vs_if (vt_cmp op_lt r2_lt (ve_ix (ve_var 0) (ve_var 1)) ve_int (nomark _))
  (vss_one (vs_retv 1))
  vss_nil)))
  (vss_one (vs_ret ve_int)))⟩
theorem ok_law (T : Tx P w K mg) {f : Addr} {fd : FuncData} (D_law : Dn K mg "law" s_law ["_law_script"] f fd)
    {f_law_is_number : Addr} {fd_law_is_number : FuncData} (D_law_is_number : Dn K mg "_law_is_number" s_law_is_number ["_law_x", "_law_due"] f_law_is_number fd_law_is_number) (G_law_is_number : FnOk P w K mg base (L2N.CX P w) 2 f_law_is_number fd_law_is_number ["_law_x", "_law_due"] (spF K F_law_is_number))
    {f_law_read : Addr} {fd_law_read : FuncData} (D_law_read : Dn K mg "_law_read" s_law_read ["_law_way", "_law_values", "_law_index"] f_law_read fd_law_read) (G_law_read : FnOk P w K mg base (L2.CX P w) 7 f_law_read fd_law_read ["_law_way", "_law_values", "_law_index"] (spF K F_law_read))
    {f_law_first_end : Addr} {fd_law_first_end : FuncData} (D_law_first_end : Dn K mg "_law_first_end" s_law_first_end ["_law_values"] f_law_first_end fd_law_first_end) (G_law_first_end : FnOk P w K mg base (L2N.CX P w) 1 f_law_first_end fd_law_first_end ["_law_values"] (spF K F_law_first_end))
    {f_law_bytes_bytes : Addr} {fd_law_bytes_bytes : FuncData} (D_law_bytes_bytes : Dn K mg "_law_bytes_bytes" s_law_bytes_bytes ["_law_values"] f_law_bytes_bytes fd_law_bytes_bytes) (G_law_bytes_bytes : FnOk P w K mg base (L2N.CX P w) 2 f_law_bytes_bytes fd_law_bytes_bytes ["_law_values"] (spF K F_law_bytes_bytes))
    {f_law_made : Addr} {fd_law_made : FuncData} (D_law_made : Dn K mg "_law_made" s_law_made ["_law_draws_here", "_law_way"] f_law_made fd_law_made) (G_law_made : FnOk P w K mg base (L2N.CX P w) 4 f_law_made fd_law_made ["_law_draws_here", "_law_way"] (spF K F_law_made))
    {f_law_stream : Addr} {fd_law_stream : FuncData} (D_law_stream : Dn K mg "_law_stream" s_law_stream ["_law_script", "_law_count"] f_law_stream fd_law_stream) (G_law_stream : FnOk P w K mg base (L2N.CX P w) 2 f_law_stream fd_law_stream ["_law_script", "_law_count"] (spF K F_law_stream))
    (A_law_is_number : FnA P w K mg base (L2N.CX P w) 2 f_law_is_number fd_law_is_number ["_law_x", "_law_due"] (spF K F_law_is_number))
    : FnOk P w K mg base CX 8 f fd ["_law_script"] (spF K F_law) := by
  refine def0 (N := N_law) (u := u_law) D_law.F sc_law len_law run_law (fun cdv A outer s H E hr => ?_) (fun _ _ _ _ h => h)
  exact ⟨_, (vss_cons (vs_set 1 sc_law.nd (ve_call G_law_stream (hr.mono (by decide)) (by rfl) D_law_stream.gm D_law_stream.kp D_law_stream.b (passQ quietN) (va_cons (ve_var 0) (va_cons ve_int va_nil))))
  (vss_cons (vs_frz 1 (vs_set 2 sc_law.nd (ve_mod (ve_ix (ve_var 1) ve_int) ve_int)))
  (vss_cons (vs_set 3 sc_law.nd (ve_call G_law_made (hr.mono (by decide)) (by rfl) D_law_made.gm D_law_made.kp D_law_made.b (passQ quietN) (va_cons (ve_var 1) (va_cons (ve_var 2) va_nil))))
  (vss_cons (vs_setLc 4 (own := [("_law_k", 12)]) (by rfl) sc_law.nd (by decide) (vi_rng1 (by rfl) T.b_range (va_cons (ve_mod (ve_ix (ve_var 1) ve_int) ve_int) va_nil)) (blkOk_by (own := [("_law_k", 12)]) (N := N_law) (sc := defScope s_law) (by decide +kernel)) (fun _ _ _ _ _ => (vg_name 12 sc_law.nd)) (fun _ _ _ _ _ => vts_nil) (fun _ _ _ _ _ => (ve_mod (ve_ix (ve_var 1) (ve_plus ve_int (ve_var 12))) ve_int)) s H)
  (vss_cons (vs_set 5 sc_law.nd (ve_len (by rfl) T.b_len (va_cons (ve_var 4) va_nil)))
  (vss_cons (vs_setLc 6 (own := [("_law_k", 12)]) (by rfl) sc_law.nd (by decide) (vi_rng1 (by rfl) T.b_range (va_cons (ve_mod (ve_div (ve_ix (ve_var 1) ve_int) ve_int) ve_int) va_nil)) (blkOk_by (own := [("_law_k", 12)]) (N := N_law) (sc := defScope s_law) (by decide +kernel)) (fun _ _ _ _ _ => (vg_name 12 sc_law.nd)) (fun _ _ _ _ _ => vts_nil) (fun _ _ _ _ _ => (ve_mod (ve_ix (ve_var 1) (ve_plus ve_int (ve_var 12))) ve_int)) s H)
  (vss_cons (vs_set 7 sc_law.nd (ve_mod (ve_ix (ve_var 1) ve_int) ve_int))
  (vss_cons (vs_set 8 sc_law.nd (ve_mod (ve_ix (ve_var 1) ve_int) (ve_len (by rfl) T.b_len (va_cons (ve_var 3) va_nil))))
  (vss_cut (vs_if (vt_cmp (op_eq.or (op_eqD hr.units)) r2_eqM (ve_var 7) ve_int (nomark _))
  (vss_cons (vs_set 3 sc_law.nd (ve_slice (ve_var 3) vo_none (vo_some (ve_var 8))))
  (vss_one (vs_set 6 sc_law.nd (ve_lst va_nil))))
  (vss_one (vs_if (vt_cmp (op_eq.or (op_eqD hr.units)) r2_eqM (ve_var 7) ve_int (nomark _))
  (vss_one (vs_put 3 (ve_var 8) (ve_plus ve_int (ve_mod (ve_ix (ve_var 1) ve_int) ve_int))))
  (vss_one (vs_if (vt_cmp (op_eq.or (op_eqD hr.units)) r2_eqM (ve_var 7) ve_int (nomark _))
  (vss_cons (vs_set 9 sc_law.nd (ve_call G_law_first_end (hr.mono (by decide)) (by rfl) D_law_first_end.gm D_law_first_end.kp D_law_first_end.b (passQ quietN) (va_cons (ve_var 3) va_nil)))
  (vss_one (vs_set 3 sc_law.nd (ve_plus (ve_plus (ve_slice (ve_var 3) vo_none (vo_some (ve_var 9))) (ve_lst (va_cons (ve_plus (ve_ix (ve_var 3) (ve_var 9)) ve_int) (va_cons ve_int va_nil)))) (ve_slice (ve_var 3) (vo_some (ve_plus (ve_var 9) ve_int)) vo_none)))))
  (vss_one (vs_if (VW.vt (vw_and (vt_cmp (op_eq.or (op_eqD hr.units)) r2_eqM (ve_var 7) ve_int (nomark _)) (vw_and1 (vt_cmp op_gt r2_gt (ve_var 2) ve_int (nomark _)))))
  (vss_one (vs_set 3 sc_law.nd (ve_lst (va_cons ve_int (va_cons ve_int (va_cons (ve_plus ve_int (ve_mod (ve_ix (ve_var 1) ve_int) ve_int)) va_nil))))))
  (vss_one (vs_if (VW.vt (vw_and (vt_cmp (op_eq.or (op_eqD hr.units)) r2_eqM (ve_var 7) ve_int (nomark _)) (vw_and1 (vt_cmp (op_eq.or (op_eqD hr.units)) r2_eqM (ve_var 2) ve_int (nomark _)))))
  (vss_one (vs_set 3 sc_law.nd (ve_call G_law_bytes_bytes (hr.mono (by decide)) (by rfl) D_law_bytes_bytes.gm D_law_bytes_bytes.kp D_law_bytes_bytes.b (passQ quietN) (va_cons (ve_slice (ve_lst (va_cons ve_int (va_cons (ve_ix (ve_lst (va_cons ve_int (va_cons ve_int (va_cons ve_int (va_cons (ve_mod (ve_ix (ve_var 1) ve_int) ve_int) (va_cons (ve_plus ve_int (ve_mod (ve_ix (ve_var 1) ve_int) ve_int)) va_nil)))))) (ve_mod (ve_ix (ve_var 1) ve_int) ve_int)) (va_cons ve_int va_nil)))) vo_none (vo_some (ve_plus ve_int (ve_mod (ve_ix (ve_var 1) ve_int) ve_int)))) va_nil))))
  (vss_one (vs_if (vt_cmp (op_eq.or (op_eqD hr.units)) r2_eqM (ve_var 7) ve_int (nomark _))
  (vss_one (vs_set 5 sc_law.nd (ve_ix (ve_lst (va_cons (ve_neg ve_int) (va_cons (ve_sub (ve_neg ve_int) (ve_mod (ve_ix (ve_var 1) ve_int) ve_int)) (va_cons (ve_len (by rfl) T.b_len (va_cons (ve_plus (ve_plus (ve_var 4) (ve_var 3)) (ve_var 6)) va_nil)) (va_cons (ve_plus (ve_len (by rfl) T.b_len (va_cons (ve_plus (ve_plus (ve_var 4) (ve_var 3)) (ve_var 6)) va_nil)) (ve_mod (ve_ix (ve_var 1) ve_int) ve_int)) va_nil))))) (ve_mod (ve_ix (ve_var 1) ve_int) ve_int))))
  (vss_one (vs_set 7 sc_law.nd ve_int)))))))))))))
  (vss_cons (vs_tryAsC (i := 11) rfl rfl sc_law.nd rfl rfl ⟨rfl, by decide, .inl T.gx_Unreadable⟩ T.isa_Unreadable takesC (fun W' pn xe tk po => ⟨_, (vss_one (vs_set 10 sc_law.nd (ve_call G_law_read (hr.mono (by decide)) (by rfl) D_law_read.gm D_law_read.kp D_law_read.b (passCC tk) (va_cons (ve_var 2) (va_cons (ve_plus (ve_plus (ve_var 4) (ve_var 3)) (ve_var 6)) (va_cons (ve_var 5) va_nil))))))⟩)
  (fun a oe k d pn hz hf => ⟨_, (vss_one (vs_ret (ve_and (ve_cmp op_lt r2_lt (ve_var 7) ve_int (nomark _)) (ve_and (ve_callA A_law_is_number ((L2H.roomH_mark hr (some (.ref a))).mono (by decide)) ⟨_, List.mem_cons_self⟩ (by rfl) D_law_is_number.gm D_law_is_number.kp D_law_is_number.b (passQ quietN) (va_cons (ve_xfC (T.xf_Unreadable.1) (T.xf_Unreadable.2 "index" (by decide)) hz hf (ve_var (W := WX0) 11).pe) (va_cons (ve_var 5) va_nil))) (ve_one (ve_not (ve_isXC T.isi_InvalidValue hz hf (by rfl) T.b_isinstance (by rfl) T.gx_InvalidValue (ve_var (W := WX0) 11).pe)))))))⟩))
  (vss_one (vs_ret (ve_and (ve_cmp (op_eq.or (op_eqD hr.units)) r2_eqM (ve_var 7) ve_int (nomark _)) (ve_and (ve_isi (T := "tuple") (by decide) (by rfl) T.b_isinstance (by rfl) T.b_tuple (by decide +kernel) (ve_var 10)) (ve_one (ve_call G_law_is_number (hr.mono (by decide)) (by rfl) D_law_is_number.gm D_law_is_number.kp D_law_is_number.b (passQ quietN) (va_cons (ve_ix (ve_var 10) ve_int) (va_cons (ve_plus (ve_len (by rfl) T.b_len (va_cons (ve_var 4) va_nil)) (ve_len (by rfl) T.b_len (va_cons (ve_var 3) va_nil))) va_nil))))))))))))))))))⟩
end
/-! ### the head -/
def d_byte_at : He.DefD := ⟨("byte_at", none), "byte_at", "byte_at", defArgs s_byte_at, defBody s_byte_at, defScope s_byte_at, [], []⟩
def d_read_number : He.DefD := ⟨("read_number", none), "read_number", "read_number", defArgs s_read_number, defBody s_read_number, defScope s_read_number, [], []⟩
def d_read_integer : He.DefD := ⟨("read_integer", none), "read_integer", "read_integer", defArgs s_read_integer, defBody s_read_integer, defScope s_read_integer, [], []⟩
def d_read_count : He.DefD := ⟨("read_count", none), "read_count", "read_count", defArgs s_read_count, defBody s_read_count, defScope s_read_count, [], []⟩
def d_read_integers : He.DefD := ⟨("read_integers", none), "read_integers", "read_integers", defArgs s_read_integers, defBody s_read_integers, defScope s_read_integers, [], []⟩
def d_read_bytes : He.DefD := ⟨("read_bytes", none), "read_bytes", "read_bytes", defArgs s_read_bytes, defBody s_read_bytes, defScope s_read_bytes, [], []⟩
def d_letter_of : He.DefD := ⟨("letter_of", none), "letter_of", "letter_of", defArgs s_letter_of, defBody s_letter_of, defScope s_letter_of, [], []⟩
def d_text_of : He.DefD := ⟨("text_of", none), "text_of", "text_of", defArgs s_text_of, defBody s_text_of, defScope s_text_of, [], []⟩
def d_read_text : He.DefD := ⟨("read_text", none), "read_text", "read_text", defArgs s_read_text, defBody s_read_text, defScope s_read_text, [], []⟩
def d_law_cell : He.DefD := ⟨("_law_cell", none), "_law_cell", "_law_cell", defArgs s_law_cell, defBody s_law_cell, defScope s_law_cell, [], []⟩
def d_law_draws : He.DefD := ⟨("_law_draws", none), "_law_draws", "_law_draws", defArgs s_law_draws, defBody s_law_draws, defScope s_law_draws, [], []⟩
def d_law_is_int : He.DefD := ⟨("_law_is_int", none), "_law_is_int", "_law_is_int", defArgs s_law_is_int, defBody s_law_is_int, defScope s_law_is_int, [], []⟩
def d_law_is_number : He.DefD := ⟨("_law_is_number", none), "_law_is_number", "_law_is_number", defArgs s_law_is_number, defBody s_law_is_number, defScope s_law_is_number, [], []⟩
def d_law_stream : He.DefD := ⟨("_law_stream", none), "_law_stream", "_law_stream", defArgs s_law_stream, defBody s_law_stream, defScope s_law_stream, [], []⟩
def d_law_great : He.DefD := ⟨("_law_great", none), "_law_great", "_law_great", defArgs s_law_great, defBody s_law_great, defScope s_law_great, [], []⟩
def d_law_signed : He.DefD := ⟨("_law_signed", none), "_law_signed", "_law_signed", defArgs s_law_signed, defBody s_law_signed, defScope s_law_signed, [], []⟩
def d_law_number_bytes : He.DefD := ⟨("_law_number_bytes", none), "_law_number_bytes", "_law_number_bytes", defArgs s_law_number_bytes, defBody s_law_number_bytes, defScope s_law_number_bytes, [], []⟩
def d_law_integer_bytes : He.DefD := ⟨("_law_integer_bytes", none), "_law_integer_bytes", "_law_integer_bytes", defArgs s_law_integer_bytes, defBody s_law_integer_bytes, defScope s_law_integer_bytes, [], []⟩
def d_law_integers_bytes : He.DefD := ⟨("_law_integers_bytes", none), "_law_integers_bytes", "_law_integers_bytes", defArgs s_law_integers_bytes, defBody s_law_integers_bytes, defScope s_law_integers_bytes, [], []⟩
def d_law_bytes_bytes : He.DefD := ⟨("_law_bytes_bytes", none), "_law_bytes_bytes", "_law_bytes_bytes", defArgs s_law_bytes_bytes, defBody s_law_bytes_bytes, defScope s_law_bytes_bytes, [], []⟩
def d_law_signs : He.DefD := ⟨("_law_signs", none), "_law_signs", "_law_signs", defArgs s_law_signs, defBody s_law_signs, defScope s_law_signs, [], []⟩
def d_law_text_of : He.DefD := ⟨("_law_text_of", none), "_law_text_of", "_law_text_of", defArgs s_law_text_of, defBody s_law_text_of, defScope s_law_text_of, [], []⟩
def d_law_codes : He.DefD := ⟨("_law_codes", none), "_law_codes", "_law_codes", defArgs s_law_codes, defBody s_law_codes, defScope s_law_codes, [], []⟩
def d_law_text_bytes : He.DefD := ⟨("_law_text_bytes", none), "_law_text_bytes", "_law_text_bytes", defArgs s_law_text_bytes, defBody s_law_text_bytes, defScope s_law_text_bytes, [], []⟩
def d_law_made : He.DefD := ⟨("_law_made", none), "_law_made", "_law_made", defArgs s_law_made, defBody s_law_made, defScope s_law_made, [], []⟩
def d_law_read : He.DefD := ⟨("_law_read", none), "_law_read", "_law_read", defArgs s_law_read, defBody s_law_read, defScope s_law_read, [], []⟩
def d_law_first_end : He.DefD := ⟨("_law_first_end", none), "_law_first_end", "_law_first_end", defArgs s_law_first_end, defBody s_law_first_end, defScope s_law_first_end, [], []⟩
def d_law : He.DefD := ⟨("law", none), "law", "law", defArgs s_law, defBody s_law, defScope s_law, [], []⟩
def fnL : List He.DefD := [d_byte_at, d_read_number, d_read_integer, d_read_count, d_read_integers, d_read_bytes, d_letter_of, d_text_of, d_read_text, d_law_cell, d_law_draws, d_law_is_int, d_law_is_number, d_law_stream, d_law_great, d_law_signed, d_law_number_bytes, d_law_integer_bytes, d_law_integers_bytes, d_law_bytes_bytes, d_law_signs, d_law_text_of, d_law_codes, d_law_text_bytes, d_law_made, d_law_read, d_law_first_end, d_law]
def faL : List He.Fa := [.glo "byte_at", .glo "read_number", .glo "read_integer", .glo "read_count", .glo "read_integers", .glo "read_bytes", .glo "letter_of", .glo "text_of", .glo "read_text", .glo "_law_cell", .glo "_law_draws", .glo "_law_is_int", .glo "_law_is_number", .glo "_law_stream", .glo "_law_great", .glo "_law_signed", .glo "_law_number_bytes", .glo "_law_integer_bytes", .glo "_law_integers_bytes", .glo "_law_bytes_bytes", .glo "_law_signs", .glo "_law_text_of", .glo "_law_codes", .glo "_law_text_bytes", .glo "_law_made", .glo "_law_read", .glo "_law_first_end", .glo "law", .free "len", .free "super", .free "range", .free "int", .free "isinstance", .free "bool", .free "tuple", .int "HIGHEST" 249, .int "BASE" 125, .glo "PRINTABLE", .glo "Unreadable", .glo "InvalidValue"]
abbrev RR : PySem.W.OpenRow := PySem.W.OpenLaw.row PySem.Challenge.rw_tessera_k04_refused_readings
def x_Unreadable : InD := ⟨"Unreadable", "Unreadable.__init__", defArgs (initOf (top 2)), defBody (initOf (top 2)), defScope (initOf (top 2)), none⟩
theorem it_Unreadable : IniT RR.prog x_Unreadable ["index"] := ⟨by kernel_rfl, ⟨_, _, _, _, _, _, _, _, _, rfl, rfl, (.cons .nil)⟩, ⟨_, rfl, rfl⟩, fun _ _ _ _ _ _ _ _ us hl => match us, hl with | [_, _], _ => rfl, by decide +kernel, by decide +kernel, rfl, rfl, by decide +kernel, rfl, rfl, rfl⟩
def tsL : List He.Tab := []
def bsL : List (PySem.W.Frag → Bool) := [fun K => He.tupB K "PRINTABLE" dv_PRINTABLE, fun K => xcB K (He.ga K "Unreadable") ["index"], fun K => iniB RR.prog.main.file K "Unreadable" "Unreadable.__init__", isaB "Unreadable" tI_Unreadable, isaIB "InvalidValue" tI_InvalidValue, xfFB "Unreadable" ["index"]]
def xsL : List InD := [x_Unreadable]
abbrev hkH : PySem.W.Hook := hookY 4 faL fnL tsL bsL xsL
def obH (s : PySem.W.SharedT) : AlY := obsYG 4 faL fnL tsL bsL xsL (HandSHeadRun.getT s)
theorem obH_eq (s : PySem.W.SharedT) : obH s = hkH.obs s.abs := obsYG_eq (HandSHeadRun.getT_eq s)
def nmL0 : List PySem.Str := ["TesseraError", "Unreadable", "InvalidValue", "BASE", "HIGHEST", "PRINTABLE", "byte_at", "read_number", "read_integer", "read_count", "read_integers", "read_bytes", "letter_of", "text_of", "read_text", "_law_cell", "_law_draws", "_law_is_int", "_law_is_number", "_law_stream", "_law_great", "_law_signed", "_law_number_bytes", "_law_integer_bytes", "_law_integers_bytes", "_law_bytes_bytes", "_law_signs", "_law_text_of", "_law_codes", "_law_text_bytes"]
def nmL1 : List PySem.Str := ["_law_made", "_law_read", "_law_first_end"]
abbrev nmL : List PySem.Str := nmL0 ++ nmL1
theorem runH (w : World) : HandSHeadRun.RunEq RR (PySem.W.view RR.prog [36]) hkH obH 8000 nmL w := by
  intro os
  kernel_rfl
theorem facts {w : World} {K : PySem.W.Frag} {h : Heap} {mg : Str → Option Value} {f : Addr} (X : K.In h) (G : h.Ns mainGlobals mg) (hfa : mg ("law" : Str) = some (.ref f)) (cxy : SaysY faL fnL tsL bsL xsL w K) :
    ∃ fd : FuncData, (∀ (s : Shared) (v : Value), BindsTo s fd ⟨[v], []⟩ [("_law_script", v)]) ∧ ∀ base : Heap, K.In base → base.Ns mainGlobals mg → FnOk RR.prog w K mg base CX0 8 f fd ["_law_script"] (spF K F_law) := by
  have cx : SaysX faL fnL tsL bsL w K := cxy.x
  have c : He.SaysD faL fnL K := cx.t.d
  obtain ⟨fd_byte_at, F_ibyte_at⟩ := c.def_ 0 (d := d_byte_at) rfl
  have D_byte_at : Dn K mg "byte_at" s_byte_at ["values", "at", "index"] _ fd_byte_at := ⟨F_ibyte_at, He.glo_ok X G (c.fact 0 (f := .glo "byte_at") rfl), F_ibyte_at.bindsN fun _ _ _ _ _ _ us hl => match us, hl with | [_, _, _], _ => rfl⟩
  obtain ⟨fd_read_number, F_iread_number⟩ := c.def_ 1 (d := d_read_number) rfl
  have D_read_number : Dn K mg "read_number" s_read_number ["values", "index"] _ fd_read_number := ⟨F_iread_number, He.glo_ok X G (c.fact 1 (f := .glo "read_number") rfl), F_iread_number.bindsN fun _ _ _ _ _ _ us hl => match us, hl with | [_, _], _ => rfl⟩
  obtain ⟨fd_read_integer, F_iread_integer⟩ := c.def_ 2 (d := d_read_integer) rfl
  have D_read_integer : Dn K mg "read_integer" s_read_integer ["values", "index"] _ fd_read_integer := ⟨F_iread_integer, He.glo_ok X G (c.fact 2 (f := .glo "read_integer") rfl), F_iread_integer.bindsN fun _ _ _ _ _ _ us hl => match us, hl with | [_, _], _ => rfl⟩
  obtain ⟨fd_read_count, F_iread_count⟩ := c.def_ 3 (d := d_read_count) rfl
  have D_read_count : Dn K mg "read_count" s_read_count ["values", "index"] _ fd_read_count := ⟨F_iread_count, He.glo_ok X G (c.fact 3 (f := .glo "read_count") rfl), F_iread_count.bindsN fun _ _ _ _ _ _ us hl => match us, hl with | [_, _], _ => rfl⟩
  obtain ⟨fd_read_integers, F_iread_integers⟩ := c.def_ 4 (d := d_read_integers) rfl
  have D_read_integers : Dn K mg "read_integers" s_read_integers ["values", "index"] _ fd_read_integers := ⟨F_iread_integers, He.glo_ok X G (c.fact 4 (f := .glo "read_integers") rfl), F_iread_integers.bindsN fun _ _ _ _ _ _ us hl => match us, hl with | [_, _], _ => rfl⟩
  obtain ⟨fd_read_bytes, F_iread_bytes⟩ := c.def_ 5 (d := d_read_bytes) rfl
  have D_read_bytes : Dn K mg "read_bytes" s_read_bytes ["values", "index"] _ fd_read_bytes := ⟨F_iread_bytes, He.glo_ok X G (c.fact 5 (f := .glo "read_bytes") rfl), F_iread_bytes.bindsN fun _ _ _ _ _ _ us hl => match us, hl with | [_, _], _ => rfl⟩
  obtain ⟨fd_letter_of, F_iletter_of⟩ := c.def_ 6 (d := d_letter_of) rfl
  have D_letter_of : Dn K mg "letter_of" s_letter_of ["code"] _ fd_letter_of := ⟨F_iletter_of, He.glo_ok X G (c.fact 6 (f := .glo "letter_of") rfl), F_iletter_of.bindsN fun _ _ _ _ _ _ us hl => match us, hl with | [_], _ => rfl⟩
  obtain ⟨fd_text_of, F_itext_of⟩ := c.def_ 7 (d := d_text_of) rfl
  have D_text_of : Dn K mg "text_of" s_text_of ["codes"] _ fd_text_of := ⟨F_itext_of, He.glo_ok X G (c.fact 7 (f := .glo "text_of") rfl), F_itext_of.bindsN fun _ _ _ _ _ _ us hl => match us, hl with | [_], _ => rfl⟩
  obtain ⟨fd_read_text, F_iread_text⟩ := c.def_ 8 (d := d_read_text) rfl
  have D_read_text : Dn K mg "read_text" s_read_text ["values", "index"] _ fd_read_text := ⟨F_iread_text, He.glo_ok X G (c.fact 8 (f := .glo "read_text") rfl), F_iread_text.bindsN fun _ _ _ _ _ _ us hl => match us, hl with | [_, _], _ => rfl⟩
  obtain ⟨fd_law_cell, F_ilaw_cell⟩ := c.def_ 9 (d := d_law_cell) rfl
  have D_law_cell : Dn K mg "_law_cell" s_law_cell ["_law_script", "_law_k"] _ fd_law_cell := ⟨F_ilaw_cell, He.glo_ok X G (c.fact 9 (f := .glo "_law_cell") rfl), F_ilaw_cell.bindsN fun _ _ _ _ _ _ us hl => match us, hl with | [_, _], _ => rfl⟩
  obtain ⟨fd_law_draws, F_ilaw_draws⟩ := c.def_ 10 (d := d_law_draws) rfl
  have D_law_draws : Dn K mg "_law_draws" s_law_draws ["_law_cell_here", "_law_count"] _ fd_law_draws := ⟨F_ilaw_draws, He.glo_ok X G (c.fact 10 (f := .glo "_law_draws") rfl), F_ilaw_draws.bindsN fun _ _ _ _ _ _ us hl => match us, hl with | [_, _], _ => rfl⟩
  obtain ⟨fd_law_is_int, F_ilaw_is_int⟩ := c.def_ 11 (d := d_law_is_int) rfl
  have D_law_is_int : Dn K mg "_law_is_int" s_law_is_int ["_law_x"] _ fd_law_is_int := ⟨F_ilaw_is_int, He.glo_ok X G (c.fact 11 (f := .glo "_law_is_int") rfl), F_ilaw_is_int.bindsN fun _ _ _ _ _ _ us hl => match us, hl with | [_], _ => rfl⟩
  obtain ⟨fd_law_is_number, F_ilaw_is_number⟩ := c.def_ 12 (d := d_law_is_number) rfl
  have D_law_is_number : Dn K mg "_law_is_number" s_law_is_number ["_law_x", "_law_due"] _ fd_law_is_number := ⟨F_ilaw_is_number, He.glo_ok X G (c.fact 12 (f := .glo "_law_is_number") rfl), F_ilaw_is_number.bindsN fun _ _ _ _ _ _ us hl => match us, hl with | [_, _], _ => rfl⟩
  obtain ⟨fd_law_stream, F_ilaw_stream⟩ := c.def_ 13 (d := d_law_stream) rfl
  have D_law_stream : Dn K mg "_law_stream" s_law_stream ["_law_script", "_law_count"] _ fd_law_stream := ⟨F_ilaw_stream, He.glo_ok X G (c.fact 13 (f := .glo "_law_stream") rfl), F_ilaw_stream.bindsN fun _ _ _ _ _ _ us hl => match us, hl with | [_, _], _ => rfl⟩
  obtain ⟨fd_law_great, F_ilaw_great⟩ := c.def_ 14 (d := d_law_great) rfl
  have D_law_great : Dn K mg "_law_great" s_law_great ["_law_draws_here", "_law_at"] _ fd_law_great := ⟨F_ilaw_great, He.glo_ok X G (c.fact 14 (f := .glo "_law_great") rfl), F_ilaw_great.bindsN fun _ _ _ _ _ _ us hl => match us, hl with | [_, _], _ => rfl⟩
  obtain ⟨fd_law_signed, F_ilaw_signed⟩ := c.def_ 15 (d := d_law_signed) rfl
  have D_law_signed : Dn K mg "_law_signed" s_law_signed ["_law_draws_here", "_law_at"] _ fd_law_signed := ⟨F_ilaw_signed, He.glo_ok X G (c.fact 15 (f := .glo "_law_signed") rfl), F_ilaw_signed.bindsN fun _ _ _ _ _ _ us hl => match us, hl with | [_, _], _ => rfl⟩
  obtain ⟨fd_law_number_bytes, F_ilaw_number_bytes⟩ := c.def_ 16 (d := d_law_number_bytes) rfl
  have D_law_number_bytes : Dn K mg "_law_number_bytes" s_law_number_bytes ["_law_number"] _ fd_law_number_bytes := ⟨F_ilaw_number_bytes, He.glo_ok X G (c.fact 16 (f := .glo "_law_number_bytes") rfl), F_ilaw_number_bytes.bindsN fun _ _ _ _ _ _ us hl => match us, hl with | [_], _ => rfl⟩
  obtain ⟨fd_law_integer_bytes, F_ilaw_integer_bytes⟩ := c.def_ 17 (d := d_law_integer_bytes) rfl
  have D_law_integer_bytes : Dn K mg "_law_integer_bytes" s_law_integer_bytes ["_law_number"] _ fd_law_integer_bytes := ⟨F_ilaw_integer_bytes, He.glo_ok X G (c.fact 17 (f := .glo "_law_integer_bytes") rfl), F_ilaw_integer_bytes.bindsN fun _ _ _ _ _ _ us hl => match us, hl with | [_], _ => rfl⟩
  obtain ⟨fd_law_integers_bytes, F_ilaw_integers_bytes⟩ := c.def_ 18 (d := d_law_integers_bytes) rfl
  have D_law_integers_bytes : Dn K mg "_law_integers_bytes" s_law_integers_bytes ["_law_numbers"] _ fd_law_integers_bytes := ⟨F_ilaw_integers_bytes, He.glo_ok X G (c.fact 18 (f := .glo "_law_integers_bytes") rfl), F_ilaw_integers_bytes.bindsN fun _ _ _ _ _ _ us hl => match us, hl with | [_], _ => rfl⟩
  obtain ⟨fd_law_bytes_bytes, F_ilaw_bytes_bytes⟩ := c.def_ 19 (d := d_law_bytes_bytes) rfl
  have D_law_bytes_bytes : Dn K mg "_law_bytes_bytes" s_law_bytes_bytes ["_law_values"] _ fd_law_bytes_bytes := ⟨F_ilaw_bytes_bytes, He.glo_ok X G (c.fact 19 (f := .glo "_law_bytes_bytes") rfl), F_ilaw_bytes_bytes.bindsN fun _ _ _ _ _ _ us hl => match us, hl with | [_], _ => rfl⟩
  obtain ⟨fd_law_signs, F_ilaw_signs⟩ := c.def_ 20 (d := d_law_signs) rfl
  have D_law_signs : Dn K mg "_law_signs" s_law_signs [] _ fd_law_signs := ⟨F_ilaw_signs, He.glo_ok X G (c.fact 20 (f := .glo "_law_signs") rfl), F_ilaw_signs.bindsN fun _ _ _ _ _ _ us hl => match us, hl with | [], _ => rfl⟩
  obtain ⟨fd_law_text_of, F_ilaw_text_of⟩ := c.def_ 21 (d := d_law_text_of) rfl
  have D_law_text_of : Dn K mg "_law_text_of" s_law_text_of ["_law_draws_here", "_law_at", "_law_most"] _ fd_law_text_of := ⟨F_ilaw_text_of, He.glo_ok X G (c.fact 21 (f := .glo "_law_text_of") rfl), F_ilaw_text_of.bindsN fun _ _ _ _ _ _ us hl => match us, hl with | [_, _, _], _ => rfl⟩
  obtain ⟨fd_law_codes, F_ilaw_codes⟩ := c.def_ 22 (d := d_law_codes) rfl
  have D_law_codes : Dn K mg "_law_codes" s_law_codes ["_law_text"] _ fd_law_codes := ⟨F_ilaw_codes, He.glo_ok X G (c.fact 22 (f := .glo "_law_codes") rfl), F_ilaw_codes.bindsN fun _ _ _ _ _ _ us hl => match us, hl with | [_], _ => rfl⟩
  obtain ⟨fd_law_text_bytes, F_ilaw_text_bytes⟩ := c.def_ 23 (d := d_law_text_bytes) rfl
  have D_law_text_bytes : Dn K mg "_law_text_bytes" s_law_text_bytes ["_law_text"] _ fd_law_text_bytes := ⟨F_ilaw_text_bytes, He.glo_ok X G (c.fact 23 (f := .glo "_law_text_bytes") rfl), F_ilaw_text_bytes.bindsN fun _ _ _ _ _ _ us hl => match us, hl with | [_], _ => rfl⟩
  obtain ⟨fd_law_made, F_ilaw_made⟩ := c.def_ 24 (d := d_law_made) rfl
  have D_law_made : Dn K mg "_law_made" s_law_made ["_law_draws_here", "_law_way"] _ fd_law_made := ⟨F_ilaw_made, He.glo_ok X G (c.fact 24 (f := .glo "_law_made") rfl), F_ilaw_made.bindsN fun _ _ _ _ _ _ us hl => match us, hl with | [_, _], _ => rfl⟩
  obtain ⟨fd_law_read, F_ilaw_read⟩ := c.def_ 25 (d := d_law_read) rfl
  have D_law_read : Dn K mg "_law_read" s_law_read ["_law_way", "_law_values", "_law_index"] _ fd_law_read := ⟨F_ilaw_read, He.glo_ok X G (c.fact 25 (f := .glo "_law_read") rfl), F_ilaw_read.bindsN fun _ _ _ _ _ _ us hl => match us, hl with | [_, _, _], _ => rfl⟩
  obtain ⟨fd_law_first_end, F_ilaw_first_end⟩ := c.def_ 26 (d := d_law_first_end) rfl
  have D_law_first_end : Dn K mg "_law_first_end" s_law_first_end ["_law_values"] _ fd_law_first_end := ⟨F_ilaw_first_end, He.glo_ok X G (c.fact 26 (f := .glo "_law_first_end") rfl), F_ilaw_first_end.bindsN fun _ _ _ _ _ _ us hl => match us, hl with | [_], _ => rfl⟩
  obtain ⟨fd_law, F_ilaw⟩ := c.def_ 27 (d := d_law) rfl
  have D_law : Dn K mg "law" s_law ["_law_script"] _ fd_law := ⟨F_ilaw, He.glo_ok X G (c.fact 27 (f := .glo "law") rfl), F_ilaw.bindsN fun _ _ _ _ _ _ us hl => match us, hl with | [_], _ => rfl⟩
  have T : Tx RR.prog w K mg := ⟨He.free_ok X G (c.fact 28 (f := .free "len") rfl),
    He.free_ok X G (c.fact 29 (f := .free "super") rfl),
    He.free_ok X G (c.fact 30 (f := .free "range") rfl),
    He.free_ok X G (c.fact 31 (f := .free "int") rfl),
    He.free_ok X G (c.fact 32 (f := .free "isinstance") rfl),
    He.free_ok X G (c.fact 33 (f := .free "bool") rfl),
    He.free_ok X G (c.fact 34 (f := .free "tuple") rfl),
    He.int_ok X G (c.fact 35 (f := .int "HIGHEST" 249) rfl),
    He.int_ok X G (c.fact 36 (f := .int "BASE" 125) rfl),
    ⟨He.glo_ok X G (c.fact 37 (f := .glo "PRINTABLE") rfl), fun H => He.tupB_ok (cx.b 0) H⟩,
    He.glo_ok X G (c.fact 38 (f := .glo "Unreadable") rfl),
    He.glo_ok X G (c.fact 39 (f := .glo "InvalidValue") rfl),
    xc_ok it_Unreadable (cxy.i 0) rfl (cx.b 1) (cx.b 2),
    isaB_ok (cx.b 3),
    isaIB_ok (cx.b 4),
    xfFB_ok (cx.b 5)⟩
  have e := hfa.symm.trans D_law.gm
  cases e
  have b := FunD.bindsA (ps := ["_law_script"]) F_ilaw fun _ _ _ _ _ _ us hl => match us, hl with | [_], _ => rfl
  refine ⟨fd_law, fun s v => b s [v] rfl, fun base _ _ => ?_⟩
  have G_letter_of : FnOk RR.prog w K mg base (L2N.CX RR.prog w) 1 _ fd_letter_of _ (spF K F_letter_of) := ok_letter_of T D_letter_of   
  have G_law_cell : FnOk RR.prog w K mg base (L2N.CX RR.prog w) 1 _ fd_law_cell _ (spF K F_law_cell) := ok_law_cell T D_law_cell   
  have G_law_draws : FnOk RR.prog w K mg base (L2N.CX RR.prog w) 1 _ fd_law_draws _ (spF K F_law_draws) := ok_law_draws T D_law_draws   
  have G_law_is_int : FnOk RR.prog w K mg base (L2N.CX RR.prog w) 1 _ fd_law_is_int _ (spF K F_law_is_int) := ok_law_is_int T D_law_is_int   
  have A_law_is_int : FnA RR.prog w K mg base (L2N.CX RR.prog w) 1 _ fd_law_is_int _ (spF K F_law_is_int) := okA_law_is_int T D_law_is_int 
  have G_law_great : FnOk RR.prog w K mg base (L2N.CX RR.prog w) 1 _ fd_law_great _ (spF K F_law_great) := ok_law_great T D_law_great   
  have G_law_number_bytes : FnOk RR.prog w K mg base (L2N.CX RR.prog w) 1 _ fd_law_number_bytes _ (spF K F_law_number_bytes) := ok_law_number_bytes T D_law_number_bytes   
  have G_law_signs : FnOk RR.prog w K mg base (L2N.CX RR.prog w) 1 _ fd_law_signs _ (spF K F_law_signs) := ok_law_signs T D_law_signs   
  have G_law_first_end : FnOk RR.prog w K mg base (L2N.CX RR.prog w) 1 _ fd_law_first_end _ (spF K F_law_first_end) := ok_law_first_end T D_law_first_end   
  have G_byte_at : FnOk RR.prog w K mg base (L2N.CX RR.prog w) 2 _ fd_byte_at _ (spF K F_byte_at) := ok_byte_at T D_byte_at   
  have G_text_of : FnOk RR.prog w K mg base (L2N.CX RR.prog w) 2 _ fd_text_of _ (spF K F_text_of) := ok_text_of T D_text_of D_letter_of G_letter_of  
  have G_law_is_number : FnOk RR.prog w K mg base (L2N.CX RR.prog w) 2 _ fd_law_is_number _ (spF K F_law_is_number) := ok_law_is_number T D_law_is_number D_law_is_int G_law_is_int  A_law_is_int
  have A_law_is_number : FnA RR.prog w K mg base (L2N.CX RR.prog w) 2 _ fd_law_is_number _ (spF K F_law_is_number) := okA_law_is_number T D_law_is_number D_law_is_int A_law_is_int
  have G_law_stream : FnOk RR.prog w K mg base (L2N.CX RR.prog w) 2 _ fd_law_stream _ (spF K F_law_stream) := ok_law_stream T D_law_stream D_law_draws G_law_draws D_law_cell G_law_cell  
  have G_law_signed : FnOk RR.prog w K mg base (L2N.CX RR.prog w) 2 _ fd_law_signed _ (spF K F_law_signed) := ok_law_signed T D_law_signed D_law_great G_law_great  
  have G_law_integer_bytes : FnOk RR.prog w K mg base (L2N.CX RR.prog w) 2 _ fd_law_integer_bytes _ (spF K F_law_integer_bytes) := ok_law_integer_bytes T D_law_integer_bytes D_law_number_bytes G_law_number_bytes  
  have G_law_bytes_bytes : FnOk RR.prog w K mg base (L2N.CX RR.prog w) 2 _ fd_law_bytes_bytes _ (spF K F_law_bytes_bytes) := ok_law_bytes_bytes T D_law_bytes_bytes D_law_number_bytes G_law_number_bytes  
  have G_law_text_of : FnOk RR.prog w K mg base (L2N.CX RR.prog w) 2 _ fd_law_text_of _ (spF K F_law_text_of) := ok_law_text_of T D_law_text_of D_law_signs G_law_signs  
  have G_law_codes : FnOk RR.prog w K mg base (L2N.CX RR.prog w) 2 _ fd_law_codes _ (spF K F_law_codes) := ok_law_codes T D_law_codes D_law_signs G_law_signs  
  have G_read_number : FnOk RR.prog w K mg base (L2N.CX RR.prog w) 3 _ fd_read_number _ (spF K F_read_number) := ok_read_number T D_read_number D_byte_at G_byte_at  
  have G_law_integers_bytes : FnOk RR.prog w K mg base (L2N.CX RR.prog w) 3 _ fd_law_integers_bytes _ (spF K F_law_integers_bytes) := ok_law_integers_bytes T D_law_integers_bytes D_law_integer_bytes G_law_integer_bytes D_law_number_bytes G_law_number_bytes  
  have G_law_text_bytes : FnOk RR.prog w K mg base (L2N.CX RR.prog w) 3 _ fd_law_text_bytes _ (spF K F_law_text_bytes) := ok_law_text_bytes T D_law_text_bytes D_law_bytes_bytes G_law_bytes_bytes D_law_codes G_law_codes  
  have G_read_integer : FnOk RR.prog w K mg base (L2N.CX RR.prog w) 4 _ fd_read_integer _ (spF K F_read_integer) := ok_read_integer T D_read_integer D_read_number G_read_number  
  have G_read_count : FnOk RR.prog w K mg base (L2N.CX RR.prog w) 4 _ fd_read_count _ (spF K F_read_count) := ok_read_count T D_read_count D_read_number G_read_number  
  have G_law_made : FnOk RR.prog w K mg base (L2N.CX RR.prog w) 4 _ fd_law_made _ (spF K F_law_made) := ok_law_made T D_law_made D_law_text_bytes G_law_text_bytes D_law_text_of G_law_text_of D_law_bytes_bytes G_law_bytes_bytes D_law_integers_bytes G_law_integers_bytes D_law_signed G_law_signed D_law_integer_bytes G_law_integer_bytes D_law_number_bytes G_law_number_bytes D_law_great G_law_great  
  have G_read_integers : FnOk RR.prog w K mg base (L2.CX RR.prog w) 5 _ fd_read_integers _ (spF K F_read_integers) := ok_read_integers T D_read_integers D_read_integer G_read_integer D_read_count G_read_count  
  have G_read_bytes : FnOk RR.prog w K mg base (L2N.CX RR.prog w) 5 _ fd_read_bytes _ (spF K F_read_bytes) := ok_read_bytes T D_read_bytes D_byte_at G_byte_at D_read_count G_read_count  
  have G_read_text : FnOk RR.prog w K mg base (L2N.CX RR.prog w) 6 _ fd_read_text _ (spF K F_read_text) := ok_read_text T D_read_text D_text_of G_text_of D_read_bytes G_read_bytes  
  have G_law_read : FnOk RR.prog w K mg base (L2.CX RR.prog w) 7 _ fd_law_read _ (spF K F_law_read) := ok_law_read T D_law_read D_read_text G_read_text D_read_bytes G_read_bytes D_read_integers G_read_integers D_read_integer G_read_integer D_read_number G_read_number  
  have G_law : FnOk RR.prog w K mg base CX0 8 _ fd_law _ (spF K F_law) := ok_law T D_law D_law_is_number G_law_is_number D_law_read G_law_read D_law_first_end G_law_first_end D_law_bytes_bytes G_law_bytes_bytes D_law_made G_law_made D_law_stream G_law_stream  A_law_is_number
  exact G_law
end Pv
open PySem PySem.W PySem.Calls PyProof.Rows
set_option maxHeartbeats 0
theorem PySem.Challenge.cw_tessera_k04_refused_readings_holds : PySem.Challenge.rw_tessera_k04_refused_readings.Holds := by
  w_on; o_law
  refine HandSHeadRun.head_any (r := OpenLaw.row PySem.Challenge.rw_tessera_k04_refused_readings) (q := view (OpenLaw.row PySem.Challenge.rw_tessera_k04_refused_readings).prog [36]) (H := Pv.hkH) (ob := Pv.obH) (M := 8000) (loose := Pv.nmL) (d := HandSHeadRun.topDef (OpenLaw.row PySem.Challenge.rw_tessera_k04_refused_readings).prog 36) (kwd := []) Pv.obH_eq
    (by kernel_rfl) (fun s => by kernel_rfl) Pv.runH (by kernel_rfl) (by kernel_rfl) (by kernel_rfl) (by rfl) (by first | assumption | decide +kernel) (by decide +kernel) ⟨rfl, rfl, rfl, rfl, rfl, by decide +kernel⟩ ?hw ?hc
  case hw => w_witness2
  case hc =>
    refine L2.walk_ofE (l := PySem.Challenge.rw_tessera_k04_refused_readings) (n := 63) (k := 8) (x := "_law_script") (CX := L2.CX0) rfl (by decide) (by kernel_rfl) ⟨rfl, by decide, by decide⟩ ?F (fun _ _ _ _ z => z)
    intro w mg fa h Y G hmg0
    obtain ⟨K, KX, c⟩ := Y
    have hmg : mg ("law" : PySem.Str) = some (.ref fa) := by
      have e : (HandSHeadRun.topDef (OpenLaw.row PySem.Challenge.rw_tessera_k04_refused_readings).prog 36).name = ("law" : PySem.Str) := by kernel_rfl
      rw [← e]
      exact hmg0
    obtain ⟨fd, hb, hF⟩ := Pv.facts (w := w) KX G hmg c
    exact ⟨K, fd, Pv.spF K Pv.F_law, KX, hb, fun H a ns hl _ hS => Pv.law_end hl hS, hF⟩
