import PyProof.Rows.All
import Wide.All
import OpenK.AllK
import Wide.FinOn
import HandS.ForMost
import HandS.Wide
import HandS.Exc
import HandS.TupAny
import HandS.Zip
import HandS.Deep
import HandS.Walk
import HandS.SetKeys
import HandS.Small
import HandS.NoneIn
import HandS.Style
import HandS.Text
import HandS.SetBool
import HandS.TupSets
import KE.SortData
import HandS.SortKw
import KE.GoesMore
import HandS.IsInst
import PySem.Challenge.RW_balconyrow_k61_known_needs
section
set_option Elab.async false
set_option linter.all false
set_option maxRecDepth 100000
set_option maxHeartbeats 4000000
set_option autoImplicit false
/-! The A-layer, part a: pure data, slots, the state's relation, outcomes. -/
namespace AL
open PySem PySem.Spec PyProof.Rows L2

abbrev D := PyData
def kD : Key → D
  | .inl i => .int i
  | .inr x => .str x

mutual
inductive Rl (K : PySem.W.Frag) (I : Hp) : V → D → Prop
  | non : Rl K I .non .none
  | bl (b : Bool) : Rl K I (.bl b) (.bool b)
  | int (i : Int) : Rl K I (.int i) (.int i)
  | str (x : Str) : Rl K I (.str x) (.str x)
  | lst {a : Addr} {xs : List V} {ds : List D} : I a = some (.lst xs) → Rs K I xs ds → Rl K I (.ref a) (.list ds)
  | tup {a : Addr} {xs : List V} {ds : List D} : SqT K I a xs → Rs K I xs ds → Rl K I (.ref a) (.tuple ds)
  | dic {a : Addr} {xs : List (Key × V)} {ds : List (D × D)} : Rd I a (.dK xs) → Rk K I xs ds → Rl K I (.ref a) (.dict ds)
inductive Rs (K : PySem.W.Frag) (I : Hp) : List V → List D → Prop
  | nil : Rs K I [] []
  | cons {v : V} {vs : List V} {d : D} {ds : List D} : Rl K I v d → Rs K I vs ds → Rs K I (v :: vs) (d :: ds)
inductive Rk (K : PySem.W.Frag) (I : Hp) : List (Key × V) → List (D × D) → Prop
  | nil : Rk K I [] []
  | cons {k : Key} {v : V} {vs : List (Key × V)} {d : D} {ds : List (D × D)} : Rl K I v d → Rk K I vs ds → Rk K I ((k, v) :: vs) ((kD k, d) :: ds)
end

/-- what was told stays told -/
structure Le (I I' : Hp) : Prop where
  rd : ∀ b u, (∀ o x, u ≠ HO.frz o x) → Rd I b u → Rd I' b u
  ls : ∀ b xs, I b = some (.lst xs) → I' b = some (.lst xs)
theorem Le.refl (I : Hp) : Le I I := ⟨fun _ _ _ h => h, fun _ _ h => h⟩
theorem Le.trans {I J L : Hp} (a : Le I J) (b : Le J L) : Le I L := ⟨fun c u n h => b.rd c u n (a.rd c u n h), fun c u h => b.ls c u (a.ls c u h)⟩
theorem Le.of_sub {I J : Hp} (h : ∀ b o, I b = some o → J b = some o) : Le I J := by
  refine ⟨fun b u _ r => ?_, fun b xs r => h b _ r⟩
  rcases r with r | ⟨o, r⟩
  · exact .inl (h b _ r)
  · exact .inr ⟨o, h b _ r⟩
theorem Le.sqt {K : PySem.W.Frag} {I J : Hp} (l : Le I J) {a : Addr} {xs : List V} (h : SqT K I a xs) : SqT K J a xs := by
  rcases h with h | h
  · exact .inl (l.rd _ _ (fun _ _ z => nomatch z) h)
  · exact .inr h
theorem Le.sql {K : PySem.W.Frag} {I J : Hp} (l : Le I J) {a : Addr} {xs : List V} (h : SqL K I a xs) : SqL K J a xs := by
  rcases h with h | h
  · exact .inl (l.rd _ _ (fun _ _ z => nomatch z) h)
  · exact .inr h

mutual
theorem Rl.mono {K : PySem.W.Frag} {I J : Hp} (l : Le I J) : ∀ (d : D) (v : V), Rl K I v d → Rl K J v d
  | .none, _, h => by cases h; exact .non
  | .bool b, _, h => by cases h; exact .bl b
  | .int i, _, h => by cases h; exact .int i
  | .str x, _, h => by cases h; exact .str x
  | .list ds, _, h => by
    cases h with
    | lst a b => exact .lst (l.ls _ _ a) (Rs.mono l ds _ b)
  | .tuple ds, _, h => by
    cases h with
    | tup a b => exact .tup (l.sqt a) (Rs.mono l ds _ b)
  | .dict ds, _, h => by
    cases h with
    | dic a b => exact .dic (l.rd _ _ (fun _ _ z => nomatch z) a) (Rk.mono l ds _ b)
theorem Rs.mono {K : PySem.W.Frag} {I J : Hp} (l : Le I J) : ∀ (ds : List D) (vs : List V), Rs K I vs ds → Rs K J vs ds
  | [], _, h => by cases h; exact .nil
  | d :: ds, _, h => by
    cases h with
    | cons a b => exact .cons (Rl.mono l d _ a) (Rs.mono l ds _ b)
theorem Rk.mono {K : PySem.W.Frag} {I J : Hp} (l : Le I J) : ∀ (ds : List (D × D)) (vs : List (Key × V)), Rk K I vs ds → Rk K J vs ds
  | [], _, h => by cases h; exact .nil
  | (k, d) :: ds, _, h => by
    cases h with
    | cons a b => exact .cons (Rl.mono l d _ a) (Rk.mono l ds _ b)
end
section
variable {K : PySem.W.Frag} {I J : Hp} {v : V} {d : D} {vs ws : List V} {ds es : List D}
theorem Rl.up (h : Rl K I v d) (l : Le I J) : Rl K J v d := Rl.mono l d v h
theorem Rs.up (h : Rs K I vs ds) (l : Le I J) : Rs K J vs ds := Rs.mono l ds vs h
theorem Rk.up {vs : List (Key × V)} {ds : List (D × D)} (h : Rk K I vs ds) (l : Le I J) : Rk K J vs ds := Rk.mono l ds vs h
theorem Rs.length : ∀ {vs : List V} {ds : List D}, Rs K I vs ds → vs.length = ds.length
  | _, _, .nil => rfl
  | _, _, .cons _ t => by rw [List.length_cons, List.length_cons, Rs.length t]
theorem Rs.append : ∀ {vs : List V} {ds : List D}, Rs K I vs ds → Rs K I ws es → Rs K I (vs ++ ws) (ds ++ es)
  | _, _, .nil, s => s
  | _, _, .cons r t, s => .cons r (Rs.append t s)
theorem Rs.get : ∀ {vs : List V} {ds : List D} {i : Nat} {d : D}, Rs K I vs ds → ds[i]? = some d → ∃ v, vs[i]? = some v ∧ Rl K I v d
  | _, _, _, _, .nil, e => by simp at e
  | _, _, 0, _, .cons r _, e => by simp at e; subst e; exact ⟨_, rfl, r⟩
  | _, _, i + 1, d, .cons _ t, e => by
    obtain ⟨v, h1, h2⟩ := Rs.get (i := i) (d := d) t (by simpa using e)
    exact ⟨v, by simpa using h1, h2⟩
theorem Rs.get' : ∀ {vs : List V} {ds : List D} {i : Nat} {v : V}, Rs K I vs ds → vs[i]? = some v → ∃ d, ds[i]? = some d ∧ Rl K I v d
  | _, _, _, _, .nil, e => by simp at e
  | _, _, 0, _, .cons r _, e => by simp at e; subst e; exact ⟨_, rfl, r⟩
  | _, _, i + 1, d, .cons _ t, e => by
    obtain ⟨v, h1, h2⟩ := Rs.get' (i := i) (v := d) t (by simpa using e)
    exact ⟨v, by simpa using h1, h2⟩
theorem Rs.take : ∀ {vs : List V} {ds : List D} (n : Nat), Rs K I vs ds → Rs K I (vs.take n) (ds.take n)
  | _, _, 0, _ => .nil
  | _, _, _ + 1, .nil => .nil
  | _, _, n + 1, .cons r t => .cons r (Rs.take n t)
theorem Rs.drop : ∀ {vs : List V} {ds : List D} (n : Nat), Rs K I vs ds → Rs K I (vs.drop n) (ds.drop n)
  | _, _, 0, r => r
  | _, _, _ + 1, .nil => .nil
  | _, _, n + 1, .cons _ t => Rs.drop n t
theorem Rs.set {v : V} {d : D} (r : Rl K I v d) : ∀ {vs : List V} {ds : List D} (i : Nat), Rs K I vs ds → Rs K I (vs.set i v) (ds.set i d)
  | _, _, _, .nil => .nil
  | _, _, 0, .cons _ t => .cons r t
  | _, _, i + 1, .cons q t => .cons q (Rs.set r i t)
theorem Rs.reverse : ∀ {vs : List V} {ds : List D}, Rs K I vs ds → Rs K I vs.reverse ds.reverse
  | _, _, .nil => .nil
  | _, _, .cons r t => by
    rw [List.reverse_cons, List.reverse_cons]
    exact (Rs.reverse t).append (.cons r .nil)
theorem Rs.erase : ∀ {vs : List V} {ds : List D} (i : Nat), Rs K I vs ds → Rs K I (vs.eraseIdx i) (ds.eraseIdx i)
  | _, _, _, .nil => .nil
  | _, _, 0, .cons _ t => t
  | _, _, i + 1, .cons q t => .cons q (Rs.erase i t)
theorem Rs.nil_iff (h : Rs K I vs ds) : vs = [] ↔ ds = [] := by cases h <;> simp
end
/-! data for == and the like -/
mutual
theorem Rl.dp {K : PySem.W.Frag} {I : Hp} : ∀ (d : D) (v : V), d.canLay0 = true → Rl K I v d → Dp K I v d
  | .none, _, _, h => by cases h; exact .non
  | .bool b, _, _, h => by cases h; exact .bl b
  | .int i, _, _, h => by cases h; exact .int i
  | .str x, _, _, h => by cases h; exact .str x
  | .list ds, _, z, h => by
    cases h with
    | lst a b => exact .lst (.inl (.inl a)) (Rs.dp ds _ (by simpa [PyData.canLay0] using z) b)
  | .tuple ds, _, z, h => by
    cases h with
    | tup a b => exact .tup a (Rs.dp ds _ (by simpa [PyData.canLay0] using z) b)
  | .dict ds, _, z, h => by simp [PyData.canLay0] at z
theorem Rs.dp {K : PySem.W.Frag} {I : Hp} : ∀ (ds : List D) (vs : List V), PyData.canLayAll0 ds = true → Rs K I vs ds → DpAll K I vs ds
  | [], _, _, h => by cases h; exact .nil
  | d :: ds, _, z, h => by
    cases h with
    | cons a b =>
      have z' : d.canLay0 = true ∧ PyData.canLayAll0 ds = true := by simpa [PyData.canLayAll0] using z
      exact .cons (Rl.dp d _ z'.1 a) (Rs.dp ds _ z'.2 b)
end

/-! ### owned things -/
inductive Mu where
  | lst (xs : List D)
  | dic (kvs : List (D × D))
  | dll (kvs : List (D × List D))
def Mu.toD : Mu → D
  | .lst xs => .list xs
  | .dic kvs => .dict kvs
  | .dll kvs => .dict (kvs.map fun p => (p.1, .list p.2))
inductive Rdl (K : PySem.W.Frag) (I H : Hp) : List (Key × V) → List (D × List D) → List Addr → Prop
  | nil : Rdl K I H [] [] []
  | cons {k : Key} {b : Addr} {vs : List V} {xs : List D} {kvs : List (Key × V)} {ds : List (D × List D)} {l : List Addr} :
      H b = some (.lst vs) → Rs K I vs xs → Rdl K I H kvs ds l → Rdl K I H ((k, .ref b) :: kvs) ((kD k, xs) :: ds) (b :: l)
/-- at a stands the owned m, its objects at fp -/
inductive Own (K : PySem.W.Frag) (I H : Hp) : Addr → Mu → List Addr → Prop
  | lst {a : Addr} {vs : List V} {xs : List D} : H a = some (.lst vs) → Rs K I vs xs → Own K I H a (.lst xs) [a]
  | dic {a : Addr} {vs : List (Key × V)} {xs : List (D × D)} : H a = some (.dK vs) → Rk K I vs xs → Own K I H a (.dic xs) [a]
  | dll {a : Addr} {vs : List (Key × V)} {xs : List (D × List D)} {l : List Addr} : H a = some (.dK vs) → Rdl K I H vs xs l → Own K I H a (.dll xs) (a :: l)
section
variable {K : PySem.W.Frag} {I J H H' : Hp} {a : Addr} {m : Mu} {f : List Addr}
theorem Rdl.keep : ∀ {kvs : List (Key × V)} {ds : List (D × List D)} {l : List Addr}, Rdl K I H kvs ds l → Le I J → (∀ b ∈ l, H' b = H b) → Rdl K J H' kvs ds l
  | _, _, _, .nil, _, _ => .nil
  | _, _, _, .cons h r t, l, k => .cons ((k _ List.mem_cons_self).trans h) (r.up l) (t.keep l fun b hb => k b (List.mem_cons_of_mem _ hb))
theorem Own.keep (o : Own K I H a m f) (l : Le I J) (k : ∀ b ∈ f, H' b = H b) : Own K J H' a m f := by
  cases o with
  | lst h r => exact .lst ((k _ (by simp)).trans h) (r.up l)
  | dic h r => exact .dic ((k _ (by simp)).trans h) (r.up l)
  | dll h r => exact .dll ((k _ (by simp)).trans h) (r.keep l fun b hb => k b (by simp [hb]))
theorem Own.self (o : Own K I H a m f) : a ∈ f := by cases o <;> simp
theorem Rdl.there : ∀ {kvs : List (Key × V)} {ds : List (D × List D)} {l : List Addr}, Rdl K I H kvs ds l → ∀ b ∈ l, ∃ o, H b = some o
  | _, _, _, .nil, _, h => by simp at h
  | _, _, _, .cons h r t, b, hb => by
    rcases List.mem_cons.mp hb with e | hb
    · subst e; exact ⟨_, h⟩
    · exact t.there b hb
theorem Own.there (o : Own K I H a m f) : ∀ b ∈ f, ∃ u, H b = some u := by
  intro b hb
  cases o with
  | lst h r => simp at hb; subst hb; exact ⟨_, h⟩
  | dic h r => simp at hb; subst hb; exact ⟨_, h⟩
  | dll h r =>
    rcases List.mem_cons.mp hb with e | hb
    · subst e; exact ⟨_, h⟩
    · exact r.there b hb
/-- what is owned becomes told -/
def frz (I H : Hp) (f : List Addr) : Hp := fun b => if b ∈ f then H b else I b
theorem frz_in {b : Addr} (h : b ∈ f) : frz I H f b = H b := if_pos h
theorem frz_out {b : Addr} (h : b ∉ f) : frz I H f b = I b := if_neg h
theorem frz_le (z : ∀ b ∈ f, I b = none) : Le I (frz I H f) := Le.of_sub fun b o e => by
  rw [frz_out fun h => by rw [z b h] at e; cases e]
  exact e
theorem frz_sub (s : ∀ b o, I b = some o → H b = some o) : ∀ b o, frz I H f b = some o → H b = some o := fun b o e => by
  by_cases h : b ∈ f
  · rwa [frz_in h] at e
  · rw [frz_out h] at e; exact s b o e
theorem Rdl.froze {G : Hp} : ∀ {kvs : List (Key × V)} {ds : List (D × List D)} {l : List Addr}, Rdl K I H kvs ds l → (∀ b ∈ l, G b = H b) → Le I G → Rk K G kvs (ds.map fun p => (p.1, .list p.2))
  | _, _, _, .nil, _, _ => .nil
  | _, _, _, .cons h r t, z, l => .cons (.lst ((z _ List.mem_cons_self).trans h) (r.up l)) (t.froze (fun b hb => z b (List.mem_cons_of_mem _ hb)) l)
theorem Own.froze (o : Own K I H a m f) (z : ∀ b ∈ f, I b = none) : Rl K (frz I H f) (.ref a) m.toD := by
  have l : Le I (frz I H f) := frz_le z
  cases o with
  | lst h r => exact .lst ((frz_in (by simp)).trans h) (r.up l)
  | dic h r => exact .dic (.inl ((frz_in (by simp)).trans h)) (r.up l)
  | dll h r => exact .dic (.inl ((frz_in (by simp)).trans h)) (r.froze (fun b hb => frz_in (by simp [hb])) l)
end

/-! ### slots and the frame's state -/
inductive Sl where
  | em
  | val (d : D)
  | own (t : Option Nat) (m : Mu)
  | scr (ns : List Int)
abbrev Sls := List Sl
/-- the parameters that are handed on to be changed: where they stand; all that they own at the entry -/
structure PAs where
  ad : List Addr
  pf : List Addr
def SlR (K : PySem.W.Frag) (pa : PAs) (I H : Hp) (o : Option V) (f : List Addr) : Sl → Prop
  | .em => f = []
  | .val d => f = [] ∧ ∃ v, o = some v ∧ Rl K I v d
  | .own t m => ∃ a, o = some (.ref a) ∧ Own K I H a m f ∧ (∀ k, t = some k → pa.ad[k]? = some a) ∧ (t = none → ∀ b ∈ f, b ∉ pa.pf)
  | .scr ns => f = [] ∧ ∃ a, o = some (.ref a) ∧ SqL K I a (ns.map V.int)
abbrev Fps := Nat → List Addr
def FP (fp : Fps) (b : Addr) : Prop := ∃ i, b ∈ fp i
structure SR (K : PySem.W.Frag) (pa : PAs) (I H : Hp) (σ : L2.St) (sl : Sls) (fp : Fps) : Prop where
  sub : ∀ b o, I b = some o → H b = some o
  len : sl.length = σ.length
  slot : ∀ i s, sl[i]? = some s → SlR K pa I H (σ[i]?.join) (fp i) s
  out : ∀ i, sl.length ≤ i → fp i = []
  free : ∀ i, ∀ b ∈ fp i, I b = none
  nd : ∀ i, (fp i).Nodup
  dj : ∀ i j, i ≠ j → ∀ b ∈ fp i, b ∉ fp j
  pin : ∀ b ∈ pa.pf, ∃ o, H b = some o
theorem SR.there {K : PySem.W.Frag} {pa : PAs} {I H : Hp} {σ : L2.St} {sl : Sls} {fp : Fps} (r : SR K pa I H σ sl fp) {b : Addr} (h : FP fp b) : ∃ o, H b = some o := by
  obtain ⟨i, hi⟩ := h
  by_cases hl : i < sl.length
  · have q := r.slot i sl[i] (List.getElem?_eq_getElem hl)
    cases hs : sl[i] with
    | em => rw [hs] at q; have q : fp i = [] := q; rw [q] at hi; simp at hi
    | val d => rw [hs] at q; have q := q.1; rw [q] at hi; simp at hi
    | scr d => rw [hs] at q; have q := q.1; rw [q] at hi; simp at hi
    | own t m =>
      rw [hs] at q
      obtain ⟨a, _, o, _⟩ := q
      exact o.there b hi
  · rw [r.out i (by omega)] at hi; simp at hi
theorem SR.nfree {K : PySem.W.Frag} {pa : PAs} {I H : Hp} {σ : L2.St} {sl : Sls} {fp : Fps} (r : SR K pa I H σ sl fp) {b : Addr} (h : FP fp b) : I b = none := by
  obtain ⟨i, hi⟩ := h
  exact r.free i b hi

/-- a step: F are the owned addresses that it may touch -/
structure Tr (F : Addr → Prop) (I H I' H' : Hp) : Prop where
  le : Le I I'
  keep : ∀ b o, H b = some o → ¬ F b → H' b = some o
  fr : ∀ b o, H b = some o → ¬ F b → I b = none → I' b = none
  there : ∀ b o, H b = some o → ∃ o', H' b = some o'
structure Mv (fp : Fps) (I H : Hp) (fp' : Fps) (I' H' : Hp) : Prop where
  tr : Tr (FP fp) I H I' H'
  fresh : ∀ b, FP fp' b → FP fp b ∨ H b = none
theorem Tr.refl {F : Addr → Prop} {I H : Hp} : Tr F I H I H := ⟨.refl _, fun _ _ h _ => h, fun _ _ _ _ h => h, fun _ o h => ⟨o, h⟩⟩
theorem Tr.gone {F : Addr → Prop} {I H I' H' : Hp} (t : Tr F I H I' H') {b : Addr} (h : H' b = none) : H b = none := by
  cases e : H b with
  | none => rfl
  | some o =>
    obtain ⟨o', q⟩ := t.there b o e
    rw [h] at q; cases q
theorem Mv.refl {fp : Fps} {I H : Hp} : Mv fp I H fp I H := ⟨.refl, fun _ h => .inl h⟩
theorem Mv.trans {fp fp1 fp2 : Fps} {I H I1 H1 I2 H2 : Hp} (a : Mv fp I H fp1 I1 H1) (b : Mv fp1 I1 H1 fp2 I2 H2) : Mv fp I H fp2 I2 H2 := by
  have nf : ∀ c o, H c = some o → ¬ FP fp c → ¬ FP fp1 c := fun c o e n z => by
    rcases a.fresh c z with q | q
    · exact n q
    · rw [e] at q; cases q
  refine ⟨⟨a.tr.le.trans b.tr.le, fun c o e n => b.tr.keep c o (a.tr.keep c o e n) (nf c o e n), fun c o e n i => b.tr.fr c o (a.tr.keep c o e n) (nf c o e n) (a.tr.fr c o e n i), fun c o e => ?_⟩, fun c z => ?_⟩
  · obtain ⟨o1, e1⟩ := a.tr.there c o e
    exact b.tr.there c o1 e1
  · rcases b.fresh c z with q | q
    · exact a.fresh c q
    · exact .inr (a.tr.gone q)

/-! ### outcomes -/
/-- an exception: its class's name, its fields -/
structure Ex where
  cls : Str
  fs : List (Str × D)
inductive Rz (α : Type) where
  | ok (a : α) (s : Sls)
  | err (x : Ex) (s : Sls)
  | no
abbrev Den (α : Type) := Sls → Rz α
def Den.ret {α : Type} (a : α) : Den α := fun s => .ok a s
def Den.bind {α β : Type} (m : Den α) (k : α → Den β) : Den β := fun s => match m s with
  | .ok a s' => k a s'
  | .err x s' => .err x s'
  | .no => .no
def Den.no {α : Type} : Den α := fun _ => .no
instance : Monad Den where
  pure := Den.ret
  bind := Den.bind
def Den.opt {α : Type} : Option α → Den α
  | some a => Den.ret a
  | none => Den.no
/-- an operand: told data; a slot's owned thing (read when it is used); a thing just made that nobody else has; the script's list -/
inductive O where
  | d (x : D)
  | sl (i : Nat)
  | tmp (m : Mu)
  | set (xs : List D)
  | scr (ns : List Int)

def ExR (mg : Str → Option Value) (K : PySem.W.Frag) (I : Hp) (cls : Value) (dd : Option Addr) (x : Ex) : Prop :=
  mg x.cls = some cls ∧ match x.fs with
    | [] => dd = none
    | fs => ∃ (d : Addr) (vs : List (Str × V)), dd = some d ∧ I d = some (.xd vs) ∧ vs.map (·.1) = fs.map (·.1) ∧ Rs K I (vs.map (·.2)) (fs.map (·.2))

def OR (K : PySem.W.Frag) (σ : L2.St) (I H : Hp) (fp : Fps) (H0 : Hp) (v : V) : O → Prop
  | .d x => Rl K I v x
  | .sl i => σ[i]? = some (some v)
  | .tmp m => ∃ a f, v = .ref a ∧ Own K I H a m f ∧ f.Nodup ∧ ∀ b ∈ f, H0 b = none ∧ I b = none ∧ ¬ FP fp b
  | .set _ => False
  | .scr ns => ∃ a, v = .ref a ∧ SqL K I a (ns.map V.int)
theorem OR.keep {K : PySem.W.Frag} {σ : L2.St} {I H I' H' H0 : Hp} {fp fp' : Fps} {v : V} {o : O} (h : OR K σ I H fp H0 v o) (m : Mv fp I H fp' I' H') : OR K σ I' H' fp' H0 v o := by
  cases o with
  | d x => exact Rl.up h m.tr.le
  | sl i => exact h
  | set xs => exact h
  | scr ns =>
    obtain ⟨a, e, q⟩ := h
    exact ⟨a, e, m.tr.le.sql q⟩
  | tmp t =>
    obtain ⟨a, f, e, o, n, q⟩ := h
    refine ⟨a, f, e, o.keep m.tr.le fun b hb => ?_, n, fun b hb => ⟨(q b hb).1, ?_, fun z => ?_⟩⟩
    · obtain ⟨u, hu⟩ := o.there b hb
      rw [hu]
      exact m.tr.keep b u hu (q b hb).2.2
    · obtain ⟨u, hu⟩ := o.there b hb
      exact m.tr.fr b u hu (q b hb).2.2 (q b hb).2.1
    · obtain ⟨u, hu⟩ := o.there b hb
      rcases m.fresh b z with q' | q'
      · exact (q b hb).2.2 q'
      · rw [hu] at q'; cases q'

/-- an outcome at σ, from the start (I, H, fp): what K says of each end -/
def Po {α : Type} (X : Cx) (W : WX) (pa : PAs) (σ : L2.St) (I H : Hp) (fp : Fps) (r : Rz α) (K : α → Sls → Hp → Hp → Fps → Prop) : Prop :=
  match r with
  | .ok a sl' => ∀ I' H' fp', SR X.K pa I' H' σ sl' fp' → Mv fp I H fp' I' H' → K a sl' I' H' fp'
  | .err x sl' => ∀ cls dd I' H' fp', SR X.K pa I' H' σ sl' fp' → Mv fp I H fp' I' H' → ExR X.mg X.K I' cls dd x → W cls dd σ H'
  | .no => False
section
variable {X : Cx} {W : WX} {pa : PAs} {σ : L2.St} {I H : Hp} {fp : Fps} {α β : Type}
theorem Po.bind {m : Den α} {k : α → Den β} {sl : Sls} {Q : β → Sls → Hp → Hp → Fps → Prop} (h : Po X W pa σ I H fp ((m.bind k) sl) Q) :
    Po X W pa σ I H fp (m sl) fun a sl1 I1 H1 fp1 => Po X W pa σ I1 H1 fp1 (k a sl1) Q := by
  unfold Den.bind at h
  cases e : m sl with
  | no => rw [e] at h; exact h
  | err x s => rw [e] at h; exact h
  | ok a s =>
    rw [e] at h
    intro I1 H1 fp1 s1 m1
    have h : Po X W pa σ I H fp (k a s) Q := h
    cases e2 : k a s with
    | no => rw [e2] at h; exact h
    | err x s2 => rw [e2] at h; exact fun c d I' H' f' sr mv er => h c d I' H' f' sr (m1.trans mv) er
    | ok b s2 => rw [e2] at h; exact fun I' H' f' sr mv => h I' H' f' sr (m1.trans mv)
theorem Po.mono {r : Rz α} {Q Q' : α → Sls → Hp → Hp → Fps → Prop} (h : Po X W pa σ I H fp r Q)
    (f : ∀ a sl' I' H' fp', r = .ok a sl' → SR X.K pa I' H' σ sl' fp' → Mv fp I H fp' I' H' → Q a sl' I' H' fp' → Q' a sl' I' H' fp') : Po X W pa σ I H fp r Q' := by
  cases r with
  | no => exact h
  | err x s => exact h
  | ok a s => exact fun I' H' fp' sr mv => f a s I' H' fp' rfl sr mv (h I' H' fp' sr mv)
theorem Po.ret {a : α} {sl : Sls} {Q : α → Sls → Hp → Hp → Fps → Prop} (sr : SR X.K pa I H σ sl fp) (h : Po X W pa σ I H fp (.ok a sl) Q) : Q a sl I H fp := h I H fp sr .refl
end

/-! ### readings by denotations -/
def tE (X : Cx) (W : WX) (f : Den O) : TE := fun σ H Q => ∃ pa I sl fp, SR X.K pa I H σ sl fp ∧ Po X W pa σ I H fp (f sl) fun o _ I' H' fp' => ∀ v, OR X.K σ I' H' fp' H v o → Q v H'
def tT (X : Cx) (W : WX) (f : Den Bool) : TT := fun σ H Q => ∃ pa I sl fp, SR X.K pa I H σ sl fp ∧ Po X W pa σ I H fp (f sl) fun b _ _ H' _ => Q b H'
/-- .. with its objects told -/
def ORf (K : PySem.W.Frag) (σ : L2.St) (I H : Hp) (fp : Fps) (H0 : Hp) (v : V) (f : List Addr) : O → Prop
  | .tmp m => ∃ a, v = .ref a ∧ Own K I H a m f ∧ f.Nodup ∧ ∀ b ∈ f, H0 b = none ∧ I b = none ∧ ¬ FP fp b
  | .d x => f = [] ∧ OR K σ I H fp H0 v (.d x)
  | .sl i => f = [] ∧ OR K σ I H fp H0 v (.sl i)
  | .set x => f = [] ∧ OR K σ I H fp H0 v (.set x)
  | .scr x => f = [] ∧ OR K σ I H fp H0 v (.scr x)
def ORl (K : PySem.W.Frag) (σ : L2.St) (I H : Hp) (fp : Fps) (H0 : Hp) : List V → List O → List (List Addr) → Prop
  | [], [], [] => True
  | v :: vs, o :: os, f :: fl => ORf K σ I H fp H0 v f o ∧ ORl K σ I H fp H0 vs os fl ∧ ∀ b ∈ f, ∀ g ∈ fl, b ∉ g
  | _, _, _ => False
def ORs (K : PySem.W.Frag) (σ : L2.St) (I H : Hp) (fp : Fps) (H0 : Hp) (vs : List V) (os : List O) : Prop := ∃ fl, ORl K σ I H fp H0 vs os fl
theorem OR.f {K : PySem.W.Frag} {σ : L2.St} {I H H0 : Hp} {fp : Fps} {v : V} {o : O} (h : OR K σ I H fp H0 v o) : ∃ f, ORf K σ I H fp H0 v f o := by
  cases o with
  | tmp m => obtain ⟨a, f, e, o, n, q⟩ := h; exact ⟨f, a, e, o, n, q⟩
  | d x => exact ⟨[], rfl, h⟩
  | sl x => exact ⟨[], rfl, h⟩
  | set x => exact ⟨[], rfl, h⟩
  | scr x => exact ⟨[], rfl, h⟩
theorem ORf.or {K : PySem.W.Frag} {σ : L2.St} {I H H0 : Hp} {fp : Fps} {v : V} {f : List Addr} {o : O} (h : ORf K σ I H fp H0 v f o) : OR K σ I H fp H0 v o := by
  cases o with
  | tmp m => obtain ⟨a, e, o, n, q⟩ := h; exact ⟨a, f, e, o, n, q⟩
  | d x => exact h.2
  | sl x => exact h.2
  | set x => exact h.2
  | scr x => exact h.2
theorem ORf.keep {K : PySem.W.Frag} {σ : L2.St} {I H I' H' H0 : Hp} {fp fp' : Fps} {v : V} {f : List Addr} {o : O} (h : ORf K σ I H fp H0 v f o) (m : Mv fp I H fp' I' H') : ORf K σ I' H' fp' H0 v f o := by
  cases o with
  | d x => exact ⟨h.1, OR.keep h.2 m⟩
  | sl x => exact ⟨h.1, OR.keep h.2 m⟩
  | set x => exact ⟨h.1, OR.keep h.2 m⟩
  | scr x => exact ⟨h.1, OR.keep h.2 m⟩
  | tmp t =>
    obtain ⟨a, e, o, n, q⟩ := h
    refine ⟨a, e, o.keep m.tr.le fun b hb => ?_, n, fun b hb => ⟨(q b hb).1, ?_, fun z => ?_⟩⟩
    · obtain ⟨u, hu⟩ := o.there b hb
      rw [hu]
      exact m.tr.keep b u hu (q b hb).2.2
    · obtain ⟨u, hu⟩ := o.there b hb
      exact m.tr.fr b u hu (q b hb).2.2 (q b hb).2.1
    · obtain ⟨u, hu⟩ := o.there b hb
      rcases m.fresh b z with q' | q'
      · exact (q b hb).2.2 q'
      · rw [hu] at q'; cases q'
theorem ORf.start {K : PySem.W.Frag} {σ : L2.St} {I H H0 H1 : Hp} {fp : Fps} {v : V} {f : List Addr} {o : O} (h : ORf K σ I H fp H0 v f o) (g : ∀ b, H0 b = none → H1 b = none) : ORf K σ I H fp H1 v f o := by
  cases o with
  | tmp m => obtain ⟨a, e, o, n, q⟩ := h; exact ⟨a, e, o, n, fun b hb => ⟨g b (q b hb).1, (q b hb).2⟩⟩
  | d x => exact h
  | sl x => exact h
  | set x => exact h
  | scr x => exact h
theorem ORf.there {K : PySem.W.Frag} {σ : L2.St} {I H H0 : Hp} {fp : Fps} {v : V} {f : List Addr} {o : O} (h : ORf K σ I H fp H0 v f o) : ∀ b ∈ f, (∃ u, H b = some u) ∧ H0 b = none := by
  intro b hb
  cases o with
  | tmp m => obtain ⟨a, e, o, n, q⟩ := h; exact ⟨o.there b hb, (q b hb).1⟩
  | d x => rw [h.1] at hb; simp at hb
  | sl x => rw [h.1] at hb; simp at hb
  | set x => rw [h.1] at hb; simp at hb
  | scr x => rw [h.1] at hb; simp at hb
def tA (X : Cx) (W : WX) (f : Den (List O)) : TA := fun σ H Q => ∃ pa I sl fp, SR X.K pa I H σ sl fp ∧ Po X W pa σ I H fp (f sl) fun os _ I' H' fp' => ∀ vs, ORs X.K σ I' H' fp' H vs os → Q vs H'
structure AE (X : Cx) (W : WX) (e : Expr) (f : Den O) : Prop where
  pe : PE X e (tE X W f)
structure AT (X : Cx) (W : WX) (e : Expr) (f : Den Bool) : Prop where
  pt : PT X e (tT X W f)
structure AA (X : Cx) (W : WX) (es : List Expr) (f : Den (List O)) : Prop where
  pa : PA X es (tA X W f)
theorem _root_.L2.PE.imp {X : Cx} {e : Expr} {t t' : TE} (h : PE X e t) (i : ∀ σ H Q, t' σ H Q → t σ H Q) : PE X e t' := ⟨fun pins s σ H Q I hw => h.run pins s σ H Q I (i σ H Q hw)⟩
theorem _root_.L2.PT.imp {X : Cx} {e : Expr} {t t' : TT} (h : PT X e t) (i : ∀ σ H Q, t' σ H Q → t σ H Q) : PT X e t' := ⟨fun pins s σ H Q I hw => h.run pins s σ H Q I (i σ H Q hw)⟩
theorem _root_.L2.PW.imp {X : Cx} {e : Expr} {t t' : TT} (h : PW X e t) (i : ∀ σ H Q, t' σ H Q → t σ H Q) : PW X e t' := ⟨fun wh pins s σ H Q I hw => h.run wh pins s σ H Q I (i σ H Q hw)⟩
theorem _root_.L2.PA.imp {X : Cx} {es : List Expr} {t t' : TA} (h : PA X es t) (i : ∀ σ H Q, t' σ H Q → t σ H Q) : PA X es t' := ⟨fun pos pins s σ H Q I hw => h.run pos pins s σ H Q I (i σ H Q hw)⟩
theorem _root_.L2.PS.imp {X : Cx} {st : Stmt} {t t' : TS} (h : PS X st t) (i : ∀ D σ H, t' D σ H → t D σ H) : PS X st t' := ⟨fun pins s σ H D I hw => h.run pins s σ H D I (i D σ H hw)⟩
theorem _root_.L2.PSs.imp {X : Cx} {st : List Stmt} {t t' : TS} (h : PSs X st t) (i : ∀ D σ H, t' D σ H → t D σ H) : PSs X st t' := ⟨fun pins s σ H D I hw => h.run pins s σ H D I (i D σ H hw)⟩
end AL
end
section
set_option Elab.async false
set_option linter.all false
set_option maxRecDepth 100000
set_option maxHeartbeats 4000000
set_option autoImplicit false
/-! The A-layer, part b: operands seen, rules by values, names, operators, tests. -/
namespace AL
open PySem PySem.Spec PyProof.Rows L2

/-! ### seeing an operand -/
def Mu.see : Mu → Option D
  | .lst xs => some (.list xs)
  | .dic kvs => some (.dict kvs)
  | .dll _ => none
def O.see (sl : Sls) : O → Option D
  | .d x => some x
  | .sl i => match sl[i]? with
    | some (.own _ m) => m.see
    | some (.val x) => some x
    | _ => none
  | .tmp m => m.see
  | .set _ => none
  | .scr _ => none
/-- v is seen as d -/
inductive Vw (K : PySem.W.Frag) (I H : Hp) : V → D → Prop
  | im {v : V} {d : D} : Rl K I v d → Vw K I H v d
  | ls {a : Addr} {vs : List V} {ds : List D} : H a = some (.lst vs) → Rs K I vs ds → Vw K I H (.ref a) (.list ds)
  | dc {a : Addr} {vs : List (Key × V)} {ds : List (D × D)} : H a = some (.dK vs) → Rk K I vs ds → Vw K I H (.ref a) (.dict ds)
def Sub (I H : Hp) : Prop := ∀ b o, I b = some o → H b = some o
theorem Sub.le {I H : Hp} (s : Sub I H) : Le I H := Le.of_sub s
section
variable {K : PySem.W.Frag} {pa : PAs} {I H H0 : Hp} {σ : L2.St} {sl : Sls} {fp : Fps} {v : V} {o : O} {d : D}
theorem join_some {i : Nat} {v : V} (h : (σ[i]?).join = some v) : σ[i]? = some (some v) := by
  cases e : σ[i]? with
  | none => rw [e] at h; cases h
  | some x => rw [e] at h; have h : x = some v := h; rw [h]
theorem Own.vw {a : Addr} {m : Mu} {f : List Addr} (o : Own K I H a m f) (h : m.see = some d) : Vw K I H (.ref a) d := by
  cases o with
  | lst p q => cases h; exact .ls p q
  | dic p q => cases h; exact .dc p q
  | dll p q => cases h
theorem OR.vw (sr : SR K pa I H σ sl fp) (h : OR K σ I H fp H0 v o) (e : o.see sl = some d) : Vw K I H v d := by
  cases o with
  | d x => cases e; exact .im h
  | set xs => exact h.elim
  | scr ns => cases e
  | tmp m =>
    obtain ⟨a, f, rfl, o, _⟩ := h
    exact o.vw e
  | sl i =>
    have h : σ[i]? = some (some v) := h
    have e : (match sl[i]? with | some (.own _ m) => m.see | some (.val d) => some d | _ => none) = some d := e
    cases q : sl[i]? with
    | none => rw [q] at e; cases e
    | some s =>
      rw [q] at e
      have z := sr.slot i s q
      have hj : (σ[i]?).join = some v := by rw [h]; rfl
      cases s with
      | em => cases e
      | scr ns => cases e
      | val x =>
        cases e
        obtain ⟨_, w, e1, r⟩ := z
        rw [hj] at e1; cases e1
        exact .im r
      | own t m =>
        obtain ⟨a, e1, o, _⟩ := z
        rw [hj] at e1; cases e1
        exact o.vw e
theorem Vw.int {i : Int} (h : Vw K I H v (.int i)) : v = .int i := by
  cases h with
  | im r => cases r; rfl
theorem Vw.bool {i : Bool} (h : Vw K I H v (.bool i)) : v = .bl i := by
  cases h with
  | im r => cases r; rfl
theorem Vw.str {i : Str} (h : Vw K I H v (.str i)) : v = .str i := by
  cases h with
  | im r => cases r; rfl
theorem Vw.none (h : Vw K I H v .none) : v = .non := by
  cases h with
  | im r => cases r; rfl
theorem Vw.list {ds : List D} (s : Sub I H) (h : Vw K I H v (.list ds)) : ∃ a vs, v = .ref a ∧ H a = some (.lst vs) ∧ Rs K I vs ds := by
  cases h with
  | im r =>
    cases r with
    | lst p q => exact ⟨_, _, rfl, s _ _ p, q⟩
  | ls p q => exact ⟨_, _, rfl, p, q⟩
theorem Vw.tup {ds : List D} (h : Vw K I H v (.tuple ds)) : ∃ a vs, v = .ref a ∧ SqT K I a vs ∧ Rs K I vs ds := by
  cases h with
  | im r =>
    cases r with
    | tup p q => exact ⟨_, _, rfl, p, q⟩
theorem Vw.dict {ds : List (D × D)} (s : Sub I H) (h : Vw K I H v (.dict ds)) : ∃ a vs, v = .ref a ∧ Rd H a (.dK vs) ∧ Rk K I vs ds := by
  cases h with
  | im r =>
    cases r with
    | dic p q => exact ⟨_, _, rfl, s.le.rd _ _ (fun _ _ z => nomatch z) p, q⟩
  | dc p q => exact ⟨_, _, rfl, .inl p, q⟩
/-- it is so in the whole heap -/
theorem Vw.rl (s : Sub I H) (h : Vw K I H v d) : Rl K H v d := by
  cases h with
  | im r => exact r.up s.le
  | ls p q => exact .lst p (q.up s.le)
  | dc p q => exact .dic (.inl p) (q.up s.le)
end

/-! ### what a rule by values leaves -/
structure Al (I H I' H' : Hp) : Prop where
  sub : Sub I' H'
  le : Le I I'
  keep : ∀ b o, H b = some o → H' b = some o
  fr : ∀ b o, I' b = some o → H b = none ∨ I b = some o
theorem Al.refl {I H : Hp} (s : Sub I H) : Al I H I H := ⟨s, .refl _, fun _ _ h => h, fun _ _ h => .inr h⟩
def NR (K : PySem.W.Frag) (I H I' H' : Hp) (v : V) : O → Prop
  | .d x => Rl K I' v x
  | .tmp m => ∃ a f, v = .ref a ∧ Own K I' H' a m f ∧ f.Nodup ∧ ∀ b ∈ f, H b = none ∧ I' b = none
  | _ => False
section
variable {K : PySem.W.Frag} {pa : PAs} {I H I' H' H0 : Hp} {σ : L2.St} {sl : Sls} {fp : Fps} {v : V} {o : O} {d : D}
theorem SlR.keep {ov : Option V} {f : List Addr} {s : Sl} (h : SlR K pa I H ov f s) (l : Le I I') (k : ∀ b ∈ f, H' b = H b) : SlR K pa I' H' ov f s := by
  cases s with
  | em => exact h
  | val x =>
    obtain ⟨e, w, e1, r⟩ := h
    exact ⟨e, w, e1, r.up l⟩
  | scr ns =>
    obtain ⟨e, a, e1, r⟩ := h
    exact ⟨e, a, e1, l.sql r⟩
  | own t m =>
    obtain ⟨a, e1, o, p⟩ := h
    exact ⟨a, e1, o.keep l k, p⟩
theorem SR.al (sr : SR K pa I H σ sl fp) (a : Al I H I' H') : SR K pa I' H' σ sl fp where
  sub := a.sub
  len := sr.len
  slot := fun i s e => (sr.slot i s e).keep a.le fun b hb => by
    obtain ⟨u, hu⟩ := sr.there ⟨i, hb⟩
    rw [hu]
    exact a.keep b u hu
  out := sr.out
  free := fun i b hb => by
    cases e : I' b with
    | none => rfl
    | some u =>
      obtain ⟨w, hw⟩ := sr.there ⟨i, hb⟩
      rcases a.fr b u e with q | q
      · rw [hw] at q; cases q
      · rw [sr.free i b hb] at q; cases q
  nd := sr.nd
  dj := sr.dj
  pin := fun b hb => by
    obtain ⟨o, e⟩ := sr.pin b hb
    exact ⟨o, a.keep b o e⟩
theorem Al.mv (a : Al I H I' H') : Mv fp I H fp I' H' where
  tr := by
    refine ⟨a.le, fun b o e _ => a.keep b o e, fun b o e _ i => ?_, fun b o e => ⟨o, a.keep b o e⟩⟩
    cases q : I' b with
    | none => rfl
    | some u =>
      rcases a.fr b u q with z | z
      · rw [e] at z; cases z
      · rw [i] at z; cases z
  fresh := fun b h => .inl h
theorem NR.or (sr : SR K pa I H σ sl fp) (g : ∀ b, H b = none → H0 b = none) (h : NR K I H I' H' v o) : OR K σ I' H' fp H0 v o := by
  cases o with
  | d x => exact h
  | sl i => exact h.elim
  | set xs => exact h.elim
  | scr ns => exact h.elim
  | tmp m =>
    obtain ⟨a, f, e, o, n, q⟩ := h
    refine ⟨a, f, e, o, n, fun b hb => ⟨g b (q b hb).1, (q b hb).2, fun z => ?_⟩⟩
    obtain ⟨u, hu⟩ := sr.there z
    rw [(q b hb).1] at hu; cases hu
/-- a tuple, a list just made -/
theorem Al.tup {p : Addr} {vs : List V} (s : Sub I H) (hp : H p = none) : Al I H (upd I p (.tup vs)) (upd H p (.tup vs)) := by
  have ip : I p = none := by
    cases e : I p with
    | none => rfl
    | some o => rw [s p o e] at hp; cases hp
  refine ⟨fun b o e => ?_, Le.of_sub fun b o e => ?_, fun b o e => ?_, fun b o e => ?_⟩
  · by_cases h : b = p
    · subst h; rw [upd_same] at e ⊢; exact e
    · rw [upd_ne h] at e ⊢; exact s b o e
  · rw [upd_ne (ne_of_none e ip)]; exact e
  · rw [upd_ne (ne_of_none e hp)]; exact e
  · by_cases h : b = p
    · subst h; exact .inl hp
    · rw [upd_ne h] at e; exact .inr e
theorem Al.lst {p : Addr} {vs : List V} (s : Sub I H) (hp : H p = none) : Al I H I (upd H p (.lst vs)) :=
  ⟨fun b o e => by rw [upd_ne (ne_of_none (s b o e) hp)]; exact s b o e, .refl _, fun b o e => by rw [upd_ne (ne_of_none e hp)]; exact e, fun b o e => .inr e⟩
theorem Sub.non {b : Addr} (s : Sub I H) (h : H b = none) : I b = none := by
  cases e : I b with
  | none => rfl
  | some o => rw [s b o e] at h; cases h
theorem NR.tup {p : Addr} {vs : List V} {ds : List D} (s : Sub I H) (hp : H p = none) (r : Rs K I vs ds) : NR K I H (upd I p (.tup vs)) (upd H p (.tup vs)) (.ref p) (.d (.tuple ds)) :=
  Rl.tup (Or.inl (Or.inl upd_same)) (r.up (Al.tup (vs := vs) s hp).le)
theorem NR.lst {p : Addr} {vs : List V} {ds : List D} (s : Sub I H) (hp : H p = none) (r : Rs K I vs ds) : NR K I H I (upd H p (.lst vs)) (.ref p) (.tmp (.lst ds)) :=
  ⟨p, [p], rfl, .lst upd_same r, by simp, fun b hb => by
    have e : b = p := by simpa using hb
    subst e
    exact ⟨hp, s.non hp⟩⟩
end

/-! ### rules by values -/
def Snd2 (K : PySem.W.Frag) (r : R2) (g : D → D → Option O) : Prop :=
  ∀ (I H : Hp) (x y : V) (dx dy : D) (o : O) (Q : VK), Sub I H → Vw K I H x dx → Vw K I H y dy → g dx dy = some o → (∀ v I' H', Al I H I' H' → NR K I H I' H' v o → Q v H') → r x y H Q
def Snd1 (K : PySem.W.Frag) (r : V → Hp → VK → Prop) (g : D → Option O) : Prop :=
  ∀ (I H : Hp) (x : V) (dx : D) (o : O) (Q : VK), Sub I H → Vw K I H x dx → g dx = some o → (∀ v I' H', Al I H I' H' → NR K I H I' H' v o → Q v H') → r x H Q
inductive Vws (K : PySem.W.Frag) (I H : Hp) : List V → List D → Prop
  | nil : Vws K I H [] []
  | cons {v : V} {vs : List V} {d : D} {ds : List D} : Vw K I H v d → Vws K I H vs ds → Vws K I H (v :: vs) (d :: ds)
def SndC (K : PySem.W.Frag) (r : List V → Hp → VK → Prop) (g : List D → Option O) : Prop :=
  ∀ (I H : Hp) (xs : List V) (ds : List D) (o : O) (Q : VK), Sub I H → Vws K I H xs ds → g ds = some o → (∀ v I' H', Al I H I' H' → NR K I H I' H' v o → Q v H') → r xs H Q
def dAp1 (g : D → Option O) (a : O) : Den O := fun sl => match a.see sl with
  | some x => match g x with
    | some o => .ok o sl
    | none => .no
  | none => .no
def dAp2 (g : D → D → Option O) (a b : O) : Den O := fun sl => match a.see sl, b.see sl with
  | some x, some y => match g x y with
    | some o => .ok o sl
    | none => .no
  | _, _ => .no
def seeAll (sl : Sls) : List O → Option (List D)
  | [] => some []
  | a :: r => match a.see sl, seeAll sl r with
    | some x, some xs => some (x :: xs)
    | _, _ => none
def dApC (g : List D → Option O) (as : List O) : Den O := fun sl => match seeAll sl as with
  | some xs => match g xs with
    | some o => .ok o sl
    | none => .no
  | none => .no
def dU1 (g : D → Option O) (fa : Den O) : Den O := fa.bind fun a => dAp1 g a
def dV2 (g : D → D → Option O) (fa fb : Den O) : Den O := fa.bind fun a => fb.bind fun b => dAp2 g a b
def dVC (g : List D → Option O) (fa : Den (List O)) : Den O := fa.bind fun as => dApC g as
section
variable {X : Cx} {W : WX} {pa : PAs} {σ : L2.St} {I H H0 : Hp} {fp : Fps} {sl : Sls} {Q : VK}
theorem step2 {r : R2} {g : D → D → Option O} (hs : Snd2 X.K r g) {o1 o2 : O} {x y : V} (sr : SR X.K pa I H σ sl fp) (g0 : ∀ b, H b = none → H0 b = none) (h1 : OR X.K σ I H fp H0 x o1) (h2 : OR X.K σ I H fp H0 y o2)
    (h : Po X W pa σ I H fp (dAp2 g o1 o2 sl) fun o _ I' H' fp' => ∀ v, OR X.K σ I' H' fp' H0 v o → Q v H') : r x y H Q := by
  unfold dAp2 at h
  cases e1 : o1.see sl with
  | none => rw [e1] at h; exact h.elim
  | some d1 =>
    cases e2 : o2.see sl with
    | none => rw [e1, e2] at h; exact h.elim
    | some d2 =>
      rw [e1, e2] at h
      cases e3 : g d1 d2 with
      | none => simp only [e3] at h; exact h.elim
      | some o =>
        simp only [e3] at h
        exact hs I H x y d1 d2 o Q sr.sub (h1.vw sr e1) (h2.vw sr e2) e3 fun v I' H' a n => h I' H' fp (sr.al a) a.mv v (n.or sr g0)
theorem step1 {r : V → Hp → VK → Prop} {g : D → Option O} (hs : Snd1 X.K r g) {o1 : O} {x : V} (sr : SR X.K pa I H σ sl fp) (g0 : ∀ b, H b = none → H0 b = none) (h1 : OR X.K σ I H fp H0 x o1)
    (h : Po X W pa σ I H fp (dAp1 g o1 sl) fun o _ I' H' fp' => ∀ v, OR X.K σ I' H' fp' H0 v o → Q v H') : r x H Q := by
  unfold dAp1 at h
  cases e1 : o1.see sl with
  | none => rw [e1] at h; exact h.elim
  | some d1 =>
    rw [e1] at h
    cases e3 : g d1 with
    | none => simp only [e3] at h; exact h.elim
    | some o =>
      simp only [e3] at h
      exact hs I H x d1 o Q sr.sub (h1.vw sr e1) e3 fun v I' H' a n => h I' H' fp (sr.al a) a.mv v (n.or sr g0)
theorem ORl.vws (sr : SR X.K pa I H σ sl fp) : ∀ {xs : List V} {os : List O} {fl : List (List Addr)} {ds : List D}, ORl X.K σ I H fp H0 xs os fl → seeAll sl os = some ds → Vws X.K I H xs ds
  | [], [], [], _, _, e => by cases e; exact .nil
  | x :: xs, o :: os, f :: fl, ds, h, e => by
    obtain ⟨h1, h2, _⟩ := h
    unfold seeAll at e
    cases e1 : o.see sl with
    | none => rw [e1] at e; cases e
    | some d =>
      cases e2 : seeAll sl os with
      | none => rw [e1, e2] at e; cases e
      | some ds' =>
        rw [e1, e2] at e
        cases e
        exact .cons (h1.or.vw sr e1) (ORl.vws sr h2 e2)
  | [], [], _ :: _, _, h, _ => h.elim
  | [], _ :: _, [], _, h, _ => h.elim
  | [], _ :: _, _ :: _, _, h, _ => h.elim
  | _ :: _, [], [], _, h, _ => h.elim
  | _ :: _, [], _ :: _, _, h, _ => h.elim
  | _ :: _, _ :: _, [], _, h, _ => h.elim
theorem seeAll_vws (sr : SR X.K pa I H σ sl fp) {xs : List V} {os : List O} {ds : List D} (h : ORs X.K σ I H fp H0 xs os) (e : seeAll sl os = some ds) : Vws X.K I H xs ds := by
  obtain ⟨fl, h⟩ := h
  exact h.vws sr e
theorem stepC {r : List V → Hp → VK → Prop} {g : List D → Option O} (hs : SndC X.K r g) {os : List O} {xs : List V} (sr : SR X.K pa I H σ sl fp) (g0 : ∀ b, H b = none → H0 b = none) (h1 : ORs X.K σ I H fp H0 xs os)
    (h : Po X W pa σ I H fp (dApC g os sl) fun o _ I' H' fp' => ∀ v, OR X.K σ I' H' fp' H0 v o → Q v H') : r xs H Q := by
  unfold dApC at h
  cases e1 : seeAll sl os with
  | none => rw [e1] at h; exact h.elim
  | some d1 =>
    rw [e1] at h
    cases e3 : g d1 with
    | none => simp only [e3] at h; exact h.elim
    | some o =>
      simp only [e3] at h
      exact hs I H xs d1 o Q sr.sub (seeAll_vws sr h1 e1) e3 fun v I' H' a n => h I' H' fp (sr.al a) a.mv v (n.or sr g0)
/-- an expression, then what follows -/
theorem tE_then {f : Den O} {k : O → Den O} {Q : VK} {R : VK} (h : tE X W (f.bind k) σ H Q)
    (f' : ∀ pa I1 H1 fp1 sl1 o v, SR X.K pa I1 H1 σ sl1 fp1 → (∀ b, H1 b = none → H b = none) → OR X.K σ I1 H1 fp1 H v o →
      (Po X W pa σ I1 H1 fp1 (k o sl1) fun o _ I' H' fp' => ∀ v, OR X.K σ I' H' fp' H v o → Q v H') → R v H1) : tE X W f σ H R := by
  obtain ⟨pa, I, sl, fp, sr, h⟩ := h
  exact ⟨pa, I, sl, fp, sr, h.bind.mono fun o sl1 I1 H1 fp1 _ sr1 m1 q v hv => f' pa I1 H1 fp1 sl1 o v sr1 (fun b hb => m1.tr.gone hb) hv q⟩
theorem OR.start {o : O} {v : V} (h : OR X.K σ I H fp H0 v o) {H1 : Hp} (g : ∀ b, H0 b = none → H1 b = none) : OR X.K σ I H fp H1 v o := by
  cases o with
  | d x => exact h
  | sl i => exact h
  | set xs => exact h
  | scr ns => exact h
  | tmp m =>
    obtain ⟨a, f, e, o, n, q⟩ := h
    exact ⟨a, f, e, o, n, fun b hb => ⟨g b (q b hb).1, (q b hb).2⟩⟩
theorem ORl.keep {I' H' : Hp} {fp' : Fps} : ∀ {vs : List V} {os : List O} {fl : List (List Addr)}, ORl X.K σ I H fp H0 vs os fl → Mv fp I H fp' I' H' → ORl X.K σ I' H' fp' H0 vs os fl
  | [], [], [], _, _ => trivial
  | _ :: _, _ :: _, _ :: _, h, m => ⟨h.1.keep m, ORl.keep h.2.1 m, h.2.2⟩
  | [], [], _ :: _, h, _ => h.elim
  | [], _ :: _, [], h, _ => h.elim
  | [], _ :: _, _ :: _, h, _ => h.elim
  | _ :: _, [], [], h, _ => h.elim
  | _ :: _, [], _ :: _, h, _ => h.elim
  | _ :: _, _ :: _, [], h, _ => h.elim
theorem ORl.start {H1 : Hp} (g : ∀ b, H0 b = none → H1 b = none) : ∀ {vs : List V} {os : List O} {fl : List (List Addr)}, ORl X.K σ I H fp H0 vs os fl → ORl X.K σ I H fp H1 vs os fl
  | [], [], [], _ => trivial
  | _ :: _, _ :: _, _ :: _, h => ⟨h.1.start g, ORl.start g h.2.1, h.2.2⟩
  | [], [], _ :: _, h => h.elim
  | [], _ :: _, [], h => h.elim
  | [], _ :: _, _ :: _, h => h.elim
  | _ :: _, [], [], h => h.elim
  | _ :: _, [], _ :: _, h => h.elim
  | _ :: _, _ :: _, [], h => h.elim
theorem ORl.there : ∀ {vs : List V} {os : List O} {fl : List (List Addr)}, ORl X.K σ I H fp H0 vs os fl → ∀ f ∈ fl, ∀ b ∈ f, (∃ u, H b = some u) ∧ H0 b = none
  | [], [], [], _, f, hf => by simp at hf
  | _ :: _, _ :: _, g :: _, h, f, hf => by
    rcases List.mem_cons.mp hf with e | hf
    · subst e; exact h.1.there
    · exact ORl.there h.2.1 f hf
  | [], [], _ :: _, h, _, _ => h.elim
  | [], _ :: _, [], h, _, _ => h.elim
  | [], _ :: _, _ :: _, h, _, _ => h.elim
  | _ :: _, [], [], h, _, _ => h.elim
  | _ :: _, [], _ :: _, h, _, _ => h.elim
  | _ :: _, _ :: _, [], h, _, _ => h.elim
theorem ORs.start {H1 : Hp} (g : ∀ b, H0 b = none → H1 b = none) {vs : List V} {os : List O} (h : ORs X.K σ I H fp H0 vs os) : ORs X.K σ I H fp H1 vs os := by
  obtain ⟨fl, h⟩ := h
  exact ⟨fl, h.start g⟩
theorem ORs.keep {I' H' : Hp} {fp' : Fps} {vs : List V} {os : List O} (h : ORs X.K σ I H fp H0 vs os) (m : Mv fp I H fp' I' H') : ORs X.K σ I' H' fp' H0 vs os := by
  obtain ⟨fl, h⟩ := h
  exact ⟨fl, h.keep m⟩
/-- one more ahead -/
theorem ORs.cons {I1 H1 : Hp} {fp1 : Fps} {v : V} {o : O} {vs : List V} {os : List O} (h1 : OR X.K σ I1 H1 fp1 H0 v o) (m : Mv fp1 I1 H1 fp I H) (g : ∀ b, H1 b = none → H0 b = none) (h : ORs X.K σ I H fp H1 vs os) : ORs X.K σ I H fp H0 (v :: vs) (o :: os) := by
  obtain ⟨f, hf⟩ := h1.f
  obtain ⟨fl, h⟩ := h
  refine ⟨f :: fl, hf.keep m, h.start g, fun b hb f' hf' z => ?_⟩
  obtain ⟨u, hu⟩ := (hf.there b hb).1
  rw [(h.there f' hf' b z).2] at hu
  cases hu
theorem ORs.nil : ORs X.K σ I H fp H0 [] [] := ⟨[], trivial⟩
/-- two expressions, then a rule by values -/
theorem tE_op2 {r : R2} {g : D → D → Option O} (hs : Snd2 X.K r g) {fa fb : Den O} (h : tE X W (dV2 g fa fb) σ H Q) : tOp r (tE X W fa) (tE X W fb) σ H Q := by
  refine tE_then h fun pa I1 H1 fp1 sl1 o1 v1 sr1 g1 h1 h => ?_
  refine ⟨pa, I1, sl1, fp1, sr1, h.bind.mono fun o2 sl2 I2 H2 fp2 _ sr2 m2 q v2 h2 => ?_⟩
  exact step2 hs sr2 (fun b hb => g1 b (m2.tr.gone hb)) (h1.keep m2) (h2.start g1) q
theorem tE_un {r : V → Hp → VK → Prop} {g : D → Option O} (hs : Snd1 X.K r g) {fa : Den O} (h : tE X W (dU1 g fa) σ H Q) : tUn r (tE X W fa) σ H Q := by
  refine tE_then h fun pa I1 H1 fp1 sl1 o1 v1 sr1 g1 h1 h => ?_
  exact step1 hs sr1 g1 h1 h
theorem tE_call {r : List V → Hp → VK → Prop} {g : List D → Option O} (hs : SndC X.K r g) {fa : Den (List O)} (h : tE X W (dVC g fa) σ H Q) : tCB r (tA X W fa) σ H Q := by
  obtain ⟨pa, I, sl, fp, sr, h⟩ := h
  exact ⟨pa, I, sl, fp, sr, h.bind.mono fun o sl1 I1 H1 fp1 _ sr1 m1 q vs hv => stepC hs sr1 (fun b hb => m1.tr.gone hb) hv q⟩
end

/-! ### names, constants -/
def dVar (i : Nat) : Den O := fun sl => match sl[i]? with
  | some (.val d) => .ok (.d d) sl
  | some (.own _ _) => .ok (.sl i) sl
  | some (.scr ns) => .ok (.scr ns) sl
  | _ => .no
def dC (d : D) : Den O := Den.ret (.d d)
section
variable {X : Cx} {W : WX} {pos : Pos}
theorem ae_var (i : Nat) {x : Str} (hN : X.N[i]? = some x) (hv : Vis X.env.scope x) (hd : (x == ("__debug__" : Str)) = false := by decide) (hcd : (x == ("__classdict__" : Str)) = false := by decide) : AE X W (.Name x pos) (dVar i) := by
  refine ⟨(pe_var hN hv hd hcd).imp fun σ H Q h => ?_⟩
  obtain ⟨pa, I, sl, fp, sr, h⟩ := h
  unfold dVar at h
  cases e : sl[i]? with
  | none => rw [e] at h; exact h.elim
  | some s =>
    rw [e] at h
    have z := sr.slot i s e
    cases s with
    | em => exact h.elim
    | val d =>
      obtain ⟨_, v, e1, r⟩ := z
      exact ⟨v, join_some e1, h.ret sr v r⟩
    | own t m =>
      obtain ⟨a, e1, _⟩ := z
      exact ⟨_, join_some e1, h.ret sr _ (join_some e1)⟩
    | scr ns =>
      obtain ⟨_, a, e1, r⟩ := z
      exact ⟨_, join_some e1, h.ret sr _ ⟨a, rfl, r⟩⟩
theorem tC_of {d : D} {v : V} (hv : ∀ K I, Rl K I v d) : ∀ σ H Q, tE X W (dC d) σ H Q → tC v σ H Q := fun σ H Q ⟨pa, I, sl, fp, sr, h⟩ => h.ret sr v (hv _ _)
theorem ae_int {i j} : AE X W (.Constant (.int i) j pos) (dC (.int i)) := ⟨pe_int.imp (tC_of fun _ _ => .int i)⟩
theorem ae_bl {b j} : AE X W (.Constant (.bool b) j pos) (dC (.bool b)) := ⟨pe_bl.imp (tC_of fun _ _ => .bl b)⟩
theorem ae_non {j} : AE X W (.Constant .none j pos) (dC .none) := ⟨pe_non.imp (tC_of fun _ _ => .non)⟩
theorem ae_str {x j} : AE X W (.Constant (.str x) j pos) (dC (.str x)) := ⟨pe_str.imp (tC_of fun _ _ => .str x)⟩
/-- a module's constant -/
theorem ae_glob {x : Str} {v : V} {u : Value} {d : D} (hg : Gl X x) (hm : X.mg x = some u) (r : RelV v u) (hv : ∀ I, Rl X.K I v d) (hd : (x == ("__debug__" : Str)) = false := by decide) : AE X W (.Name x pos) (dC d) :=
  ⟨(pe_glob hg hm r hd).imp fun σ H Q ⟨pa, I, sl, fp, sr, h⟩ => h.ret sr v (hv _)⟩
end

/-! ### operators -/
section
variable {X : Cx} {W : WX} {a b c : Expr} {fa fb fc : Den O} {pos : Pos}
theorem ae_bin {op : Operator} {r : R2} {g : D → D → Option O} (ho : OpR X (binaryOp op) r) (hs : Snd2 X.K r g) (ha : AE X W a fa) (hb : AE X W b fb) : AE X W (.BinOp a op b pos) (dV2 g fa fb) :=
  ⟨(pe_op ho ha.pe hb.pe).imp fun _ _ _ h => tE_op2 hs h⟩
theorem ae_un {op : UnaryOp} {r : V → Hp → VK → Prop} {g : D → Option O} (ho : UnR X (unaryOp op) r) (hs : Snd1 X.K r g) (ha : AE X W a fa) : AE X W (.UnaryOp op a pos) (dU1 g fa) :=
  ⟨(pe_un ho ha.pe).imp fun _ _ _ h => tE_un hs h⟩
theorem ae_cmp {op : CmpOp} {r : R2} {g : D → D → Option O} (ho : OpR X (compareOp op) r) (hs : Snd2 X.K r g) (ha : AE X W a fa) (hb : AE X W b fb) (hm : behindInMarks op b = false) : AE X W (.Compare a [op] [b] pos) (dV2 g fa fb) :=
  ⟨(pe_cmpR ho ha.pe hb.pe hm).imp fun _ _ _ h => tE_op2 hs h⟩
theorem ae_ix {r : R2} {g : D → D → Option O} (ho : IxR X r) (hs : Snd2 X.K r g) (ha : AE X W a fa) (hb : AE X W b fb) (hp : PlainIx b) : AE X W (.Subscript a b pos) (dV2 g fa fb) :=
  ⟨(pe_ix ho ha.pe hb.pe hp).imp fun _ _ _ h => tE_op2 hs h⟩
/-- an expression as a truth -/
def isB : O → Option Bool
  | .d (.bool b) => some b
  | _ => none
def dB (f : Den O) : Den Bool := f.bind fun o => Den.opt (isB o)
theorem isB_some {o : O} {k : Bool} (h : isB o = some k) : o = .d (.bool k) := by
  unfold isB at h
  split at h
  · cases h; rfl
  · cases h
theorem tT_test {f : Den O} {σ : L2.St} {H : Hp} {Q : Bool → Hp → Prop} (h : tT X W (dB f) σ H Q) : tE X W f σ H fun x H' => ∃ k, x = .bl k ∧ Q k H' := by
  obtain ⟨pa, I, sl, fp, sr, h⟩ := h
  refine ⟨pa, I, sl, fp, sr, h.bind.mono fun o sl1 I1 H1 fp1 _ sr1 m1 q v hv => ?_⟩
  cases e : isB o with
  | none => rw [e] at q; exact q.elim
  | some k =>
    rw [e] at q
    have e' := isB_some e
    subst e'
    have hv : Rl X.K I1 v (.bool k) := hv
    cases hv
    exact ⟨k, rfl, Po.ret sr1 (show Po X W pa σ I1 H1 fp1 (.ok k sl1) _ from q)⟩
theorem at_cmp {op : CmpOp} {r : R2} {g : D → D → Option O} (ho : OpR X (compareOp op) r) (hs : Snd2 X.K r g) (ha : AE X W a fa) (hb : AE X W b fb) (hm : behindInMarks op b = false) : AT X W (.Compare a [op] [b] pos) (dB (dV2 g fa fb)) :=
  ⟨(pt_cmpR ho ha.pe hb.pe hm).imp fun _ _ _ h => tE_op2 hs (tT_test h)⟩
theorem at_val {e : Expr} {f : Den O} (h : AE X W e f) (he : ∀ whole, isTrue e X.env whole = (do let v ← whole; standAt e.pos; holding [v] (truthy v)) := by intro _; rfl) : AT X W e (dB f) :=
  ⟨(pt_val h.pe he).imp fun _ _ _ h => tT_test h⟩
/-! tests joined -/
def dAndT (f g : Den Bool) : Den Bool := f.bind fun c => if c = true then g else Den.ret false
def dOrT (f g : Den Bool) : Den Bool := f.bind fun c => if c = true then Den.ret true else g
def dNotT (f : Den Bool) : Den Bool := f.bind fun c => Den.ret !c
structure AW (X : Cx) (W : WX) (e : Expr) (f : Den Bool) : Prop where
  pw : PW X e (tT X W f)
variable {f g : Den Bool} {rest : List Expr}
theorem AW.at {e : Expr} (h : AW X W e f) : AT X W e f := ⟨h.pw.pt⟩
theorem aw_and1 (h : AT X W a f) : AW X W (.BoolOp .And [a] pos) f := ⟨pw_and1 h.pt⟩
theorem aw_or1 (h : AT X W a f) : AW X W (.BoolOp .Or [a] pos) f := ⟨pw_or1 h.pt⟩
theorem tT_then {σ : L2.St} {H : Hp} {f : Den Bool} {k : Bool → Den Bool} {Q R : Bool → Hp → Prop} (h : tT X W (f.bind k) σ H Q)
    (f' : ∀ pa I1 H1 fp1 sl1 c, SR X.K pa I1 H1 σ sl1 fp1 → (Po X W pa σ I1 H1 fp1 (k c sl1) fun b _ _ H' _ => Q b H') → R c H1) : tT X W f σ H R := by
  obtain ⟨pa, I, sl, fp, sr, h⟩ := h
  exact ⟨pa, I, sl, fp, sr, h.bind.mono fun o sl1 I1 H1 fp1 _ sr1 m1 q => f' pa I1 H1 fp1 sl1 o sr1 q⟩
theorem aw_and (ha : AT X W a f) (hb : AW X W (.BoolOp .And (b :: rest) pos) g) : AW X W (.BoolOp .And (a :: b :: rest) pos) (dAndT f g) := by
  refine ⟨(pw_and ha.pt hb.pw).imp fun σ H Q h => tT_then h fun pa I1 H1 fp1 sl1 c sr1 q => ?_⟩
  cases c with
  | true => exact iteT ⟨pa, I1, sl1, fp1, sr1, q⟩
  | false => exact iteF (Po.ret sr1 (show Po X W pa σ I1 H1 fp1 (.ok false sl1) _ from q))
theorem aw_or (ha : AT X W a f) (hb : AW X W (.BoolOp .Or (b :: rest) pos) g) : AW X W (.BoolOp .Or (a :: b :: rest) pos) (dOrT f g) := by
  refine ⟨(pw_or ha.pt hb.pw).imp fun σ H Q h => tT_then h fun pa I1 H1 fp1 sl1 c sr1 q => ?_⟩
  cases c with
  | false => exact iteF ⟨pa, I1, sl1, fp1, sr1, q⟩
  | true => exact iteT (Po.ret sr1 (show Po X W pa σ I1 H1 fp1 (.ok true sl1) _ from q))
theorem at_not (ha : AT X W a f) : AT X W (.UnaryOp .Not a pos) (dNotT f) := by
  refine ⟨(pt_not ha.pt).imp fun σ H Q h => tT_then h fun pa I1 H1 fp1 sl1 c sr1 q => ?_⟩
  exact Po.ret sr1 (show Po X W pa σ I1 H1 fp1 (.ok (!c) sl1) _ from q)
/-! .. as values -/
def dAndV (f g : Den O) : Den O := (dB f).bind fun c => if c = true then g else Den.ret (.d (.bool false))
def dOrV (f g : Den O) : Den O := (dB f).bind fun c => if c = true then Den.ret (.d (.bool true)) else g
def dNotV (f : Den O) : Den O := (dB f).bind fun c => Den.ret (.d (.bool !c))
def dIf (c : Den Bool) (f g : Den O) : Den O := c.bind fun k => if k = true then f else g
theorem tB_then {σ : L2.St} {H : Hp} {f : Den O} {k : Bool → Den O} {Q : VK} {R : VK} (h : tE X W ((dB f).bind k) σ H Q)
    (f' : ∀ pa I1 H1 fp1 sl1 c, SR X.K pa I1 H1 σ sl1 fp1 → (∀ b, H1 b = none → H b = none) → (Po X W pa σ I1 H1 fp1 (k c sl1) fun o _ I' H' fp' => ∀ v, OR X.K σ I' H' fp' H v o → Q v H') → R (.bl c) H1) : tE X W f σ H R := by
  obtain ⟨pa, I, sl, fp, sr, h⟩ := h
  refine ⟨pa, I, sl, fp, sr, h.bind.bind.mono fun o sl1 I1 H1 fp1 _ sr1 m1 q v hv => ?_⟩
  cases e : isB o with
  | none => rw [e] at q; exact q.elim
  | some c =>
    rw [e] at q
    have e' := isB_some e
    subst e'
    have hv : Rl X.K I1 v (.bool c) := hv
    cases hv
    exact f' pa I1 H1 fp1 sl1 c sr1 (fun b hb => m1.tr.gone hb) (Po.ret sr1 (show Po X W pa σ I1 H1 fp1 (.ok c sl1) _ from q))
theorem po_start {pa : PAs} {σ : L2.St} {I H : Hp} {fp : Fps} {r : Rz O} {H0 : Hp} {Q : VK} (g : ∀ b, H b = none → H0 b = none) (h : Po X W pa σ I H fp r fun o _ I' H' fp' => ∀ v, OR X.K σ I' H' fp' H0 v o → Q v H') :
    Po X W pa σ I H fp r fun o _ I' H' fp' => ∀ v, OR X.K σ I' H' fp' H v o → Q v H' := h.mono fun _ _ _ _ _ _ _ _ q v hv => q v (hv.start g)
theorem po_d {pa : PAs} {σ : L2.St} {I H : Hp} {fp : Fps} {sl : Sls} {H0 : Hp} {Q : VK} {x : D} {v : V} (sr : SR X.K pa I H σ sl fp) (hv : Rl X.K I v x)
    (h : Po X W pa σ I H fp (.ok (.d x) sl) fun o _ I' H' fp' => ∀ v, OR X.K σ I' H' fp' H0 v o → Q v H') : Q v H := Po.ret sr h v hv
theorem ae_one {op} {f : Den O} (h : AE X W a f) : AE X W (.BoolOp op [a] pos) f := ⟨pe_one h.pe⟩
theorem ae_and (ha : AE X W a fa) (hb : AE X W (.BoolOp .And (b :: rest) pos) fb) : AE X W (.BoolOp .And (a :: b :: rest) pos) (dAndV fa fb) := by
  refine ⟨(pe_and ha.pe hb.pe).imp fun σ H Q h => tB_then h fun pa I1 H1 fp1 sl1 c sr1 g q => ⟨c, rfl, ?_⟩⟩
  cases c with
  | true => exact iteT ⟨pa, I1, sl1, fp1, sr1, po_start g q⟩
  | false => exact iteF (po_d sr1 (.bl false) q)
theorem ae_or (ha : AE X W a fa) (hb : AE X W (.BoolOp .Or (b :: rest) pos) fb) : AE X W (.BoolOp .Or (a :: b :: rest) pos) (dOrV fa fb) := by
  refine ⟨(pe_or ha.pe hb.pe).imp fun σ H Q h => tB_then h fun pa I1 H1 fp1 sl1 c sr1 g q => ⟨c, rfl, ?_⟩⟩
  cases c with
  | false => exact iteF ⟨pa, I1, sl1, fp1, sr1, po_start g q⟩
  | true => exact iteT (po_d sr1 (.bl true) q)
theorem ae_not (ha : AE X W a fa) : AE X W (.UnaryOp .Not a pos) (dNotV fa) := by
  refine ⟨(pe_not ha.pe).imp fun σ H Q h => tB_then h fun pa I1 H1 fp1 sl1 c sr1 g q => ⟨c, rfl, ?_⟩⟩
  exact po_d sr1 (.bl (!c)) q
theorem ae_if (hc : AT X W c f) (ha : AE X W a fa) (hb : AE X W b fb) : AE X W (.IfExp c a b pos) (dIf f fa fb) := by
  refine ⟨(pe_ifExp hc.pt ha.pe hb.pe).imp fun σ H Q h => ?_⟩
  obtain ⟨pa, I, sl, fp, sr, h⟩ := h
  refine ⟨pa, I, sl, fp, sr, h.bind.mono fun k sl1 I1 H1 fp1 _ sr1 m1 q => ?_⟩
  cases k with
  | true => exact iteT ⟨pa, I1, sl1, fp1, sr1, po_start (fun b hb => m1.tr.gone hb) q⟩
  | false => exact iteF ⟨pa, I1, sl1, fp1, sr1, po_start (fun b hb => m1.tr.gone hb) q⟩
/-! argument lists -/
def dNil : Den (List O) := Den.ret []
def dCons (f : Den O) (g : Den (List O)) : Den (List O) := f.bind fun x => g.bind fun xs => Den.ret (x :: xs)
variable {es : List Expr} {fs : Den (List O)}
theorem aa_nil : AA X W [] dNil := ⟨pa_nil.imp fun σ H Q ⟨pa, I, sl, fp, sr, h⟩ => Po.ret sr h [] ORs.nil⟩
theorem aa_cons (ha : AE X W a fa) (hr : AA X W es fs) (hs : starEach (a :: es) X.env = (false, eval a X.env) :: starEach es X.env := by rfl) : AA X W (a :: es) (dCons fa fs) := by
  refine ⟨(pa_cons ha.pe hr.pa hs).imp fun σ H Q h => ?_⟩
  obtain ⟨pa, I, sl, fp, sr, h⟩ := h
  refine ⟨pa, I, sl, fp, sr, h.bind.mono fun o sl1 I1 H1 fp1 _ sr1 m1 q v hv => ?_⟩
  refine ⟨pa, I1, sl1, fp1, sr1, q.bind.mono fun os sl2 I2 H2 fp2 _ sr2 m2 q vs hvs => ?_⟩
  exact Po.ret sr2 (show Po X W pa σ I2 H2 fp2 (.ok (o :: os) sl2) _ from q) _ (ORs.cons hv m2 (fun b hb => m1.tr.gone hb) hvs)
/-! a built-in, called -/
theorem ae_callB {x : Str} {id : String} {p : Pos} {r : List V → Hp → VK → Prop} {g : List D → Option O} (hs : SndC X.K r g) (hc : CallR X (.builtin id) r) (hg : Gl X x) (hm : X.mg x = none) (hv : bootBuiltins x = some (.builtin id)) (ha : AA X W (a :: es) fs) (hn : x ≠ "__name__" := by decide) (hdb : (x == ("__debug__" : Str)) = false := by decide)
    (he : starEach (a :: es) X.env = (false, eval a X.env) :: starEach es X.env := by rfl) (hpl : (backTo pos (starEach es X.env)).any (·.1) = false := by rfl) : AE X W (.Call (.Name x p) (a :: es) [] pos) (dVC g fs) :=
  ⟨(pe_callB hc hg hm hv ha.pa hn hdb he hpl).imp fun _ _ _ h => tE_call hs h⟩
theorem ae_callTy {x : Str} {T : String} {p : Pos} {r : List V → Hp → VK → Prop} {g : List D → Option O} (hs : SndC X.K r g) (hc : CallR X (.type T) r) (hg : Gl X x) (hm : X.mg x = none) (hv : bootBuiltins x = some (.type T)) (ha : AA X W (a :: es) fs) (hn : x ≠ "__name__" := by decide) (hdb : (x == ("__debug__" : Str)) = false := by decide)
    (he : starEach (a :: es) X.env = (false, eval a X.env) :: starEach es X.env := by rfl) (hpl : (backTo pos (starEach es X.env)).any (·.1) = false := by rfl) : AE X W (.Call (.Name x p) (a :: es) [] pos) (dVC g fs) :=
  ⟨(pe_callTy hc hg hm hv ha.pa hn hdb he hpl).imp fun _ _ _ h => tE_call hs h⟩
end
end AL
end
section
set_option Elab.async false
set_option linter.all false
set_option maxRecDepth 100000
set_option maxHeartbeats 4000000
set_option autoImplicit false
/-! The A-layer, part c: operations on data, each with its soundness. -/
namespace AL
open PySem PySem.Spec PyProof.Rows L2

/-! ### plus, times, .. -/
def dAdd : D → D → Option O
  | .int i, .int j => some (.d (.int (i + j)))
  | .str x, .str y => if x.length + y.length ≤ sizeLine then some (.d (.str (x ++ y))) else none
  | .tuple xs, .tuple ys => if xs.length + ys.length ≤ sizeLine then some (.d (.tuple (xs ++ ys))) else none
  | .list xs, .list ys => if xs.length + ys.length ≤ sizeLine then some (.tmp (.lst (xs ++ ys))) else none
  | _, _ => none
def rAddA (K : PySem.W.Frag) : R2 := fun x y H Q => rI0 (fun i j => .int (i + j)) x y H Q ∨ (∃ i j, x = .str i ∧ y = .str j ∧ i.length + j.length ≤ sizeLine ∧ Q (.str (i ++ j)) H) ∨ rCatA K x y H Q ∨ rCat x y H Q
section
variable {X : Cx} {K : PySem.W.Frag}
theorem op_addA : OpR X (binaryOp .Add) (rAddA X.K) := op_add.or (op_add_str.or (op_catA.or op_cat))
theorem snd_add : Snd2 K (rAddA K) dAdd := by
  intro I H x y dx dy o Q s hx hy e k
  unfold dAdd at e
  split at e
  · cases e
    exact .inl ⟨_, _, hx.int, hy.int, k _ _ _ (.refl s) (.int _)⟩
  · split at e
    · rename_i h
      cases e
      exact .inr (.inl ⟨_, _, hx.str, hy.str, h, k _ _ _ (.refl s) (.str _)⟩)
    · cases e
  · split at e
    · rename_i xs ys h
      cases e
      obtain ⟨a, vs, rfl, ha, ra⟩ := hx.tup
      obtain ⟨b, ws, rfl, hb, rb⟩ := hy.tup
      refine .inr (.inr (.inl ⟨a, b, vs, ws, rfl, rfl, s.le.sqt ha, s.le.sqt hb, by rw [ra.length, rb.length]; exact h, fun z => ?_, fun z z2 => ?_, fun z z2 p hp => ?_⟩))
      · subst z
        cases ra
        exact k _ _ _ (.refl s) (Rl.tup hb rb)
      · subst z2
        cases rb
        rw [List.append_nil] at k
        exact k _ _ _ (.refl s) (Rl.tup ha ra)
      · exact k _ _ _ (Al.tup s hp) (NR.tup s hp (ra.append rb))
    · cases e
  · split at e
    · rename_i xs ys h
      cases e
      obtain ⟨a, vs, rfl, ha, ra⟩ := hx.list s
      obtain ⟨b, ws, rfl, hb, rb⟩ := hy.list s
      exact .inr (.inr (.inr ⟨a, b, vs, ws, rfl, rfl, ha, hb, by rw [ra.length, rb.length]; exact h, fun p hp => k _ _ _ (Al.lst s hp) (NR.lst s hp (ra.append rb))⟩))
    · cases e
  · cases e
def dSub : D → D → Option O
  | .int i, .int j => some (.d (.int (i - j)))
  | _, _ => none
theorem snd_sub : Snd2 K (rI0 fun i j => .int (i - j)) dSub := by
  intro I H x y dx dy o Q s hx hy e k
  unfold dSub at e
  split at e
  · cases e
    exact ⟨_, _, hx.int, hy.int, k _ _ _ (.refl s) (.int _)⟩
  · cases e
def mulOk (i j : Int) : Bool := decide ((-(2 ^ 64) < i ∧ i < 2 ^ 64) ∨ (-(2 ^ 64) < j ∧ j < 2 ^ 64)) || decide (i.natAbs.log2 + j.natAbs.log2 < 1000000)
def dMul : D → D → Option O
  | .int i, .int j => if mulOk i j = true then some (.d (.int (i * j))) else none
  | .list xs, .int k => if (-(2 ^ 63) ≤ k ∧ k < 2 ^ 63) ∧ xs.length * k.toNat ≤ sizeLine then some (.tmp (.lst (List.replicate k.toNat xs).flatten)) else none
  | _, _ => none
def rMulA : R2 := fun x y H Q => rI CMul (fun i j => .int (i * j)) x y H Q ∨ rI CMulW (fun i j => .int (i * j)) x y H Q ∨ rRep x y H Q
theorem op_mulA : OpR X (binaryOp .Mult) rMulA := op_mul.or (op_mulW.or op_rep)
theorem Rs.rep {I : Hp} {vs : List V} {ds : List D} (r : Rs K I vs ds) : ∀ n, Rs K I (List.replicate n vs).flatten (List.replicate n ds).flatten
  | 0 => .nil
  | n + 1 => by
    rw [List.replicate_succ, List.replicate_succ, List.flatten_cons, List.flatten_cons]
    exact r.append (Rs.rep r n)
theorem snd_mul : Snd2 K rMulA dMul := by
  intro I H x y dx dy o Q s hx hy e k
  unfold dMul at e
  split at e
  · rename_i i j
    split at e
    · rename_i h
      cases e
      unfold mulOk at h
      rcases Bool.or_eq_true_iff.mp h with h | h
      · exact .inl ⟨_, _, hx.int, hy.int, of_decide_eq_true (p := (-(2 ^ 64) < i ∧ i < 2 ^ 64) ∨ (-(2 ^ 64) < j ∧ j < 2 ^ 64)) h, k _ _ _ (.refl s) (.int _)⟩
      · exact .inr (.inl ⟨_, _, hx.int, hy.int, of_decide_eq_true (p := i.natAbs.log2 + j.natAbs.log2 < 1000000) h, k _ _ _ (.refl s) (.int _)⟩)
    · cases e
  · split at e
    · rename_i xs n h
      cases e
      obtain ⟨a, vs, rfl, ha, ra⟩ := hx.list s
      exact .inr (.inr ⟨a, _, vs, rfl, hy.int, ha, h.1.1, h.1.2, by rw [ra.length]; exact h.2, fun p hp => k _ _ _ (Al.lst s hp) (NR.lst s hp (ra.rep _))⟩)
    · cases e
  · cases e
def dMod : D → D → Option O
  | .int i, .int j => if 0 < j then some (.d (.int (i % j))) else none
  | _, _ => none
theorem snd_mod : Snd2 K (rI (fun _ j => 0 < j) fun i j => .int (i % j)) dMod := by
  intro I H x y dx dy o Q s hx hy e k
  unfold dMod at e
  split at e
  · split at e
    · rename_i h
      cases e
      exact ⟨_, _, hx.int, hy.int, h, k _ _ _ (.refl s) (.int _)⟩
    · cases e
  · cases e
def dFdiv : D → D → Option O
  | .int i, .int j => if 0 < j ∧ j.natAbs.log2 < 9000 then some (.d (.int (i / j))) else none
  | _, _ => none
theorem snd_fdiv : Snd2 K (rI CDivW fun i j => .int (i / j)) dFdiv := by
  intro I H x y dx dy o Q s hx hy e k
  unfold dFdiv at e
  split at e
  · split at e
    · rename_i h
      cases e
      exact ⟨_, _, hx.int, hy.int, h, k _ _ _ (.refl s) (.int _)⟩
    · cases e
  · cases e
def dPow : D → D → Option O
  | .int i, .int j => if 0 ≤ j ∧ j ≤ 1000000 ∧ i.natAbs < 2 ^ 64 then some (.d (.int (i ^ j.toNat))) else none
  | _, _ => none
theorem snd_pow : Snd2 K (rI CPow fun i j => .int (i ^ j.toNat)) dPow := by
  intro I H x y dx dy o Q s hx hy e k
  unfold dPow at e
  split at e
  · split at e
    · rename_i h
      cases e
      exact ⟨_, _, hx.int, hy.int, h, k _ _ _ (.refl s) (.int _)⟩
    · cases e
  · cases e
def dNeg : D → Option O
  | .int i => some (.d (.int (-i)))
  | _ => none
theorem snd_neg : Snd1 K (rU fun i => .int (-i)) dNeg := by
  intro I H x dx o Q s hx e k
  unfold dNeg at e
  split at e
  · cases e
    exact ⟨_, hx.int, k _ _ _ (.refl s) (.int _)⟩
  · cases e

/-! ### comparisons -/
def dEq (d e : D) : Option O := if SeqAt.shaped d = true ∧ SeqAt.shaped e = true then some (.d (.bool (PyData.eqv d e))) else none
def dNe (d e : D) : Option O := if SeqAt.shaped d = true ∧ SeqAt.shaped e = true then some (.d (.bool (!PyData.eqv d e))) else none
theorem Vw.dp {I H : Hp} {v : V} {d : D} (s : Sub I H) (h : Vw K I H v d) (z : SeqAt.shaped d = true) : Dp K H v d := Rl.dp d v (SeqAt.canLay_of_shaped z) (h.rl s)
theorem snd_eq : Snd2 K (rEqD K) dEq := by
  intro I H x y dx dy o Q s hx hy e k
  unfold dEq at e
  split at e
  · rename_i h
    cases e
    exact ⟨dx, dy, hx.dp s h.1, hy.dp s h.2, h.1, h.2, k _ _ _ (.refl s) (.bl _)⟩
  · cases e
theorem snd_ne : Snd2 K (rNeD K) dNe := by
  intro I H x y dx dy o Q s hx hy e k
  unfold dNe at e
  split at e
  · rename_i h
    cases e
    exact ⟨dx, dy, hx.dp s h.1, hy.dp s h.2, h.1, h.2, k _ _ _ (.refl s) (.bl _)⟩
  · cases e
def dLt : D → D → Option O
  | .int i, .int j => some (.d (.bool (decide (i < j))))
  | _, _ => none
def dLe : D → D → Option O
  | .int i, .int j => some (.d (.bool (decide (i ≤ j))))
  | _, _ => none
def dGt : D → D → Option O
  | .int i, .int j => some (.d (.bool (decide (j < i))))
  | _, _ => none
def dGe : D → D → Option O
  | .int i, .int j => some (.d (.bool (decide (j ≤ i))))
  | _, _ => none
theorem snd_lt : Snd2 K (rI0 fun i j => .bl (decide (i < j))) dLt := by
  intro I H x y dx dy o Q s hx hy e k
  unfold dLt at e
  split at e
  · cases e; exact ⟨_, _, hx.int, hy.int, k _ _ _ (.refl s) (.bl _)⟩
  · cases e
theorem snd_le : Snd2 K (rI0 fun i j => .bl (decide (i ≤ j))) dLe := by
  intro I H x y dx dy o Q s hx hy e k
  unfold dLe at e
  split at e
  · cases e; exact ⟨_, _, hx.int, hy.int, k _ _ _ (.refl s) (.bl _)⟩
  · cases e
theorem snd_gt : Snd2 K (rI0 fun i j => .bl (decide (j < i))) dGt := by
  intro I H x y dx dy o Q s hx hy e k
  unfold dGt at e
  split at e
  · cases e; exact ⟨_, _, hx.int, hy.int, k _ _ _ (.refl s) (.bl _)⟩
  · cases e
theorem snd_ge : Snd2 K (rI0 fun i j => .bl (decide (j ≤ i))) dGe := by
  intro I H x y dx dy o Q s hx hy e k
  unfold dGe at e
  split at e
  · cases e; exact ⟨_, _, hx.int, hy.int, k _ _ _ (.refl s) (.bl _)⟩
  · cases e
/-- is None: the right side a None -/
def dIsN : D → D → Option O
  | .none, .none => some (.d (.bool true))
  | _, .none => some (.d (.bool false))
  | _, _ => none
def dNotN : D → D → Option O
  | .none, .none => some (.d (.bool false))
  | _, .none => some (.d (.bool true))
  | _, _ => none
theorem Vw.not_non {I H : Hp} {v : V} {d : D} (h : Vw K I H v d) (n : d ≠ .none) : v ≠ .non := by
  rintro rfl
  cases h with
  | im r => cases r; exact n rfl
theorem snd_isN : Snd2 K (fun x y H Q => y = .non ∧ Q (.bl (decide (x = .non))) H) dIsN := by
  intro I H x y dx dy o Q s hx hy e k
  unfold dIsN at e
  split at e
  · cases e
    rw [hx.none]
    exact ⟨hy.none, k _ _ _ (.refl s) (.bl _)⟩
  · rename_i n
    cases e
    rw [decide_eq_false (hx.not_non n)]
    exact ⟨hy.none, k _ _ _ (.refl s) (.bl _)⟩
  · cases e
theorem snd_notN : Snd2 K (fun x y H Q => y = .non ∧ Q (.bl (!decide (x = .non))) H) dNotN := by
  intro I H x y dx dy o Q s hx hy e k
  unfold dNotN at e
  split at e
  · cases e
    rw [hx.none]
    exact ⟨hy.none, k _ _ _ (.refl s) (.bl _)⟩
  · rename_i n
    cases e
    rw [decide_eq_false (hx.not_non n)]
    exact ⟨hy.none, k _ _ _ (.refl s) (.bl _)⟩
  · cases e

/-! ### dicts by their pairs -/
def keyOf : D → Option Key
  | .int i => some (.inl i)
  | .str x => some (.inr x)
  | _ => none
theorem keyOf_kD (k : Key) : keyOf (kD k) = some k := by cases k <;> rfl
def dLook (ds : List (D × D)) (k : Key) : Option D := (ds.find? fun p => decide (keyOf p.1 = some k)).map (·.2)
theorem Rk.look {I : Hp} : ∀ {vs : List (Key × V)} {ds : List (D × D)}, Rk K I vs ds → ∀ k : Key, (∃ v d, valV vs k = some v ∧ dLook ds k = some d ∧ Rl K I v d) ∨ (valV vs k = none ∧ dLook ds k = none)
  | _, _, .nil, k => .inr ⟨rfl, rfl⟩
  | _, _, @Rk.cons _ _ k' v vs d ds r t, k => by
    by_cases e : k' = k
    · subst e
      refine .inl ⟨v, d, valV_pos (p := (k', v)) rfl, ?_, r⟩
      unfold dLook
      rw [List.find?_cons_of_pos (by simp [keyOf_kD])]
      rfl
    · have e1 : valV ((k', v) :: vs) k = valV vs k := valV_neg (p := (k', v)) e
      have e2 : dLook ((kD k', d) :: ds) k = dLook ds k := by
        unfold dLook
        rw [List.find?_cons_of_neg (by simpa [keyOf_kD] using e)]
      rw [e1, e2]
      exact Rk.look t k
theorem Vw.key {I H : Hp} {v : V} {d : D} {k : Key} (h : Vw K I H v d) (e : keyOf d = some k) : v = kV k := by
  unfold keyOf at e
  split at e
  · cases e; exact h.int
  · cases e; exact h.str
  · cases e
theorem Vw.dget {I H : Hp} {x y : V} {ds : List (D × D)} {d : D} {k : Key} (s : Sub I H) (hx : Vw K I H x (.dict ds)) (hy : Vw K I H y d) (e : keyOf d = some k) :
    ∃ a o, x = .ref a ∧ DGet H a y o ∧ ((∃ v d, o = some v ∧ dLook ds k = some d ∧ Rl K I v d) ∨ (o = Option.none ∧ dLook ds k = Option.none)) := by
  obtain ⟨a, vs, rfl, ha, r⟩ := hx.dict s
  refine ⟨a, valV vs k, rfl, .inl ⟨vs, k, ha, hy.key e, rfl⟩, ?_⟩
  rcases r.look k with ⟨v, d, h1, h2, h3⟩ | ⟨h1, h2⟩
  · exact .inl ⟨v, d, h1, h2, h3⟩
  · exact .inr ⟨h1, h2⟩

/-! ### in, not in -/
def rInT (K : PySem.W.Frag) (neg : Bool) : R2 := fun x y H Q => ∃ d ds, Dp K H x d ∧ Dp K H y (.tuple ds) ∧ SeqAt.shaped d = true ∧ SeqAt.shaped (.tuple ds) = true ∧ Q (.bl (if neg = true then !ds.any fun z => PyData.eqv z d else ds.any fun z => PyData.eqv z d)) H
theorem room_in_shapedT {A : Around} {d : PyData} {ds : List PyData} (h : SeqAt.shaped d = true) (hu : A.units + 65 < cLine) : A.units + 1 + min (PyData.depthAll ds) d.depth < cLine := by
  have h1 := SeqAt.depth_of_shaped h
  have h2 : min (PyData.depthAll ds) d.depth ≤ d.depth := Nat.min_le_right _ _
  omega
theorem op_inT (hu : X.A.units + 65 < cLine) : OpR X (compareOp .In) (rInT X.K false) := by
  intro pins s σ H x y v u Q I rx ry h
  obtain ⟨d, ds, hd, he, sd, se, q⟩ := h
  obtain ⟨as, r1⟩ := Dp.reads I d x v hd rx
  obtain ⟨bs, r2⟩ := Dp.reads I (.tuple ds) y u he ry
  exact SeqAt.in_tuple_reads r2 r1 (SeqAt.canLay_of_shaped se) (SeqAt.canLay_of_shaped sd) (room_in_shapedT sd hu) ⟨.bl _, H, I, rfl, q⟩
theorem op_notInT (hu : X.A.units + 65 < cLine) : OpR X (compareOp .NotIn) (rInT X.K true) := by
  intro pins s σ H x y v u Q I rx ry h
  obtain ⟨d, ds, hd, he, sd, se, q⟩ := h
  obtain ⟨as, r1⟩ := Dp.reads I d x v hd rx
  obtain ⟨bs, r2⟩ := Dp.reads I (.tuple ds) y u he ry
  exact SeqAt.notIn_tuple_reads r2 r1 (SeqAt.canLay_of_shaped se) (SeqAt.canLay_of_shaped sd) (room_in_shapedT sd hu) ⟨.bl _, H, I, rfl, q⟩
def rInDic (neg : Bool) : R2 := fun y x H Q => ∃ a o, x = .ref a ∧ DGet H a y o ∧ Q (.bl (if neg = true then !o.isSome else o.isSome)) H
theorem op_inDic (hu : X.A.units + 1 < cLine) : OpR X (compareOp .In) (rInDic false) := by
  intro pins s σ H y x v u Q I ry rx h
  obtain ⟨a, o, rfl, g, q⟩ := h
  obtain rfl : u = Value.ref a := rx
  exact d_in hu I g ry fun s3 I3 => ⟨.bl o.isSome, H, I3, rfl, q⟩
theorem op_notInDic (hu : X.A.units + 1 < cLine) : OpR X (compareOp .NotIn) (rInDic true) := by
  intro pins s σ H y x v u Q I ry rx h
  obtain ⟨a, o, rfl, g, q⟩ := h
  obtain rfl : u = Value.ref a := rx
  exact d_notIn hu I g ry fun s3 I3 => ⟨.bl (!o.isSome), H, I3, rfl, q⟩
def dInB : D → D → Option Bool
  | .str i, .str j => some (!(Builtin.Str.occurrences j i 0 j.length 1).isEmpty)
  | d, .list ds => if SeqAt.shaped d = true ∧ SeqAt.shaped (.list ds) = true then some (ds.any fun z => PyData.eqv z d) else none
  | d, .tuple ds => if SeqAt.shaped d = true ∧ SeqAt.shaped (.tuple ds) = true then some (ds.any fun z => PyData.eqv z d) else none
  | d, .dict ds => (keyOf d).map fun k => (dLook ds k).isSome
  | _, _ => none
def dIn (d e : D) : Option O := (dInB d e).map fun b => .d (.bool b)
def dNotIn (d e : D) : Option O := (dInB d e).map fun b => .d (.bool !b)
def rInA (K : PySem.W.Frag) : R2 := fun x y H Q => (∃ i j, x = .str i ∧ y = .str j ∧ Q (.bl (!(Builtin.Str.occurrences j i 0 j.length 1).isEmpty)) H) ∨ rInD K x y H Q ∨ rInT K false x y H Q ∨ rInDic false x y H Q
def rNotInA (K : PySem.W.Frag) : R2 := fun x y H Q => (∃ i j, x = .str i ∧ y = .str j ∧ Q (.bl (!(!(Builtin.Str.occurrences j i 0 j.length 1).isEmpty))) H) ∨ rNotInD K x y H Q ∨ rInT K true x y H Q ∨ rInDic true x y H Q
theorem op_inA (hu : X.A.units + 65 < cLine) : OpR X (compareOp .In) (rInA X.K) := op_in_str.or ((op_inD hu).or ((op_inT hu).or (op_inDic (by omega))))
theorem op_notInA (hu : X.A.units + 65 < cLine) : OpR X (compareOp .NotIn) (rNotInA X.K) := op_notin_str.or ((op_notInD hu).or ((op_notInT hu).or (op_notInDic (by omega))))
theorem snd_inB {I H : Hp} {x y : V} {dx dy : D} {b : Bool} {Q : VK} (s : Sub I H) (hx : Vw K I H x dx) (hy : Vw K I H y dy) (e : dInB dx dy = some b) :
    (Q (.bl b) H → rInA K x y H Q) ∧ (Q (.bl !b) H → rNotInA K x y H Q) := by
  unfold dInB at e
  split at e
  · cases e
    exact ⟨fun q => .inl ⟨_, _, hx.str, hy.str, q⟩, fun q => .inl ⟨_, _, hx.str, hy.str, q⟩⟩
  · split at e
    · rename_i h
      cases e
      exact ⟨fun q => .inr (.inl ⟨_, _, hx.dp s h.1, hy.dp s h.2, h.1, h.2, q⟩), fun q => .inr (.inl ⟨_, _, hx.dp s h.1, hy.dp s h.2, h.1, h.2, q⟩)⟩
    · cases e
  · split at e
    · rename_i h
      cases e
      exact ⟨fun q => .inr (.inr (.inl ⟨_, _, hx.dp s h.1, hy.dp s h.2, h.1, h.2, by rw [if_neg (by decide)]; exact q⟩)), fun q => .inr (.inr (.inl ⟨_, _, hx.dp s h.1, hy.dp s h.2, h.1, h.2, by rw [if_pos rfl]; exact q⟩))⟩
    · cases e
  · rename_i ds
    cases ek : keyOf dx with
    | none => rw [ek] at e; cases e
    | some key =>
      rw [ek] at e
      have e : some (dLook ds key).isSome = some b := e
      cases e
      obtain ⟨a, o, rfl, g, z⟩ := hy.dget s hx ek
      have eo : o.isSome = (dLook ds key).isSome := by
        rcases z with ⟨v, d, h1, h2, _⟩ | ⟨h1, h2⟩
        · rw [h1, h2]; rfl
        · rw [h1, h2]; rfl
      exact ⟨fun q => .inr (.inr (.inr ⟨a, o, rfl, g, by rw [if_neg (by decide), eo]; exact q⟩)), fun q => .inr (.inr (.inr ⟨a, o, rfl, g, by rw [if_pos rfl, eo]; exact q⟩))⟩
  · cases e
theorem snd_in : Snd2 K (rInA K) dIn := by
  intro I H x y dx dy o Q s hx hy e k
  unfold dIn at e
  cases eb : dInB dx dy with
  | none => rw [eb] at e; cases e
  | some b =>
    rw [eb] at e
    cases e
    exact (snd_inB s hx hy eb).1 (k _ _ _ (.refl s) (.bl _))
theorem snd_notIn : Snd2 K (rNotInA K) dNotIn := by
  intro I H x y dx dy o Q s hx hy e k
  unfold dNotIn at e
  cases eb : dInB dx dy with
  | none => rw [eb] at e; cases e
  | some b =>
    rw [eb] at e
    cases e
    exact (snd_inB s hx hy eb).2 (k _ _ _ (.refl s) (.bl _))

/-! ### subscripts -/
def dIx : D → D → Option O
  | .list xs, .int i => (atI xs i).map .d
  | .tuple xs, .int i => (atI xs i).map .d
  | .str z, .int i => if z.length ≤ sizeLine then (atI z.cps.toList i).map fun c => .d (.str ⟨#[c]⟩) else none
  | .dict ds, d => (keyOf d).bind fun k => (dLook ds k).map .d
  | _, _ => none
def rIxDic : R2 := fun x y H Q => ∃ a v, x = .ref a ∧ DGet H a y (some v) ∧ Q v H
theorem ix_dic (hu : X.A.units + 1 < cLine) : IxR X rIxDic := by
  intro value slice pins s σ H x y v u Q I rx ry h hs
  obtain ⟨a, w, rfl, g, q⟩ := h
  obtain rfl : v = Value.ref a := rx
  exact tail_any (dict_typeIs I g) PySem.F.slot_dict_getitem.lookup (d_getItem hu I g ry fun w' s3 I3 rw' => ⟨w, H, I3, rw', q⟩) hs
def rIxA (K : PySem.W.Frag) : R2 := fun x y H Q => rIxL K x y H Q ∨ rIxT K x y H Q ∨ rIxS x y H Q ∨ rIxDic x y H Q
theorem ix_any (hu : X.A.units + 1 < cLine) : IxR X (rIxA X.K) := ix_list.or (ix_tup.or (ix_str.or (ix_dic hu)))
theorem Rs.atI {I : Hp} {vs : List V} {ds : List D} {i : Int} {d : D} (r : Rs K I vs ds) (e : atI ds i = some d) : ∃ v, L2.atI vs i = some v ∧ Rl K I v d := by
  unfold L2.atI at e ⊢
  rw [r.length]
  cases h : ixN ds.length i with
  | none => rw [h] at e; cases e
  | some j =>
    rw [h] at e
    exact r.get (show ds[j]? = some d from e)
theorem snd_ix : Snd2 K (rIxA K) dIx := by
  intro I H x y dx dy o Q s hx hy e k
  unfold dIx at e
  split at e
  · rename_i xs i
    cases ea : atI xs i with
    | none => rw [ea] at e; cases e
    | some d =>
      rw [ea] at e
      cases e
      obtain ⟨a, vs, rfl, ha, r⟩ := hx.list s
      obtain ⟨v, h1, h2⟩ := r.atI ea
      exact .inl ⟨a, vs, i, v, rfl, hy.int, .of ha, h1, k _ _ _ (.refl s) h2⟩
  · rename_i xs i
    cases ea : atI xs i with
    | none => rw [ea] at e; cases e
    | some d =>
      rw [ea] at e
      cases e
      obtain ⟨a, vs, rfl, ha, r⟩ := hx.tup
      obtain ⟨v, h1, h2⟩ := r.atI ea
      exact .inr (.inl ⟨a, vs, i, v, rfl, hy.int, s.le.sqt ha, h1, k _ _ _ (.refl s) h2⟩)
  · rename_i z i
    split at e
    · rename_i hz
      cases ea : atI z.cps.toList i with
      | none => rw [ea] at e; cases e
      | some c =>
        rw [ea] at e
        cases e
        exact .inr (.inr (.inl ⟨z, i, c, hx.str, hy.int, hz, ea, k _ _ _ (.refl s) (.str _)⟩))
    · cases e
  · rename_i ds
    cases ek : keyOf dy with
    | none => rw [ek] at e; cases e
    | some key =>
      rw [ek] at e
      have e : (dLook ds key).map O.d = some o := e
      obtain ⟨a, ov, rfl, g, z⟩ := hx.dget s hy ek
      rcases z with ⟨v, d, h1, h2, h3⟩ | ⟨h1, h2⟩
      · subst h1
        rw [h2] at e
        cases e
        exact .inr (.inr (.inr ⟨a, v, rfl, g, k _ _ _ (.refl s) h3⟩))
      · rw [h2] at e; cases e
  · cases e

/-! ### built-ins -/
def dLen : List D → Option O
  | [.list xs] => some (.d (.int xs.length))
  | [.tuple xs] => some (.d (.int xs.length))
  | [.dict xs] => some (.d (.int xs.length))
  | [.str z] => if z.length ≤ sizeLine then some (.d (.int z.length)) else none
  | _ => none
theorem CallR.or {f : Value} {r r' : List V → Hp → VK → Prop} (h : CallR X f r) (h' : CallR X f r') : CallR X f (fun xs H Q => r xs H Q ∨ r' xs H Q) := by
  intro pins s σ H xs us Q I rx q
  rcases q with q | q
  · exact h pins s σ H xs us Q I rx q
  · exact h' pins s σ H xs us Q I rx q
def rLenA (K : PySem.W.Frag) : List V → Hp → VK → Prop := fun xs H Q => (∃ p ys, xs = [.ref p] ∧ (SqL K H p ys ∨ SqT K H p ys) ∧ Q (.int ys.length) H) ∨ (∃ z, xs = [.str z] ∧ z.length ≤ sizeLine ∧ Q (.int z.length) H) ∨
  ∃ a kvs, xs = [.ref a] ∧ Rd H a (.dK kvs) ∧ Q (.int kvs.length) H
theorem call_lenDic : CallR X (.builtin "len") (fun xs H Q => ∃ a kvs, xs = [.ref a] ∧ Rd H a (.dK kvs) ∧ Q (.int kvs.length) H) := by
  intro pins s σ H xs us Q I r h
  obtain ⟨a, kvs, rfl, e, q⟩ := h
  obtain ⟨u, rfl, rx⟩ := vals1 r
  cases rx
  exact d_len I e fun t s' I' => ⟨.int kvs.length, H, I', ⟨t, rfl⟩, q⟩
theorem call_lenA : CallR X (.builtin "len") (rLenA X.K) := CallR.or call_len_seq (CallR.or call_len_str call_lenDic)
theorem Vws.one {I H : Hp} {xs : List V} {d : D} (h : Vws K I H xs [d]) : ∃ x, xs = [x] ∧ Vw K I H x d := by
  cases h with
  | cons a b => cases b; exact ⟨_, rfl, a⟩
theorem Vws.two {I H : Hp} {xs : List V} {d e : D} (h : Vws K I H xs [d, e]) : ∃ x y, xs = [x, y] ∧ Vw K I H x d ∧ Vw K I H y e := by
  cases h with
  | cons a b =>
    obtain ⟨y, rfl, hy⟩ := Vws.one b
    exact ⟨_, y, rfl, a, hy⟩
theorem Rk.length {I : Hp} : ∀ {vs : List (Key × V)} {ds : List (D × D)}, Rk K I vs ds → vs.length = ds.length
  | _, _, .nil => rfl
  | _, _, .cons _ t => by rw [List.length_cons, List.length_cons, Rk.length t]
theorem snd_len : SndC K (rLenA K) dLen := by
  intro I H xs ds o Q s hxs e k
  unfold dLen at e
  split at e
  · cases e
    obtain ⟨x, rfl, hx⟩ := hxs.one
    obtain ⟨a, vs, rfl, ha, r⟩ := hx.list s
    exact .inl ⟨a, vs, rfl, .inl (.of ha), by rw [r.length]; exact k _ _ _ (.refl s) (.int _)⟩
  · cases e
    obtain ⟨x, rfl, hx⟩ := hxs.one
    obtain ⟨a, vs, rfl, ha, r⟩ := hx.tup
    exact .inl ⟨a, vs, rfl, .inr (s.le.sqt ha), by rw [r.length]; exact k _ _ _ (.refl s) (.int _)⟩
  · cases e
    obtain ⟨x, rfl, hx⟩ := hxs.one
    obtain ⟨a, vs, rfl, ha, r⟩ := hx.dict s
    exact .inr (.inr ⟨a, vs, rfl, ha, by rw [r.length]; exact k _ _ _ (.refl s) (.int _)⟩)
  · split at e
    · rename_i h
      cases e
      obtain ⟨x, rfl, hx⟩ := hxs.one
      exact .inr (.inl ⟨_, by rw [hx.str], h, k _ _ _ (.refl s) (.int _)⟩)
    · cases e
  · cases e
def dAbs : List D → Option O
  | [.int i] => some (.d (.int (if i < 0 then -i else i)))
  | _ => none
theorem snd_abs : SndC K (fun xs H Q => ∃ i, xs = [.int i] ∧ Q (.int (if i < 0 then -i else i)) H) dAbs := by
  intro I H xs ds o Q s hxs e k
  unfold dAbs at e
  split at e
  · cases e
    obtain ⟨x, rfl, hx⟩ := hxs.one
    exact ⟨_, by rw [hx.int], k _ _ _ (.refl s) (.int _)⟩
  · cases e
def dMax2 : List D → Option O
  | [.int i, .int j] => some (.d (.int (if j > i then j else i)))
  | _ => none
def dMin2 : List D → Option O
  | [.int i, .int j] => some (.d (.int (if j < i then j else i)))
  | _ => none
theorem snd_max2 : SndC K (fun xs H Q => ∃ i j, xs = [.int i, .int j] ∧ Q (.int (if j > i then j else i)) H) dMax2 := by
  intro I H xs ds o Q s hxs e k
  unfold dMax2 at e
  split at e
  · cases e
    obtain ⟨x, y, rfl, hx, hy⟩ := hxs.two
    exact ⟨_, _, by rw [hx.int, hy.int], k _ _ _ (.refl s) (.int _)⟩
  · cases e
theorem snd_min2 : SndC K (fun xs H Q => ∃ i j, xs = [.int i, .int j] ∧ Q (.int (if j < i then j else i)) H) dMin2 := by
  intro I H xs ds o Q s hxs e k
  unfold dMin2 at e
  split at e
  · cases e
    obtain ⟨x, y, rfl, hx, hy⟩ := hxs.two
    exact ⟨_, _, by rw [hx.int, hy.int], k _ _ _ (.refl s) (.int _)⟩
  · cases e
/-- int(n), int(flag) -/
def dInt1 : List D → Option O
  | [.int i] => some (.d (.int i))
  | [.bool k] => some (.d (.int (if k then 1 else 0)))
  | _ => none
theorem snd_int1 : SndC K (fun xs H Q => (∃ i, xs = [.int i] ∧ Q (.int i) H) ∨ ∃ k, xs = [.bl k] ∧ Q (.int (if k then 1 else 0)) H) dInt1 := by
  intro I H xs ds o Q s hxs e k
  unfold dInt1 at e
  split at e
  · cases e
    obtain ⟨x, rfl, hx⟩ := hxs.one
    exact .inl ⟨_, by rw [hx.int], k _ _ _ (.refl s) (.int _)⟩
  · cases e
    obtain ⟨x, rfl, hx⟩ := hxs.one
    exact .inr ⟨_, by rw [hx.bool], k _ _ _ (.refl s) (.int _)⟩
  · cases e
def dTuple : List D → Option O
  | [.list xs] => some (.d (.tuple xs))
  | [.tuple xs] => some (.d (.tuple xs))
  | _ => none
theorem snd_tuple : SndC K (fun xs H Q => ∃ p ys, xs = [.ref p] ∧ ((SqL K H p ys ∧ ∀ l, H l = none → Q (.ref l) (upd H l (.tup ys))) ∨ (SqT K H p ys ∧ Q (.ref p) H))) dTuple := by
  intro I H xs ds o Q s hxs e k
  unfold dTuple at e
  split at e
  · cases e
    obtain ⟨x, rfl, hx⟩ := hxs.one
    obtain ⟨a, vs, rfl, ha, r⟩ := hx.list s
    exact ⟨a, vs, rfl, .inl ⟨.of ha, fun p hp => k _ _ _ (Al.tup s hp) (NR.tup s hp r)⟩⟩
  · cases e
    obtain ⟨x, rfl, hx⟩ := hxs.one
    obtain ⟨a, vs, rfl, ha, r⟩ := hx.tup
    exact ⟨a, vs, rfl, .inr ⟨s.le.sqt ha, k _ _ _ (.refl s) (Rl.tup ha r)⟩⟩
  · cases e
def dList : List D → Option O
  | [.list xs] => some (.tmp (.lst xs))
  | [.tuple xs] => some (.tmp (.lst xs))
  | _ => none
theorem snd_list : SndC K (fun xs H Q => ∃ p ys, xs = [.ref p] ∧ (SqL K H p ys ∨ SqT K H p ys) ∧ ∀ l, H l = none → Q (.ref l) (upd H l (.lst ys))) dList := by
  intro I H xs ds o Q s hxs e k
  unfold dList at e
  split at e
  · cases e
    obtain ⟨x, rfl, hx⟩ := hxs.one
    obtain ⟨a, vs, rfl, ha, r⟩ := hx.list s
    exact ⟨a, vs, rfl, .inl (.of ha), fun p hp => k _ _ _ (Al.lst s hp) (NR.lst s hp r)⟩
  · cases e
    obtain ⟨x, rfl, hx⟩ := hxs.one
    obtain ⟨a, vs, rfl, ha, r⟩ := hx.tup
    exact ⟨a, vs, rfl, .inr (s.le.sqt ha), fun p hp => k _ _ _ (Al.lst s hp) (NR.lst s hp r)⟩
  · cases e
def dBools : List D → Option (List Bool)
  | [] => some []
  | .bool b :: r => (dBools r).map (b :: ·)
  | _ => none
theorem Rs.bools {I : Hp} : ∀ {vs : List V} {ds : List D} {bs : List Bool}, Rs K I vs ds → dBools ds = some bs → vs = bs.map V.bl
  | _, _, _, .nil, e => by cases e; rfl
  | _, _, bs, @Rs.cons _ _ v vs d ds r t, e => by
    cases d with
    | bool b =>
      have e : (dBools ds).map (b :: ·) = some bs := e
      cases h2 : dBools ds with
      | none => rw [h2] at e; cases e
      | some bs' =>
        rw [h2] at e
        cases e
        cases r
        rw [Rs.bools t h2]
        rfl
    | _ => exact absurd e (by simp [dBools])
def dAll : List D → Option O
  | [.list xs] => (dBools xs).map fun bs => .d (.bool (bs.all id))
  | _ => none
def dAny : List D → Option O
  | [.list xs] => (dBools xs).map fun bs => .d (.bool (bs.any id))
  | _ => none
theorem snd_all : SndC K (rAll K) dAll := by
  intro I H xs ds o Q s hxs e k
  unfold dAll at e
  split at e
  · rename_i ys
    cases eb : dBools ys with
    | none => rw [eb] at e; cases e
    | some bs =>
      rw [eb] at e
      cases e
      obtain ⟨x, rfl, hx⟩ := hxs.one
      obtain ⟨a, vs, rfl, ha, r⟩ := hx.list s
      have q := r.bools eb
      subst q
      exact ⟨a, bs, rfl, .of ha, k _ _ _ (.refl s) (.bl _)⟩
  · cases e
theorem snd_any : SndC K (rAny K) dAny := by
  intro I H xs ds o Q s hxs e k
  unfold dAny at e
  split at e
  · rename_i ys
    cases eb : dBools ys with
    | none => rw [eb] at e; cases e
    | some bs =>
      rw [eb] at e
      cases e
      obtain ⟨x, rfl, hx⟩ := hxs.one
      obtain ⟨a, vs, rfl, ha, r⟩ := hx.list s
      have q := r.bools eb
      subst q
      exact ⟨a, bs, rfl, .of ha, k _ _ _ (.refl s) (.bl _)⟩
  · cases e
def dInts : List D → Option (List Int)
  | [] => some []
  | .int b :: r => (dInts r).map (b :: ·)
  | _ => none
theorem Rs.ints {I : Hp} : ∀ {vs : List V} {ds : List D} {bs : List Int}, Rs K I vs ds → dInts ds = some bs → vs = bs.map V.int
  | _, _, _, .nil, e => by cases e; rfl
  | _, _, bs, @Rs.cons _ _ v vs d ds r t, e => by
    cases d with
    | int b =>
      have e : (dInts ds).map (b :: ·) = some bs := e
      cases h2 : dInts ds with
      | none => rw [h2] at e; cases e
      | some bs' =>
        rw [h2] at e
        cases e
        cases r
        rw [Rs.ints t h2]
        rfl
    | _ => exact absurd e (by simp [dInts])
def dSum : List D → Option O
  | [.list xs] => (dInts xs).map fun bs => .d (.int bs.sum)
  | _ => none
theorem snd_sum : SndC K (rSum K) dSum := by
  intro I H xs ds o Q s hxs e k
  unfold dSum at e
  split at e
  · rename_i ys
    cases eb : dInts ys with
    | none => rw [eb] at e; cases e
    | some bs =>
      rw [eb] at e
      cases e
      obtain ⟨x, rfl, hx⟩ := hxs.one
      obtain ⟨a, vs, rfl, ha, r⟩ := hx.list s
      have q := r.ints eb
      subst q
      exact ⟨a, bs, rfl, .of ha, k _ _ _ (.refl s) (.int _)⟩
  · cases e
end
end AL
end
section
set_option Elab.async false
set_option linter.all false
set_option maxRecDepth 100000
set_option maxHeartbeats 4000000
set_option autoImplicit false
/-! The A-layer, part d: told for good, displays, targets, statements. -/
namespace AL
open PySem PySem.Spec PyProof.Rows L2

def fpSet (fp : Fps) (i : Nat) (f : List Addr) : Fps := fun j => if j = i then f else fp j
theorem fpSet_same {fp : Fps} {i : Nat} {f : List Addr} : fpSet fp i f i = f := if_pos rfl
theorem fpSet_ne {fp : Fps} {i j : Nat} {f : List Addr} (h : j ≠ i) : fpSet fp i f j = fp j := if_neg h
theorem FP.of_set {fp : Fps} {i : Nat} {f : List Addr} {b : Addr} (h : FP (fpSet fp i f) b) : b ∈ f ∨ FP fp b := by
  obtain ⟨j, hj⟩ := h
  by_cases e : j = i
  · subst e; rw [fpSet_same] at hj; exact .inl hj
  · rw [fpSet_ne e] at hj; exact .inr ⟨j, hj⟩
section
variable {K : PySem.W.Frag} {pa : PAs} {I H I' H' H0 : Hp} {σ σ' : L2.St} {sl : Sls} {fp fp' : Fps} {v : V} {o : O} {d : D} {s : Sl} {i : Nat} {f : List Addr} {a : Addr} {m : Mu}
/-- one slot is changed -/
theorem SR.set (sr : SR K pa I H σ sl fp) (hl : σ'.length = σ.length) (ho : ∀ j, j ≠ i → (σ'[j]?).join = (σ[j]?).join) (hs : SlR K pa I H (σ'[i]?.join) f s) (hi : i < sl.length) (nd : f.Nodup) (hf : ∀ b ∈ f, I b = none ∧ ∀ j, j ≠ i → b ∉ fp j) :
    SR K pa I H σ' (sl.set i s) (fpSet fp i f) where
  sub := sr.sub
  len := by rw [List.length_set, hl]; exact sr.len
  slot := fun j t e => by
    by_cases h : j = i
    · subst h
      rw [List.getElem?_set_self hi] at e
      cases e
      rw [fpSet_same]
      exact hs
    · rw [List.getElem?_set_ne (Ne.symm h)] at e
      rw [fpSet_ne h, ho j h]
      exact sr.slot j t e
  out := fun j h => by
    rw [List.length_set] at h
    rw [fpSet_ne (by omega)]
    exact sr.out j h
  free := fun j b hb => by
    by_cases h : j = i
    · subst h; rw [fpSet_same] at hb; exact (hf b hb).1
    · rw [fpSet_ne h] at hb; exact sr.free j b hb
  nd := fun j => by
    by_cases h : j = i
    · subst h; rw [fpSet_same]; exact nd
    · rw [fpSet_ne h]; exact sr.nd j
  dj := fun j k hjk b hb => by
    by_cases h : j = i
    · subst h
      rw [fpSet_same] at hb
      rw [fpSet_ne (Ne.symm hjk)]
      exact (hf b hb).2 k (Ne.symm hjk)
    · rw [fpSet_ne h] at hb
      by_cases h2 : k = i
      · subst h2
        rw [fpSet_same]
        exact fun z => (hf b z).2 j h hb
      · rw [fpSet_ne h2]
        exact sr.dj j k hjk b hb
  pin := sr.pin
theorem set_len {x : Option V} : (σ.set i x).length = σ.length := List.length_set ..
theorem set_other {x : Option V} : ∀ j, j ≠ i → ((σ.set i x)[j]?).join = (σ[j]?).join := fun j h => by rw [List.getElem?_set_ne (Ne.symm h)]
theorem set_here {x : Option V} (h : i < σ.length) : ((σ.set i x)[i]?).join = x := by rw [List.getElem?_set_self h]; rfl
theorem SR.setVal (sr : SR K pa I H σ sl fp) (hi : i < sl.length) (r : Rl K I v d) : SR K pa I H (σ.set i (some v)) (sl.set i (.val d)) (fpSet fp i []) :=
  sr.set set_len set_other (show SlR K pa I H _ [] (.val d) from ⟨rfl, v, set_here (by rw [← sr.len]; exact hi), r⟩) hi List.nodup_nil (fun b hb => by simp at hb)
theorem SR.setEm (sr : SR K pa I H σ sl fp) (hi : i < sl.length) (x : Option V) : SR K pa I H (σ.set i x) (sl.set i .em) (fpSet fp i []) :=
  sr.set set_len set_other (show SlR K pa I H _ [] .em from rfl) hi List.nodup_nil (fun b hb => by simp at hb)
theorem SR.setOwn (sr : SR K pa I H σ sl fp) (hi : i < sl.length) (o : Own K I H a m f) (nd : f.Nodup) (hf : ∀ b ∈ f, I b = none ∧ ¬ FP fp b ∧ b ∉ pa.pf) : SR K pa I H (σ.set i (some (.ref a))) (sl.set i (.own none m)) (fpSet fp i f) :=
  sr.set set_len set_other (show SlR K pa I H _ f (.own none m) from ⟨a, set_here (by rw [← sr.len]; exact hi), o, fun k h => (by cases h), fun _ b hb => (hf b hb).2.2⟩) hi nd (fun b hb => ⟨(hf b hb).1, fun j _ z => (hf b hb).2.1 ⟨j, z⟩⟩)
theorem Mv.set (hf : ∀ b ∈ f, FP fp b ∨ H b = none) : Mv fp I H (fpSet fp i f) I H := ⟨.refl, fun b h => (FP.of_set h).elim (hf b) .inl⟩
theorem Mv.set_nil : Mv fp I H (fpSet fp i []) I H := Mv.set (fun b hb => by simp at hb)
/-- a slot's owned thing becomes told -/
theorem SR.froze {t : Option Nat} (sr : SR K pa I H σ sl fp) (e : sl[i]? = some (.own t m)) (hv : σ[i]? = some (some v)) :
    SR K pa (frz I H (fp i)) H σ (sl.set i (.val m.toD)) (fpSet fp i []) ∧ Mv fp I H (fpSet fp i []) (frz I H (fp i)) H ∧ Rl K (frz I H (fp i)) v m.toD := by
  have hi : i < sl.length := (List.getElem?_eq_some_iff.mp e).1
  obtain ⟨a, e1, o, _⟩ := sr.slot i _ e
  rw [hv] at e1
  have e1 : some v = some (V.ref a) := e1
  cases e1
  have z := sr.free i
  have le : Le I (frz I H (fp i)) := frz_le z
  have r := o.froze z
  have base : SR K pa (frz I H (fp i)) H σ (sl.set i .em) (fpSet fp i []) := by
    have s1 := sr.setEm hi (some (.ref a))
    have es : σ.set i (some (.ref a)) = σ := by
      apply List.ext_getElem?
      intro j
      by_cases h : i = j
      · subst h
        rw [List.getElem?_set_self (List.getElem?_eq_some_iff.mp hv).1, hv]
      · rw [List.getElem?_set_ne h]
    rw [es] at s1
    refine ⟨frz_sub s1.sub, s1.len, fun j s h => (s1.slot j s h).keep le fun _ _ => rfl, s1.out, fun j b hb => ?_, s1.nd, s1.dj, s1.pin⟩
    by_cases h : j = i
    · subst h; rw [fpSet_same] at hb; simp at hb
    · rw [frz_out]
      · exact s1.free j b hb
      · rw [fpSet_ne h] at hb
        exact sr.dj j i h b hb
  refine ⟨?_, ⟨⟨le, fun _ _ h _ => h, fun b u h n i' => ?_, fun _ u h => ⟨u, h⟩⟩, fun b h => (FP.of_set h).elim (fun q => by simp at q) .inl⟩, r⟩
  · have := base.setVal (i := i) (by rw [List.length_set]; exact hi) r
    rw [List.set_set] at this
    have es : σ.set i (some (.ref a)) = σ := by
      apply List.ext_getElem?
      intro j
      by_cases h : i = j
      · subst h
        rw [List.getElem?_set_self (List.getElem?_eq_some_iff.mp hv).1, hv]
      · rw [List.getElem?_set_ne h]
    rw [es] at this
    have ef : fpSet (fpSet fp i []) i [] = fpSet fp i [] := by
      funext j; unfold fpSet; split <;> rfl
    rw [ef] at this
    exact this
  · rw [frz_out fun q => n ⟨i, q⟩]; exact i'
/-- a thing just made becomes told -/
theorem SR.frozeT (sr : SR K pa I H σ sl fp) (o : Own K I H a m f) (q : ∀ b ∈ f, H0 b = none ∧ I b = none ∧ ¬ FP fp b) : SR K pa (frz I H f) H σ sl fp ∧ Rl K (frz I H f) (.ref a) m.toD := by
  have z : ∀ b ∈ f, I b = none := fun b hb => (q b hb).2.1
  refine ⟨⟨frz_sub sr.sub, sr.len, fun j s h => (sr.slot j s h).keep (frz_le z) fun _ _ => rfl, sr.out, fun j b hb => ?_, sr.nd, sr.dj, sr.pin⟩, o.froze z⟩
  rw [frz_out fun w => (q b w).2.2 ⟨j, hb⟩]
  exact sr.free j b hb
end
/-- told for good -/
def O.fix (o : O) : Den O := fun sl => match o with
  | .d x => .ok (.d x) sl
  | .sl i => match sl[i]? with
    | some (.own _ m) => .ok (.d m.toD) (sl.set i (.val m.toD))
    | some (.val x) => .ok (.d x) sl
    | _ => .no
  | .tmp m => .ok (.d m.toD) sl
  | .set _ => .no
  | .scr ns => .ok (.scr ns) sl
def dFix (f : Den O) : Den O := f.bind O.fix
section
variable {X : Cx} {W : WX} {e : Expr} {f : Den O} {pa : PAs} {σ : L2.St} {I H : Hp} {fp : Fps}
theorem fix_po {sl : Sls} {P : D → Sls → Hp → Hp → Fps → V → Prop} {Ps : List Int → Sls → Hp → Hp → Fps → V → Prop}
    (h : Po X W pa σ I H fp ((dFix f) sl) fun o s I' H' fp' => ∀ v, (∀ x, o = .d x → Rl X.K I' v x → P x s I' H' fp' v) ∧ (∀ ns, o = .scr ns → OR X.K σ I' H' fp' H v (.scr ns) → Ps ns s I' H' fp' v)) :
    Po X W pa σ I H fp (f sl) fun o _ I' H' fp' => ∀ v, OR X.K σ I' H' fp' H v o → ∃ I2 fp2, (∃ x s2, P x s2 I2 H' fp2 v ∧ SR X.K pa I2 H' σ s2 fp2 ∧ Rl X.K I2 v x) ∨ (∃ ns s2, Ps ns s2 I2 H' fp2 v) := by
  unfold dFix Den.bind at h
  cases e : f sl with
  | no => rw [e] at h; exact h
  | err x s => rw [e] at h; exact h
  | ok o s =>
    rw [e] at h
    intro I1 H1 fp1 sr1 m1 v hv
    have h : Po X W pa σ I H fp (O.fix o s) _ := h
    cases o with
    | d x => exact ⟨I1, fp1, .inl ⟨x, s, (h I1 H1 fp1 sr1 m1 v).1 x rfl hv, sr1, hv⟩⟩
    | set xs => exact h.elim
    | scr ns => exact ⟨I1, fp1, .inr ⟨ns, s, (h I1 H1 fp1 sr1 m1 v).2 ns rfl hv⟩⟩
    | tmp m =>
      obtain ⟨a, f, rfl, o, nd, q⟩ := hv
      obtain ⟨sr2, r⟩ := sr1.frozeT o q
      have m2 : Mv fp I H fp1 (frz I1 H1 f) H1 := ⟨⟨m1.tr.le.trans (frz_le fun b hb => (q b hb).2.1), m1.tr.keep, fun b u hb n i => by
        rw [frz_out fun w => by rw [(q b w).1] at hb; cases hb]
        exact m1.tr.fr b u hb n i, m1.tr.there⟩, m1.fresh⟩
      exact ⟨_, fp1, .inl ⟨_, s, (h _ H1 fp1 sr2 m2 (.ref a)).1 _ rfl r, sr2, r⟩⟩
    | sl i =>
      have hv : σ[i]? = some (some v) := hv
      dsimp only [O.fix] at h
      cases es : s[i]? with
      | none => simp only [es] at h; exact h.elim
      | some z =>
        simp only [es] at h
        cases z with
        | em => exact h.elim
        | scr ns => exact h.elim
        | val x =>
          obtain ⟨_, w, e1, r⟩ := sr1.slot i _ es
          rw [hv] at e1
          have e1 : some v = some w := e1
          cases e1
          exact ⟨I1, fp1, .inl ⟨x, s, (h I1 H1 fp1 sr1 m1 v).1 x rfl r, sr1, r⟩⟩
        | own t m =>
          obtain ⟨sr2, m2, r⟩ := sr1.froze es hv
          exact ⟨_, _, .inl ⟨_, _, (h _ H1 _ sr2 (m1.trans m2) v).1 _ rfl r, sr2, r⟩⟩
theorem tE_fix {Q : VK} (h : tE X W (dFix f) σ H Q) : tE X W f σ H Q := by
  obtain ⟨pa, I, sl, fp, sr, h⟩ := h
  refine ⟨pa, I, sl, fp, sr, ?_⟩
  have h2 : Po X W pa σ I H fp ((dFix f) sl) fun o s I' H' fp' => ∀ v, (∀ x, o = .d x → Rl X.K I' v x → Q v H') ∧ (∀ ns, o = .scr ns → OR X.K σ I' H' fp' H v (.scr ns) → Q v H') := by
    refine Po.mono (show Po X W pa σ I H fp ((dFix f) sl) _ from h) ?_
    intro o s I' H' fp' _ _ _ q v
    exact ⟨fun x e r => q v (by subst e; exact r), fun ns e r => q v (by subst e; exact r)⟩
  refine (fix_po h2).mono fun o s I' H' fp' _ _ _ q v hv => ?_
  obtain ⟨I2, fp2, ⟨x, s2, p, _⟩ | ⟨ns, s2, p⟩⟩ := q v hv
  · exact p
  · exact p
theorem ae_fix (h : AE X W e f) : AE X W e (dFix f) := ⟨h.pe.imp fun _ _ _ q => tE_fix q⟩
end

/-! ### displays: their items told for good -/
def asDs : List O → Option (List D)
  | [] => some []
  | .d x :: r => (asDs r).map (x :: ·)
  | _ => none
def dTup (f : Den (List O)) : Den O := f.bind fun os => match asDs os with
  | some ds => if ds.length ≤ sizeLine then Den.ret (.d (.tuple ds)) else Den.no
  | none => Den.no
def dLst (f : Den (List O)) : Den O := f.bind fun os => match asDs os with
  | some ds => if ds.length ≤ sizeLine then Den.ret (.tmp (.lst ds)) else Den.no
  | none => Den.no
section
variable {X : Cx} {W : WX} {es : List Expr} {fs : Den (List O)} {pos : Pos} {pa : PAs} {σ : L2.St} {I H H0 : Hp} {fp : Fps}
theorem ORl.ds : ∀ {vs : List V} {os : List O} {fl : List (List Addr)} {ds : List D}, ORl X.K σ I H fp H0 vs os fl → asDs os = some ds → Rs X.K I vs ds
  | [], [], [], _, _, e => by cases e; exact .nil
  | v :: vs, o :: os, f :: fl, ds, h, e => by
    cases o with
    | d x =>
      have e : (asDs os).map (x :: ·) = some ds := e
      cases e2 : asDs os with
      | none => rw [e2] at e; cases e
      | some ds' =>
        rw [e2] at e
        cases e
        exact .cons h.1.2 (ORl.ds h.2.1 e2)
    | _ => cases e
  | [], [], _ :: _, _, h, _ => h.elim
  | [], _ :: _, [], _, h, _ => h.elim
  | [], _ :: _, _ :: _, _, h, _ => h.elim
  | _ :: _, [], [], _, h, _ => h.elim
  | _ :: _, [], _ :: _, _, h, _ => h.elim
  | _ :: _, _ :: _, [], _, h, _ => h.elim
theorem ORs.ds {vs : List V} {os : List O} {ds : List D} (h : ORs X.K σ I H fp H0 vs os) (e : asDs os = some ds) : Rs X.K I vs ds := by
  obtain ⟨fl, h⟩ := h
  exact h.ds e
theorem ae_tup {k} (h : AA X W es fs) : AE X W (.Tuple es k pos) (dTup fs) := by
  refine ⟨(pe_tup h.pa).imp fun σ H Q h => ?_⟩
  obtain ⟨pa, I, sl, fp, sr, h⟩ := h
  refine ⟨pa, I, sl, fp, sr, h.bind.mono fun os sl1 I1 H1 fp1 _ sr1 m1 q vs hv => ?_⟩
  cases e : asDs os with
  | none => rw [e] at q; exact q.elim
  | some ds =>
    rw [e] at q
    have r := hv.ds e
    by_cases hl : ds.length ≤ sizeLine
    · simp only [if_pos hl] at q
      refine ⟨by rw [r.length]; exact hl, fun p hp => ?_⟩
      have a := Al.tup (vs := vs) sr1.sub hp
      exact (show Po X W pa σ I1 H1 fp1 (.ok (O.d (.tuple ds)) sl1) _ from q) _ _ fp1 (sr1.al a) a.mv _ (NR.tup sr1.sub hp r)
    · simp only [if_neg hl] at q
      exact q.elim
theorem ae_lst (h : AA X W es fs) : AE X W (.List es pos) (dLst fs) := by
  refine ⟨(pe_lst h.pa).imp fun σ H Q h => ?_⟩
  obtain ⟨pa, I, sl, fp, sr, h⟩ := h
  refine ⟨pa, I, sl, fp, sr, h.bind.mono fun os sl1 I1 H1 fp1 _ sr1 m1 q vs hv => ?_⟩
  cases e : asDs os with
  | none => rw [e] at q; exact q.elim
  | some ds =>
    rw [e] at q
    have r := hv.ds e
    by_cases hl : ds.length ≤ sizeLine
    · simp only [if_pos hl] at q
      refine ⟨by rw [r.length]; exact hl, fun p hp => ?_⟩
      have a := Al.lst (vs := vs) sr1.sub hp
      exact (show Po X W pa σ I1 H1 fp1 (.ok (O.tmp (.lst ds)) sl1) _ from q) _ _ fp1 (sr1.al a) a.mv _ (NR.or sr1 (fun b hb => m1.tr.gone hb) (NR.lst sr1.sub hp r))
    · simp only [if_neg hl] at q
      exact q.elim
/-- {} -/
def dDic0 : Den O := Den.ret (.tmp (.dic []))
theorem ae_dic0 : AE X W (.Dict [] [] pos) dDic0 := by
  refine ⟨pe_dnewK.imp fun σ H Q h => ?_⟩
  obtain ⟨pa, I, sl, fp, sr, h⟩ := h
  intro p hp
  have a : Al I H I (upd H p (.dK [])) := ⟨fun b o e => by rw [upd_ne (ne_of_none (sr.sub b o e) hp)]; exact sr.sub b o e, .refl _, fun b o e => by rw [upd_ne (ne_of_none e hp)]; exact e, fun b o e => .inr e⟩
  refine (show Po X W pa σ I H fp (.ok (O.tmp (.dic [])) sl) _ from h) _ _ fp (sr.al a) a.mv _ (NR.or sr (fun _ z => z) ?_)
  exact ⟨p, [p], rfl, .dic upd_same .nil, by simp, fun b hb => by
    have e : b = p := by simpa using hb
    subst e
    exact ⟨hp, Sub.non sr.sub hp⟩⟩
end

/-! ### statements -/
inductive Fl where
  | nx | bk | ct
  | rt (o : O)
/-- a block's outcome -/
def PoS (X : Cx) (W : WX) (pa : PAs) (I H : Hp) (fp : Fps) (r : Rz Fl) (E : Ends) : Prop :=
  match r with
  | .ok fl sl' => ∀ σ' I' H' fp', SR X.K pa I' H' σ' sl' fp' → Mv fp I H fp' I' H' → (match fl with
    | .nx => E.nx σ' H'
    | .bk => E.bk σ' H'
    | .ct => E.ct σ' H'
    | .rt o => ∀ v, OR X.K σ' I' H' fp' H v o → E.rt v H')
  | .err x sl' => ∀ cls dd σ' I' H' fp', SR X.K pa I' H' σ' sl' fp' → Mv fp I H fp' I' H' → ExR X.mg X.K I' cls dd x → W cls dd σ' H'
  | .no => False
def tS (X : Cx) (W : WX) (g : Den Fl) : TS := fun E σ H => ∃ pa I sl fp, SR X.K pa I H σ sl fp ∧ PoS X W pa I H fp (g sl) E
structure AS (X : Cx) (W : WX) (st : Stmt) (g : Den Fl) : Prop where
  ps : PS X st (tS X W g)
structure ASs (X : Cx) (W : WX) (st : List Stmt) (g : Den Fl) : Prop where
  ps : PSs X st (tS X W g)
def dSeq (f g : Den Fl) : Den Fl := f.bind fun r => match r with
  | .nx => g
  | r => Den.ret r
def dSkip : Den Fl := Den.ret .nx
section
variable {X : Cx} {W : WX} {st : Stmt} {sts : List Stmt} {f g : Den Fl} {pos : Pos} {pa : PAs} {σ : L2.St} {I H : Hp} {fp : Fps} {E : Ends} {sl : Sls}
/-- behind a first step -/
theorem PoS.from {I1 H1 : Hp} {fp1 : Fps} {r : Rz Fl} (m : Mv fp I H fp1 I1 H1) (h : PoS X W pa I H fp r E) : PoS X W pa I1 H1 fp1 r E := by
  cases r with
  | no => exact h
  | err x s => exact fun c d σ' I' H' f' sr mv er => h c d σ' I' H' f' sr (m.trans mv) er
  | ok fl s =>
    intro σ' I' H' f' sr mv
    have q := h σ' I' H' f' sr (m.trans mv)
    cases fl with
    | rt o => exact fun v hv => q v (hv.start fun b hb => m.tr.gone hb)
    | nx => exact q
    | bk => exact q
    | ct => exact q
theorem ass_nil : ASs X W [] dSkip := ⟨pss_nil.imp fun E σ H ⟨pa, I, sl, fp, sr, h⟩ => (show PoS X W pa I H fp (.ok .nx sl) E from h) σ I H fp sr .refl⟩
theorem ass_cons (h1 : AS X W st f) (h2 : ASs X W sts g) : ASs X W (st :: sts) (dSeq f g) := by
  refine ⟨(pss_cons h1.ps h2.ps).imp fun E σ H h => ?_⟩
  obtain ⟨pa, I, sl, fp, sr, h⟩ := h
  refine ⟨pa, I, sl, fp, sr, ?_⟩
  have h : PoS X W pa I H fp ((dSeq f g) sl) E := h
  unfold dSeq Den.bind at h
  cases e : f sl with
  | no => rw [e] at h; exact h
  | err x s => rw [e] at h; exact h
  | ok fl s =>
    rw [e] at h
    cases fl with
    | nx => exact fun σ1 I1 H1 fp1 sr1 m1 => ⟨pa, I1, s, fp1, sr1, (show PoS X W pa I H fp (g s) E from h).from m1⟩
    | bk => exact fun σ1 I1 H1 fp1 sr1 m1 => (show PoS X W pa I H fp (.ok .bk s) E from h) σ1 I1 H1 fp1 sr1 m1
    | ct => exact fun σ1 I1 H1 fp1 sr1 m1 => (show PoS X W pa I H fp (.ok .ct s) E from h) σ1 I1 H1 fp1 sr1 m1
    | rt o => exact fun σ1 I1 H1 fp1 sr1 m1 => (show PoS X W pa I H fp (.ok (.rt o) s) E from h) σ1 I1 H1 fp1 sr1 m1
theorem ass_one (h1 : AS X W st f) : ASs X W [st] f := ⟨pss_one h1.ps⟩
theorem as_pass : AS X W (.Pass pos) dSkip := ⟨ps_pass.imp fun E σ H ⟨pa, I, sl, fp, sr, h⟩ => (show PoS X W pa I H fp (.ok .nx sl) E from h) σ I H fp sr .refl⟩
theorem as_break : AS X W (.Break pos) (Den.ret .bk) := ⟨ps_break.imp fun E σ H ⟨pa, I, sl, fp, sr, h⟩ => (show PoS X W pa I H fp (.ok .bk sl) E from h) σ I H fp sr .refl⟩
theorem as_continue : AS X W (.Continue pos) (Den.ret .ct) := ⟨ps_continue.imp fun E σ H ⟨pa, I, sl, fp, sr, h⟩ => (show PoS X W pa I H fp (.ok .ct sl) E from h) σ I H fp sr .refl⟩
theorem as_never : AS X W st Den.no := ⟨ps_never.imp fun E σ H ⟨pa, I, sl, fp, sr, h⟩ => h.elim⟩
theorem ass_never : ASs X W sts Den.no := ⟨pss_never.imp fun E σ H ⟨pa, I, sl, fp, sr, h⟩ => h.elim⟩
/-- an expression within a statement -/
theorem stE {fe : Den O} {k : O → Den Fl} {R : VK} {sl : Sls} (h : PoS X W pa I H fp ((fe.bind k) sl) E)
    (f' : ∀ sl1 I1 H1 fp1 o v, SR X.K pa I1 H1 σ sl1 fp1 → Mv fp I H fp1 I1 H1 → OR X.K σ I1 H1 fp1 H v o → PoS X W pa I H fp (k o sl1) E → R v H1)
    (hW : ∀ x s c d I' H' fp', fe sl = .err x s → SR X.K pa I' H' σ s fp' → Mv fp I H fp' I' H' → ExR X.mg X.K I' c d x → W c d σ H') :
    Po X W pa σ I H fp (fe sl) fun o _ I' H' fp' => ∀ v, OR X.K σ I' H' fp' H v o → R v H' := by
  unfold Den.bind at h
  cases e : fe sl with
  | no => rw [e] at h; exact h
  | err x s => exact fun c d I' H' fp' sr mv er => hW x s c d I' H' fp' e sr mv er
  | ok o s =>
    rw [e] at h
    exact fun I1 H1 fp1 sr1 m1 v hv => f' s I1 H1 fp1 o v sr1 m1 hv h
theorem stW {α : Type} {fe : Den α} {k : α → Den Fl} {sl : Sls} (h : PoS X W pa I H fp ((fe.bind k) sl) E) : ∀ x s c d I' H' fp', fe sl = .err x s → SR X.K pa I' H' σ s fp' → Mv fp I H fp' I' H' → ExR X.mg X.K I' c d x → W c d σ H' := by
  intro x s c d I' H' fp' e sr mv er
  unfold Den.bind at h
  rw [e] at h
  exact h c d σ I' H' fp' sr mv er
def dExpr (f : Den O) : Den Fl := f.bind fun _ => dSkip
theorem as_expr {e : Expr} {fe : Den O} (he : AE X W e fe) (hs : swapsWith e none pos.line X.env = pure false := by rfl) : AS X W (.Expr e pos) (dExpr fe) := by
  refine ⟨(ps_expr he.pe hs).imp fun E σ H h => ?_⟩
  obtain ⟨pa, I, sl, fp, sr, h⟩ := h
  exact ⟨pa, I, sl, fp, sr, stE h (fun sl1 I1 H1 fp1 o v sr1 m1 hv q => (show PoS X W pa I H fp (.ok .nx sl1) E from q) σ I1 H1 fp1 sr1 m1) (stW h)⟩
def dRet (f : Den O) : Den Fl := f.bind fun o => Den.ret (.rt o)
theorem as_ret {e : Expr} {fe : Den O} (he : AE X W e fe) : AS X W (.Return (some e) pos) (dRet fe) := by
  refine ⟨(ps_ret he.pe).imp fun E σ H h => ?_⟩
  obtain ⟨pa, I, sl, fp, sr, h⟩ := h
  exact ⟨pa, I, sl, fp, sr, stE h (fun sl1 I1 H1 fp1 o v sr1 m1 hv q => (show PoS X W pa I H fp (.ok (.rt o) sl1) E from q) σ I1 H1 fp1 sr1 m1 v hv) (stW h)⟩
theorem as_retN : AS X W (.Return none pos) (Den.ret (.rt (.d .none))) :=
  ⟨ps_retN.imp fun E σ H ⟨pa, I, sl, fp, sr, h⟩ => (show PoS X W pa I H fp (.ok (.rt (.d .none)) sl) E from h) σ I H fp sr .refl .non .non⟩
def dIfS (c : Den Bool) (f g : Den Fl) : Den Fl := c.bind fun b => if b = true then f else g
theorem as_if {c : Expr} {a b : List Stmt} {fc : Den Bool} (hc : AT X W c fc) (ha : ASs X W a f) (hb : ASs X W b g) : AS X W (.If c a b pos) (dIfS fc f g) := by
  refine ⟨(ps_if hc.pt ha.ps hb.ps).imp fun E σ H h => ?_⟩
  obtain ⟨pa, I, sl, fp, sr, h⟩ := h
  refine ⟨pa, I, sl, fp, sr, ?_⟩
  have hW := stW (σ := σ) (show PoS X W pa I H fp ((fc.bind fun b => if b = true then f else g) sl) E from h)
  have h : PoS X W pa I H fp ((fc.bind fun b => if b = true then f else g) sl) E := h
  unfold Den.bind at h
  cases e : fc sl with
  | no => rw [e] at h; exact h
  | err x s => exact fun c d I' H' fp' sr mv er => hW x s c d I' H' fp' e sr mv er
  | ok k s =>
    rw [e] at h
    intro I1 H1 fp1 sr1 m1
    have h : PoS X W pa I H fp ((if k = true then f else g) s) E := h
    cases k with
    | true => exact iteT ⟨pa, I1, s, fp1, sr1, h.from m1⟩
    | false => exact iteF ⟨pa, I1, s, fp1, sr1, h.from m1⟩

/-! ### targets -/
abbrev Tg := D → Sls → Option Sls
/-- but for the slots ws the frame is as it was -/
structure Keeps (ws : List Nat) (σ σ' : L2.St) : Prop where
  len : σ'.length = σ.length
  out : ∀ j, j ∉ ws → σ'[j]? = σ[j]?
theorem Keeps.refl {ws : List Nat} {σ : L2.St} : Keeps ws σ σ := ⟨rfl, fun _ _ => rfl⟩
theorem Keeps.trans {ws us : List Nat} {σ σ1 σ2 : L2.St} (a : Keeps ws σ σ1) (b : Keeps us σ1 σ2) : Keeps (ws ++ us) σ σ2 :=
  ⟨b.len.trans a.len, fun j h => (b.out j fun z => h (by simp [z])).trans (a.out j fun z => h (by simp [z]))⟩
theorem Keeps.set {i : Nat} {σ : L2.St} {x : Option V} : Keeps [i] σ (σ.set i x) := ⟨List.length_set .., fun j h => List.getElem?_set_ne (by simpa using Ne.symm (by simpa using h))⟩
def tG (X : Cx) (t : Tg) (ws : List Nat) : TG := fun v σ H Q => ∃ pa I sl fp d, SR X.K pa I H σ sl fp ∧ Rl X.K I v d ∧ match t d sl with
  | some sl' => ∀ σ' fp', SR X.K pa I H σ' sl' fp' → (∀ b, FP fp' b → FP fp b) → Keeps ws σ σ' → Q σ' H
  | none => False
def tGs (X : Cx) (t : List D → Sls → Option Sls) (ws : List Nat) : TGs := fun vs σ H Q => ∃ pa I sl fp ds, SR X.K pa I H σ sl fp ∧ Rs X.K I vs ds ∧ match t ds sl with
  | some sl' => ∀ σ' fp', SR X.K pa I H σ' sl' fp' → (∀ b, FP fp' b → FP fp b) → Keeps ws σ σ' → Q σ' H
  | none => False
structure AG (X : Cx) (e : Expr) (t : Tg) (ws : List Nat) : Prop where
  pg : PG X e (tG X t ws)
structure AGs (X : Cx) (es : List Expr) (t : List D → Sls → Option Sls) (ws : List Nat) : Prop where
  pg : PGs X es (tGs X t ws)
theorem _root_.L2.PG.imp {X : Cx} {e : Expr} {t t' : TG} (h : PG X e t) (i : ∀ v σ H Q, t' v σ H Q → t v σ H Q) : PG X e t' := ⟨fun pins s σ H v u Q I r hw => h.run pins s σ H v u Q I r (i v σ H Q hw)⟩
theorem _root_.L2.PGs.imp {X : Cx} {e : List Expr} {t t' : TGs} (h : PGs X e t) (i : ∀ v σ H Q, t' v σ H Q → t v σ H Q) : PGs X e t' := ⟨fun pins s σ H v u Q I r hw => h.run pins s σ H v u Q I r (i v σ H Q hw)⟩
def gN (i : Nat) : Tg := fun d sl => if i < sl.length then some (sl.set i (.val d)) else none
theorem ag_name (i : Nat) {x : Str} (hN : X.N.Nodup) (hi : X.N[i]? = some x) (hx : Loc X.env.scope x) (hf : X.fn x = true ∨ X.env.scope.names.lookup x = some .local := by first | exact .inl rfl | exact .inr rfl | assumption) : AG X (.Name x pos) (gN i) [i] := by
  refine ⟨(pg_name hN hi hx hf).imp fun v σ H Q h => ?_⟩
  obtain ⟨pa, I, sl, fp, d, sr, r, h⟩ := h
  unfold gN at h
  by_cases hl : i < sl.length
  · simp only [if_pos hl] at h
    exact h _ _ (sr.setVal hl r) (fun b z => (FP.of_set z).elim (fun q => by simp at q) fun q => q) .set
  · simp only [if_neg hl] at h
    try exact h.elim
def gsNil : List D → Sls → Option Sls
  | [], sl => some sl
  | _, _ => none
def gsCons (t : Tg) (u : List D → Sls → Option Sls) : List D → Sls → Option Sls
  | d :: ds, sl => match t d sl with
    | some sl1 => u ds sl1
    | none => none
  | [], _ => none
theorem ags_nil : AGs X [] gsNil [] := by
  refine ⟨pgs_nil.imp fun vs σ H Q h => ?_⟩
  obtain ⟨pa, I, sl, fp, ds, sr, r, h⟩ := h
  cases r with
  | nil => exact ⟨rfl, h σ fp sr (fun _ z => z) .refl⟩
  | cons _ _ => exact h.elim
theorem ags_cons {e : Expr} {es : List Expr} {t : Tg} {u : List D → Sls → Option Sls} {ws us : List Nat} (h1 : AG X e t ws) (h2 : AGs X es u us)
    (hs : (assignEach (e :: es) X.env).map (·.2) = assign e X.env :: (assignEach es X.env).map (·.2) := by rfl) : AGs X (e :: es) (gsCons t u) (ws ++ us) := by
  refine ⟨(pgs_cons h1.pg h2.pg hs).imp fun vs σ H Q h => ?_⟩
  obtain ⟨pa, I, sl, fp, ds, sr, r, h⟩ := h
  cases r with
  | nil => exact h.elim
  | @cons v vs d ds r rs =>
    refine ⟨v, vs, rfl, pa, I, sl, fp, d, sr, r, ?_⟩
    simp only [gsCons] at h
    cases e1 : t d sl with
    | none => simp only [e1] at h
    | some sl1 =>
      simp only [e1] at h
      exact fun σ1 fp1 sr1 f1 k1 => ⟨pa, I, sl1, fp1, ds, sr1, rs, by
        show match u ds sl1 with | some sl' => _ | none => False
        revert h
        cases u ds sl1 with
        | none => exact fun z => z
        | some sl2 => exact fun h σ' fp' s' f' k' => h σ' fp' s' (fun b z => f1 b (f' b z)) (k1.trans k')⟩
/-- (a, b, ..) = a tuple -/
def gT (u : List D → Sls → Option Sls) : Tg := fun d sl => match d with
  | .tuple ds => u ds sl
  | _ => none
theorem gsNil_len : ∀ (ds : List D) (sl sl' : Sls), gsNil ds sl = some sl' → ds.length = 0
  | [], _, _, _ => rfl
  | _ :: _, _, _, h => by cases h
theorem gsCons_len {t : Tg} {u : List D → Sls → Option Sls} {n : Nat} (h : ∀ ds sl sl', u ds sl = some sl' → ds.length = n) : ∀ ds sl sl', gsCons t u ds sl = some sl' → ds.length = n + 1
  | [], _, _, e => by cases e
  | d :: ds, sl, sl', e => by
    simp only [gsCons] at e
    cases e1 : t d sl with
    | none => simp only [e1] at e; cases e
    | some sl1 =>
      simp only [e1] at e
      rw [List.length_cons, h ds sl1 sl' e]
theorem ag_tup {es : List Expr} {k : Nat} {u : List D → Sls → Option Sls} {n : Nat} {ws : List Nat} (hc : X.calm = true) (h : AGs X es u ws) (hlen : ∀ ds sl sl', u ds sl = some sl' → ds.length = n)
    (hn : (assignEach es X.env).length = n := by rfl) (hst : (assignEach es X.env).findIdx? (·.1) = none := by rfl) : AG X (.Tuple es k pos) (gT u) ws := by
  refine ⟨(pg_tup hc h.pg hn hst).imp fun v σ H Q h => ?_⟩
  obtain ⟨pa, I, sl, fp, d, sr, r, h⟩ := h
  unfold gT at h
  cases r with
  | @tup a xs ds q rs =>
    cases e : u ds sl with
    | none => simp only [e] at h
    | some sl' =>
      simp only [e] at h
      refine ⟨a, xs, rfl, (Le.of_sub sr.sub).sqt q, by rw [rs.length]; exact hlen _ _ _ e, pa, I, sl, fp, ds, sr, rs, ?_⟩
      rw [e]
      exact h
  | _ => exact h.elim

/-! ### assignments -/
def dAsg (t : Tg) (f : Den O) : Den Fl := (dFix f).bind fun o sl => match o with
  | .d x => match t x sl with
    | some sl' => .ok .nx sl'
    | none => .no
  | _ => .no
/-- from the value to the target -/
theorem asg_po {t : Tg} {fe : Den O} {σ : L2.St} {ws : List Nat} (h : PoS X W pa I H fp ((dAsg t fe) sl) E) :
    Po X W pa σ I H fp (fe sl) fun o _ I' H' fp' => ∀ v, OR X.K σ I' H' fp' H v o → tG X t ws v σ H' fun σ2 H2 => E.nx σ2 H2 := by
  have hW := stW (σ := σ) (show PoS X W pa I H fp (((dFix fe).bind _) sl) E from h)
  have h2 : Po X W pa σ I H fp ((dFix fe) sl) fun o s I' H' fp' => ∀ v, (∀ x, o = .d x → Rl X.K I' v x → (match t x s with | some sl' => ∀ σ' fp2, SR X.K pa I' H' σ' sl' fp2 → (∀ b, FP fp2 b → FP fp' b) → E.nx σ' H' | none => False)) ∧ (∀ ns, o = .scr ns → OR X.K σ I' H' fp' H v (.scr ns) → False) := by
    have h : PoS X W pa I H fp (((dFix fe).bind fun o sl => match o with
      | .d x => match t x sl with
        | some sl' => .ok .nx sl'
        | none => .no
      | _ => .no) sl) E := h
    unfold Den.bind at h
    cases e : (dFix fe) sl with
    | no => rw [e] at h; exact h
    | err x s => exact fun c d I' H' fp' sr mv er => hW x s c d I' H' fp' e sr mv er
    | ok o s =>
      rw [e] at h
      intro I1 H1 fp1 sr1 m1 v
      refine ⟨fun x eo r => ?_, fun ns eo _ => ?_⟩
      · subst eo
        cases e1 : t x s with
        | none => simp only [e1] at h; exact h
        | some sl' =>
          simp only [e1] at h
          exact fun σ' fp2 sr2 f2 => (show PoS X W pa I H fp (.ok .nx sl') E from h) σ' I1 H1 fp2 sr2 ⟨m1.tr, fun b z => m1.fresh b (f2 b z)⟩
      · subst eo
        exact h
  refine (fix_po h2).mono fun o s I' H' fp' _ _ _ q v hv => ?_
  obtain ⟨I2, fp2, ⟨x, s2, p, sr2, r2⟩ | ⟨ns, s2, p⟩⟩ := q v hv
  · refine ⟨pa, I2, s2, fp2, x, sr2, r2, ?_⟩
    revert p
    cases t x s2 with
    | none => exact fun p => p
    | some sl' => exact fun p σ' fp3 s3 f3 _ => p σ' fp3 s3 f3
  · exact p.elim
theorem as_asg {tg e : Expr} {fe : Den O} {t : Tg} {ws : List Nat} (he : AE X W e fe) (hg : AG X tg t ws) (hs : swapsWithSole [tg] e pos.line X.env = pure false := by rfl) (hw : swappedStores [tg] e X.env = pure none := by rfl)
    (h1 : (assignEach [tg] X.env).map (·.2) = [assign tg X.env] := by rfl) : AS X W (.Assign [tg] e pos) (dAsg t fe) := by
  refine ⟨(ps_asg he.pe hg.pg hs hw h1).imp fun E σ H h => ?_⟩
  obtain ⟨pa, I, sl, fp, sr, h⟩ := h
  exact ⟨pa, I, sl, fp, sr, asg_po h⟩
theorem gName_of {i : Nat} {v : V} {σ : L2.St} {H : Hp} {Q : L2.St → Hp → Prop} {ws : List Nat} (hw : i ∈ ws) (h : tG X (gN i) ws v σ H Q) : gName i v σ H Q := by
  obtain ⟨pa, I, sl, fp, d, sr, r, h⟩ := h
  unfold gN at h
  by_cases hl : i < sl.length
  · simp only [if_pos hl] at h
    exact h _ _ (sr.setVal hl r) (fun b z => (FP.of_set z).elim (fun q => by simp at q) fun q => q) ⟨List.length_set .., fun j z => List.getElem?_set_ne fun e : i = j => z (by rw [← e]; exact hw)⟩
  · simp only [if_neg hl] at h
/-- name = value -/
theorem as_set (i : Nat) {x : Str} {e : Expr} {fe : Den O} {pos' : Pos} (hN : X.N.Nodup) (hi : X.N[i]? = some x) (hx : Loc X.env.scope x) (he : AE X W e fe) (hs : swapsWith e (some (.Name x pos')) pos.line X.env = pure false := by rfl) (hf : X.fn x = true ∨ X.env.scope.names.lookup x = some .local := by first | exact .inl rfl | exact .inr rfl | assumption) :
    AS X W (.Assign [.Name x pos'] e pos) (dAsg (gN i) fe) := by
  refine ⟨(ps_set hN hi hx he.pe hs hf).imp fun E σ H h => ?_⟩
  obtain ⟨pa, I, sl, fp, sr, h⟩ := h
  exact ⟨pa, I, sl, fp, sr, (asg_po (ws := [i]) h).mono fun o s I' H' fp' _ _ _ q v hv => gName_of (by simp) (q v hv)⟩
/-- name = a thing just made, that the name owns from now on -/
def dAsgO (i : Nat) (f : Den O) : Den Fl := f.bind fun o sl => match o with
  | .tmp m => if i < sl.length then .ok .nx (sl.set i (.own none m)) else .no
  | _ => .no
theorem tmp_set {i : Nat} {v : V} {I1 H1 : Hp} {fp1 : Fps} {m : Mu} {σ : L2.St} (sr0 : SR X.K pa I H σ sl fp) {sl1 : Sls} (sr1 : SR X.K pa I1 H1 σ sl1 fp1) (m1 : Mv fp I H fp1 I1 H1) (hv : OR X.K σ I1 H1 fp1 H v (.tmp m)) (hl : i < sl1.length) :
    ∃ fp2, SR X.K pa I1 H1 (σ.set i (some v)) (sl1.set i (.own none m)) fp2 ∧ Mv fp I H fp2 I1 H1 := by
  obtain ⟨a, f, rfl, o, nd, q⟩ := hv
  refine ⟨fpSet fp1 i f, sr1.setOwn hl o nd fun b hb => ⟨(q b hb).2.1, (q b hb).2.2, fun z => ?_⟩, m1.tr, fun b h => (FP.of_set h).elim (fun z => .inr (q b z).1) (m1.fresh b)⟩
  obtain ⟨u, hu⟩ := sr0.pin b z
  rw [(q b hb).1] at hu
  cases hu
theorem as_setO (i : Nat) {x : Str} {e : Expr} {fe : Den O} {pos' : Pos} (hN : X.N.Nodup) (hi : X.N[i]? = some x) (hx : Loc X.env.scope x) (he : AE X W e fe) (hs : swapsWith e (some (.Name x pos')) pos.line X.env = pure false := by rfl) (hf : X.fn x = true ∨ X.env.scope.names.lookup x = some .local := by first | exact .inl rfl | exact .inr rfl | assumption) :
    AS X W (.Assign [.Name x pos'] e pos) (dAsgO i fe) := by
  refine ⟨(ps_set hN hi hx he.pe hs hf).imp fun E σ H h => ?_⟩
  obtain ⟨pa, I, sl, fp, sr, h⟩ := h
  refine ⟨pa, I, sl, fp, sr, stE h (fun sl1 I1 H1 fp1 o v sr1 m1 hv q => ?_) (stW h)⟩
  cases o with
  | tmp m =>
    by_cases hl : i < sl1.length
    · simp only [if_pos hl] at q
      obtain ⟨fp2, sr2, m2⟩ := tmp_set sr sr1 m1 hv hl
      exact (show PoS X W pa I H fp (.ok .nx _) E from q) _ I1 H1 fp2 sr2 m2
    · simp only [if_neg hl] at q
      exact q.elim
  | _ => exact q.elim
end
end AL
end
section
set_option Elab.async false
set_option linter.all false
set_option maxRecDepth 100000
set_option maxHeartbeats 4000000
set_option autoImplicit false
/-! The A-layer, part e: defs and calls. -/
namespace AL
open PySem PySem.Spec PyProof.Rows L2

/-- an argument -/
inductive Ar where
  | val (d : D)
  | mu (m : Mu)
  | scr (ns : List Int)
/-- what a def gives: the answer, what its changed parameters hold then -/
inductive FRes where
  | ret (o : O) (outs : List Mu)
  | err (x : Ex) (outs : List Mu)
  | no
abbrev FnD := List Ar → FRes
/-- the slots at the entry: k parameters to be changed stand ahead -/
def slotsOf : Nat → List Ar → Sls
  | _, [] => []
  | k, .val d :: r => .val d :: slotsOf k r
  | k, .mu m :: r => .own (some k) m :: slotsOf (k + 1) r
  | k, .scr ns :: r => .scr ns :: slotsOf k r
theorem slotsOf_length : ∀ (k : Nat) (ars : List Ar), (slotsOf k ars).length = ars.length
  | _, [] => rfl
  | k, .val d :: r => by simp [slotsOf, slotsOf_length k r]
  | k, .mu m :: r => by simp [slotsOf, slotsOf_length (k + 1) r]
  | k, .scr ns :: r => by simp [slotsOf, slotsOf_length k r]
/-- .. with other things held -/
def arsOut : List Ar → List Mu → Option (List Ar)
  | [], [] => some []
  | .val d :: r, ms => (arsOut r ms).map (.val d :: ·)
  | .scr ns :: r, ms => (arsOut r ms).map (.scr ns :: ·)
  | .mu _ :: r, m :: ms => (arsOut r ms).map (.mu m :: ·)
  | _, _ => none
def findTag (sl : Sls) (k : Nat) : Option Mu := sl.findSome? fun s => match s with
  | .own (some j) m => if j = k then some m else none
  | _ => none
/-- what the parameters hold at the end -/
def outsOf (sl : Sls) : Nat → List Ar → Option (List Mu)
  | _, [] => some []
  | k, .mu _ :: r => match findTag sl k, outsOf sl (k + 1) r with
    | some m, some ms => some (m :: ms)
    | _, _ => none
  | k, _ :: r => outsOf sl k r
/-- the answer: fresh things may be handed on as such (own) -/
def retOf (own : Bool) (sl : Sls) : Fl → Option O
  | .nx => some (.d .none)
  | .rt (.d x) => some (.d x)
  | .rt (.tmp m) => some (if own = true then .tmp m else .d m.toD)
  | .rt (.sl i) => match sl[i]? with
    | some (.val x) => some (.d x)
    | some (.own none m) => some (if own = true then .tmp m else .d m.toD)
    | _ => none
  | _ => none
def runFn (n : Nat) (own : Bool) (body : Den Fl) : FnD := fun ars => match body (slotsOf 0 ars ++ List.replicate (n - ars.length) .em) with
  | .ok fl sl => match retOf own sl fl, outsOf sl 0 ars with
    | some o, some outs => .ret o outs
    | _, _ => .no
  | .err x sl => match outsOf sl 0 ars with
    | some outs => .err x outs
    | none => .no
  | .no => .no

/-- the promise: it gives what g says -/
def spOf (K : PySem.W.Frag) (mg : Str → Option Value) (g : FnD) : Sp := fun vs H Q E => ∃ pa I fp ars, SR K pa I H (vs.map some) (slotsOf 0 ars) fp ∧ (∀ b, FP fp b → b ∈ pa.pf) ∧ match g ars with
  | .ret o outs => ∀ v I' H' fp' ars', arsOut ars outs = some ars' → Mv fp I H fp' I' H' → SR K pa I' H' (vs.map some) (slotsOf 0 ars') fp' → OR K (vs.map some) I' H' fp' H v o → Q v H'
  | .err x outs => ∀ cls dd I' H' fp' ars', arsOut ars outs = some ars' → Mv fp I H fp' I' H' → SR K pa I' H' (vs.map some) (slotsOf 0 ars') fp' → ExR mg K I' cls dd x → E cls dd H'
  | .no => False

section
variable {K : PySem.W.Frag} {mg : Str → Option Value} {pa : PAs} {I H I' H' : Hp} {σ σ' : L2.St} {sl sl' : Sls} {fp fp' : Fps} {vs : List V} {ars ars' : List Ar} {outs : List Mu}
theorem spOf_len {g : FnD} {Q : VK} {E : XK} {n : Nat} (hn : ∀ ars, ars.length ≠ n → g ars = .no) (h : spOf K mg g vs H Q E) : vs.length = n := by
  obtain ⟨pa, I, fp, ars, sr, _, h⟩ := h
  have e := sr.len
  rw [slotsOf_length, List.length_map] at e
  by_cases z : ars.length = n
  · omega
  · rw [hn ars z] at h; exact h.elim
/-- more slots, bare -/
theorem SR.pad (sr : SR K pa I H σ sl fp) (n : Nat) : SR K pa I H (σ ++ List.replicate n none) (sl ++ List.replicate n .em) fp where
  sub := sr.sub
  len := by rw [List.length_append, List.length_append, sr.len, List.length_replicate, List.length_replicate]
  slot := fun i s e => by
    by_cases h : i < sl.length
    · rw [List.getElem?_append_left h] at e
      rw [List.getElem?_append_left (by rw [← sr.len]; exact h)]
      exact sr.slot i s e
    · rw [List.getElem?_append_right (by omega), List.getElem?_replicate] at e
      split at e
      · cases e
        rw [sr.out i (by omega)]
        rfl
      · cases e
  out := fun i h => by
    rw [List.length_append] at h
    exact sr.out i (by omega)
  free := sr.free
  nd := sr.nd
  dj := sr.dj
  pin := sr.pin
theorem findTag_at {k : Nat} {m : Mu} (h : findTag sl k = some m) : ∃ j : Nat, sl[j]? = some (Sl.own (some k) m) := by
  unfold findTag at h
  obtain ⟨s, hs, e⟩ := List.exists_of_findSome?_eq_some h
  cases s with
  | own t m' =>
    cases t with
    | none => cases e
    | some j =>
      by_cases z : j = k
      · subst z
        simp only [if_true] at e
        cases e
        exact List.mem_iff_getElem?.mp hs
      · simp only [if_neg z] at e
        cases e
  | _ => cases e
/-- the parameters' slots, from the ends' -/
structure Outs (K : PySem.W.Frag) (pa : PAs) (I' H' : Hp) (sl' : Sls) (fp' : Fps) (σ0 : L2.St) (k0 : Nat) (ars' : List Ar) (fq : Fps) : Prop where
  slot : ∀ i s, (slotsOf k0 ars')[i]? = some s → SlR K pa I' H' (σ0[i]?.join) (fq i) s
  src : ∀ i, ∀ b ∈ fq i, ∃ (j k : Nat) (m : Mu), sl'[j]? = some (Sl.own (some k) m) ∧ k0 ≤ k ∧ b ∈ fp' j
  nd : ∀ i, (fq i).Nodup
  dj : ∀ i j, i ≠ j → ∀ b ∈ fq i, b ∉ fq j
  out : ∀ i, ars'.length ≤ i → fq i = []
theorem outs_sr (sr' : SR K pa I' H' σ' sl' fp') (le : Le I I') : ∀ (k0 : Nat) (ars : List Ar) (vs : List V) (f0 : Fps) (outs : List Mu), vs.length = ars.length →
    (∀ i s, (slotsOf k0 ars)[i]? = some s → SlR K pa I H ((vs.map some)[i]?.join) (f0 i) s) → outsOf sl' k0 ars = some outs →
    ∃ ars' fq, arsOut ars outs = some ars' ∧ ars'.length = ars.length ∧ Outs K pa I' H' sl' fp' (vs.map some) k0 ars' fq
  | k0, [], [], f0, outs, _, _, e => by
    cases e
    exact ⟨[], fun _ => [], rfl, rfl, fun i s h => by simp [slotsOf] at h, fun i b hb => by simp at hb, fun i => List.nodup_nil, fun i j _ b hb => by simp at hb, fun _ _ => rfl⟩
  | k0, ar :: ars, v :: vs, f0, outs, hl, hs, e => by
    have hl' : vs.length = ars.length := by simpa using hl
    cases ar with
    | val d =>
      have e : outsOf sl' k0 ars = some outs := e
      obtain ⟨ars', fq, e1, e2, O⟩ := outs_sr sr' le k0 ars vs (fun i => f0 (i + 1)) outs hl' (fun i s h => hs (i + 1) s (by simpa [slotsOf] using h)) e
      have h0 := hs 0 (.val d) (by simp [slotsOf])
      refine ⟨.val d :: ars', fun i => match i with | 0 => [] | i + 1 => fq i, by simp [arsOut, e1], by simp [e2], ?_, ?_, ?_, ?_, ?_⟩
      · intro i s h
        cases i with
        | zero =>
          have h : some (Sl.val d) = some s := h
          cases h
          obtain ⟨_, w, e3, r⟩ := h0
          exact ⟨rfl, w, e3, r.up le⟩
        | succ i => exact O.slot i s (by simpa [slotsOf] using h)
      · intro i b hb
        cases i with
        | zero => simp at hb
        | succ i => exact O.src i b hb
      · intro i
        cases i with
        | zero => exact List.nodup_nil
        | succ i => exact O.nd i
      · intro i j hij b hb
        cases i with
        | zero => simp at hb
        | succ i =>
          cases j with
          | zero => simp
          | succ j => exact O.dj i j (by omega) b hb
      · intro i h
        cases i with
        | zero => rfl
        | succ i => exact O.out i (by simpa using h)
    | scr ns =>
      have e : outsOf sl' k0 ars = some outs := e
      obtain ⟨ars', fq, e1, e2, O⟩ := outs_sr sr' le k0 ars vs (fun i => f0 (i + 1)) outs hl' (fun i s h => hs (i + 1) s (by simpa [slotsOf] using h)) e
      have h0 := hs 0 (.scr ns) (by simp [slotsOf])
      refine ⟨.scr ns :: ars', fun i => match i with | 0 => [] | i + 1 => fq i, by simp [arsOut, e1], by simp [e2], ?_, ?_, ?_, ?_, ?_⟩
      · intro i s h
        cases i with
        | zero =>
          have h : some (Sl.scr ns) = some s := h
          cases h
          obtain ⟨_, w, e3, r⟩ := h0
          exact ⟨rfl, w, e3, le.sql r⟩
        | succ i => exact O.slot i s (by simpa [slotsOf] using h)
      · intro i b hb
        cases i with
        | zero => simp at hb
        | succ i => exact O.src i b hb
      · intro i
        cases i with
        | zero => exact List.nodup_nil
        | succ i => exact O.nd i
      · intro i j hij b hb
        cases i with
        | zero => simp at hb
        | succ i =>
          cases j with
          | zero => simp
          | succ j => exact O.dj i j (by omega) b hb
      · intro i h
        cases i with
        | zero => rfl
        | succ i => exact O.out i (by simpa using h)
    | mu m0 =>
      have e : (match findTag sl' k0, outsOf sl' (k0 + 1) ars with
        | some m, some ms => some (m :: ms)
        | _, _ => none) = some outs := e
      cases et : findTag sl' k0 with
      | none => rw [et] at e; cases e
      | some m =>
        cases eo : outsOf sl' (k0 + 1) ars with
        | none => rw [et, eo] at e; cases e
        | some ms =>
          rw [et, eo] at e
          cases e
          obtain ⟨ars', fq, e1, e2, O⟩ := outs_sr sr' le (k0 + 1) ars vs (fun i => f0 (i + 1)) ms hl' (fun i s h => hs (i + 1) s (by simpa [slotsOf] using h)) eo
          have h0 := hs 0 (.own (some k0) m0) (by simp [slotsOf])
          obtain ⟨a0, ea0, o0, t0, _⟩ := h0
          obtain ⟨j, ej⟩ := findTag_at et
          obtain ⟨a, ea, o, t1, _⟩ := sr'.slot j _ ej
          have ha : a = a0 := Option.some.inj ((t1 k0 rfl).symm.trans (t0 k0 rfl))
          subst ha
          refine ⟨.mu m :: ars', fun i => match i with | 0 => fp' j | i + 1 => fq i, by simp [arsOut, e1], by simp [e2], ?_, ?_, ?_, ?_, ?_⟩
          · intro i s h
            cases i with
            | zero =>
              have h : some (Sl.own (some k0) m) = some s := h
              cases h
              exact ⟨a, ea0, o, fun k z => by cases z; exact t0 k0 rfl, fun z => by cases z⟩
            | succ i => exact O.slot i s (by simpa [slotsOf] using h)
          · intro i b hb
            cases i with
            | zero => exact ⟨j, k0, m, ej, Nat.le_refl _, hb⟩
            | succ i =>
              obtain ⟨j', k', m', h1, h2, h3⟩ := O.src i b hb
              exact ⟨j', k', m', h1, by omega, h3⟩
          · intro i
            cases i with
            | zero => exact sr'.nd j
            | succ i => exact O.nd i
          · intro i i' hij b hb
            cases i with
            | zero =>
              cases i' with
              | zero => exact absurd rfl hij
              | succ i' =>
                intro z
                obtain ⟨j', k', m', h1, h2, h3⟩ := O.src i' b z
                have : j' ≠ j := by
                  rintro rfl
                  rw [ej] at h1
                  cases h1
                  omega
                exact sr'.dj j j' (Ne.symm this) b hb h3
            | succ i =>
              cases i' with
              | zero =>
                intro z
                obtain ⟨j', k', m', h1, h2, h3⟩ := O.src i b hb
                have : j' ≠ j := by
                  rintro rfl
                  rw [ej] at h1
                  cases h1
                  omega
                exact sr'.dj j j' (Ne.symm this) b z h3
              | succ i' => exact O.dj i i' (by omega) b hb
          · intro i h
            cases i with
            | zero => simp at h
            | succ i => exact O.out i (by simpa using h)
  | _, [], _ :: _, _, _, hl, _, _ => by simp at hl
  | _, _ :: _, [], _, _, hl, _, _ => by simp at hl
/-- the end of a def, as its caller sees it -/
theorem end_sr (sr : SR K pa I H (vs.map some) (slotsOf 0 ars) fp) (sr' : SR K pa I' H' σ' sl' fp') (mv : Mv fp I H fp' I' H') (eo : outsOf sl' 0 ars = some outs) :
    ∃ ars' fq, arsOut ars outs = some ars' ∧ SR K pa I' H' (vs.map some) (slotsOf 0 ars') fq ∧ Mv fp I H fq I' H' ∧ ∀ b, FP fq b → ∃ (j k : Nat) (m : Mu), sl'[j]? = some (Sl.own (some k) m) ∧ b ∈ fp' j := by
  have hl : vs.length = ars.length := by
    have := sr.len
    rw [slotsOf_length, List.length_map] at this
    exact this.symm
  obtain ⟨ars', fq, e1, e2, O⟩ := outs_sr sr' mv.tr.le 0 ars vs fp outs hl sr.slot eo
  have src : ∀ b, FP fq b → ∃ (j k : Nat) (m : Mu), sl'[j]? = some (Sl.own (some k) m) ∧ b ∈ fp' j := fun b ⟨i, hi⟩ => by
    obtain ⟨j, k, m, h1, _, h3⟩ := O.src i b hi
    exact ⟨j, k, m, h1, h3⟩
  have srcF : ∀ b, FP fq b → FP fp' b := fun b h => by
    obtain ⟨j, k, m, _, h3⟩ := src b h
    exact ⟨j, h3⟩
  refine ⟨ars', fq, e1, ⟨sr'.sub, by rw [slotsOf_length, List.length_map, hl, e2], O.slot, fun i h => O.out i (by rw [slotsOf_length] at h; exact h), fun i b hb => sr'.nfree (srcF b ⟨i, hb⟩), O.nd, O.dj, sr'.pin⟩, ⟨mv.tr, fun b h => mv.fresh b (srcF b h)⟩, src⟩
end
section
variable {P : Program} {w : World} {K : PySem.W.Frag} {mg : Str → Option Value} {base : Heap}
/-- the body's outcome gives the promise -/
theorem run_body {X : Cx} {W : WX} {n : Nat} {own : Bool} {body : List Stmt} {g : Den Fl} {vs : List V} {H : Hp} {Q : VK} {E : XK} (hK : X.K = K) (hm : X.mg = mg) (hW : ∀ c d σ H', E c d H' → W c d σ H') (b : ASs X W body g) (hn : X.N.length = n)
    (h : spOf K mg (runFn n own g) vs H Q E) : tS X W g { nx := fun _ H' => Q .non H', rt := Q } (L2.start X.N vs) H := by
  subst hK hm hn
  obtain ⟨pa, I, fp, ars, sr, pf, h⟩ := h
  have hl : vs.length = ars.length := by
    have := sr.len
    rw [slotsOf_length, List.length_map] at this
    exact this.symm
  refine ⟨pa, I, slotsOf 0 ars ++ List.replicate (X.N.length - ars.length) .em, fp, by unfold L2.start; rw [hl]; exact sr.pad _, ?_⟩
  unfold runFn at h
  cases e : g (slotsOf 0 ars ++ List.replicate (X.N.length - ars.length) .em) with
  | no => rw [e] at h; exact h
  | err x s =>
    rw [e] at h
    cases eo : outsOf s 0 ars with
    | none => simp only [eo] at h
    | some outs =>
      simp only [eo] at h
      intro cls dd σ' I' H' fp' sr' mv er
      obtain ⟨ars', fq, e1, s2, m2, _⟩ := end_sr sr sr' mv eo
      exact hW _ _ _ _ (h cls dd I' H' fq ars' e1 m2 s2 er)
  | ok fl s =>
    rw [e] at h
    cases er : retOf own s fl with
    | none => simp only [er] at h
    | some o =>
      cases eo : outsOf s 0 ars with
      | none => simp only [er, eo] at h
      | some outs =>
        simp only [er, eo] at h
        intro σ' I' H' fp' sr' mv
        obtain ⟨ars', fq, e1, s2, m2, src⟩ := end_sr sr sr' mv eo
        -- an owned thing that no parameter is
        have away : ∀ {i : Nat} {m : Mu}, s[i]? = some (Sl.own none m) → ∀ b ∈ fp' i, H b = none ∧ ¬ FP fq b := fun {i m} ei b hb => by
          obtain ⟨a, _, _, _, t⟩ := sr'.slot i _ ei
          have n1 : b ∉ pa.pf := t rfl b hb
          refine ⟨?_, fun z => ?_⟩
          · rcases mv.fresh b ⟨i, hb⟩ with q | q
            · exact absurd (pf b q) n1
            · exact q
          · obtain ⟨j, k, m', h1, h3⟩ := src b z
            by_cases hij : i = j
            · subst hij
              rw [ei] at h1
              cases h1
            · exact sr'.dj i j hij b hb h3
        -- a thing told for good
        have told : ∀ {a : Addr} {m : Mu} {f : List Addr}, Own X.K I' H' a m f → (∀ b ∈ f, H b = none ∧ I' b = none ∧ ¬ FP fq b) → (∀ v I' H' fp' ars', arsOut ars outs = some ars' → Mv fp I H fp' I' H' → SR X.K pa I' H' (vs.map some) (slotsOf 0 ars') fp' → OR X.K (vs.map some) I' H' fp' H v (.d m.toD) → Q v H') → Q (.ref a) H' := fun {a m f} o q hq => by
          obtain ⟨s3, r⟩ := s2.frozeT o q
          refine hq (.ref a) _ H' fq ars' e1 ⟨⟨m2.tr.le.trans (frz_le fun b hb => (q b hb).2.1), m2.tr.keep, fun b u hb n i => ?_, m2.tr.there⟩, m2.fresh⟩ s3 r
          rw [frz_out fun w => by rw [(q b w).1] at hb; cases hb]
          exact m2.tr.fr b u hb n i
        cases fl with
        | nx =>
          cases er
          exact h .non I' H' fq ars' e1 m2 s2 .non
        | bk => cases er
        | ct => cases er
        | rt o' =>
          intro v hv
          cases o' with
          | d x =>
            cases er
            exact h v I' H' fq ars' e1 m2 s2 hv
          | set xs => cases er
          | scr ns => cases er
          | tmp m =>
            obtain ⟨a, f, rfl, oo, nd, q⟩ := hv
            have nq : ∀ b ∈ f, ¬ FP fq b := fun b hb z => by
              obtain ⟨j, _, _, _, h3⟩ := src b z
              exact (q b hb).2.2 ⟨j, h3⟩
            cases own with
            | true =>
              cases er
              exact h (.ref a) I' H' fq ars' e1 m2 s2 ⟨a, f, rfl, oo, nd, fun b hb => ⟨(q b hb).1, (q b hb).2.1, nq b hb⟩⟩
            | false =>
              cases er
              exact told oo (fun b hb => ⟨(q b hb).1, (q b hb).2.1, nq b hb⟩) h
          | sl i =>
            have hv : σ'[i]? = some (some v) := hv
            have er : (match s[i]? with
              | some (.val x) => some (O.d x)
              | some (.own none m) => some (if own = true then O.tmp m else O.d m.toD)
              | _ => none) = some o := er
            cases ei : s[i]? with
            | none => rw [ei] at er; cases er
            | some z =>
              rw [ei] at er
              cases z with
              | em => cases er
              | scr ns => cases er
              | val x =>
                cases er
                obtain ⟨_, w', e3, r⟩ := sr'.slot i _ ei
                rw [hv] at e3
                have e3 : some v = some w' := e3
                cases e3
                exact h v I' H' fq ars' e1 m2 s2 r
              | own t m =>
                cases t with
                | some k => cases er
                | none =>
                  obtain ⟨a, e3, oo, _⟩ := sr'.slot i _ ei
                  rw [hv] at e3
                  have e3 : some v = some (V.ref a) := e3
                  cases e3
                  have q : ∀ b ∈ fp' i, H b = none ∧ I' b = none ∧ ¬ FP fq b := fun b hb => ⟨(away ei b hb).1, sr'.free i b hb, (away ei b hb).2⟩
                  cases own with
                  | true =>
                    cases er
                    exact h (.ref a) I' H' fq ars' e1 m2 s2 ⟨a, fp' i, rfl, oo, sr'.nd i, q⟩
                  | false =>
                    cases er
                    exact told oo q h
/-- a def keeps its denotation's promise -/
theorem ok_fn {x qual : Str} {st : Stmt} {f : Addr} {fd : FuncData} {N ps : List Str} {k n : Nat} {own : Bool} {g : Den Fl} (F : Fun K x qual st f fd) (S : FnScope N ps (defScope st)) (hN : N.length = n)
    (hb : ∀ (X : Cx) (W : WX), X.K = K → X.mg = mg → X.N = N → X.prog = P → X.w = w → X.base = base → X.env.scope = defScope st → X.calm = true → X.fn = (fun _ => true) → PassesOwn (model X.prog X.w) X.A X.env X.xe → Room k X.A → ASs X W (defBody st) g) :
    FnOk P w K mg base CX0 (k + 1) f fd ps (spOf K mg fun ars => if ars.length = ps.length then runFn n own g ars else .no) := by
  refine F.ok S (fun vs H Q E h => spOf_len (fun ars z => by simp only [if_neg z]) h) (fun cdv A outer s H vs Q E hr h => ?_)
  have b := hb (cxOf CX0 P w K mg base N qual (defScope st) f cdv A outer s H E).nox (fun c d σ H' => E c d H') rfl rfl rfl rfl rfl rfl rfl rfl rfl PassesOwn.never hr
  refine ⟨_, b.ps, run_body (own := own) rfl rfl (fun _ _ _ _ z => z) b hN ?_⟩
  obtain ⟨pa, I, fp, ars, sr, pf, h⟩ := h
  refine ⟨pa, I, fp, ars, sr, pf, ?_⟩
  by_cases z : ars.length = ps.length
  · simp only [if_pos z] at h
    exact h
  · simp only [if_neg z] at h
    try exact h.elim
end

/-! ### a call -/
def arOf (sl : Sls) : O → Option Ar
  | .d x => some (.val x)
  | .scr ns => some (.scr ns)
  | .tmp m => some (.mu m)
  | .sl i => match sl[i]? with
    | some (.own _ m) => some (.mu m)
    | some (.val x) => some (.val x)
    | _ => none
  | .set _ => none
def arsOf (sl : Sls) : List O → Option (List Ar)
  | [] => some []
  | o :: r => match arOf sl o, arsOf sl r with
    | some a, some as => some (a :: as)
    | _, _ => none
/-- the slots that are handed on to be changed -/
def slsOf (sl : Sls) : List O → List Nat
  | [] => []
  | .sl i :: r => match sl[i]? with
    | some (.own _ _) => i :: slsOf sl r
    | _ => slsOf sl r
  | _ :: r => slsOf sl r
/-- they are taken out .. -/
def takeOut : Sls → List Nat → Sls
  | sl, [] => sl
  | sl, i :: r => takeOut (sl.set i .em) r
/-- .. and come back, holding what they hold then -/
def putBack (sl0 : Sls) : List O → List Mu → Sls → Sls
  | [], _, sl => sl
  | .sl i :: r, ms, sl => match sl0[i]? with
    | some (.own t _) => match ms with
      | m :: ms => putBack sl0 r ms (sl.set i (.own t m))
      | [] => sl
    | _ => putBack sl0 r ms sl
  | .tmp _ :: r, ms, sl => putBack sl0 r ms.tail sl
  | _ :: r, ms, sl => putBack sl0 r ms sl
def untagged (sl : Sls) (i : Nat) : Bool := match sl[i]? with
  | some (.own none _) => true
  | _ => false
def callOk (sl : Sls) (os : List O) : Bool := decide (slsOf sl os).Nodup && ((slsOf sl os).all (untagged sl) || (slsOf sl os).all fun i => !untagged sl i)
def resOk : O → Bool
  | .d _ => true
  | .tmp _ => true
  | _ => false
def dCallO (g : FnD) (os : List O) : Den O := fun sl => match arsOf sl os with
  | some ars => if callOk sl os = true then (match g ars with
    | .ret o outs => if resOk o = true then .ok o (putBack sl os outs (takeOut sl (slsOf sl os))) else .no
    | .err _ _ => .no
    | .no => .no) else .no
  | none => .no
def dCall (g : FnD) (fa : Den (List O)) : Den O := fa.bind (dCallO g)
section
variable {K : PySem.W.Frag} {mg : Str → Option Value} {pa : PAs} {I H I' H' H0 : Hp} {σ σ' : L2.St} {sl sl' sl0 : Sls} {fp fp' : Fps} {vs : List V} {ars ars' : List Ar} {outs : List Mu} {os : List O}
theorem SR.putEm (sr : SR K pa I H σ sl fp) {i : Nat} (hi : i < sl.length) : SR K pa I H σ (sl.set i .em) (fpSet fp i []) :=
  sr.set rfl (fun _ _ => rfl) (show SlR K pa I H _ [] .em from rfl) hi List.nodup_nil (fun b hb => by simp at hb)
theorem take_sr : ∀ (is : List Nat) (sl : Sls) (fp : Fps), SR K pa I H σ sl fp → (∀ i ∈ is, i < sl.length) → ∃ fp', SR K pa I H σ (takeOut sl is) fp' ∧ (∀ i ∈ is, fp' i = []) ∧ ∀ j, fp' j = [] ∨ fp' j = fp j
  | [], sl, fp, sr, _ => ⟨fp, sr, fun i h => by simp at h, fun j => .inr rfl⟩
  | i :: r, sl, fp, sr, h => by
    obtain ⟨fp', s2, z, k⟩ := take_sr r (sl.set i .em) (fpSet fp i []) (sr.putEm (h i (by simp))) (fun j hj => by rw [List.length_set]; exact h j (by simp [hj]))
    have ki : fp' i = [] := by
      rcases k i with q | q
      · exact q
      · rw [q, fpSet_same]
    refine ⟨fp', s2, fun j hj => ?_, fun j => ?_⟩
    · rcases List.mem_cons.mp hj with e | hj
      · subst e; exact ki
      · exact z j hj
    · by_cases e : j = i
      · subst e; exact .inl ki
      · rcases k j with q | q
        · exact .inl q
        · rw [fpSet_ne e] at q; exact .inr q
theorem takeOut_length : ∀ (is : List Nat) (sl : Sls), (takeOut sl is).length = sl.length
  | [], _ => rfl
  | i :: r, sl => by
    show (takeOut (sl.set i .em) r).length = sl.length
    rw [takeOut_length r, List.length_set]
theorem slsOf_mem : ∀ {os : List O} {i : Nat}, i ∈ slsOf sl os → ∃ t m, sl[i]? = some (Sl.own t m)
  | [], _, h => by simp [slsOf] at h
  | .sl j :: r, i, h => by
    unfold slsOf at h
    split at h
    · rename_i t m e
      rcases List.mem_cons.mp h with q | q
      · subst q; exact ⟨t, m, e⟩
      · exact slsOf_mem q
    · exact slsOf_mem h
  | .d _ :: r, i, h => slsOf_mem (os := r) (by simpa [slsOf] using h)
  | .tmp _ :: r, i, h => slsOf_mem (os := r) (by simpa [slsOf] using h)
  | .set _ :: r, i, h => slsOf_mem (os := r) (by simpa [slsOf] using h)
  | .scr _ :: r, i, h => slsOf_mem (os := r) (by simpa [slsOf] using h)
/-- the arguments as the callee's slots -/
structure Args (K : PySem.W.Frag) (I H : Hp) (σ : L2.St) (sl : Sls) (fp : Fps) (H0 : Hp) (os : List O) (fl : List (List Addr)) (pre ad : List Addr) (vs : List V) (ars : List Ar) (fc : Fps) : Prop where
  slot : ∀ pf i s, (slotsOf pre.length ars)[i]? = some s → SlR K ⟨pre ++ ad, pf⟩ I H ((vs.map some)[i]?.join) (fc i) s
  src : ∀ i, ∀ b ∈ fc i, (∃ j ∈ slsOf sl os, b ∈ fp j) ∨ (¬ FP fp b ∧ H0 b = none ∧ ∃ f ∈ fl, b ∈ f)
  free : ∀ i, ∀ b ∈ fc i, I b = none
  nd : ∀ i, (fc i).Nodup
  dj : ∀ i j, i ≠ j → ∀ b ∈ fc i, b ∉ fc j
  out : ∀ i, ars.length ≤ i → fc i = []
  len : vs.length = ars.length
theorem args_sr (sr : SR K pa I H σ sl fp) : ∀ (os : List O) (vs : List V) (fl : List (List Addr)) (ars : List Ar) (pre : List Addr), ORl K σ I H fp H0 vs os fl → arsOf sl os = some ars → (slsOf sl os).Nodup →
    ∃ ad fc, Args K I H σ sl fp H0 os fl pre ad vs ars fc
  | [], [], [], ars, pre, _, e, _ => by
    cases e
    exact ⟨[], fun _ => [], fun _ i s h => by simp [slotsOf] at h, fun i b h => by simp at h, fun i b h => by simp at h, fun i => List.nodup_nil, fun i j _ b h => by simp at h, fun i _ => rfl, rfl⟩
  | o :: os, v :: vs, f0 :: fl, ars, pre, h, e, nd => by
    have e : (match arOf sl o, arsOf sl os with
      | some a, some as => some (a :: as)
      | _, _ => none) = some ars := e
    cases ea : arOf sl o with
    | none => rw [ea] at e; cases e
    | some ar =>
      cases eas : arsOf sl os with
      | none => rw [ea, eas] at e; cases e
      | some ars1 =>
        rw [ea, eas] at e
        cases e
        -- an argument that is told
        have told : ∀ (s0 : Sl), (∀ k, slotsOf k (ar :: ars1) = s0 :: slotsOf k ars1) → (∀ q pf, SlR K ⟨q, pf⟩ I H (some v) [] s0) → slsOf sl (o :: os) = slsOf sl os → ∃ ad fc, Args K I H σ sl fp H0 (o :: os) (f0 :: fl) pre ad (v :: vs) (ar :: ars1) fc := by
          intro s0 e0 r0 es
          rw [es] at nd
          obtain ⟨ad, fc, A⟩ := args_sr sr os vs fl ars1 pre h.2.1 eas nd
          refine ⟨ad, fun i => match i with | 0 => [] | i + 1 => fc i, ⟨?_, ?_, ?_, ?_, ?_, ?_, by simp [A.len]⟩⟩
          · intro pf i s hs
            rw [e0] at hs
            cases i with
            | zero =>
              have hs : some s0 = some s := hs
              cases hs
              exact r0 _ _
            | succ i => exact A.slot pf i s (by simpa using hs)
          · intro i b hb
            cases i with
            | zero => simp at hb
            | succ i =>
              rcases A.src i b hb with ⟨j, h1, h2⟩ | ⟨h1, h2, o', h3, h4⟩
              · exact .inl ⟨j, by rw [es]; exact h1, h2⟩
              · exact .inr ⟨h1, h2, o', by simp [h3], h4⟩
          · intro i b hb
            cases i with
            | zero => simp at hb
            | succ i => exact A.free i b hb
          · intro i
            cases i with
            | zero => exact List.nodup_nil
            | succ i => exact A.nd i
          · intro i j hij b hb
            cases i with
            | zero => simp at hb
            | succ i =>
              cases j with
              | zero => simp
              | succ j => exact A.dj i j (by omega) b hb
          · intro i hi
            cases i with
            | zero => rfl
            | succ i => exact A.out i (by simpa using hi)
        -- an argument that is owned
        have owned : ∀ (a : Addr) (m : Mu) (f : List Addr), ar = .mu m → v = .ref a → Own K I H a m f → f.Nodup → (∀ b ∈ f, I b = none) → (slsOf sl os).Nodup →
            (∀ b ∈ f, (∃ j ∈ slsOf sl (o :: os), b ∈ fp j) ∨ (¬ FP fp b ∧ H0 b = none ∧ b ∈ f0)) → (∀ j ∈ slsOf sl os, j ∈ slsOf sl (o :: os)) →
            (∀ b ∈ f, (∀ j ∈ slsOf sl os, b ∉ fp j) ∧ (¬ FP fp b → ∀ g ∈ fl, b ∉ g)) → ∃ ad fc, Args K I H σ sl fp H0 (o :: os) (f0 :: fl) pre ad (v :: vs) (ar :: ars1) fc := by
          rintro a m f rfl rfl ow ndf fr ndo src inc apart
          obtain ⟨ad, fc, A⟩ := args_sr sr os vs fl ars1 (pre ++ [a]) h.2.1 eas ndo
          have ez : ∀ pf : List Addr, (⟨pre ++ [a] ++ ad, pf⟩ : PAs) = ⟨pre ++ (a :: ad), pf⟩ := fun pf => by rw [List.append_assoc]; rfl
          have far : ∀ i, ∀ b ∈ f, b ∉ fc i := fun i b hb z => by
            rcases A.src i b z with ⟨j, h1, h2⟩ | ⟨h1, _, o', h3, h4⟩
            · exact (apart b hb).1 j h1 h2
            · exact (apart b hb).2 h1 o' h3 h4
          refine ⟨a :: ad, fun i => match i with | 0 => f | i + 1 => fc i, ⟨?_, ?_, ?_, ?_, ?_, ?_, by simp [A.len]⟩⟩
          · intro pf i s hs
            cases i with
            | zero =>
              have hs : some (Sl.own (some pre.length) m) = some s := hs
              cases hs
              exact ⟨a, rfl, ow, fun k z => by cases z; simp, fun z => by cases z⟩
            | succ i =>
              have hs : (slotsOf (pre.length + 1) ars1)[i]? = some s := hs
              have q := A.slot pf i s (by simpa using hs)
              rw [ez] at q
              exact q
          · intro i b hb
            cases i with
            | zero =>
              rcases src b hb with q | ⟨q1, q2, q3⟩
              · exact .inl q
              · exact .inr ⟨q1, q2, f0, by simp, q3⟩
            | succ i =>
              rcases A.src i b hb with ⟨j, h1, h2⟩ | ⟨h1, h2, o', h3, h4⟩
              · exact .inl ⟨j, inc j h1, h2⟩
              · exact .inr ⟨h1, h2, o', by simp [h3], h4⟩
          · intro i b hb
            cases i with
            | zero => exact fr b hb
            | succ i => exact A.free i b hb
          · intro i
            cases i with
            | zero => exact ndf
            | succ i => exact A.nd i
          · intro i j hij b hb
            cases i with
            | zero =>
              cases j with
              | zero => exact absurd rfl hij
              | succ j => exact far j b hb
            | succ i =>
              cases j with
              | zero => exact fun z => far i b z hb
              | succ j => exact A.dj i j (by omega) b hb
          · intro i hi
            cases i with
            | zero => simp at hi
            | succ i => exact A.out i (by simpa using hi)
        cases o with
        | d x =>
          cases ea
          exact told (.val x) (fun k => rfl) (fun q pf => ⟨rfl, v, rfl, h.1.2⟩) rfl
        | scr ns =>
          cases ea
          obtain ⟨a, rfl, q⟩ := h.1.2
          exact told (.scr ns) (fun k => rfl) (fun _ _ => ⟨rfl, a, rfl, q⟩) rfl
        | set xs => cases ea
        | tmp m =>
          cases ea
          obtain ⟨a, rfl, ow, ndf, q⟩ := h.1
          exact owned a m f0 rfl rfl ow ndf (fun b hb => (q b hb).2.1) nd (fun b hb => .inr ⟨(q b hb).2.2, (q b hb).1, hb⟩) (fun j hj => hj) (fun b hb => ⟨fun j _ z => (q b hb).2.2 ⟨j, z⟩, fun _ g hg => h.2.2 b hb g hg⟩)
        | sl i =>
          have hv : σ[i]? = some (some v) := h.1.2
          have ea' : (match sl[i]? with
            | some (.own _ m) => some (Ar.mu m)
            | some (.val x) => some (Ar.val x)
            | _ => none) = some ar := ea
          cases es : sl[i]? with
          | none => rw [es] at ea'; cases ea'
          | some s0 =>
            rw [es] at ea'
            cases s0 with
            | em => cases ea'
            | scr ns => cases ea'
            | val x =>
              cases ea'
              obtain ⟨_, w, e3, r⟩ := sr.slot i _ es
              rw [hv] at e3
              have e3 : some v = some w := e3
              cases e3
              exact told (.val x) (fun k => rfl) (fun q pf => ⟨rfl, v, rfl, r⟩) (by simp [slsOf, es])
            | own t m =>
              cases ea'
              obtain ⟨a, e3, ow, _⟩ := sr.slot i _ es
              rw [hv] at e3
              have e3 : some v = some (V.ref a) := e3
              cases e3
              have ec : slsOf sl (.sl i :: os) = i :: slsOf sl os := by simp [slsOf, es]
              rw [ec] at nd
              obtain ⟨n1, n2⟩ := List.nodup_cons.mp nd
              exact owned a m (fp i) rfl rfl ow (sr.nd i) (sr.free i) n2 (fun b hb => .inl ⟨i, by rw [ec]; simp, hb⟩) (fun j hj => by rw [ec]; simp [hj]) (fun b hb => ⟨fun j hj => sr.dj i j (fun z => n1 (z ▸ hj)) b hb, fun z => absurd ⟨i, hb⟩ z⟩)
  | [], [], _ :: _, _, _, h, _, _ => h.elim
  | [], _ :: _, [], _, _, h, _, _ => h.elim
  | [], _ :: _, _ :: _, _, _, h, _, _ => h.elim
  | _ :: _, [], [], _, _, h, _, _ => h.elim
  | _ :: _, [], _ :: _, _, _, h, _, _ => h.elim
  | _ :: _, _ :: _, [], _, _, h, _, _ => h.elim
/-- what was not handed on stands as it stood -/
theorem SR.frame {F : Addr → Prop} (sr : SR K pa I H σ sl fp) (t : Tr F I H I' H') (sub : Sub I' H') (ap : ∀ b, FP fp b → ¬ F b) : SR K pa I' H' σ sl fp where
  sub := sub
  len := sr.len
  slot := fun i s e => (sr.slot i s e).keep t.le fun b hb => by
    obtain ⟨u, hu⟩ := sr.there ⟨i, hb⟩
    rw [hu]
    exact t.keep b u hu (ap b ⟨i, hb⟩)
  out := sr.out
  free := fun i b hb => by
    obtain ⟨u, hu⟩ := sr.there ⟨i, hb⟩
    exact t.fr b u hu (ap b ⟨i, hb⟩) (sr.free i b hb)
  nd := sr.nd
  dj := sr.dj
  pin := fun b hb => by
    obtain ⟨o, e⟩ := sr.pin b hb
    exact t.there b o e
/-- what was handed on comes back -/
theorem put_sr {pc : PAs} : ∀ (os : List O) (vs : List V) (fl : List (List Addr)) (outs : List Mu) (ars ars' : List Ar) (k0 : Nat) (fq : Fps) (sl : Sls) (fp : Fps), ORl K σ I H fp' H0 vs os fl → arsOf sl0 os = some ars → arsOut ars outs = some ars' →
    (∀ i s, (slotsOf k0 ars')[i]? = some s → SlR K pc I' H' ((vs.map some)[i]?.join) (fq i) s) → (∀ i, ∀ b ∈ fq i, I' b = none ∧ ¬ FP fp b) → (∀ i, (fq i).Nodup) → (∀ i j, i ≠ j → ∀ b ∈ fq i, b ∉ fq j) →
    SR K pa I' H' σ sl fp → (∀ i ∈ slsOf sl0 os, fp i = [] ∧ i < sl.length) → (slsOf sl0 os).Nodup → (∀ i ∈ slsOf sl0 os, ∀ t m, sl0[i]? = some (Sl.own t m) → (∀ a, σ[i]? = some (some (.ref a)) → ∀ k, t = some k → pa.ad[k]? = some a) ∧ (t = none → ∀ b, FP fq b → b ∉ pa.pf)) →
    ∃ fp2, SR K pa I' H' σ (putBack sl0 os outs sl) fp2 ∧ ∀ b, FP fp2 b → FP fp b ∨ FP fq b
  | [], [], [], _, _, _, _, _, sl, fp, _, _, _, _, _, _, _, sr, _, _, _ => ⟨fp, sr, fun b h => .inl h⟩
  | o :: os, v :: vs, f0 :: fl, outs, ars, ars', k0, fq, sl, fp, h, e, eo, hs, hf, hn, hd, sr, hi, nd, ht => by
    have e : (match arOf sl0 o, arsOf sl0 os with
      | some a, some as => some (a :: as)
      | _, _ => none) = some ars := e
    cases ea : arOf sl0 o with
    | none => rw [ea] at e; cases e
    | some ar =>
      cases eas : arsOf sl0 os with
      | none => rw [ea, eas] at e; cases e
      | some ars1 =>
        rw [ea, eas] at e
        cases e
        have tl : ∀ b, FP (fun i => fq (i + 1)) b → FP fq b := fun b ⟨i, q⟩ => ⟨i + 1, q⟩
        -- nothing comes back here
        have skip : ∀ (outs1 : List Mu) (ar' : Ar) (ars1' : List Ar) (k1 : Nat), arsOut ars1 outs1 = some ars1' → (∀ i s, (slotsOf k1 ars1')[i]? = some s → (slotsOf k0 ars')[i + 1]? = some s) → slsOf sl0 (o :: os) = slsOf sl0 os → putBack sl0 (o :: os) outs sl = putBack sl0 os outs1 sl →
            ∃ fp2, SR K pa I' H' σ (putBack sl0 (o :: os) outs sl) fp2 ∧ ∀ b, FP fp2 b → FP fp b ∨ FP fq b := by
          intro outs1 ar' ars1' k1 e1 e2 e3 e4
          rw [e3] at hi nd ht
          rw [e4]
          obtain ⟨fp2, s2, q⟩ := put_sr (pc := pc) os vs fl outs1 ars1 ars1' k1 (fun i => fq (i + 1)) sl fp h.2.1 eas e1 (fun i s z => hs (i + 1) s (e2 i s z)) (fun i => hf (i + 1)) (fun i => hn (i + 1)) (fun i j hij => hd (i + 1) (j + 1) (by omega)) sr hi nd (fun i z t m y => ⟨(ht i z t m y).1, fun w b hb => (ht i z t m y).2 w b (tl b hb)⟩)
          exact ⟨fp2, s2, fun b hb => (q b hb).imp id (tl b)⟩
        have mapS : ∀ {ms : List Mu} {a : Ar}, (arsOut ars1 ms).map (a :: ·) = some ars' → ∃ r, arsOut ars1 ms = some r ∧ ars' = a :: r := fun {ms a} z => by
          obtain ⟨r, h1, h2⟩ := Option.map_eq_some_iff.mp z
          exact ⟨r, h1, h2.symm⟩
        cases o with
        | d x =>
          cases ea
          obtain ⟨r, e1, rfl⟩ := mapS (show (arsOut ars1 outs).map (Ar.val x :: ·) = some ars' from eo)
          exact skip outs (.val x) r k0 e1 (fun i s z => by simpa [slotsOf] using z) rfl rfl
        | scr ns =>
          cases ea
          obtain ⟨r, e1, rfl⟩ := mapS (show (arsOut ars1 outs).map (Ar.scr ns :: ·) = some ars' from eo)
          exact skip outs (.scr ns) r k0 e1 (fun i s z => by simpa [slotsOf] using z) rfl rfl
        | set xs => cases ea
        | tmp m =>
          cases ea
          cases outs with
          | nil => cases eo
          | cons m1 ms =>
            obtain ⟨r, e1, rfl⟩ := mapS (show (arsOut ars1 ms).map (Ar.mu m1 :: ·) = some ars' from eo)
            exact skip ms (.mu m1) r (k0 + 1) e1 (fun i s z => by simpa [slotsOf] using z) rfl rfl
        | sl i =>
          have ea' : (match sl0[i]? with
            | some (.own _ m) => some (Ar.mu m)
            | some (.val x) => some (Ar.val x)
            | _ => none) = some ar := ea
          cases es : sl0[i]? with
          | none => rw [es] at ea'; cases ea'
          | some s0 =>
            rw [es] at ea'
            cases s0 with
            | em => cases ea'
            | scr ns => cases ea'
            | val x =>
              cases ea'
              obtain ⟨r, e1, rfl⟩ := mapS (show (arsOut ars1 outs).map (Ar.val x :: ·) = some ars' from eo)
              exact skip outs (.val x) r k0 e1 (fun i s z => by simpa [slotsOf] using z) (by simp [slsOf, es]) (by simp [putBack, es])
            | own t m0 =>
              cases ea'
              cases outs with
              | nil => cases eo
              | cons m1 ms =>
                obtain ⟨r, e1, rfl⟩ := mapS (show (arsOut ars1 ms).map (Ar.mu m1 :: ·) = some ars' from eo)
                have ec : slsOf sl0 (.sl i :: os) = i :: slsOf sl0 os := by simp [slsOf, es]
                have ep : putBack sl0 (.sl i :: os) (m1 :: ms) sl = putBack sl0 os ms (sl.set i (.own t m1)) := by simp [putBack, es]
                rw [ec] at hi nd ht
                rw [ep]
                obtain ⟨n1, n2⟩ := List.nodup_cons.mp nd
                obtain ⟨z1, z2⟩ := hi i (by simp)
                have hv : σ[i]? = some (some v) := h.1.2
                obtain ⟨a, e3, ow, _, _⟩ := hs 0 (.own (some k0) m1) (by simp [slotsOf])
                have e3 : some v = some (V.ref a) := by simpa using e3
                cases e3
                have S : SR K pa I' H' σ (sl.set i (.own t m1)) (fpSet fp i (fq 0)) := by
                  refine sr.set rfl (fun _ _ => rfl) (show SlR K pa I' H' _ (fq 0) (.own t m1) from ⟨a, by rw [hv]; rfl, ow, ?_, ?_⟩) z2 (hn 0) (fun b hb => ⟨(hf 0 b hb).1, fun j _ z => (hf 0 b hb).2 ⟨j, z⟩⟩)
                  · exact (ht i (by simp) t m0 es).1 a hv
                  · exact fun w b hb => (ht i (by simp) t m0 es).2 w b ⟨0, hb⟩
                obtain ⟨fp2, s2, q⟩ := put_sr (pc := pc) os vs fl ms ars1 r (k0 + 1) (fun i => fq (i + 1)) (sl.set i (.own t m1)) (fpSet fp i (fq 0)) h.2.1 eas e1 (fun i s z => hs (i + 1) s (by simpa [slotsOf] using z))
                  (fun j b hb => ⟨(hf (j + 1) b hb).1, fun z => (FP.of_set z).elim (fun w => hd (j + 1) 0 (by omega) b hb w) (hf (j + 1) b hb).2⟩) (fun j => hn (j + 1)) (fun j k hjk => hd (j + 1) (k + 1) (by omega)) S
                  (fun j hj => ⟨by rw [fpSet_ne (fun z : j = i => n1 (by rw [← z]; exact hj))]; exact (hi j (by simp [hj])).1, by rw [List.length_set]; exact (hi j (by simp [hj])).2⟩) n2
                  (fun j z t m y => ⟨(ht j (by simp [z]) t m y).1, fun w b hb => (ht j (by simp [z]) t m y).2 w b (tl b hb)⟩)
                refine ⟨fp2, s2, fun b hb => ?_⟩
                rcases q b hb with w | w
                · exact (FP.of_set w).elim (fun y => .inr ⟨0, y⟩) .inl
                · exact .inr (tl b w)
  | [], [], _ :: _, _, _, _, _, _, _, _, h, _, _, _, _, _, _, _, _, _, _ => h.elim
  | [], _ :: _, [], _, _, _, _, _, _, _, h, _, _, _, _, _, _, _, _, _, _ => h.elim
  | [], _ :: _, _ :: _, _, _, _, _, _, _, _, h, _, _, _, _, _, _, _, _, _, _ => h.elim
  | _ :: _, [], [], _, _, _, _, _, _, _, h, _, _, _, _, _, _, _, _, _, _ => h.elim
  | _ :: _, [], _ :: _, _, _, _, _, _, _, _, h, _, _, _, _, _, _, _, _, _, _ => h.elim
  | _ :: _, _ :: _, [], _, _, _, _, _, _, _, h, _, _, _, _, _, _, _, _, _, _ => h.elim
end
section
variable {X : Cx} {W : WX} {pa : PAs} {σ : L2.St} {I H : Hp} {fp : Fps} {Q : VK}
theorem tE_callF {g : FnD} {fa : Den (List O)} (h : tE X W (dCall g fa) σ H Q) : tCall (spOf X.K X.mg g) [] E0 (tA X W fa) σ H Q := by
  obtain ⟨pa, I, sl, fp, sr, h⟩ := h
  refine ⟨pa, I, sl, fp, sr, ?_⟩
  unfold dCall Den.bind at h
  cases e : fa sl with
  | no => rw [e] at h; exact h
  | err x s => rw [e] at h; exact h
  | ok os s =>
    rw [e] at h
    intro I1 H1 fp1 sr1 m1 vs hv
    have h : Po X W pa σ I H fp (dCallO g os s) _ := h
    unfold dCallO at h
    cases ea : arsOf s os with
    | none => simp only [ea] at h; exact h.elim
    | some ars =>
      simp only [ea] at h
      by_cases hok : callOk s os = true
      · simp only [if_pos hok] at h
        unfold callOk at hok
        simp only [Bool.and_eq_true, decide_eq_true_eq] at hok
        obtain ⟨nd, tg⟩ := hok
        obtain ⟨fl, hv⟩ := hv
        cases eg : g ars with
        | no => simp only [eg] at h; exact h.elim
        | err x outs => simp only [eg] at h; exact h.elim
        | ret o outs =>
          simp only [eg] at h
          by_cases ro : resOk o = true
          case neg => simp only [if_neg ro] at h; exact h.elim
          simp only [if_pos ro] at h
          obtain ⟨ad, fc, A⟩ := args_sr sr1 os vs fl ars [] hv ea nd
          have lf : ∀ n : Nat, ∀ b, (∃ i, i < n ∧ b ∈ fc i) ↔ b ∈ ((List.range n).map fc).flatten := fun n b => by
            simp only [List.mem_flatten, List.mem_map, List.mem_range]
            exact ⟨fun ⟨i, h1, h2⟩ => ⟨fc i, ⟨i, h1, rfl⟩, h2⟩, fun ⟨_, ⟨i, h1, e2⟩, h2⟩ => ⟨i, h1, by rw [e2]; exact h2⟩⟩
          have fcp : ∀ b, FP fc b → b ∈ ((List.range ars.length).map fc).flatten := fun b ⟨i, hi⟩ => by
            refine (lf _ b).mp ⟨i, ?_, hi⟩
            apply Decidable.byContradiction
            intro z
            rw [A.out i (by omega)] at hi
            simp at hi
          have ther : ∀ b, FP fc b → ∃ o, H1 b = some o := fun b ⟨i, hi⟩ => by
            have hlt : i < (slotsOf 0 ars).length := by
              rw [slotsOf_length]
              apply Decidable.byContradiction
              intro z
              rw [A.out i (by omega)] at hi
              simp at hi
            have q := A.slot [] i _ (List.getElem?_eq_getElem hlt)
            cases hs : (slotsOf 0 ars)[i] with
            | em => rw [hs] at q; have q : fc i = [] := q; rw [q] at hi; simp at hi
            | val d => rw [hs] at q; have q := q.1; rw [q] at hi; simp at hi
            | scr d => rw [hs] at q; have q := q.1; rw [q] at hi; simp at hi
            | own t m =>
              rw [hs] at q
              obtain ⟨a, _, o, _⟩ := q
              exact o.there b hi
          refine ⟨⟨ad, ((List.range ars.length).map fc).flatten⟩, I1, fc, ars, ⟨sr1.sub, by rw [slotsOf_length, List.length_map, List.append_nil, A.len], fun i s z => ?_, fun i z => A.out i (by rw [slotsOf_length] at z; exact z), A.free, A.nd, A.dj, fun b hb => ?_⟩, fcp, ?_⟩
          · rw [List.append_nil]
            exact A.slot _ i s z
          · obtain ⟨i, _, hi⟩ := (lf _ b).mpr hb
            exact ther b ⟨i, hi⟩
          · rw [eg]
            intro v I' H' fp' ars' eo m2 sr2 hv2
            rw [List.append_nil] at sr2
            -- the caller's slots
            obtain ⟨fpT, sT, zT, kT⟩ := take_sr (slsOf s os) s fp1 sr1 (fun i hi => by obtain ⟨t, m, q⟩ := slsOf_mem hi; exact (List.getElem?_eq_some_iff.mp q).1)
            have T1 : ∀ b, FP fpT b → FP fp1 b ∧ ¬ FP fc b := fun b ⟨j, hj⟩ => by
              rcases kT j with q | q
              · rw [q] at hj; simp at hj
              · have hj1 : b ∈ fp1 j := q ▸ hj
                refine ⟨⟨j, hj1⟩, fun ⟨i, hi⟩ => ?_⟩
                rcases A.src i b hi with ⟨j', h1, h2⟩ | ⟨h1, _⟩
                · by_cases ej : j = j'
                  · subst ej; rw [zT j h1] at hj; simp at hj
                  · exact sr1.dj j j' ej b hj1 h2
                · exact h1 ⟨j, hj1⟩
            have sF := sT.frame m2.tr sr2.sub fun b hb => (T1 b hb).2
            have fq : ∀ b, FP fp' b → ¬ FP fpT b := fun b hb z => by
              rcases m2.fresh b hb with q | q
              · exact (T1 b z).2 q
              · obtain ⟨u, hu⟩ := sr1.there (T1 b z).1
                rw [hu] at q; cases q
            obtain ⟨fp2, s2, q2⟩ := put_sr (sl0 := s) (pc := ⟨ad, ((List.range ars.length).map fc).flatten⟩) os vs fl outs ars ars' 0 fp' (takeOut s (slsOf s os)) fpT hv ea eo sr2.slot (fun i b hb => ⟨sr2.free i b hb, fq b ⟨i, hb⟩⟩) sr2.nd sr2.dj sF
              (fun i hi => ⟨zT i hi, by rw [takeOut_length]; obtain ⟨t, m, q⟩ := slsOf_mem hi; exact (List.getElem?_eq_some_iff.mp q).1⟩) nd (fun i hi t m em => by
                obtain ⟨a, ea, _, t1, t2⟩ := sr1.slot i _ em
                refine ⟨fun a' ha' => ?_, fun tn b hb => ?_⟩
                · rw [ha'] at ea
                  have ea : some (V.ref a') = some (V.ref a) := ea
                  cases ea
                  exact t1
                · subst tn
                  rcases m2.fresh b hb with ⟨i', hi'⟩ | q
                  · rcases A.src i' b hi' with ⟨j', h1, h2⟩ | ⟨_, h2, _⟩
                    · -- all that were handed on are without a tag
                      have al : (slsOf s os).all (untagged s) = true := by
                        rcases (Bool.or_eq_true_iff.mp tg) with w | w
                        · exact w
                        · have := List.all_eq_true.mp w i hi
                          simp [untagged, em] at this
                      have un := List.all_eq_true.mp al j' h1
                      obtain ⟨t', m', em'⟩ := slsOf_mem h1
                      cases t' with
                      | some k => simp [untagged, em'] at un
                      | none =>
                        obtain ⟨_, _, _, _, t3⟩ := sr1.slot j' _ em'
                        exact t3 rfl b h2
                    · intro z
                      obtain ⟨u, hu⟩ := sr.pin b z
                      rw [h2] at hu; cases hu
                  · intro z
                    obtain ⟨u, hu⟩ := sr1.pin b z
                    rw [q] at hu; cases hu)
            -- the whole step
            have mm : Mv fp I H fp2 I' H' := by
              have fcF : ∀ b o, H b = some o → ¬ FP fp b → ¬ FP fc b := fun b o hb n ⟨i, hi⟩ => by
                rcases A.src i b hi with ⟨j, _, h2⟩ | ⟨_, h2, _⟩
                · rcases m1.fresh b ⟨j, h2⟩ with q | q
                  · exact n q
                  · rw [hb] at q; cases q
                · rw [hb] at h2; cases h2
              refine ⟨⟨m1.tr.le.trans m2.tr.le, fun b o hb n => m2.tr.keep b o (m1.tr.keep b o hb n) (fcF b o hb n), fun b o hb n i => m2.tr.fr b o (m1.tr.keep b o hb n) (fcF b o hb n) (m1.tr.fr b o hb n i), fun b o hb => ?_⟩, fun b hb => ?_⟩
              · obtain ⟨o1, h1⟩ := m1.tr.there b o hb
                exact m2.tr.there b o1 h1
              · rcases q2 b hb with q | q
                · exact m1.fresh b (T1 b q).1
                · rcases m2.fresh b q with ⟨i, hi⟩ | q
                  · rcases A.src i b hi with ⟨j, _, h2⟩ | ⟨_, h2, _⟩
                    · exact m1.fresh b ⟨j, h2⟩
                    · exact .inr h2
                  · exact .inr (m1.tr.gone q)
            refine (show Po X W pa σ I H fp (.ok o (putBack s os outs (takeOut s (slsOf s os)))) _ from h) I' H' fp2 s2 mm v ?_
            cases o with
            | d x => exact hv2
            | sl i => cases ro
            | set xs => cases ro
            | scr ns => cases ro
            | tmp m =>
              obtain ⟨a, f, rfl, ow, ndf, q⟩ := hv2
              refine ⟨a, f, rfl, ow, ndf, fun b hb => ⟨m1.tr.gone (q b hb).1, (q b hb).2.1, fun z => ?_⟩⟩
              rcases q2 b z with w | w
              · obtain ⟨u, hu⟩ := sr1.there (T1 b w).1
                rw [(q b hb).1] at hu; cases hu
              · exact (q b hb).2.2 w
      · simp only [if_neg hok] at h
        exact h.elim
end
end AL
end
section
set_option Elab.async false
set_option linter.all false
set_option maxRecDepth 100000
set_option maxHeartbeats 4000000
set_option autoImplicit false
/-! The A-layer, part f: calls written, what is walked, for, while, comprehensions. -/
namespace AL
open PySem PySem.Spec PyProof.Rows L2

/-! ### a def that is called -/
structure Callee (P : Program) (w : World) (K : PySem.W.Frag) (mg : Str → Option Value) (base : Heap) (x : Str) (k : Nat) (g : FnD) : Prop where
  ex : ∃ f fd ps, FnOk P w K mg base CX0 k f fd ps (spOf K mg g) ∧ Binds K fd ps [] ∧ mg x = some (.ref f) ∧ PySem.W.keepIn K (.ref f) = true
theorem Callee.mono {P : Program} {w : World} {K : PySem.W.Frag} {mg : Str → Option Value} {base : Heap} {x : Str} {j k : Nat} {g : FnD} (c : Callee P w K mg base x j g) (h : j ≤ k) : Callee P w K mg base x k g := by
  obtain ⟨f, fd, ps, F, b, m, z⟩ := c.ex
  exact ⟨f, fd, ps, F.mono h, b, m, z⟩
section
variable {X : Cx} {W : WX} {a : Expr} {es : List Expr} {fs : Den (List O)} {pos p : Pos} {x : Str} {k : Nat} {g : FnD}
theorem ae_call (C : Callee X.prog X.w X.K X.mg X.base x k g) (hr : Room k X.A) (hg : Gl X x) (ha : AA X W (a :: es) fs) (hdb : (x == ("__debug__" : Str)) = false := by decide)
    (he : starEach (a :: es) X.env = (false, eval a X.env) :: starEach es X.env := by rfl) (hpl : (backTo pos (starEach es X.env)).any (·.1) = false := by rfl) : AE X W (.Call (.Name x p) (a :: es) [] pos) (dCall g fs) := by
  obtain ⟨f, fd, ps, F, b, m, z⟩ := C.ex
  exact ⟨(pe_call F hr hg m z b .nil pass0 ha.pa hdb he hpl).imp fun _ _ _ h => tE_callF h⟩
theorem ae_call0 (C : Callee X.prog X.w X.K X.mg X.base x k g) (hr : Room k X.A) (hg : Gl X x) (hdb : (x == ("__debug__" : Str)) = false := by decide) : AE X W (.Call (.Name x p) [] [] pos) (dCall g dNil) := by
  obtain ⟨f, fd, ps, F, b, m, z⟩ := C.ex
  refine ⟨(pe_call0 F hr hg m z b .nil pass0 hdb).imp fun σ H Q h => ?_⟩
  have q : tCall (spOf X.K X.mg g) [] E0 (tA X W dNil) σ H Q := tE_callF h
  obtain ⟨pa, I, sl, fp, sr, q⟩ := q
  exact Po.ret sr q [] ORs.nil
end

/-! ### what is walked -/
/-- the items ds, one behind the other, as long as what is told at I stays told -/
def ItR (K : PySem.W.Frag) (J : It) (ds : List D) (I0 : Hp) : Prop :=
  ∃ G Y, Walk J ds.length G Y ∧ (∀ I H, Le I0 I → Sub I H → Sub I0 H → G H) ∧ ∀ i I H x H' d, ds[i]? = some d → Le I0 I → Sub I H → Y i H x H' → ∃ I', Al I H I' H' ∧ Rl K I' x d
def tI (X : Cx) (W : WX) (fi : Den (List D)) : TI := fun σ H R => ∃ pa I sl fp, SR X.K pa I H σ sl fp ∧ Po X W pa σ I H fp (fi sl) fun ds _ I' H' _ => ∀ J, ItR X.K J ds I' → R J H'
structure AI (X : Cx) (W : WX) (tg iter : Expr) (fi : Den (List D)) : Prop where
  pi : PI X tg iter (tI X W fi)
theorem _root_.L2.PI.imp {X : Cx} {tg iter : Expr} {t t' : TI} (h : PI X tg iter t) (i : ∀ σ H R, t' σ H R → t σ H R) : PI X tg iter t' := ⟨fun pins s σ H R I hw => h.run pins s σ H R I (i σ H R hw)⟩
section
variable {K : PySem.W.Frag} {I : Hp} {ds es : List D} {vs ws : List V}
theorem itr_list {a : Addr} (h : SqL K I a vs) (r : Rs K I vs ds) : ItR K (Itl K a) ds I := by
  refine ⟨_, _, by rw [← r.length]; exact walk_list (xs := vs), fun I' H l s _ => s.le.sql (l.sql h), fun i I' H x H' d e l s y => ?_⟩
  obtain ⟨rfl, e2⟩ := y
  obtain ⟨v, e3, q⟩ := r.get e
  rw [e2] at e3; cases e3
  exact ⟨I', .refl s, q.up l⟩
theorem itr_tup {a : Addr} (h : SqT K I a vs) (r : Rs K I vs ds) : ItR K (Itt K a) ds I := by
  refine ⟨_, _, by rw [← r.length]; exact walk_tup (xs := vs), fun I' H l s _ => s.le.sqt (l.sqt h), fun i I' H x H' d e l s y => ?_⟩
  obtain ⟨rfl, e2⟩ := y
  obtain ⟨v, e3, q⟩ := r.get e
  rw [e2] at e3; cases e3
  exact ⟨I', .refl s, q.up l⟩
def rangeD (lo : Int) (n : Nat) : List D := (List.range n).map fun i => .int (lo + (i : Nat))
theorem itr_range {lo : Int} {n : Nat} : ItR K (Itr lo n) (rangeD lo n) I := by
  refine ⟨_, _, by rw [show (rangeD lo n).length = n by simp [rangeD]]; exact walk_range (lo := lo), fun _ _ _ _ _ => trivial, fun i I' H x H' d e l s y => ?_⟩
  obtain ⟨rfl, rfl⟩ := y
  have hi : i < n := by
    have := (List.getElem?_eq_some_iff.mp e).1
    simpa [rangeD] using this
  unfold rangeD at e
  rw [List.getElem?_map, List.getElem?_range hi] at e
  cases e
  exact ⟨I', .refl s, .int _⟩
theorem Al.pair {H : Hp} {T : Addr} {x y : V} {d e : D} (s : Sub I H) (hT : H T = none) (hx : Rl K I x d) (hy : Rl K I y e) : ∃ I', Al I H I' (upd H T (.tup [x, y])) ∧ Rl K I' (.ref T) (.tuple [d, e]) :=
  ⟨_, Al.tup s hT, NR.tup s hT (.cons hx (.cons hy .nil))⟩
end
/-- the items of a list, a tuple, a text -/
def itemsOf : D → Option (List D)
  | .list ds => some ds
  | .tuple ds => some ds
  | .str z => some (z.cps.toList.map fun c => .str ⟨#[c]⟩)
  | _ => none
def optD : O → Option D
  | .d x => some x
  | _ => none
def dItems (f : Den O) : Den (List D) := (dFix f).bind fun o => Den.opt ((optD o).bind itemsOf)
section
variable {X : Cx} {W : WX} {tg l : Expr} {pos p : Pos}
def iAny (K : PySem.W.Frag) (tl : TE) : TI := fun σ H R => tl σ H fun x H1 => (∃ a, x = .ref a ∧ (∃ xs, SqL K H1 a xs) ∧ R (Itl K a) H1) ∨ (∃ a, x = .ref a ∧ (∃ xs, SqT K H1 a xs) ∧ R (Itt K a) H1) ∨ ∃ z, x = .str z ∧ R (Its z) H1
theorem pi_any {tl : TE} (hl : PE X l tl) : PI X tg l (iAny X.K tl) := by
  refine ⟨fun pins s σ H R I h => ?_⟩
  refine thn (hl.run pins s σ H _ I h) fun v s1 ⟨x, H1, I1, r1, q1⟩ => ?_
  rcases q1 with ⟨a, rfl, ⟨xs, hq⟩, q⟩ | ⟨a, rfl, ⟨xs, hq⟩, q⟩ | ⟨z, rfl, q⟩
  · cases r1
    obtain ⟨its, rv, p, hz⟩ := I1.list hq
    exact wpAny_pyIter_list p.isList (pi_one (tk := s1.toks) I1 _ (turn_list a _) ⟨_, Heap.get?_push_size _ rfl, rfl, rfl⟩ q)
  · cases r1
    obtain ⟨its, rv, p, hz⟩ := I1.tuple hq
    exact wpAny_pyIter_tuple (show s1.heap.IsTuple a its.toArray from p) (pi_one (tk := s1.toks) I1 _ (turn_tuple a _) ⟨_, Heap.get?_push_size _ rfl, rfl, rfl⟩ q)
  · obtain ⟨t, rfl⟩ := r1
    cases ha : z.cps.all (· < 128)
    · exact wpAny_pyIter_wide ha (pi_one (tk := s1.toks) I1 _ (turn_str _ z t "str_iterator" (.inr rfl)) ⟨_, Heap.get?_push_size _ rfl, rfl, rfl⟩ q)
    · exact wpAny_pyIter_ascii ha (pi_one (tk := s1.toks) I1 _ (turn_str _ z t "str_ascii_iterator" (.inl rfl)) ⟨_, Heap.get?_push_size _ rfl, rfl, rfl⟩ q)
theorem itr_str {K : PySem.W.Frag} {I : Hp} {z : Str} : ItR K (Its z) (z.cps.toList.map fun c => .str ⟨#[c]⟩) I := by
  refine ⟨_, _, by rw [show (z.cps.toList.map fun c => (PyData.str ⟨#[c]⟩ : D)).length = z.cps.size by simp]; exact walk_str, fun _ _ _ _ _ => trivial, fun i I' H x H' d e l s y => ?_⟩
  obtain ⟨rfl, c, e2, rfl⟩ := y
  rw [List.getElem?_map] at e
  have e3 : z.cps.toList[i]? = some c := by simpa using e2
  rw [e3] at e
  cases e
  exact ⟨I', .refl s, .str _⟩
/-- behind a value told for good -/
theorem fix_then {f : Den O} {β : Type} {g : O → Option β} {σ : L2.St} {pa : PAs} {I H : Hp} {fp : Fps} {sl : Sls} {Q : β → Sls → Hp → Hp → Fps → Prop} {R : V → Hp → Prop} (hg : ∀ o b, g o = some b → ∃ x, o = .d x)
    (h : Po X W pa σ I H fp (((dFix f).bind fun o => Den.opt (g o)) sl) Q)
    (k : ∀ x b s2 I2 H' fp2 v, g (.d x) = some b → Rl X.K I2 v x → Sub I2 H' → Q b s2 I2 H' fp2 → R v H') : Po X W pa σ I H fp (f sl) fun o _ I' H' fp' => ∀ v, OR X.K σ I' H' fp' H v o → R v H' := by
  have h2 := h.bind
  have h3 : Po X W pa σ I H fp ((dFix f) sl) fun o s I' H' fp' => ∀ v, (∀ x, o = .d x → Rl X.K I' v x → Sub I' H' ∧ ∃ b, g (.d x) = some b ∧ Q b s I' H' fp') ∧ (∀ ns, o = .scr ns → OR X.K σ I' H' fp' H v (.scr ns) → False) := by
    refine h2.mono fun o s I' H' fp' _ sr' _ q v => ⟨fun x e _ => ⟨sr'.sub, ?_⟩, fun ns e _ => ?_⟩
    · subst e
      cases eb : g (.d x) with
      | none => rw [eb] at q; exact q.elim
      | some b =>
        rw [eb] at q
        exact ⟨b, rfl, Po.ret sr' (show Po X W pa σ I' H' fp' (.ok b s) _ from q)⟩
    · subst e
      cases eb : g (.scr ns) with
      | none => rw [eb] at q; exact q.elim
      | some b =>
        obtain ⟨x, e⟩ := hg _ _ eb
        cases e
  refine (fix_po h3).mono fun o s I' H' fp' _ _ _ q v hv => ?_
  obtain ⟨I2, fp2, ⟨x, s2, ⟨sb, b, e, q⟩, _, r⟩ | ⟨ns, s2, q⟩⟩ := q v hv
  · exact k x b s2 I2 H' fp2 v e r sb q
  · exact q.elim
theorem ai_any {fl : Den O} (hl : AE X W l fl) : AI X W tg l (dItems fl) := by
  refine ⟨(pi_any hl.pe).imp fun σ H R h => ?_⟩
  obtain ⟨pa, I, sl, fp, sr, h⟩ := h
  refine ⟨pa, I, sl, fp, sr, fix_then (g := fun o => (optD o).bind itemsOf) (fun o b e => ?_) h fun x b s2 I2 H' fp2 v e r sb q => ?_⟩
  · cases o with
    | d x => exact ⟨x, rfl⟩
    | _ => cases e
  · have e : itemsOf x = some b := e
    unfold itemsOf at e
    split at e
    · cases e
      cases r with
      | lst a r => exact .inl ⟨_, rfl, ⟨_, .of (sb _ _ a)⟩, q _ (itr_list (.of a) r)⟩
    · cases e
      cases r with
      | tup a r => exact .inr (.inl ⟨_, rfl, ⟨_, sb.le.sqt a⟩, q _ (itr_tup a r)⟩)
    · cases e
      cases r
      exact .inr (.inr ⟨_, rfl, q _ itr_str⟩)
    · cases e
/-- range(n), range(a, b) -/
def dR1 : List D → Option (List D)
  | [.int j] => if -(2 ^ 62) ≤ j ∧ j < 2 ^ 62 then some (rangeD 0 j.toNat) else none
  | _ => none
def dR2 : List D → Option (List D)
  | [.int i, .int j] => if -(2 ^ 62) ≤ i ∧ i < 2 ^ 62 ∧ -(2 ^ 62) ≤ j ∧ j < 2 ^ 62 then some (rangeD i (j - i).toNat) else none
  | _ => none
def dItC (g : List D → Option (List D)) (fa : Den (List O)) : Den (List D) := fa.bind fun os sl => match seeAll sl os with
  | some ds => match g ds with
    | some xs => .ok xs sl
    | none => .no
  | none => .no
theorem itC_po {g : List D → Option (List D)} {os : List O} {sl : Sls} {σ : L2.St} {pa : PAs} {I H H0 : Hp} {fp : Fps} {vs : List V} {Q : List D → Sls → Hp → Hp → Fps → Prop} (sr : SR X.K pa I H σ sl fp) (hv : ORs X.K σ I H fp H0 vs os)
    (h : Po X W pa σ I H fp ((fun sl => match seeAll sl os with
      | some ds => match g ds with
        | some xs => .ok xs sl
        | none => .no
      | none => .no : Den (List D)) sl) Q) : ∃ ds xs, Vws X.K I H vs ds ∧ g ds = some xs ∧ Q xs sl I H fp := by
  dsimp only at h
  cases e : seeAll sl os with
  | none => simp only [e] at h; exact h.elim
  | some ds =>
    simp only [e] at h
    cases e2 : g ds with
    | none => simp only [e2] at h; exact h.elim
    | some xs =>
      simp only [e2] at h
      exact ⟨ds, xs, seeAll_vws sr hv e, e2, Po.ret sr h⟩
variable {a b : Expr} {es : List Expr} {fs : Den (List O)}
theorem ai_range1 (hg : Gl X "range") (hm : X.mg "range" = none) (ha : AA X W [a] fs) (hs : starEach [a] X.env = [(false, eval a X.env)] := by rfl) : AI X W tg (.Call (.Name "range" p) [a] [] pos) (dItC dR1 fs) := by
  refine ⟨(pi_range1 hg hm ha.pa hs).imp fun σ H R h => ?_⟩
  obtain ⟨pa, I, sl, fp, sr, h⟩ := h
  refine ⟨pa, I, sl, fp, sr, h.bind.mono fun os sl1 I1 H1 fp1 _ sr1 m1 q vs hv => ?_⟩
  obtain ⟨ds, xs, hd, e, q⟩ := itC_po sr1 hv q
  unfold dR1 at e
  split at e
  · split at e
    · rename_i h
      cases e
      obtain ⟨x, rfl, hx⟩ := hd.one
      exact ⟨_, by rw [hx.int], h.1, h.2, q _ itr_range⟩
    · cases e
  · cases e
theorem ai_range2 (hg : Gl X "range") (hm : X.mg "range" = none) (ha : AA X W [a, b] fs) (hs : starEach [a, b] X.env = [(false, eval a X.env), (false, eval b X.env)] := by rfl) (hs2 : starEach [b] X.env = [(false, eval b X.env)] := by rfl) :
    AI X W tg (.Call (.Name "range" p) [a, b] [] pos) (dItC dR2 fs) := by
  refine ⟨(pi_range2 hg hm ha.pa hs hs2).imp fun σ H R h => ?_⟩
  obtain ⟨pa, I, sl, fp, sr, h⟩ := h
  refine ⟨pa, I, sl, fp, sr, h.bind.mono fun os sl1 I1 H1 fp1 _ sr1 m1 q vs hv => ?_⟩
  obtain ⟨ds, xs, hd, e, q⟩ := itC_po sr1 hv q
  unfold dR2 at e
  split at e
  · split at e
    · rename_i h
      cases e
      obtain ⟨x, y, rfl, hx, hy⟩ := hd.two
      exact ⟨_, _, by rw [hx.int, hy.int], h, q _ itr_range⟩
    · cases e
  · cases e
end

/-! ### for -/
def forGo (t : Tg) (body : Den Fl) : List D → Den Fl
  | [], sl => .ok .nx sl
  | d :: ds, sl => match t d sl with
    | none => .no
    | some sl1 => match body sl1 with
      | .ok .nx s => forGo t body ds s
      | .ok .ct s => forGo t body ds s
      | .ok .bk s => .ok .nx s
      | .ok (.rt o) s => .ok (.rt o) s
      | .err x s => .err x s
      | .no => .no
def dFor (fi : Den (List D)) (t : Tg) (body : Den Fl) : Den Fl := fi.bind (forGo t body)
section
variable {X : Cx} {W : WX} {tg iter : Expr} {body : List Stmt} {pos : Pos} {fi : Den (List D)} {t : Tg} {ws : List Nat} {g : Den Fl}
/-- the loop from one state on -/
theorem for_core {pa : PAs} {σ : L2.St} {I0 H0 I Hs : Hp} {fp0 fp : Fps} {ds : List D} {sl : Sls} {E : Ends} {J : It} (sr : SR X.K pa I Hs σ sl fp) (m : Mv fp0 I0 H0 fp I Hs) (hJ : ItR X.K J ds I)
    (h : PoS X W pa I0 H0 fp0 (forGo t g ds sl) E) :
    ∃ W' : Nat → Nat → L2.St → Hp → Prop, (∃ m, W' 0 m σ Hs) ∧ ∀ i m σ H, W' i m σ H →
      (J.stop i H ∧ E.nx σ H) ∨ (J.go i H ∧ ∃ N : L2.St → Hp → Prop, (∀ σ' H', N σ' H' → ∃ m', m' < m ∧ W' (i + 1) m' σ' H') ∧ ∀ x H', J.yld i H x H' → tG X t ws x σ H' fun σ2 H2 => tS X W g { E with nx := N, ct := N, bk := E.nx } σ2 H2) := by
  obtain ⟨G, Y, Wk, hG, hY⟩ := hJ
  let P : Nat → L2.St → Hp → Prop := fun i σ H => ∃ I' sl' fp', SR X.K pa I' H σ sl' fp' ∧ Mv fp0 I0 H0 fp' I' H ∧ Mv fp I Hs fp' I' H ∧ PoS X W pa I0 H0 fp0 (forGo t g (ds.drop i) sl') E
  refine ⟨fun i m σ H => i + m = ds.length ∧ P i σ H, ⟨ds.length, by simp, I, sl, fp, sr, m, .refl, h⟩, ?_⟩
  rintro i m σ1 H1 ⟨em, I1, sl1, fp1, sr1, m1, k1, h1⟩
  have l1 := k1.tr.le
  have sb1 : Sub I H1 := fun b o e => k1.tr.keep b o (sr.sub b o e) fun z => by rw [sr.nfree z] at e; cases e
  by_cases hi : i < ds.length
  · have ed : ds.drop i = ds[i] :: ds.drop (i + 1) := List.drop_eq_getElem_cons hi
    rw [ed] at h1
    refine .inr ⟨Wk.goes i H1 hi (hG I1 H1 l1 sr1.sub sb1), fun σ' H' => P (i + 1) σ' H', fun σ' H' n => ⟨m - 1, by omega, by omega, n⟩, fun x H2 y => ?_⟩
    obtain ⟨I2, a2, r2⟩ := hY i I1 H1 x H2 ds[i] (List.getElem?_eq_getElem hi) l1 sr1.sub (Wk.yields i H1 x H2 hi (hG I1 H1 l1 sr1.sub sb1) y)
    have sr2 := sr1.al a2
    have m2 : Mv fp0 I0 H0 fp1 I2 H2 := m1.trans a2.mv
    refine ⟨pa, I2, sl1, fp1, ds[i], sr2, r2, ?_⟩
    unfold forGo at h1
    cases et : t ds[i] sl1 with
    | none => simp only [et] at h1; exact h1
    | some s2 =>
      simp only [et] at h1 ⊢
      intro σ3 fp3 sr3 f3 _
      have m3 : Mv fp0 I0 H0 fp3 I2 H2 := ⟨m2.tr, fun b hb => m2.fresh b (f3 b hb)⟩
      have k2 := k1.trans a2.mv
      have k3 : Mv fp I Hs fp3 I2 H2 := ⟨k2.tr, fun b hb => k2.fresh b (f3 b hb)⟩
      refine ⟨pa, I2, s2, fp3, sr3, ?_⟩
      cases eb : g s2 with
      | no => simp only [eb] at h1; exact h1
      | err x s => simp only [eb] at h1; exact fun c d σ' I' H' f' sr' mv er => h1 c d σ' I' H' f' sr' (m3.trans mv) er
      | ok fl s =>
        intro σ4 I4 H4 fp4 sr4 m4
        cases fl with
        | nx => simp only [eb] at h1; exact ⟨I4, s, fp4, sr4, m3.trans m4, k3.trans m4, h1⟩
        | ct => simp only [eb] at h1; exact ⟨I4, s, fp4, sr4, m3.trans m4, k3.trans m4, h1⟩
        | bk => simp only [eb] at h1; exact h1 σ4 I4 H4 fp4 sr4 (m3.trans m4)
        | rt o => simp only [eb] at h1; exact fun v hv => h1 σ4 I4 H4 fp4 sr4 (m3.trans m4) v (hv.start fun b hb => m3.tr.gone hb)
  · have ei : i = ds.length := by omega
    rw [ei, List.drop_length] at h1
    rw [ei]
    exact .inl ⟨Wk.stops H1 (hG I1 H1 l1 sr1.sub sb1), (show PoS X W pa I0 H0 fp0 (.ok .nx sl1) E from h1) σ1 I1 H1 fp1 sr1 m1⟩
theorem as_for (hp : PassesOwn (model X.prog X.w) X.A X.env X.xe) (hc : X.calm = true) (hi : AI X W tg iter fi) (hg : AG X tg t ws) (hb : ASs X W body g)
    (hs : ∀ x, foldedSetIterable iter X.env x = pure x := by intro _; rfl) : AS X W (.For tg iter body [] pos) (dFor fi t g) := by
  refine ⟨(ps_for hp hc hi.pi hg.pg hb.ps hs).imp fun E σ H h => ?_⟩
  obtain ⟨pa, I, sl, fp, sr, h⟩ := h
  refine ⟨pa, I, sl, fp, sr, ?_⟩
  have hW := stW (σ := σ) (show PoS X W pa I H fp ((fi.bind (forGo t g)) sl) E from h)
  have h : PoS X W pa I H fp ((fi.bind (forGo t g)) sl) E := h
  unfold Den.bind at h
  cases e : fi sl with
  | no => rw [e] at h; exact h
  | err x s => exact fun c d I' H' fp' sr mv er => hW x s c d I' H' fp' e sr mv er
  | ok ds s =>
    rw [e] at h
    exact fun I1 H1 fp1 sr1 m1 J hJ => for_core sr1 m1 hJ h
end

/-! ### while -/
def dWhile (c : Den Bool) (body : Den Fl) : Nat → Den Fl
  | 0, _ => .no
  | n + 1, sl => match c sl with
    | .no => .no
    | .err x s => .err x s
    | .ok false s => .ok .nx s
    | .ok true s => match body s with
      | .ok .nx s => dWhile c body n s
      | .ok .ct s => dWhile c body n s
      | .ok .bk s => .ok .nx s
      | .ok (.rt o) s => .ok (.rt o) s
      | .err x s => .err x s
      | .no => .no
section
variable {X : Cx} {W : WX} {body : List Stmt} {pos : Pos} {g : Den Fl}
theorem as_while (n : Nat) {c : Expr} {fc : Den Bool} (hp : PassesOwn (model X.prog X.w) X.A X.env X.xe) (hc : AT X W c fc) (hb : ASs X W body g) : AS X W (.While c body [] pos) (dWhile fc g n) := by
  refine ⟨(ps_while hp hc.pt hb.ps).imp fun E σ H h => ?_⟩
  obtain ⟨pa, I0, sl, fp0, sr, h⟩ := h
  let P : Nat → L2.St → Hp → Prop := fun m σ' H' => ∃ I' sl' fp', SR X.K pa I' H' σ' sl' fp' ∧ Mv fp0 I0 H fp' I' H' ∧ PoS X W pa I0 H fp0 (dWhile fc g m sl') E
  refine ⟨P, ⟨n, I0, sl, fp0, sr, .refl, h⟩, ?_⟩
  rintro m σ1 H1 ⟨I1, sl1, fp1, sr1, m1, h1⟩
  cases m with
  | zero => exact h1.elim
  | succ m =>
    unfold dWhile at h1
    refine ⟨pa, I1, sl1, fp1, sr1, ?_⟩
    cases ec : fc sl1 with
    | no => simp only [ec] at h1; exact h1
    | err x s => simp only [ec] at h1; exact fun c d I' H' f' sr' mv er => h1 c d σ1 I' H' f' sr' (m1.trans mv) er
    | ok k s =>
      intro I2 H2 fp2 sr2 m2
      have m12 := m1.trans m2
      cases k with
      | false => simp only [ec] at h1; exact iteF (h1 σ1 I2 H2 fp2 sr2 m12)
      | true =>
        simp only [ec] at h1
        refine iteT ⟨fun σ' H' => P m σ' H', fun σ' H' q => ⟨m, Nat.lt_succ_self _, q⟩, pa, I2, s, fp2, sr2, ?_⟩
        cases eb : g s with
        | no => simp only [eb] at h1; exact h1
        | err x s => simp only [eb] at h1; exact fun c d σ' I' H' f' sr' mv er => h1 c d σ' I' H' f' sr' (m12.trans mv) er
        | ok fl s3 =>
          intro σ4 I4 H4 fp4 sr4 m4
          cases fl with
          | nx => simp only [eb] at h1; exact ⟨I4, s3, fp4, sr4, m12.trans m4, h1⟩
          | ct => simp only [eb] at h1; exact ⟨I4, s3, fp4, sr4, m12.trans m4, h1⟩
          | bk => simp only [eb] at h1; exact h1 σ4 I4 H4 fp4 sr4 (m12.trans m4)
          | rt o => simp only [eb] at h1; exact fun v hv => h1 σ4 I4 H4 fp4 sr4 (m12.trans m4) v (hv.start fun b hb => m12.tr.gone hb)
end
end AL
end
section
set_option Elab.async false
set_option linter.all false
set_option maxRecDepth 100000
set_option maxHeartbeats 4000000
set_option autoImplicit false
/-! The A-layer, part g: list comprehensions. -/
namespace AL
open PySem PySem.Spec PyProof.Rows L2

def wipeS (sl : Sls) : List Nat → Sls
  | [] => sl
  | v :: vs => (wipeS sl vs).set v .em
def restS (sl0 s : Sls) : List Nat → Sls
  | [] => s
  | v :: vs => (restS sl0 s vs).set v (sl0.getD v .em)
theorem wipeS_length (sl : Sls) : ∀ vs, (wipeS sl vs).length = sl.length
  | [] => rfl
  | v :: vs => by unfold wipeS; rw [List.length_set, wipeS_length sl vs]
theorem restS_length (sl0 s : Sls) : ∀ vs, (restS sl0 s vs).length = s.length
  | [] => rfl
  | v :: vs => by unfold restS; rw [List.length_set, restS_length sl0 s vs]
theorem wipe_out {σ : L2.St} {j : Nat} : ∀ {vs : List Nat}, j ∉ vs → (wipe σ vs)[j]? = σ[j]?
  | [], _ => rfl
  | v :: vs, h => by
    simp only [List.mem_cons, not_or] at h
    unfold wipe
    rw [List.getElem?_set_ne (Ne.symm h.1), wipe_out h.2]
theorem wipe_in {σ : L2.St} {j : Nat} : ∀ {vs : List Nat}, j ∈ vs → (wipe σ vs)[j]?.join = none
  | [], h => by simp at h
  | v :: vs, h => by
    unfold wipe
    by_cases e : v = j
    · subst e
      by_cases hl : v < (wipe σ vs).length
      · rw [List.getElem?_set_self hl]; rfl
      · rw [List.getElem?_eq_none (by simpa using hl)]; rfl
    · rw [List.getElem?_set_ne e]
      exact wipe_in ((List.mem_cons.mp h).resolve_left (Ne.symm e))
theorem wipeS_out {sl : Sls} {j : Nat} : ∀ {vs : List Nat}, j ∉ vs → (wipeS sl vs)[j]? = sl[j]?
  | [], _ => rfl
  | v :: vs, h => by
    simp only [List.mem_cons, not_or] at h
    unfold wipeS
    rw [List.getElem?_set_ne (Ne.symm h.1), wipeS_out h.2]
theorem wipeS_in {sl : Sls} {j : Nat} {s : Sl} : ∀ {vs : List Nat}, j ∈ vs → (wipeS sl vs)[j]? = some s → s = .em
  | [], h, _ => by simp at h
  | v :: vs, h, e => by
    unfold wipeS at e
    by_cases q : v = j
    · subst q
      by_cases hl : v < (wipeS sl vs).length
      · rw [List.getElem?_set_self hl] at e; cases e; rfl
      · rw [List.getElem?_eq_none (by simpa using hl)] at e; cases e
    · rw [List.getElem?_set_ne q] at e
      exact wipeS_in ((List.mem_cons.mp h).resolve_left (Ne.symm q)) e
theorem restS_out {sl0 s : Sls} {j : Nat} : ∀ {vs : List Nat}, j ∉ vs → (restS sl0 s vs)[j]? = s[j]?
  | [], _ => rfl
  | v :: vs, h => by
    simp only [List.mem_cons, not_or] at h
    unfold restS
    rw [List.getElem?_set_ne (Ne.symm h.1), restS_out h.2]
theorem restS_in {sl0 s : Sls} {j : Nat} (hl : sl0.length = s.length) : ∀ {vs : List Nat}, j ∈ vs → (restS sl0 s vs)[j]? = sl0[j]?
  | [], h => by simp at h
  | v :: vs, h => by
    unfold restS
    by_cases q : v = j
    · subst q
      by_cases hv : v < (restS sl0 s vs).length
      · rw [List.getElem?_set_self hv]
        rw [restS_length] at hv
        rw [List.getD_eq_getElem?_getD, List.getElem?_eq_getElem (by omega)]
        rfl
      · rw [List.getElem?_eq_none (by simpa using hv)]
        rw [restS_length] at hv
        rw [List.getElem?_eq_none (by omega)]
    · rw [List.getElem?_set_ne q]
      exact restS_in hl ((List.mem_cons.mp h).resolve_left (Ne.symm q))
theorem st_ext {σ τ : L2.St} (h : ∀ j : Nat, σ[j]? = τ[j]?) : σ = τ := List.ext_getElem? h
theorem wipe_get {σ : L2.St} {vs : List Nat} {j : Nat} (h : j ∈ vs) : (wipe σ vs)[j]? = if j < σ.length then some none else none := by
  by_cases hl : j < σ.length
  · rw [if_pos hl]
    have q := wipe_in (σ := σ) h
    have : j < (wipe σ vs).length := by rw [wipe_length]; exact hl
    rw [List.getElem?_eq_getElem this] at q ⊢
    have q : (wipe σ vs)[j] = none := q
    rw [q]
  · rw [if_neg hl]
    exact List.getElem?_eq_none (by rw [wipe_length]; omega)
theorem wipe_keeps {σ σ2 : L2.St} {ws vs : List Nat} (k : Keeps ws (wipe σ vs) σ2) (h : ∀ j ∈ ws, j ∈ vs) : wipe σ2 vs = wipe σ vs := by
  have hl : σ2.length = σ.length := by rw [k.len, wipe_length]
  apply st_ext
  intro j
  by_cases hj : j ∈ vs
  · rw [wipe_get hj, wipe_get hj, hl]
  · rw [wipe_out hj, k.out j fun z => hj (h j z)]
section
variable {K : PySem.W.Frag} {pa : PAs} {I H I' H' I0 H0 : Hp} {σ : L2.St} {sl s : Sls} {fp fp' fp0 : Fps} {T : Addr} {o : HO} {vs : List Nat}
def fpW (fp : Fps) (vs : List Nat) : Fps := fun j => if j ∈ vs then [] else fp j
theorem fpW_sub {b : Addr} (h : FP (fpW fp vs) b) : FP fp b ∧ ∀ j ∈ vs, (∀ i k, i ≠ k → ∀ b ∈ fp i, b ∉ fp k) → b ∉ fp j := by
  obtain ⟨j, hj⟩ := h
  unfold fpW at hj
  split at hj
  · simp at hj
  · rename_i n
    exact ⟨⟨j, hj⟩, fun k hk dj z => dj j k (fun e => n (e ▸ hk)) b hj z⟩
theorem SR.wipe (sr : SR K pa I H σ sl fp) : SR K pa I H (wipe σ vs) (wipeS sl vs) (fpW fp vs) where
  sub := sr.sub
  len := by rw [wipeS_length, wipe_length]; exact sr.len
  slot := fun i s e => by
    by_cases h : i ∈ vs
    · rw [wipeS_in h e]
      show fpW fp vs i = []
      unfold fpW
      rw [if_pos h]
    · rw [wipeS_out h] at e
      rw [wipe_out h]
      have q := sr.slot i s e
      unfold fpW
      rw [if_neg h]
      exact q
  out := fun i h => by
    rw [wipeS_length] at h
    unfold fpW
    split
    · rfl
    · exact sr.out i h
  free := fun i b hb => by
    unfold fpW at hb
    split at hb
    · simp at hb
    · exact sr.free i b hb
  nd := fun i => by
    unfold fpW
    split
    · exact List.nodup_nil
    · exact sr.nd i
  dj := fun i j hij b hb => by
    unfold fpW at hb ⊢
    split at hb
    · simp at hb
    · split
      · simp
      · exact sr.dj i j hij b hb
  pin := sr.pin
/-- back in the def's frame: the slots vs hold what they held -/
theorem SR.unwipe (sr0 : SR K pa I H σ sl fp) (sr : SR K pa I' H' (L2.wipe σ vs) (wipeS s vs) fp') (m : Mv (fpW fp vs) I H fp' I' H') :
    SR K pa I' H' σ (restS sl s vs) (fun j => if j ∈ vs then fp j else fp' j) ∧ Mv fp I H (fun j => if j ∈ vs then fp j else fp' j) I' H' := by
  have ls : s.length = sl.length := by
    have := sr.len
    rw [wipeS_length, wipe_length] at this
    rw [this, sr0.len]
  have outer : ∀ j ∈ vs, ∀ b ∈ fp j, ¬ FP (fpW fp vs) b := fun j hj b hb z => (fpW_sub z).2 j hj sr0.dj hb
  have there : ∀ j ∈ vs, ∀ b ∈ fp j, H' b = H b := fun j hj b hb => by
    obtain ⟨u, hu⟩ := sr0.there ⟨j, hb⟩
    rw [hu]
    exact m.tr.keep b u hu (outer j hj b hb)
  have apart : ∀ j ∈ vs, ∀ b ∈ fp j, ¬ FP fp' b := fun j hj b hb z => by
    rcases m.fresh b z with q | q
    · exact outer j hj b hb q
    · obtain ⟨u, hu⟩ := sr0.there ⟨j, hb⟩
      rw [hu] at q; cases q
  refine ⟨⟨sr.sub, by rw [restS_length, ls]; exact sr0.len, fun i t e => ?_, fun i h => ?_, fun i b hb => ?_, fun i => ?_, fun i j hij b hb => ?_, sr.pin⟩, ⟨⟨m.tr.le, fun b o e n => m.tr.keep b o e fun z => n (fpW_sub z).1, fun b o e n i => m.tr.fr b o e (fun z => n (fpW_sub z).1) i, m.tr.there⟩, fun b hb => ?_⟩⟩
  · by_cases h : i ∈ vs
    · rw [restS_in (by rw [ls]) h] at e
      simp only [if_pos h]
      exact (sr0.slot i t e).keep m.tr.le (there i h)
    · rw [restS_out h] at e
      simp only [if_neg h]
      have q := sr.slot i t (by rw [wipeS_out h]; exact e)
      rw [wipe_out h] at q
      exact q
  · rw [restS_length, ls] at h
    by_cases hi : i ∈ vs
    · simp only [if_pos hi]; exact sr0.out i h
    · simp only [if_neg hi]; exact sr.out i (by rw [wipeS_length, ls]; exact h)
  · by_cases hi : i ∈ vs
    · simp only [if_pos hi] at hb
      obtain ⟨u, hu⟩ := sr0.there ⟨i, hb⟩
      exact m.tr.fr b u hu (outer i hi b hb) (sr0.free i b hb)
    · simp only [if_neg hi] at hb
      exact sr.free i b hb
  · by_cases hi : i ∈ vs
    · simp only [if_pos hi]; exact sr0.nd i
    · simp only [if_neg hi]; exact sr.nd i
  · by_cases hi : i ∈ vs
    · simp only [if_pos hi] at hb
      by_cases hj : j ∈ vs
      · simp only [if_pos hj]; exact sr0.dj i j hij b hb
      · simp only [if_neg hj]; exact fun z => apart i hi b hb ⟨j, z⟩
    · simp only [if_neg hi] at hb
      by_cases hj : j ∈ vs
      · simp only [if_pos hj]; exact fun z => apart j hj b z ⟨i, hb⟩
      · simp only [if_neg hj]; exact sr.dj i j hij b hb
  · obtain ⟨j, hj⟩ := hb
    by_cases h : j ∈ vs
    · simp only [if_pos h] at hj; exact .inl ⟨j, hj⟩
    · simp only [if_neg h] at hj
      rcases m.fresh b ⟨j, hj⟩ with q | q
      · exact .inl (fpW_sub q).1
      · exact .inr q
/-- a thing that nobody has is changed -/
theorem SR.poke (sr : SR K pa I H σ sl fp) (hT : I T = none) (nF : ¬ FP fp T) : SR K pa I (upd H T o) σ sl fp where
  sub := fun b u e => by rw [upd_ne (ne_of_none e hT)]; exact sr.sub b u e
  len := sr.len
  slot := fun i s e => (sr.slot i s e).keep (.refl _) fun b hb => upd_ne fun z => nF ⟨i, z ▸ hb⟩
  out := sr.out
  free := sr.free
  nd := sr.nd
  dj := sr.dj
  pin := fun b hb => by
    by_cases z : b = T
    · exact ⟨o, by rw [z, upd_same]⟩
    · rw [upd_ne z]; exact sr.pin b hb
theorem Mv.poke (m : Mv fp0 I0 H0 fp I H) (h : H0 T = none) : Mv fp0 I0 H0 fp I (upd H T o) where
  tr := ⟨m.tr.le, fun b u e n => by rw [upd_ne (ne_of_none e h)]; exact m.tr.keep b u e n, m.tr.fr, fun b u e => by rw [upd_ne (ne_of_none e h)]; exact m.tr.there b u e⟩
  fresh := m.fresh
end

/-- the comprehension's loop: acc is what is made so far -/
def lcGo (vs : List Nat) (t : Tg) (ft : Den Bool) (fe : Den O) : List D → List D → Den (List D)
  | [], acc, sl => .ok acc sl
  | d :: ds, acc, sl => match t d (wipeS sl vs) with
    | none => .no
    | some s1 => match ft s1 with
      | .ok false s2 => lcGo vs t ft fe ds acc s2
      | .ok true s2 => match fe s2 with
        | .ok (.d x) s3 => if acc.length < sizeLine then lcGo vs t ft fe ds (acc ++ [x]) s3 else .no
        | _ => .no
      | _ => .no
def dLc (vs : List Nat) (fi : Den (List D)) (t : Tg) (ft : Den Bool) (fe : Den O) : Den O := fi.bind fun ds sl => match lcGo vs t ft (dFix fe) ds [] sl with
  | .ok acc s => .ok (.tmp (.lst acc)) (restS sl s vs)
  | _ => .no
structure ATs (X : Cx) (W : WX) (ifs : List Expr) (f : Den Bool) : Prop where
  pt : PTs X ifs (tT X W f)
theorem _root_.L2.PTs.imp {X : Cx} {ifs : List Expr} {t t' : TT} (h : PTs X ifs t) (i : ∀ σ H Q, t' σ H Q → t σ H Q) : PTs X ifs t' := ⟨fun pins s σ H Q I hw => h.run pins s σ H Q I (i σ H Q hw)⟩
abbrev Wn : WX := fun _ _ _ _ => False
section
variable {X : Cx} {W : WX} {pa : PAs} {σ : L2.St} {I H : Hp} {fp : Fps}
theorem ats_nil : ATs X W [] (Den.ret true) := ⟨pts_nil.imp fun σ H Q ⟨pa, I, sl, fp, sr, h⟩ => Po.ret sr h⟩
theorem ats_one {c : Expr} {f : Den Bool} (h : AT X W c f) : ATs X W [c] f := ⟨pts_one h.pt⟩
/-- a comprehension's loop, for a reading of its parts -/
theorem lc_loop {Xb : Cx} (hK : Xb.K = X.K) (hmg : Xb.mg = X.mg) {vs ws : List Nat} {t : Tg} {ft : Den Bool} {fe : Den O} (hws : ∀ j ∈ ws, j ∈ vs) {ds : List D} {sl : Sls} {J : It} {Tn : Addr} {Q : Hp → Prop} {accF : List D} {sF : Sls}
    (sr : SR X.K pa I H σ sl fp) (hJ : ItR X.K J ds I) (hT : H Tn = none) (ok : lcGo vs t ft (dFix fe) ds [] sl = .ok accF sF)
    (hQ : ∀ I' H' fp' avs, SR X.K pa I' H' (wipe σ vs) (wipeS sF vs) fp' → Mv (fpW fp vs) I H fp' I' H' → H' Tn = some (.lst avs) → I' Tn = none → ¬ FP fp' Tn → Rs X.K I' avs accF → Q H') :
    ∃ W' : Nat → Nat → Hp → Prop, (∃ m, W' 0 m (upd H Tn (.lst []))) ∧ ∀ i m H, W' i m H → (J.stop i H ∧ Q H) ∨ (J.go i H ∧ ∃ Nx : Hp → Prop, (∀ H', Nx H' → ∃ m', m' < m ∧ W' (i + 1) m' H') ∧ ∀ x H', J.yld i H x H' →
      tG Xb t ws x (wipe σ vs) H' fun σ2 H2 => wipe σ2 vs = wipe σ vs ∧ tT Xb Wn ft σ2 H2 fun b H3 => if b = true then tE Xb Wn fe σ2 H3 fun y H4 => ∃ acc, H4 Tn = some (.lst acc) ∧ acc.length < sizeLine ∧ Nx (upd H4 Tn (.lst (acc ++ [y]))) else Nx H3) := by
  obtain ⟨G, Y, Wk, hG, hY⟩ := hJ
  let P : Nat → Hp → Prop := fun i H' => ∃ I' sl' fp' avs acc, SR X.K pa I' H' (wipe σ vs) (wipeS sl' vs) fp' ∧ Mv (fpW fp vs) I H fp' I' H' ∧ H' Tn = some (.lst avs) ∧ I' Tn = none ∧ ¬ FP fp' Tn ∧ Rs X.K I' avs acc ∧ lcGo vs t ft (dFix fe) (ds.drop i) acc sl' = .ok accF sF
  have nT : ¬ FP fp Tn := fun z => by obtain ⟨u, hu⟩ := sr.there z; rw [hT] at hu; cases hu
  refine ⟨fun i m H' => i + m = ds.length ∧ P i H', ⟨ds.length, by simp, I, sl, fpW fp vs, [], [], sr.wipe.poke (Sub.non sr.sub hT) (fun z => nT (fpW_sub z).1), Mv.refl.poke hT, upd_same, Sub.non sr.sub hT, fun z => nT (fpW_sub z).1, .nil, ok⟩, ?_⟩
  rintro i m H1 ⟨em, I1, sl1, fp1, avs, acc, sr1, m1, e1, i1, n1, r1, ok1⟩
  have l1 : Le I I1 := m1.tr.le
  have sb1 : Sub I H1 := fun b o e => m1.tr.keep b o (sr.sub b o e) fun z => by rw [sr.nfree (fpW_sub z).1] at e; cases e
  by_cases hi : i < ds.length
  · have ed : ds.drop i = ds[i] :: ds.drop (i + 1) := List.drop_eq_getElem_cons hi
    rw [ed] at ok1
    refine .inr ⟨Wk.goes i H1 hi (hG I1 H1 l1 sr1.sub sb1), fun H' => P (i + 1) H', fun H' n => ⟨m - 1, by omega, by omega, n⟩, fun x H2 y => ?_⟩
    obtain ⟨I2, a2, r2⟩ := hY i I1 H1 x H2 ds[i] (List.getElem?_eq_getElem hi) l1 sr1.sub (Wk.yields i H1 x H2 hi (hG I1 H1 l1 sr1.sub sb1) y)
    have sr2 := sr1.al a2
    have e2 : H2 Tn = some (.lst avs) := a2.keep _ _ e1
    have i2 : I2 Tn = none := by
      cases z : I2 Tn with
      | none => rfl
      | some u => rcases a2.fr _ _ z with q | q
                  · rw [e1] at q; cases q
                  · rw [i1] at q; cases q
    have m2 := m1.trans a2.mv
    have r12 := r1.up a2.le
    unfold lcGo at ok1
    refine ⟨pa, I2, wipeS sl1 vs, fp1, ds[i], by rw [hK]; exact sr2, by rw [hK]; exact r2, ?_⟩
    cases et : t ds[i] (wipeS sl1 vs) with
    | none => simp only [et] at ok1; cases ok1
    | some s1 =>
      simp only [et] at ok1 ⊢
      intro σ3 fp3 sr3 f3 k3
      rw [hK] at sr3
      have n3 : ¬ FP fp3 Tn := fun z => n1 (f3 _ z)
      have m3 : Mv (fpW fp vs) I H fp3 I2 H2 := ⟨m2.tr, fun b hb => m2.fresh b (f3 b hb)⟩
      have w3 := wipe_keeps k3 hws
      refine ⟨w3, pa, I2, s1, fp3, by rw [hK]; exact sr3, ?_⟩
      -- what stays of the new list behind a step
      have stay : ∀ {I4 H4 fp4}, Mv fp3 I2 H2 fp4 I4 H4 → H4 Tn = some (.lst avs) ∧ I4 Tn = none ∧ ¬ FP fp4 Tn := fun {I4 H4 fp4} m4 => by
        refine ⟨m4.tr.keep _ _ e2 n3, m4.tr.fr _ _ e2 n3 i2, fun z => ?_⟩
        rcases m4.fresh _ z with q | q
        · exact n3 q
        · rw [e2] at q; cases q
      cases ef : ft s1 with
      | no => simp only [ef] at ok1; cases ok1
      | err x s => simp only [ef] at ok1; cases ok1
      | ok k s2 =>
        intro I4 H4 fp4 sr4 m4
        rw [hK] at sr4
        cases k with
        | false =>
          simp only [ef] at ok1
          obtain ⟨e4, i4, n4⟩ := stay m4
          have q := sr4.wipe (vs := vs)
          rw [w3] at q
          refine iteF ⟨I4, s2, fpW fp4 vs, avs, acc, q, ?_, e4, i4, fun z => n4 (fpW_sub z).1, r12.up m4.tr.le, ok1⟩
          have := m3.trans m4
          exact ⟨this.tr, fun b hb => this.fresh b (fpW_sub hb).1⟩
        | true =>
          simp only [ef] at ok1
          refine iteT (tE_fix ⟨pa, I4, s2, fp4, by rw [hK]; exact sr4, ?_⟩)
          cases ee : (dFix fe) s2 with
          | no => simp only [ee] at ok1; cases ok1
          | err x s => simp only [ee] at ok1; cases ok1
          | ok o s3 =>
            intro I5 H5 fp5 sr5 m5 v hv
            rw [hK] at sr5
            cases o with
            | d x =>
              have hv : Rl Xb.K I5 v x := hv
              rw [hK] at hv
              simp only [ee] at ok1
              by_cases hl : acc.length < sizeLine
              · simp only [if_pos hl] at ok1
                obtain ⟨e5, i5, n5⟩ := stay (m4.trans m5)
                have ml := m4.trans m5
                refine ⟨avs, e5, by rw [r1.length]; exact hl, ?_⟩
                have q := (sr5.wipe (vs := vs)).poke (T := Tn) (o := .lst (avs ++ [v])) i5 (fun z => n5 (fpW_sub z).1)
                rw [w3] at q
                refine ⟨I5, s3, fpW fp5 vs, avs ++ [v], acc ++ [x], q, ?_, upd_same, i5, fun z => n5 (fpW_sub z).1, (r12.up ml.tr.le).append (.cons hv .nil), ok1⟩
                have := (m3.trans ml).poke (T := Tn) (o := .lst (avs ++ [v])) hT
                exact ⟨this.tr, fun b hb => this.fresh b (fpW_sub hb).1⟩
              · simp only [if_neg hl] at ok1; cases ok1
            | sl i => simp only [ee] at ok1; cases ok1
            | tmp m => simp only [ee] at ok1; cases ok1
            | set xs => simp only [ee] at ok1; cases ok1
            | scr ns => simp only [ee] at ok1; cases ok1
  · have ei : i = ds.length := by omega
    rw [ei, List.drop_length] at ok1
    have ok1 : Rz.ok acc sl1 = Rz.ok accF sF := ok1
    cases ok1
    rw [ei]
    exact .inl ⟨Wk.stops H1 (hG I1 H1 l1 sr1.sub sb1), hQ I1 H1 fp1 avs sr1 m1 e1 i1 n1 r1⟩
theorem tE_lc {Xb : Cx → Prop} {vs ws : List Nat} {t : Tg} {ft : Den Bool} {fe : Den O} {fi : Den (List D)} (hws : ∀ j ∈ ws, j ∈ vs) {Xc : Cx} (hK : Xc.K = X.K) (hmg : Xc.mg = X.mg) {Q : VK} (h : tE X W (dLc vs fi t ft fe) σ H Q) :
    tLc (tI X W fi) (tG Xc t ws) (tT Xc Wn ft) (tE Xc Wn fe) vs σ H Q := by
  obtain ⟨pa, I, sl, fp, sr, h⟩ := h
  refine ⟨pa, I, sl, fp, sr, h.bind.mono fun ds sl1 I1 H1 fp1 _ sr1 m1 q J hJ Tn hT => ?_⟩
  cases e : lcGo vs t ft (dFix fe) ds [] sl1 with
  | no => simp only [e] at q; exact q.elim
  | err x s => simp only [e] at q; exact q.elim
  | ok acc s =>
    simp only [e] at q
    refine lc_loop (Q := fun H' => Q (.ref Tn) H') hK hmg hws sr1 hJ hT e fun I' H' fp' avs sr2 m2 eT iT nT r => ?_
    obtain ⟨sr3, m3⟩ := sr1.unwipe sr2 m2
    refine (show Po X W pa σ I1 H1 fp1 (.ok (O.tmp (.lst acc)) (restS sl1 s vs)) _ from q) I' H' _ sr3 m3 (.ref Tn) ⟨Tn, [Tn], rfl, .lst eT r, by simp, fun b hb => ?_⟩
    have eb : b = Tn := by simpa using hb
    subst eb
    refine ⟨m1.tr.gone hT, iT, fun z => ?_⟩
    rcases m3.fresh b z with z | z
    · obtain ⟨u, hu⟩ := sr1.there z
      rw [hT] at hu; cases hu
    · obtain ⟨j, hj⟩ := id ‹FP _ b›
      by_cases hjv : j ∈ vs
      · simp only [if_pos hjv] at hj
        obtain ⟨u, hu⟩ := sr1.there ⟨j, hj⟩
        rw [hT] at hu; cases hu
      · simp only [if_neg hjv] at hj
        exact nT ⟨j, hj⟩
theorem ae_lc {elt tg iter : Expr} {ifs : List Expr} {scope : Scope} {own : List (Str × Nat)} {pos : Pos} {t : Tg} {ws : List Nat} {ft : Den Bool} {fe : Den O} {fi : Den (List D)} (hc : X.calm = true) (hN : X.N.Nodup) (hi : AI X W tg iter fi) (ok : BlkOk X.N X.env.scope scope own)
    (hws : ∀ j ∈ ws, j ∈ own.map (·.2))
    (hg : ∀ (s : Shared) (H : Hp) (C : Addr) (cl : List (Str × Addr)) (fp : List Addr), AG (X.blk s H scope (compEnvC scope cl C X.env) fp) tg t ws) (ht : ∀ (s : Shared) (H : Hp) (C : Addr) (cl : List (Str × Addr)) (fp : List Addr), ATs (X.blk s H scope (compEnvC scope cl C X.env) fp) Wn ifs ft)
    (he : ∀ (s : Shared) (H : Hp) (C : Addr) (cl : List (Str × Addr)) (fp : List Addr), AE (X.blk s H scope (compEnvC scope cl C X.env) fp) Wn elt fe) (hs : ∀ x, foldedSetIterable iter X.env x = pure x := by intro _; rfl) :
    AE X W (.ListComp elt [⟨tg, iter, ifs, 0⟩] scope pos) (dLc (own.map (·.2)) fi t ft fe) :=
  ⟨(pe_lc hc hN hi.pi ok (g := tG X t ws) (tt := tT X Wn ft) (te := tE X Wn fe) (fun s H C cl fp => ⟨(hg s H C cl fp).pg.run⟩) (fun s H C cl fp => ⟨(ht s H C cl fp).pt.run⟩) (fun s H C cl fp => ⟨(he s H C cl fp).pe.run⟩) hs).imp fun σ H Q h => tE_lc (Xb := fun _ => True) (Xc := X) hws rfl rfl h⟩
end
end AL
end
section
set_option Elab.async false
set_option linter.all false
set_option maxRecDepth 100000
set_option maxHeartbeats 4000000
set_option autoImplicit false
/-! The A-layer, part h: what is owned is changed: methods, stores; pairs of names; unpacking. -/
namespace AL
open PySem PySem.Spec PyProof.Rows L2

section
variable {K : PySem.W.Frag} {pa : PAs} {I H H' : Hp} {σ : L2.St} {sl : Sls} {fp : Fps} {i : Nat} {t : Option Nat} {m m' : Mu} {a : Addr} {v : V}
/-- a slot's owned thing is written -/
theorem SR.ownW (sr : SR K pa I H σ sl fp) (e : sl[i]? = some (.own t m)) (hv : σ[i]? = some (some (.ref a))) (o : Own K I H' a m' (fp i)) (k : ∀ b, b ∉ fp i → H' b = H b) :
    SR K pa I H' σ (sl.set i (.own t m')) fp ∧ Mv fp I H fp I H' := by
  have hi : i < sl.length := (List.getElem?_eq_some_iff.mp e).1
  have ther : ∀ b u, H b = some u → ∃ u', H' b = some u' := fun b u hb => by
    by_cases z : b ∈ fp i
    · exact o.there b z
    · exact ⟨u, by rw [k b z]; exact hb⟩
  refine ⟨⟨fun b u hb => ?_, by rw [List.length_set]; exact sr.len, fun j s ej => ?_, fun j h => sr.out j (by rw [List.length_set] at h; exact h), sr.free, sr.nd, sr.dj, fun b hb => ?_⟩, ⟨.refl _, fun b u hb n => by rw [k b fun z => n ⟨i, z⟩]; exact hb, fun b u hb n z => z, ther⟩, fun b h => .inl h⟩
  · rw [k b fun z => by rw [sr.free i b z] at hb; cases hb]
    exact sr.sub b u hb
  · by_cases hj : j = i
    · subst hj
      rw [List.getElem?_set_self hi] at ej
      cases ej
      obtain ⟨a', ea, _, p⟩ := sr.slot j _ e
      rw [hv] at ea
      have ea : some (V.ref a) = some (V.ref a') := ea
      cases ea
      exact ⟨a, by rw [hv]; rfl, o, p⟩
    · rw [List.getElem?_set_ne (Ne.symm hj)] at ej
      exact (sr.slot j s ej).keep (.refl _) fun b hb => k b (sr.dj j i hj b hb)
  · obtain ⟨u, hu⟩ := sr.pin b hb
    exact ther b u hu
theorem SR.ownAt (sr : SR K pa I H σ sl fp) (e : sl[i]? = some (.own t m)) (hv : σ[i]? = some (some v)) : ∃ a, v = .ref a ∧ Own K I H a m (fp i) := by
  obtain ⟨a, ea, o, _⟩ := sr.slot i _ e
  rw [hv] at ea
  have ea : some v = some (V.ref a) := ea
  cases ea
  exact ⟨a, rfl, o⟩
end

/-! ### methods that change -/
def Mu.ty : Mu → String
  | .lst _ => "list"
  | _ => "dict"
def SndM (K : PySem.W.Frag) (r : V → List V → Hp → VK → Prop) (g : Mu → List D → Option (Mu × D)) : Prop :=
  ∀ (I H : Hp) (a : Addr) (m : Mu) (f : List Addr) (xs : List V) (ds : List D) (m' : Mu) (d : D) (Q : VK), Sub I H → Own K I H a m f → (∀ b ∈ f, I b = none) → f.Nodup → Rs K I xs ds → g m ds = some (m', d) →
    (∀ v H', Own K I H' a m' f → (∀ b, b ∉ f → H' b = H b) → Rl K I v d → Q v H') → r (.ref a) xs H Q
def dMt1 (T : String) (g : Mu → List D → Option (Mu × D)) (o : O) (fa : Den (List O)) : Den O := fun sl => match o with
  | .sl i => match sl[i]? with
    | some (.own _ m0) => if m0.ty = T then (fa.bind fun os sl => match asDs os with
      | some ds => match sl[i]? with
        | some (.own t m) => match g m ds with
          | some (m', d) => .ok (.d d) (sl.set i (.own t m'))
          | none => .no
        | _ => .no
      | none => .no) sl else .no
    | _ => .no
  | _ => .no
def dMt (T : String) (g : Mu → List D → Option (Mu × D)) (fo : Den O) (fa : Den (List O)) : Den O := fo.bind fun o => dMt1 T g o fa
section
variable {X : Cx} {W : WX} {o e : Expr} {es : List Expr} {fo : Den O} {fs : Den (List O)} {apos cpos : Pos} {T id : String} {name : Str} {r : V → List V → Hp → VK → Prop} {g : Mu → List D → Option (Mu × D)}
theorem Own.tyV {K : PySem.W.Frag} {I H : Hp} {a : Addr} {m : Mu} {f : List Addr} (o : Own K I H a m f) : tyV K m.ty (.ref a) H := by
  cases o with
  | lst h _ => exact .inl ⟨rfl, _, .of h⟩
  | dic h _ => exact .inr (.inr (.inl ⟨rfl, .inl ⟨_, h⟩⟩))
  | dll h _ => exact .inr (.inr (.inl ⟨rfl, .inl ⟨_, h⟩⟩))
theorem tE_mt (hs : SndM X.K r g) {σ : L2.St} {H : Hp} {Q : VK} (h : tE X W (dMt T g fo fs) σ H Q) : tBM X.K T r (tE X W fo) (tA X W fs) σ H Q := by
  refine tE_then h fun pa I1 H1 fp1 sl1 o1 v1 sr1 g1 h1 h => ?_
  unfold dMt1 at h
  cases o1 with
  | sl i =>
    cases e : sl1[i]? with
    | none => simp only [e] at h; exact h.elim
    | some s =>
      cases s with
      | own t0 m0 =>
        simp only [e] at h
        by_cases hT : m0.ty = T
        · simp only [if_pos hT] at h
          have hv : σ[i]? = some (some v1) := h1
          obtain ⟨a, rfl, ow⟩ := sr1.ownAt e hv
          refine ⟨hT ▸ ow.tyV, pa, I1, sl1, fp1, sr1, h.bind.mono fun os sl2 I2 H2 fp2 _ sr2 m2 q vs hvs => ?_⟩
          cases e1 : asDs os with
          | none => simp only [e1] at q; exact q.elim
          | some ds =>
            cases e2 : sl2[i]? with
            | none => simp only [e1, e2] at q; exact q.elim
            | some s2 =>
              cases s2 with
              | own t m =>
                simp only [e1, e2] at q
                cases e3 : g m ds with
                | none => simp only [e3] at q; exact q.elim
                | some p =>
                  obtain ⟨m', d⟩ := p
                  simp only [e3] at q
                  obtain ⟨a', ea, ow2⟩ := sr2.ownAt e2 hv
                  cases ea
                  refine hs I2 H2 a m (fp2 i) vs ds m' d Q sr2.sub ow2 (sr2.free i) (sr2.nd i) (hvs.ds e1) e3 fun v H' o' k' rv => ?_
                  obtain ⟨sr3, m3⟩ := sr2.ownW e2 hv o' k'
                  exact (show Po X W pa σ I2 H2 fp2 (.ok (O.d d) (sl2.set i (.own t m'))) _ from q) I2 H' fp2 sr3 m3 v rv
              | _ => simp only [e1, e2] at q; exact q.elim
        · simp only [if_neg hT] at h; exact h.elim
      | _ => simp only [e] at h; exact h.elim
  | _ => exact h.elim
theorem ae_mt (hs : SndM X.K r g) (pa : PlainAttrs T) (slot : Slot T name id) (hty : typeOf (.builtin id) = pure (.type "method_descriptor")) (hm : MtR X id r) (ho : AE X W o fo) (ha : AA X W (e :: es) fs)
    (hbase : attributeBase o name X.env (eval o X.env) = eval o X.env := by rfl)
    (hfew : ((backTo cpos (starEach (e :: es) X.env)).all (fun x => !x.1) && (backToKw cpos (keywordEach [] X.env)).all (fun x => x.1.isSome)
      && decide ((e :: es).length + ([] : List Keyword).length + (if ([] : List Keyword).isEmpty then 0 else 1) < 30)) = true := by rfl)
    (hline : (apos.endLine == cpos.line) = true := by rfl) (hs2 : starEach (e :: es) X.env = (false, eval e X.env) :: starEach es X.env := by rfl) (hplain : (backTo cpos (starEach es X.env)).any (·.1) = false := by rfl) :
    AE X W (.Call (.Attribute o name apos) (e :: es) [] cpos) (dMt T g fo fs) :=
  ⟨(pe_bm pa slot hty hm ho.pe ha.pa hbase hfew hline hs2 hplain).imp fun σ H Q h => tE_mt hs h⟩
theorem ae_mt0 (hs : SndM X.K r g) (pa : PlainAttrs T) (slot : Slot T name id) (hty : typeOf (.builtin id) = pure (.type "method_descriptor")) (hm : MtR X id r) (ho : AE X W o fo)
    (hbase : attributeBase o name X.env (eval o X.env) = eval o X.env := by rfl) (hline : (apos.endLine == cpos.line) = true := by rfl) :
    AE X W (.Call (.Attribute o name apos) [] [] cpos) (dMt T g fo dNil) := by
  refine ⟨(pe_bm0 pa slot hty hm ho.pe hbase hline).imp fun σ H Q h => ?_⟩
  have q : tBM X.K T r (tE X W fo) (tA X W dNil) σ H Q := tE_mt hs h
  obtain ⟨pa, I, sl, fp, sr, q⟩ := q
  refine ⟨pa, I, sl, fp, sr, q.mono fun o sl1 I1 H1 fp1 _ sr1 m1 q v hv => ?_⟩
  obtain ⟨ty, q⟩ := q v hv
  refine ⟨ty, ?_⟩
  obtain ⟨pa, I, sl, fp, sr, q⟩ := q
  exact Po.ret sr q [] ORs.nil
end
/-! .. lists -/
def mAppend : Mu → List D → Option (Mu × D)
  | .lst xs, [d] => if xs.length < sizeLine then some (.lst (xs ++ [d]), .none) else none
  | _, _ => none
def mPop : Mu → List D → Option (Mu × D)
  | .lst xs, [] => match xs[xs.length - 1]? with
    | some d => some (.lst xs.dropLast, d)
    | none => none
  | _, _ => none
def mPopAt : Mu → List D → Option (Mu × D)
  | .lst xs, [.int i] => if -(2 ^ 63) ≤ i ∧ i < 2 ^ 63 then match seqIndex? i xs.length with
    | some k => match xs[k]? with
      | some d => some (.lst (xs.eraseIdx k), d)
      | none => none
    | none => none else none
  | _, _ => none
def mClear : Mu → List D → Option (Mu × D)
  | .lst _, [] => some (.lst [], .none)
  | _, _ => none
def mReverse : Mu → List D → Option (Mu × D)
  | .lst xs, [] => some (.lst xs.reverse, .none)
  | _, _ => none
def mExtend : Mu → List D → Option (Mu × D)
  | .lst xs, [.list ys] => if xs.length + ys.length ≤ sizeLine then some (.lst (xs ++ ys), .none) else none
  | _, _ => none
section
variable {K : PySem.W.Frag} {I H : Hp} {a : Addr} {xs : List D} {f : List Addr} {ds : List D}
theorem Own.lstI (o : Own K I H a (.lst xs) f) : ∃ vs, f = [a] ∧ H a = some (.lst vs) ∧ Rs K I vs xs := by
  cases o with
  | lst h r => exact ⟨_, rfl, h, r⟩
theorem Rs.dropLast {vs : List V} (r : Rs K I vs ds) : Rs K I vs.dropLast ds.dropLast := by
  rw [List.dropLast_eq_take, List.dropLast_eq_take, r.length]
  exact r.take _
theorem Rs.one {vs : List V} {d : D} (r : Rs K I vs [d]) : ∃ v, vs = [v] ∧ Rl K I v d := by
  cases r with
  | cons a b => cases b; exact ⟨_, rfl, a⟩
theorem Rs.zero {vs : List V} (r : Rs K I vs []) : vs = [] := by cases r; rfl
theorem upd_out {a : Addr} {o : HO} : ∀ b, b ∉ [a] → upd H a o b = H b := fun b hb => upd_ne fun e => hb (by simp [e])
theorem snd_append : SndM K rAppend mAppend := by
  intro I H a m f xs ds m' d Q s o fr nd r e k
  unfold mAppend at e
  split at e
  · split at e
    · rename_i ys d0 hl
      cases e
      obtain ⟨vs, rfl, hH, rv⟩ := o.lstI
      obtain ⟨v, rfl, r0⟩ := r.one
      exact ⟨a, vs, v, rfl, rfl, hH, by rw [rv.length]; exact hl, k .non _ (.lst upd_same (rv.append (.cons r0 .nil))) upd_out .non⟩
    · cases e
  · cases e
theorem snd_pop : SndM K rPop mPop := by
  intro I H a m f xs ds m' d Q s o fr nd r e k
  unfold mPop at e
  split at e
  · split at e
    · rename_i ys d0 hl
      cases e
      obtain ⟨vs, rfl, hH, rv⟩ := o.lstI
      cases r.zero
      obtain ⟨v, e1, r1⟩ := rv.get hl
      rw [← rv.length] at e1
      exact ⟨a, vs, v, rfl, rfl, hH, e1, k v _ (.lst upd_same rv.dropLast) upd_out r1⟩
    · cases e
  · cases e
theorem snd_popAt : SndM K rPopAt mPopAt := by
  intro I H a m f xs ds m' d Q s o fr nd r e k
  unfold mPopAt at e
  split at e
  · split at e
    · rename_i ys i hr
      split at e
      · rename_i k0 hk
        split at e
        · rename_i d0 hd
          cases e
          obtain ⟨vs, rfl, hH, rv⟩ := o.lstI
          obtain ⟨v, rfl, r0⟩ := r.one
          cases r0
          obtain ⟨w, e1, r1⟩ := rv.get hd
          exact ⟨a, vs, i, k0, w, rfl, rfl, hH, hr.1, hr.2, by rw [rv.length]; exact hk, e1, k w _ (.lst upd_same (rv.erase k0)) upd_out r1⟩
        · cases e
      · cases e
    · cases e
  · cases e
theorem snd_clear : SndM K rClear mClear := by
  intro I H a m f xs ds m' d Q s o fr nd r e k
  unfold mClear at e
  split at e
  · cases e
    obtain ⟨vs, rfl, hH, rv⟩ := o.lstI
    cases r.zero
    exact ⟨a, vs, rfl, rfl, hH, k .non _ (.lst upd_same .nil) upd_out .non⟩
  · cases e
theorem snd_reverse : SndM K rReverse mReverse := by
  intro I H a m f xs ds m' d Q s o fr nd r e k
  unfold mReverse at e
  split at e
  · cases e
    obtain ⟨vs, rfl, hH, rv⟩ := o.lstI
    cases r.zero
    exact ⟨a, vs, rfl, rfl, hH, k .non _ (.lst upd_same rv.reverse) upd_out .non⟩
  · cases e
theorem snd_extend : SndM K rExtend mExtend := by
  intro I H a m f xs ds m' d Q s o fr nd r e k
  unfold mExtend at e
  split at e
  · split at e
    · rename_i ys zs hl
      cases e
      obtain ⟨vs, rfl, hH, rv⟩ := o.lstI
      obtain ⟨v, rfl, r0⟩ := r.one
      cases r0 with
      | lst e1 r1 => exact ⟨a, _, vs, _, rfl, rfl, hH, s _ _ e1, by rw [rv.length, r1.length]; exact hl, k .non _ (.lst upd_same (rv.append r1)) upd_out .non⟩
    · cases e
  · cases e
end

/-! ### o[i] = value, o owned -/
def SndT (K : PySem.W.Frag) (r : TSet) (g : Mu → D → D → Option Mu) : Prop :=
  ∀ (I H : Hp) (a : Addr) (m : Mu) (f : List Addr) (y v : V) (dy dv : D) (m' : Mu) (Q : Hp → Prop), Sub I H → Own K I H a m f → (∀ b ∈ f, I b = none) → Vw K I H y dy → Rl K I v dv → g m dy dv = some m' →
    (∀ H', Own K I H' a m' f → (∀ b, b ∉ f → H' b = H b) → Q H') → r (.ref a) y v H Q
def dSet (g : Mu → D → D → Option Mu) (fo fi fv : Den O) : Den Fl := (dFix fv).bind fun x => match x with
  | .d dv => fo.bind fun o => fi.bind fun y sl => match o, y.see sl with
    | .sl i, some dy => match sl[i]? with
      | some (.own t m) => match g m dy dv with
        | some m' => .ok .nx (sl.set i (.own t m'))
        | none => .no
      | _ => .no
    | _, _ => .no
  | _ => Den.no
section
variable {X : Cx} {W : WX} {pa : PAs} {σ : L2.St} {I H : Hp} {fp : Fps} {E : Ends} {sl : Sls}
/-- an expression within a statement, as a reading -/
theorem tS_E {fe : Den O} {k : O → Den Fl} {R : VK} (sr : SR X.K pa I H σ sl fp) (h : PoS X W pa I H fp ((fe.bind k) sl) E)
    (f' : ∀ sl1 I1 H1 fp1 o v, SR X.K pa I1 H1 σ sl1 fp1 → Mv fp I H fp1 I1 H1 → OR X.K σ I1 H1 fp1 H v o → PoS X W pa I1 H1 fp1 (k o sl1) E → R v H1) : tE X W fe σ H R :=
  ⟨pa, I, sl, fp, sr, stE h (fun sl1 I1 H1 fp1 o v sr1 m1 hv q => f' sl1 I1 H1 fp1 o v sr1 m1 hv (q.from m1)) (stW h)⟩
theorem fix_all {I1 H1 : Hp} {fp1 : Fps} {s s2 : Sls} {o o' : O} {v : V} (sr1 : SR X.K pa I1 H1 σ s fp1) (m1 : Mv fp I H fp1 I1 H1) (hv : OR X.K σ I1 H1 fp1 H v o) (e : O.fix o s = .ok o' s2) :
    ∃ I2 fp2, SR X.K pa I2 H1 σ s2 fp2 ∧ Mv fp I H fp2 I2 H1 ∧ ((∃ x, o' = .d x ∧ Rl X.K I2 v x) ∨ ∃ ns, o' = .scr ns ∧ OR X.K σ I2 H1 fp2 H v (.scr ns)) := by
  cases o with
  | d x => cases e; exact ⟨I1, fp1, sr1, m1, .inl ⟨x, rfl, hv⟩⟩
  | set xs => cases e
  | scr ns => cases e; exact ⟨I1, fp1, sr1, m1, .inr ⟨ns, rfl, hv⟩⟩
  | tmp m =>
    cases e
    obtain ⟨a, f, rfl, o, nd, q⟩ := hv
    obtain ⟨sr2, r⟩ := sr1.frozeT o q
    exact ⟨_, fp1, sr2, ⟨⟨m1.tr.le.trans (frz_le fun b hb => (q b hb).2.1), m1.tr.keep, fun b u hb n i => by
      rw [frz_out fun w => by rw [(q b w).1] at hb; cases hb]
      exact m1.tr.fr b u hb n i, m1.tr.there⟩, m1.fresh⟩, .inl ⟨_, rfl, r⟩⟩
  | sl i =>
    have hv : σ[i]? = some (some v) := hv
    dsimp only [O.fix] at e
    cases es : s[i]? with
    | none => simp only [es] at e; cases e
    | some z =>
      simp only [es] at e
      cases z with
      | em => cases e
      | scr ns => cases e
      | val x =>
        cases e
        obtain ⟨_, w, e1, r⟩ := sr1.slot i _ es
        rw [hv] at e1
        have e1 : some v = some w := e1
        cases e1
        exact ⟨I1, fp1, sr1, m1, .inl ⟨x, rfl, r⟩⟩
      | own t m =>
        cases e
        obtain ⟨sr2, m2, r⟩ := sr1.froze es hv
        exact ⟨_, _, sr2, m1.trans m2, .inl ⟨_, rfl, r⟩⟩
/-- .. its value told for good -/
theorem tS_F {fe : Den O} {k : O → Den Fl} {R : VK} (sr : SR X.K pa I H σ sl fp) (h : PoS X W pa I H fp (((dFix fe).bind k) sl) E)
    (f' : ∀ sl1 I1 H1 fp1 v, SR X.K pa I1 H1 σ sl1 fp1 → Mv fp I H fp1 I1 H1 → ((∃ x, Rl X.K I1 v x ∧ PoS X W pa I1 H1 fp1 (k (.d x) sl1) E) ∨ ∃ ns, OR X.K σ I1 H1 fp1 H v (.scr ns) ∧ PoS X W pa I1 H1 fp1 (k (.scr ns) sl1) E) → R v H1) : tE X W fe σ H R := by
  refine ⟨pa, I, sl, fp, sr, ?_⟩
  have hW := stW (σ := σ) (show PoS X W pa I H fp (((dFix fe).bind k) sl) E from h)
  have h : PoS X W pa I H fp (((fe.bind O.fix).bind k) sl) E := h
  unfold dFix at hW
  unfold Den.bind at h hW
  cases e : fe sl with
  | no => simp only [e] at h; exact h
  | err x s => exact fun c d I' H' fp' sr mv er => hW x s c d I' H' fp' (by simp only [e]) sr mv er
  | ok o s =>
    simp only [e] at h
    intro I1 H1 fp1 sr1 m1 v hv
    cases e2 : O.fix o s with
    | no => simp only [e2] at h; exact h.elim
    | err x s' =>
      exfalso
      unfold O.fix at e2
      cases o with
      | d x => cases e2
      | set x => cases e2
      | scr x => cases e2
      | tmp x => cases e2
      | sl i =>
        dsimp only at e2
        split at e2 <;> cases e2
    | ok o' s2 =>
      simp only [e2] at h
      obtain ⟨I2, fp2, sr2, m2, q⟩ := fix_all sr1 m1 hv e2
      refine f' s2 I2 H1 fp2 v sr2 m2 ?_
      rcases q with ⟨x, rfl, r⟩ | ⟨ns, rfl, r⟩
      · exact .inl ⟨x, r, h.from m2⟩
      · exact .inr ⟨ns, r, h.from m2⟩
variable {o i e : Expr} {fo fi fv : Den O} {pos p2 : Pos} {r : TSet} {g : Mu → D → D → Option Mu}
theorem as_sub (hs : SndT X.K r g) (hr : PSet X r) (hv : AE X W e fv) (ho : AE X W o fo) (hi : AE X W i fi)
    (hsw : swapsWithSole [.Subscript o i p2] e pos.line X.env = pure false := by rfl) (hw : swappedStores [.Subscript o i p2] e X.env = pure none := by rfl)
    (h1 : (assignEach [.Subscript o i p2] X.env).map (·.2) = [assign (.Subscript o i p2) X.env] := by rfl) (ha : ∀ v, assign (.Subscript o i p2) X.env v = (do
      let ov ← holding [v] (eval o X.env)
      let iv ← holding [v, ov] (eval i X.env)
      standAt p2
      holding [v, ov, iv] (setItem ov iv v)
      release [v, ov, iv] []) := by intro _; rfl) : AS X W (.Assign [.Subscript o i p2] e pos) (dSet g fo fi fv) := by
  refine ⟨(ps_asg hv.pe (pg_sub ho.pe hi.pe hr ha) hsw hw h1).imp fun E σ H h => ?_⟩
  obtain ⟨pa, I, sl, fp, sr, h⟩ := h
  refine tS_F sr h fun sl1 I1 H1 fp1 v sr1 m1 q => ?_
  rcases q with ⟨dv, rv, q⟩ | ⟨ns, _, q⟩
  · refine tS_E sr1 q fun sl2 I2 H2 fp2 o v2 sr2 m2 h2 q => ?_
    refine tS_E sr2 q fun sl3 I3 H3 fp3 y v3 sr3 m3 h3 q => ?_
    have h23 := h2.keep m3
    cases o with
    | sl j =>
      cases ey : y.see sl3 with
      | none => simp only [ey] at q; exact q.elim
      | some dy =>
        simp only [ey] at q
        cases es : sl3[j]? with
        | none => simp only [es] at q; exact q.elim
        | some s =>
          cases s with
          | own t m =>
            simp only [es] at q
            cases eg : g m dy dv with
            | none => simp only [eg] at q; exact q.elim
            | some m' =>
              simp only [eg] at q
              have hv2 : σ[j]? = some (some v2) := h23
              obtain ⟨a, rfl, ow⟩ := sr3.ownAt es hv2
              refine hs I3 H3 a m (fp3 j) v3 v dy dv m' _ sr3.sub ow (sr3.free j) (h3.vw sr3 ey) (rv.up (m2.tr.le.trans m3.tr.le)) eg fun H' o' k' => ?_
              obtain ⟨sr4, m4⟩ := sr3.ownW es hv2 o' k'
              exact (show PoS X W pa I3 H3 fp3 (.ok .nx (sl3.set j (.own t m'))) E from q) σ I3 H' fp3 sr4 m4
          | _ => simp only [es] at q; exact q.elim
    | d x => exact q.elim
    | tmp x => exact q.elim
    | set x => exact q.elim
    | scr x => exact q.elim
  · exact q.elim
end
/-! .. lists, dicts -/
def mSetL : Mu → D → D → Option Mu
  | .lst xs, .int k, d => (ixN xs.length k).map fun j => .lst (xs.set j d)
  | _, _, _ => none
def putD (kvs : List (D × D)) (k : Key) (d : D) : List (D × D) :=
  if (kvs.any fun p => decide (keyOf p.1 = some k)) = true then kvs.map (fun p => if keyOf p.1 = some k then (p.1, d) else p) else kvs ++ [(kD k, d)]
def mSetD : Mu → D → D → Option Mu
  | .dic kvs, y, d => match keyOf y with
    | some k => if kvs.length < sizeLine then some (.dic (putD kvs k d)) else none
    | none => none
  | _, _, _ => none
section
variable {K : PySem.W.Frag} {I H : Hp}
theorem snd_setL : SndT K rSetL mSetL := by
  intro I H a m f y v dy dv m' Q s o fr hy rv e k
  unfold mSetL at e
  split at e
  · rename_i d xs i
    cases ei : ixN xs.length i with
    | none => rw [ei] at e; cases e
    | some j =>
      rw [ei] at e
      cases e
      obtain ⟨vs, rfl, hH, r⟩ := o.lstI
      exact ⟨a, vs, i, j, rfl, hy.int, hH, by rw [r.length]; exact ei, k _ (.lst upd_same (r.set rv j)) upd_out⟩
  · cases e
theorem Rk.append {vs ws : List (Key × V)} {ds es : List (D × D)} (h : Rk K I vs ds) (s : Rk K I ws es) : Rk K I (vs ++ ws) (ds ++ es) := by
  induction vs generalizing ds with
  | nil => cases h; exact s
  | cons p t ih =>
    cases h with
    | cons r q => exact .cons r (ih q)
theorem Rk.anyK {k : Key} {vs : List (Key × V)} {ds : List (D × D)} (h : Rk K I vs ds) : (vs.any fun p => decide (p.1 = k)) = ds.any fun p => decide (keyOf p.1 = some k) := by
  induction vs generalizing ds with
  | nil => cases h; rfl
  | cons p t ih =>
    cases h with
    | cons r q =>
      rw [List.any_cons, List.any_cons, ih q, keyOf_kD]
      simp
theorem Rk.put {k : Key} {v : V} {d : D} (r : Rl K I v d) {vs : List (Key × V)} {ds : List (D × D)} (h : Rk K I vs ds) : Rk K I (putK vs k v) (putD ds k d) := by
  unfold putK putD
  rw [← h.anyK]
  by_cases z : (vs.any fun p => decide (p.1 = k)) = true
  · rw [if_pos z, if_pos z]
    clear z
    induction vs generalizing ds with
    | nil => cases h; exact .nil
    | cons p t ih =>
      cases h with
      | @cons k' w _ d' ds' r' q =>
        rw [List.map_cons, List.map_cons]
        simp only [keyOf_kD, Option.some.injEq]
        by_cases e : k' = k
        · simp only [e, if_true]
          exact .cons r (ih q)
        · simp only [e, if_false]
          exact .cons r' (ih q)
  · rw [if_neg z, if_neg z]
    exact h.append (.cons r .nil)
theorem snd_setD : SndT K rSetD mSetD := by
  intro I H a m f y v dy dv m' Q s o fr hy rv e k
  unfold mSetD at e
  split at e
  · rename_i kvs y0 d0
    cases ek : keyOf dy with
    | none => rw [ek] at e; cases e
    | some key =>
      rw [ek] at e
      dsimp only at e
      split at e
      · rename_i hl
        cases e
        cases o with
        | dic hH r =>
          refine ⟨a, _, rfl, .inl ⟨_, key, hH, hy.key ek, by rw [r.length]; exact hl, rfl⟩, k _ (.dic upd_same (r.put rv)) upd_out⟩
      · cases e
  · cases e
end
end AL
end
section
set_option Elab.async false
set_option linter.all false
set_option maxRecDepth 100000
set_option maxHeartbeats 4000000
set_option autoImplicit false
/-! The A-layer, part i: names that take a value or own a thing; pairs; unpacking. -/
namespace AL
open PySem PySem.Spec PyProof.Rows L2

def putO (i : Nat) (o : O) (sl : Sls) : Option Sls := if i < sl.length then match o with
  | .d x => some (sl.set i (.val x))
  | .tmp m => some (sl.set i (.own none m))
  | .scr ns => some (sl.set i (.scr ns))
  | _ => none else none
def putF (i : Nat) (o : O) : Den Fl := fun sl => match putO i o sl with
  | some s => .ok .nx s
  | none => .no
def dPut (i : Nat) (f : Den O) : Den Fl := f.bind (putF i)
section
variable {X : Cx} {W : WX} {pa : PAs} {σ σ0 : L2.St} {I H I1 H0 H1 : Hp} {fp fpx : Fps} {E : Ends} {sl sl2 : Sls} {f : List Addr} {v : V} {o : O} {i : Nat} {st : Stmt}
theorem put_sr' (sr : SR X.K pa I H σ sl fp) (h : ORf X.K σ0 I H fpx H0 v f o) (hf : ∀ b ∈ f, ¬ FP fp b ∧ b ∉ pa.pf) (e : putO i o sl = some sl2) : SR X.K pa I H (σ.set i (some v)) sl2 (fpSet fp i f) := by
  unfold putO at e
  split at e
  · rename_i hi
    cases o with
    | d x =>
      cases e
      obtain ⟨rfl, r⟩ := h
      exact sr.setVal hi r
    | tmp m =>
      cases e
      obtain ⟨a, rfl, ow, nd, q⟩ := h
      exact sr.setOwn hi ow nd fun b hb => ⟨(q b hb).2.1, (hf b hb).1, (hf b hb).2⟩
    | scr ns =>
      cases e
      obtain ⟨rfl, a, rfl, q⟩ := h
      exact sr.set set_len set_other (show SlR X.K pa I H _ [] (.scr ns) from ⟨rfl, a, set_here (by rw [← sr.len]; exact hi), q⟩) hi List.nodup_nil (fun b hb => by simp at hb)
    | sl j => cases e
    | set x => cases e
  · cases e
/-- what a fresh operand owns is none of the old things -/
theorem ORf.new (h : ORf X.K σ0 I H fpx H0 v f o) {sl0 : Sls} {σ1 : L2.St} {fp0 : Fps} {I0 : Hp} (sr0 : SR X.K pa I0 H0 σ1 sl0 fp0) : ∀ b ∈ f, b ∉ pa.pf := fun b hb z => by
  obtain ⟨u, hu⟩ := sr0.pin b z
  rw [(h.there b hb).2] at hu
  cases hu
theorem ORf.away (h : ORf X.K σ0 I H fpx H0 v f o) : ∀ b ∈ f, ¬ FP fpx b := fun b hb => by
  cases o with
  | tmp m => obtain ⟨a, _, _, _, q⟩ := h; exact (q b hb).2.2
  | d x => rw [h.1] at hb; simp at hb
  | sl x => rw [h.1] at hb; simp at hb
  | set x => rw [h.1] at hb; simp at hb
  | scr x => rw [h.1] at hb; simp at hb
theorem setP_core {fe : Den O} (h : tS X W (dPut i fe) E σ H) : tE X W fe σ H fun x H1 => gName i x σ H1 E.nx := by
  obtain ⟨pa, I, sl, fp, sr, h⟩ := h
  refine ⟨pa, I, sl, fp, sr, stE h (fun sl1 I1 H1 fp1 o v sr1 m1 hv q => ?_) (stW h)⟩
  unfold putF at q
  cases e : putO i o sl1 with
  | none => simp only [e] at q; exact q.elim
  | some s =>
    simp only [e] at q
    obtain ⟨f, hf⟩ := hv.f
    exact (show PoS X W pa I H fp (.ok .nx s) E from q) _ I1 H1 _ (put_sr' sr1 hf (fun b hb => ⟨hf.away b hb, hf.new sr b hb⟩) e) ⟨m1.tr, fun b hb => (FP.of_set hb).elim (fun z => .inr (hf.there b z).2) (m1.fresh b)⟩
variable {pos : Pos}
/-- name = value -/
theorem as_put (i : Nat) {x : Str} {e : Expr} {fe : Den O} {pos' : Pos} (hN : X.N.Nodup) (hi : X.N[i]? = some x) (hx : Loc X.env.scope x) (he : AE X W e fe) (hs : swapsWith e (some (.Name x pos')) pos.line X.env = pure false := by rfl) (hf : X.fn x = true ∨ X.env.scope.names.lookup x = some .local := by first | exact .inl rfl | exact .inr rfl | assumption) :
    AS X W (.Assign [.Name x pos'] e pos) (dPut i fe) := ⟨(ps_set hN hi hx he.pe hs hf).imp fun E σ H h => setP_core h⟩
/-- name = [..] on one line -/
theorem as_putLc (i : Nat) {y : Str} {py : Pos} {elt tg iter : Expr} {ifs : List Expr} {scope : Scope} {own : List (Str × Nat)} {spos : Pos} {t : Tg} {ws : List Nat} {ft : Den Bool} {fe : Den O} {fi : Den (List D)} (hc : X.calm = true) (hN : X.N.Nodup) (hy : X.N[i]? = some y) (hyl : X.env.scope.names.lookup y = some .local)
    (hsw : swapsWith (.ListComp elt [⟨tg, iter, ifs, 0⟩] scope pos) (some (.Name y py)) spos.line X.env = pure true) (hi : AI X W tg iter fi) (ok : BlkOk X.N X.env.scope scope own) (hws : ∀ j ∈ ws, j ∈ own.map (·.2))
    (hg : ∀ (s : Shared) (H : Hp) (C : Addr) (cl : List (Str × Addr)) (fp : List Addr), AG (X.blk s H scope (compEnvC scope cl C X.env) fp) tg t ws) (ht : ∀ (s : Shared) (H : Hp) (C : Addr) (cl : List (Str × Addr)) (fp : List Addr), ATs (X.blk s H scope (compEnvC scope cl C X.env) fp) Wn ifs ft)
    (he : ∀ (s : Shared) (H : Hp) (C : Addr) (cl : List (Str × Addr)) (fp : List Addr), AE (X.blk s H scope (compEnvC scope cl C X.env) fp) Wn elt fe) (hs : ∀ x, foldedSetIterable iter X.env x = pure x := by intro _; rfl) :
    AS X W (.Assign [.Name y py] (.ListComp elt [⟨tg, iter, ifs, 0⟩] scope pos) spos) (dPut i (dLc (own.map (·.2)) fi t ft fe)) :=
  ⟨(ps_setLc hc hN hy hyl hsw hi.pi ok (g := tG X t ws) (tt := tT X Wn ft) (te := tE X Wn fe) (fun s H C cl fp => ⟨(hg s H C cl fp).pg.run⟩) (fun s H C cl fp => ⟨(ht s H C cl fp).pt.run⟩) (fun s H C cl fp => ⟨(he s H C cl fp).pe.run⟩) hs).imp
    fun E σ H h => tE_lc (Xb := fun _ => True) (Xc := X) hws rfl rfl (setP_core h)⟩

/-! ### a, b = x, y -/
def putL : List Nat → List O → Sls → Option Sls
  | [], [], sl => some sl
  | i :: is, o :: os, sl => match putO i o sl with
    | some s => putL is os s
    | none => none
  | _, _, _ => none
def dPutL (is : List Nat) (f : Den (List O)) : Den Fl := f.bind fun os sl => match putL is os sl with
  | some s => .ok .nx s
  | none => .no
theorem putL_sr {I0 : Hp} {sl0 : Sls} {σ1 : L2.St} {fp0 : Fps} (sr0 : SR X.K pa I0 H0 σ1 sl0 fp0) : ∀ (is : List Nat) (os : List O) (vs : List V) (fl : List (List Addr)) (σ : L2.St) (sl : Sls) (fp : Fps), SR X.K pa I H σ sl fp → ORl X.K σ0 I H fpx H0 vs os fl → (∀ f ∈ fl, ∀ b ∈ f, ¬ FP fp b) → putL is os sl = some sl2 →
    ∃ fp2, SR X.K pa I H ((is.zip vs).foldl (fun s p => s.set p.1 (some p.2)) σ) sl2 fp2 ∧ is.length = vs.length ∧ ∀ b, FP fp2 b → FP fp b ∨ H0 b = none
  | [], [], [], [], σ, sl, fp, sr, _, _, e => by cases e; exact ⟨fp, sr, rfl, fun b h => .inl h⟩
  | i :: is, o :: os, v :: vs, f :: fl, σ, sl, fp, sr, h, hf, e => by
    have e : (match putO i o sl with
      | some s => putL is os s
      | none => none) = some sl2 := e
    cases e1 : putO i o sl with
    | none => rw [e1] at e; cases e
    | some s =>
      rw [e1] at e
      have s1 := put_sr' sr h.1 (fun b hb => ⟨hf f (by simp) b hb, h.1.new sr0 b hb⟩) e1
      obtain ⟨fp2, s2, l2, q2⟩ := putL_sr sr0 is os vs fl _ s _ s1 h.2.1 (fun g hg b hb z => (FP.of_set z).elim (fun w => h.2.2 b w g hg hb) (hf g (by simp [hg]) b hb)) e
      exact ⟨fp2, s2, by simp [l2], fun b hb => (q2 b hb).elim (fun z => (FP.of_set z).elim (fun w => .inr (h.1.there b w).2) .inl) .inr⟩
  | [], _ :: _, _, _, _, _, _, _, _, _, e => by cases e
  | _ :: _, [], _, _, _, _, _, _, _, _, e => by cases e
  | [], [], [], _ :: _, _, _, _, _, h, _, _ => h.elim
  | [], [], _ :: _, _, _, _, _, _, h, _, _ => h.elim
  | _ :: _, _ :: _, [], _, _, _, _, _, h, _, _ => h.elim
  | _ :: _, _ :: _, _ :: _, [], _, _, _, _, h, _, _ => h.elim
theorem ORl.away : ∀ {vs : List V} {os : List O} {fl : List (List Addr)}, ORl X.K σ0 I H fpx H0 vs os fl → ∀ f ∈ fl, ∀ b ∈ f, ¬ FP fpx b
  | [], [], [], _, f, hf => by simp at hf
  | _ :: _, _ :: _, g :: _, h, f, hf => by
    rcases List.mem_cons.mp hf with e | hf
    · subst e; exact h.1.away
    · exact ORl.away h.2.1 f hf
  | [], [], _ :: _, h, _, _ => h.elim
  | [], _ :: _, [], h, _, _ => h.elim
  | [], _ :: _, _ :: _, h, _, _ => h.elim
  | _ :: _, [], [], h, _, _ => h.elim
  | _ :: _, [], _ :: _, h, _, _ => h.elim
  | _ :: _, _ :: _, [], h, _, _ => h.elim
theorem parP {is : List Nat} {fa : Den (List O)} (h : tS X W (dPutL is fa) E σ H) : tA X W fa σ H fun vs H1 => is.length = vs.length ∧ E.nx ((is.zip vs).foldl (fun s p => s.set p.1 (some p.2)) σ) H1 := by
  obtain ⟨pa, I, sl, fp, sr, h⟩ := h
  refine ⟨pa, I, sl, fp, sr, ?_⟩
  have hW := stW (σ := σ) (show PoS X W pa I H fp ((fa.bind _) sl) E from h)
  have h : PoS X W pa I H fp ((fa.bind fun os sl => match putL is os sl with
    | some s => .ok .nx s
    | none => .no) sl) E := h
  unfold Den.bind at h
  cases e : fa sl with
  | no => rw [e] at h; exact h
  | err x s => exact fun c d I' H' fp' sr mv er => hW x s c d I' H' fp' e sr mv er
  | ok os s =>
    rw [e] at h
    intro I1 H1 fp1 sr1 m1 vs ⟨fl, hv⟩
    dsimp only at h
    cases e1 : putL is os s with
    | none => simp only [e1] at h; exact h.elim
    | some s2 =>
      simp only [e1] at h
      obtain ⟨fp2, sr2, l2, q2⟩ := putL_sr sr is os vs fl _ s _ sr1 hv hv.away e1
      exact ⟨l2, (show PoS X W pa I H fp (.ok .nx s2) E from h) _ I1 H1 fp2 sr2 ⟨m1.tr, fun b hb => (q2 b hb).elim (m1.fresh b) .inr⟩⟩
theorem as_par {i j : Nat} {x y : Str} {a b : Expr} {px py pt : Pos} {kt k2 pt2} {fa : Den (List O)} (hc : X.calm = true) (hN : X.N.Nodup) (hi : X.N[i]? = some x) (hj : X.N[j]? = some y) (hij : i ≠ j)
    (hx : X.env.scope.names.lookup x = some .local) (hy : X.env.scope.names.lookup y = some .local) (ha : AA X W [a, b] fa)
    (hw : swappedStores [.Tuple [.Name x px, .Name y py] kt pt] (.Tuple [a, b] k2 pt2) X.env = pure (some [x, y]))
    (hs : swapsWithSole [.Tuple [.Name x px, .Name y py] kt pt] (.Tuple [a, b] k2 pt2) pos.line X.env = pure false := by rfl) :
    AS X W (.Assign [.Tuple [.Name x px, .Name y py] kt pt] (.Tuple [a, b] k2 pt2) pos) (dPutL [i, j] fa) := by
  refine ⟨(ps_par hc hN hi hj hij hx hy ha.pa hw hs).imp fun E σ H h => ?_⟩
  have q := parP h
  obtain ⟨pa, I, sl, fp, sr, q⟩ := q
  refine ⟨pa, I, sl, fp, sr, q.mono fun os s1 I1 H1 fp1 _ _ _ q vs hv => ?_⟩
  obtain ⟨l, q⟩ := q vs hv
  match vs, l with
  | [v, w], _ => exact ⟨v, w, rfl, q⟩
theorem as_par3 {i j l : Nat} {x y z : Str} {a b c : Expr} {px py pz pt : Pos} {kt k2 pt2} {fa : Den (List O)} (hc : X.calm = true) (hN : X.N.Nodup) (hi : X.N[i]? = some x) (hj : X.N[j]? = some y) (hl : X.N[l]? = some z) (hij : i ≠ j) (hil : i ≠ l) (hjl : j ≠ l)
    (hx : X.env.scope.names.lookup x = some .local) (hy : X.env.scope.names.lookup y = some .local) (hz : X.env.scope.names.lookup z = some .local) (ha : AA X W [a, b, c] fa)
    (hw : swappedStores [.Tuple [.Name x px, .Name y py, .Name z pz] kt pt] (.Tuple [a, b, c] k2 pt2) X.env = pure (some [x, y, z]))
    (hs : swapsWithSole [.Tuple [.Name x px, .Name y py, .Name z pz] kt pt] (.Tuple [a, b, c] k2 pt2) pos.line X.env = pure false := by rfl) :
    AS X W (.Assign [.Tuple [.Name x px, .Name y py, .Name z pz] kt pt] (.Tuple [a, b, c] k2 pt2) pos) (dPutL [i, j, l] fa) := by
  refine ⟨(ps_par3 hc hN hi hj hl hij hil hjl hx hy hz ha.pa hw hs).imp fun E σ H h => ?_⟩
  have q := parP h
  obtain ⟨pa, I, sl, fp, sr, q⟩ := q
  refine ⟨pa, I, sl, fp, sr, q.mono fun os s1 I1 H1 fp1 _ _ _ q vs hv => ?_⟩
  obtain ⟨l, q⟩ := q vs hv
  match vs, l with
  | [u, v, w], _ => exact ⟨u, v, w, rfl, q⟩

/-! ### (a, b, ..) = a list or a tuple -/
theorem _root_.L2.PG.or {e : Expr} {t t' : TG} (h : PG X e t) (h' : PG X e t') : PG X e fun v σ H Q => t v σ H Q ∨ t' v σ H Q :=
  ⟨fun pins s σ H v u Q I r hw => hw.elim (h.run pins s σ H v u Q I r) (h'.run pins s σ H v u Q I r)⟩
def gTL (u : List D → Sls → Option Sls) : Tg := fun d sl => match d with
  | .tuple ds => u ds sl
  | .list ds => u ds sl
  | _ => none
theorem ag_seq {es : List Expr} {k : Nat} {u : List D → Sls → Option Sls} {n : Nat} {ws : List Nat} (hc : X.calm = true) (h : AGs X es u ws) (hlen : ∀ ds sl sl', u ds sl = some sl' → ds.length = n)
    (hn : (assignEach es X.env).length = n := by rfl) (hst : (assignEach es X.env).findIdx? (·.1) = none := by rfl) : AG X (.Tuple es k pos) (gTL u) ws := by
  refine ⟨((pg_tup hc h.pg hn hst).or (pg_unl hc h.pg hn hst)).imp fun v σ H Q h => ?_⟩
  obtain ⟨pa, I, sl, fp, d, sr, r, h⟩ := h
  unfold gTL at h
  cases r with
  | @tup a xs ds q rs =>
    cases e : u ds sl with
    | none => simp only [e] at h
    | some sl' =>
      simp only [e] at h
      refine .inl ⟨a, xs, rfl, (Le.of_sub sr.sub).sqt q, by rw [rs.length]; exact hlen _ _ _ e, pa, I, sl, fp, ds, sr, rs, ?_⟩
      rw [e]
      exact h
  | @lst a xs ds q rs =>
    cases e : u ds sl with
    | none => simp only [e] at h
    | some sl' =>
      simp only [e] at h
      refine .inr ⟨a, xs, rfl, .of (sr.sub _ _ q), by rw [rs.length]; exact hlen _ _ _ e, pa, I, sl, fp, ds, sr, rs, ?_⟩
      rw [e]
      exact h
  | _ => exact h.elim
end
end AL
end
section
set_option Elab.async false
set_option linter.all false
set_option maxRecDepth 100000
set_option maxHeartbeats 4000000
set_option autoImplicit false
/-! The A-layer, part j: slices. -/
namespace AL
open PySem PySem.Spec PyProof.Rows L2

/-! ### a[lo:hi] -/
def dPart (f : Den O) : Den (Option Int) := f.bind fun o => match o with
  | .d (.int i) => Den.ret (some i)
  | _ => Den.no
def tO (X : Cx) (W : WX) (f : Den (Option Int)) : TO := fun σ H Q => ∃ pa I sl fp, SR X.K pa I H σ sl fp ∧ Po X W pa σ I H fp (f sl) fun o _ _ H' _ => Q o H'
structure AO (X : Cx) (W : WX) (e : Option Expr) (f : Den (Option Int)) : Prop where
  po : PO X e (tO X W f)
theorem _root_.L2.PO.imp {X : Cx} {e : Option Expr} {t t' : TO} (h : PO X e t) (i : ∀ σ H Q, t' σ H Q → t σ H Q) : PO X e t' := ⟨fun pins s σ H Q I hw => h.run pins s σ H Q I (i σ H Q hw)⟩
def cutD (xs : List D) (lo hi : Option Int) : List D := (xs.drop (HT.sIx xs.length 0 lo)).take (HT.sIx xs.length xs.length hi - HT.sIx xs.length 0 lo)
def dCut : D → Option Int → Option Int → Option O
  | .list ds, lo, hi => some (.tmp (.lst (cutD ds lo hi)))
  | .tuple ds, lo, hi => some (.d (.tuple (cutD ds lo hi)))
  | .str z, lo, hi => if z.length ≤ sizeLine then some (.d (.str (cutS z lo hi))) else none
  | _, _, _ => none
def dSl (fe : Den O) (fl fh : Den (Option Int)) : Den O := fe.bind fun o => fl.bind fun l => fh.bind fun u sl => match o.see sl with
  | some x => match dCut x l u with
    | some r => .ok r sl
    | none => .no
  | none => .no
section
variable {X : Cx} {W : WX} {e : Expr} {fe : Den O} {lo hi : Option Expr} {fl fh : Den (Option Int)} {pos p2 : Pos}
theorem ao_none : AO X W none (Den.ret none) := ⟨po_none.imp fun σ H Q ⟨pa, I, sl, fp, sr, h⟩ => Po.ret sr h⟩
theorem ao_some (h : AE X W e fe) : AO X W (some e) (dPart fe) := by
  refine ⟨(po_some h.pe).imp fun σ H Q h => ?_⟩
  obtain ⟨pa, I, sl, fp, sr, h⟩ := h
  refine ⟨pa, I, sl, fp, sr, h.bind.mono fun o sl1 I1 H1 fp1 _ sr1 m1 q v hv => ?_⟩
  cases o with
  | d x =>
    cases x with
    | int i =>
      have hv : Rl X.K I1 v (.int i) := hv
      cases hv
      exact ⟨i, rfl, Po.ret sr1 (show Po X W pa σ I1 H1 fp1 (.ok (some i) sl1) _ from q)⟩
    | _ => exact q.elim
  | _ => exact q.elim
def rCutA (K : PySem.W.Frag) : V → Option Int → Option Int → Hp → VK → Prop := fun x lo hi H Q => rSlL K x lo hi H Q ∨ rSlA K x lo hi H Q ∨ rSlS x lo hi H Q
theorem sl_any : L2.SlR X (rCutA X.K) := sl_list.or (sl_tupA.or sl_str)
theorem Rs.cut {K : PySem.W.Frag} {I : Hp} {vs : List V} {ds : List D} (r : Rs K I vs ds) (lo hi : Option Int) : Rs K I (cutV vs lo hi) (cutD ds lo hi) := by
  unfold cutV cutD
  rw [r.length]
  exact (r.drop _).take _
theorem snd_cut {K : PySem.W.Frag} {I H : Hp} {x : V} {dx : D} {l u : Option Int} {o : O} {Q : VK} (s : Sub I H) (hx : Vw K I H x dx) (e : dCut dx l u = some o) (k : ∀ v I' H', Al I H I' H' → NR K I H I' H' v o → Q v H') : rCutA K x l u H Q := by
  unfold dCut at e
  split at e
  · cases e
    obtain ⟨a, vs, rfl, ha, r⟩ := hx.list s
    exact .inl ⟨a, vs, rfl, .of ha, fun p hp => k _ _ _ (Al.lst s hp) (NR.lst s hp (r.cut _ _))⟩
  · cases e
    obtain ⟨a, vs, rfl, ha, r⟩ := hx.tup
    refine .inr (.inl ⟨a, vs, rfl, s.le.sqt ha, fun z => ?_, fun _ p hp => k _ _ _ (Al.tup s hp) (NR.tup s hp (r.cut _ _))⟩)
    rename_i lo hi ds
    have e2 : cutD ds l u = ds := by
      unfold cutD
      rw [← r.length, z.1, z.2, List.drop_zero, Nat.sub_zero, List.take_of_length_le (by rw [r.length]; exact Nat.le_refl _)]
    rw [e2] at k
    exact k _ _ _ (.refl s) (Rl.tup ha r)
  · split at e
    · rename_i h
      cases e
      exact .inr (.inr ⟨_, hx.str, h, k _ _ _ (.refl s) (.str _)⟩)
    · cases e
  · cases e
theorem ae_sl (he : AE X W e fe) (hl : AO X W lo fl) (hh : AO X W hi fh) : AE X W (.Subscript e (.Slice lo hi none p2) pos) (dSl fe fl fh) := by
  refine ⟨(pe_slice sl_any he.pe hl.po hh.po).imp fun σ H Q h => ?_⟩
  refine tE_then h fun pa I1 H1 fp1 sl1 o1 v1 sr1 g1 h1 h => ?_
  refine ⟨pa, I1, sl1, fp1, sr1, h.bind.mono fun l sl2 I2 H2 fp2 _ sr2 m2 q => ?_⟩
  refine ⟨pa, I2, sl2, fp2, sr2, q.bind.mono fun u sl3 I3 H3 fp3 _ sr3 m3 q => ?_⟩
  have h13 := (h1.keep m2).keep m3
  cases e1 : o1.see sl3 with
  | none => simp only [e1] at q; exact q.elim
  | some x =>
    simp only [e1] at q
    cases e2 : dCut x l u with
    | none => simp only [e2] at q; exact q.elim
    | some r =>
      simp only [e2] at q
      refine snd_cut sr3.sub (h13.vw sr3 e1) e2 fun v I' H' a n => q I' H' fp3 (sr3.al a) a.mv v (n.or sr3 fun b hb => g1 b (m2.tr.gone (m3.tr.gone hb)))
end
end AL

/-! ### t[::-1] of a tuple -/
namespace AL
open PySem PySem.Spec PyProof.Rows L2 HT
section
variable {prog : Program} {w : World} {A : Around} {E : Value → Shared → Prop} {s : Shared}
theorem applied_rev {sl : Addr} {n : Nat} {vs : Value} {Q : Int × Int × Nat → Shared → Prop} (hs : s.heap.IsSliceOf sl .none .none vs) (ps : IsPart vs (some (-1)))
    (h : Q ((n : Int) - 1, -1, n) s) : wpAny (model prog w) A (Builtin.Slice.sliceApplied (.ref sl) (pure (n : Int))) Q E s := by
  obtain ⟨os, hos, hcs, hds⟩ := id hs
  unfold Builtin.Slice.sliceApplied Builtin.Slice.sliceFields
  refine wpAny_bind (wpAny_bind (wpAny_field hos hds (x := .none) rfl (wpAny_bind (wpAny_field hos hds (x := .none) rfl (wpAny_bind (wpAny_field hos hds (x := vs) rfl (wpAny_pure ?_)))))))
  refine wpAny_bind (slicePart_ ps ?_)
  show wpAny _ _ (if ((-1 : Int) == 0) = true then _ else _) _ _ s
  rw [if_neg (by decide)]
  refine wpAny_bind (slicePart_none (wpAny_bind (slicePart_none (wpAny_bind (wpAny_pure ?_)))))
  show wpAny _ _ (match Builtin.Slice.sliceAdjust none none (-1) (n : Int) with | (lo, hi) => pure (lo, (-1 : Int), Builtin.Slice.slicePlaces lo hi (-1))) _ _ s
  have e : Builtin.Slice.sliceAdjust none none (-1) (n : Int) = ((n : Int) - 1, -1) := rfl
  rw [e]
  have e2 : Builtin.Slice.slicePlaces ((n : Int) - 1) (-1) (-1) = n := by
    unfold Builtin.Slice.slicePlaces
    have h1 : ¬ ((-1 : Int) > 0) := by omega
    simp only [h1, if_false]
    by_cases hn : n = 0
    · subst hn; rfl
    · have h3 : (n : Int) - 1 > -1 := by omega
      have e4 : -(-1 : Int) = 1 := rfl
      rw [if_pos h3, e4, Int.ediv_one]
      omega
  show wpAny _ _ (pure ((n : Int) - 1, (-1 : Int), Builtin.Slice.slicePlaces ((n : Int) - 1) (-1) (-1))) _ _ s
  rw [e2]
  exact wpAny_pure h
theorem pick_rev (xs : List Value) : ((List.range xs.length).filterMap fun (m : Nat) => xs.toArray[(((xs.length : Int) - 1) + (m : Int) * -1).toNat]?) = xs.reverse := by
  have e : ∀ m ∈ List.range xs.length, xs.toArray[(((xs.length : Int) - 1) + (m : Int) * -1).toNat]? = some (xs.reverse[m]?.getD .none) := fun m hm => by
    have hm := List.mem_range.mp hm
    have e1 : (((xs.length : Int) - 1) + (m : Int) * -1).toNat = xs.length - 1 - m := by omega
    rw [e1]
    rw [List.getElem?_reverse hm]
    have h3 : xs.length - 1 - m < xs.length := by omega
    simp [List.getElem?_eq_getElem h3]
  apply List.ext_getElem?
  intro i
  have e2 : ((List.range xs.length).filterMap fun (m : Nat) => xs.toArray[(((xs.length : Int) - 1) + (m : Int) * -1).toNat]?) = (List.range xs.length).map fun m => xs.reverse[m]?.getD .none := by
    generalize List.range xs.length = l at e
    induction l with
    | nil => rfl
    | cons m l ih => rw [List.filterMap_cons, e m (by simp), List.map_cons, ih fun k hk => e k (by simp [hk])]
  rw [e2, List.getElem?_map]
  by_cases hi : i < xs.length
  · rw [List.getElem?_range hi]
    have h3 : i < xs.reverse.length := by rw [List.length_reverse]; exact hi
    show some (xs.reverse[i]?.getD .none) = _
    rw [List.getElem?_eq_getElem h3]
    rfl
  · rw [List.getElem?_eq_none (by simp; omega), List.getElem?_eq_none (by rw [List.length_reverse]; omega)]
    rfl
theorem getItem_tuple_rev {t sl : Addr} {its : List Value} {vs : Value} {Q : Value → Shared → Prop} (ht : IsTup s.heap t its.toArray) (hs : s.heap.IsSliceOf sl .none .none vs) (ps : IsPart vs (some (-1)))
    (h : Q (.ref s.heap.objs.size) { s with heap := s.heap.push { cls := .type "tuple", data := .seq its.reverse.toArray } })
    (hsz : its.length ≤ sizeLine) : wpAny (model prog w) A (getItem (.ref t) (.ref sl)) Q E s := by
  have htake : sizeOk (.seq its.reverse.toArray) := by
    show its.reverse.toArray.size ≤ sizeLine
    rw [List.size_toArray, List.length_reverse]
    exact hsz
  obtain ⟨os, hos, hcs, hds⟩ := id hs
  have hTs : s.TypeIs (.ref sl) "slice" := ⟨os, hos, hcs⟩
  unfold getItem
  try with_reducible refine wpAny_holding ?_
  first | refine wpAny_bind (wpAny_pure ?_) | skip
  refine wpAny_bind (wpAny_sequenceKey ht.typeIs (by decide) ?_)
  refine wpAny_bind (wpAny_callSpecial?_slot (name := Str.ofString "__getitem__") ht.typeIs PyProof.Rows.slot_tuple_getitem
    (wpAny_call_entry PyProof.Rows.slot_tuple_getitem ht.typeIs entry_tuple_getitem ?_ (args_tuple_getitem _ _)))
  show wpAny _ _ (Builtin.Tuple.tupleItemsOf (.ref t) >>= _) _ _ s
  refine wpAny_bind (tupleItemsOf_ ht ?_)
  refine wpAny_bind (wpAny_typeOf hTs ?_)
  rw [if_pos (by decide)]
  refine wpAny_bind (applied_rev hs ps ?_)
  have hno : ¬ ((((its.toArray.size : Int) - 1) == 0 && (-1 : Int) == 1 && its.toArray.size == its.toArray.size) = true) := by
    have : ((-1 : Int) == 1) = false := by decide
    rw [this]; simp
  show wpAny _ _ (if (((its.toArray.size : Int) - 1) == 0 && (-1 : Int) == 1 && its.toArray.size == its.toArray.size) = true then _ else _) _ _ s
  rw [if_neg hno]
  have e0 : its.toArray.size = its.length := List.size_toArray ..
  rw [e0, pick_rev]
  first
    | exact wpAny_bind (m := Builtin.Tuple.tupleExact _) (wpAny_newObj_type (wpAny_pure ⟨_, rfl, wpAny_pure h⟩) htake)
    | exact wpAny_bind (m := Builtin.Tuple.tupleExact _) (wpAny_newObj_type (wpAny_bind (wpAny_pure (wpAny_pure ⟨_, rfl, wpAny_pure h⟩))) htake)
    | exact wpAny_bind (wpAny_bind (m := Builtin.Tuple.tupleExact _) (wpAny_newObj_type (wpAny_pure (wpAny_pure ⟨_, rfl, wpAny_pure h⟩)) htake))
    | exact wpAny_bind (wpAny_bind (m := Builtin.Tuple.tupleExact _) (wpAny_newObj_type (wpAny_pure ⟨_, rfl, wpAny_pure h⟩) htake))
end
end AL
namespace AL
open PySem PySem.Spec PyProof.Rows L2
def tRevT (K : PySem.W.Frag) (te : TE) : TE := fun σ H Q => te σ H fun x H1 => ∃ a xs, x = .ref a ∧ SqT K H1 a xs ∧ ∀ p, H1 p = none → Q (.ref p) (upd H1 p (.tup xs.reverse))
section
variable {X : Cx} {W : WX} {e : Expr} {fe : Den O} {te : TE} {k : Nat} {p1 p2 p3 pos : Pos}
theorem pe_revT (he : PE X e te) : PE X (.Subscript e (.Slice none none (some (.UnaryOp .USub (.Constant (.int 1) k p1) p2)) p3) pos) (tRevT X.K te) := by
  refine ⟨fun pins s σ H Q I h => ?_⟩
  refine Subscript_ (thn (he.run pins s σ H _ I h) fun v s1 ⟨x, H1, I1, r1, q1⟩ => ?_)
  obtain ⟨a, xs, ex, hx, q⟩ := q1
  subst ex
  cases r1
  have hst : PO X (some (.UnaryOp .USub (.Constant (.int 1) k p1) p2)) (tPart (tUn (rU fun i => .int (-i)) (tC (.int 1)))) := po_some (pe_un un_neg pe_int)
  refine wpAny_Slice (thn (po_none.run pins s1 σ H1 (fun o H2 => o = none ∧ H2 = H1) I1 ⟨rfl, rfl⟩) fun vl s2 ⟨l, H2, I2, pl, el, e2⟩ => ?_)
  subst el e2
  refine thn (po_none.run pins s2 σ H2 (fun o H3 => o = none ∧ H3 = H2) I2 ⟨rfl, rfl⟩) fun vu s3 ⟨u, H3, I3, pu, eu, e3⟩ => ?_
  subst eu e3
  refine thn (hst.run pins s3 σ H3 (fun o H4 => o = some (-1) ∧ H4 = H3) I3 ⟨1, rfl, -1, rfl, rfl, rfl⟩) fun vs s4 ⟨o, H4, I4, ps, eo, e4⟩ => ?_
  subst eo e4
  have I5 : Inv X pins σ H4 { s4 with heap := s4.heap.push { cls := .type "slice", data := .fields #[vl, vu, vs] } } := I4.kept (t' := s4.toks) fun b ob q => Heap.get?_push_of_some _ q
  obtain ⟨its, r, ht, hz⟩ := I5.tuple hx
  have hlen := r.length
  show wpAny (model X.prog X.w) X.A (subscriptTail e (.Slice none none (some (.UnaryOp .USub (.Constant (.int 1) k p1) p2)) p3) (.ref a) (.ref s4.heap.objs.size)) (EP X pins σ Q) X.xe { s4 with heap := s4.heap.push { cls := .type "slice", data := .fields #[vl, vu, vs] } }
  refine tail_any (ops := [.ref a, .ref s4.heap.objs.size]) ht.typeIs (PyProof.Rows.slot_tuple_getitem.lookup) ?_ (by with_unfolding_all rfl)
  cases pl
  cases pu
  refine getItem_tuple_rev ht (Heap.IsSliceOf.new _ .none .none vs) ps ?_ (by omega)
  refine ⟨.ref _, _, I5.laid (t' := s4.toks) (o := .tup xs.reverse) (fun b ob q => Heap.get?_push_of_some _ q) (Nat.le_refl _) ?_, rfl, q _ (I5.hok.fresh (Nat.le_refl _))⟩
  exact ⟨by rw [List.length_reverse]; exact hz, _, r.reverse, IsTup.new _ _⟩
theorem _root_.L2.PE.or {t t' : TE} (h : PE X e t) (h' : PE X e t') : PE X e fun σ H Q => t σ H Q ∨ t' σ H Q :=
  ⟨fun pins s σ H Q I hw => hw.elim (h.run pins s σ H Q I) (h'.run pins s σ H Q I)⟩
def dRevL : D → Option O
  | .list ds => some (.tmp (.lst ds.reverse))
  | _ => none
/-- [::-1]: the kind of thing must be known -/
theorem ae_rev (he : AE X W e fe) : AE X W (.Subscript e (.Slice none none (some (.UnaryOp .USub (.Constant (.int 1) k p1) p2)) p3) pos) (dU1 dRevL fe) := by
  refine ⟨(pe_revL he.pe).imp fun σ H Q h => ?_⟩
  refine tE_un (r := fun x H1 Q => ∃ a xs, x = .ref a ∧ SqL X.K H1 a xs ∧ ∀ p, H1 p = none → Q (.ref p) (upd H1 p (.lst xs.reverse))) ?_ h
  intro I H x dx o Q s hx e k
  unfold dRevL at e
  split at e
  · cases e
    obtain ⟨a, vs, rfl, ha, r⟩ := hx.list s
    exact ⟨a, vs, rfl, .of ha, fun p hp => k _ _ _ (Al.lst s hp) (NR.lst s hp r.reverse)⟩
  · cases e
def dRevT : D → Option O
  | .tuple ds => some (.d (.tuple ds.reverse))
  | _ => none
theorem ae_revT (he : AE X W e fe) : AE X W (.Subscript e (.Slice none none (some (.UnaryOp .USub (.Constant (.int 1) k p1) p2)) p3) pos) (dU1 dRevT fe) := by
  refine ⟨(pe_revT he.pe).imp fun σ H Q h => ?_⟩
  refine tE_un (r := fun x H1 Q => ∃ a xs, x = .ref a ∧ SqT X.K H1 a xs ∧ ∀ p, H1 p = none → Q (.ref p) (upd H1 p (.tup xs.reverse))) ?_ h
  intro I H x dx o Q s hx e k
  unfold dRevT at e
  split at e
  · cases e
    obtain ⟨a, vs, rfl, ha, r⟩ := hx.tup
    exact ⟨a, vs, rfl, s.le.sqt ha, fun p hp => k _ _ _ (Al.tup s hp) (NR.tup s hp r.reverse)⟩
  · cases e
end
end AL
end
section
set_option Elab.async false
set_option linter.all false
set_option maxRecDepth 100000
set_option maxHeartbeats 4000000
set_option autoImplicit false
/-! The A-layer, part k: set comprehensions by any kind of set; sets of rows of ints. -/
namespace AL
open PySem PySem.Spec PyProof.Rows L2 PpSet

def freshSet (w : World) : Obj := { cls := .type "set", dict := none, data := .set #[] 0 (.fresh 0 0 (!w.params.followText "set-order")) }
/-- a kind of set: what stands at D for a bare one -/
def NewS (X : Cx) (new : Addr → HO) : Prop := ∀ (H : Hp) (h : Heap) (D : Addr), h.get? D = some (freshSet X.w) → ObjOk X.prog X.w H h D (new D)
/-- {elt for target in iter if ..} -/
def tSg (new : Addr → HO) (radd : V → List V → Hp → VK → Prop) (wi : TI) (g : TG) (tt : TT) (te : TE) (vs : List Nat) : TE := fun σ H Q => wi σ H fun J H1 => ∀ D, H1 D = none → ∃ W : Nat → Nat → Hp → Prop, (∃ m, W 0 m (upd H1 D (new D))) ∧ ∀ i m H, W i m H →
  (J.stop i H ∧ Q (.ref D) H) ∨ (J.go i H ∧ ∃ Nx : Hp → Prop, (∀ H', Nx H' → ∃ m', m' < m ∧ W (i + 1) m' H') ∧ ∀ x H', J.yld i H x H' → g x (wipe σ vs) H' fun σ2 H2 => wipe σ2 vs = wipe σ vs ∧ tt σ2 H2 fun b H3 =>
    if b = true then te σ2 H3 fun y H4 => radd (.ref D) [y] H4 fun _ H5 => Nx H5 else Nx H3)
section
variable {X : Cx}
theorem sg_core {pins : List (Addr × Obj)} {s : Shared} {σ : L2.St} {H : Hp} {Q : VK} {elt tg iter : Expr} {ifs : List Expr} {scope : Scope} {own : List (Str × Nat)} {pos pos' : Pos} {wi : TI} {g : TG} {tt : TT} {te : TE} {use : Option (Value → Sem Unit)} {Qf : Value → Shared → Prop} {new : Addr → HO} {radd : V → List V → Hp → VK → Prop}
    (hc : X.calm = true) (hN : X.N.Nodup) (I : Inv X pins σ H s) (hi : PI X tg iter wi) (ok : BlkOk X.N X.env.scope scope own) (hnew : NewS X new) (hadd : ∀ (s : Shared) (H : Hp) (ce : Env) (fp : List Addr), MtR (X.blk s H scope ce fp) "set.add" radd)
    (hg : ∀ (s : Shared) (H : Hp) (C : Addr) (cl : List (Str × Addr)) (fp : List Addr), PG (X.blk s H scope (compEnvC scope cl C X.env) fp) tg g) (ht : ∀ (s : Shared) (H : Hp) (C : Addr) (cl : List (Str × Addr)) (fp : List Addr), PTs (X.blk s H scope (compEnvC scope cl C X.env) fp) ifs tt)
    (he : ∀ (s : Shared) (H : Hp) (C : Addr) (cl : List (Str × Addr)) (fp : List Addr), PE (X.blk s H scope (compEnvC scope cl C X.env) fp) elt te) (hs : ∀ x, foldedSetIterable iter X.env x = pure x)
    (h : tSg new radd wi g tt te (own.map (·.2)) σ H Q)
    (hRR : ∀ D C s' m H', Inv X pins σ H' s' → Q (.ref D) H' → s'.heap.Ns C m → FpOk X pins H' C → compPost (model X.prog X.w) X.A X.xe use Qf (.ref D) C (.ok .next) s') :
    wpAny (model X.prog X.w) X.A (comprehension (.SetComp elt [⟨tg, iter, ifs, 0⟩] scope pos) scope X.env pos' (newSet (.type "set")) false (eval iter X.env) use) Qf X.xe s := by
  have fr : ∀ y ∈ scope.names, y.2 = .free → ∃ c, X.env.cells.lookup y.1 = some c := by
    intro y hy e
    rcases ok.free y hy e with k | k
    · exact I.ok.has _ (.inl k)
    · exact I.ok.has _ (.inr k)
  refine wpAny_comprehension_free (use := use) rfl hs (closure_ok fr) ok.kind (fun y hy e => by rw [ok.uniq y hy, e]) (thn (hi.run pins s σ H _ I h) fun xv s1 hx => thn hx fun itv s2 h2 => ?_)
  obtain ⟨it, fp, tn, J, H2, e, I2, T, st2, f2, q⟩ := h2
  subst e
  refine newSet_ok (newEnv_comp ?_)
  obtain ⟨D, hD⟩ : ∃ D, s2.heap.objs.size = D := ⟨_, rfl⟩
  obtain ⟨W, ⟨m0, w0⟩, turn⟩ := q D (I2.hok.fresh (Nat.le_of_eq hD))
  obtain ⟨s3, hs3⟩ : ∃ s3 : Shared, s3 = { s2 with heap := s2.heap.push (freshSet X.w) } := ⟨_, rfl⟩
  have h3 : s3.heap = s2.heap.push (freshSet X.w) := by rw [hs3]
  have I3 : Inv X pins σ (upd H2 D (new D)) s3 := by
    rw [hs3]
    refine I2.laid (t' := s2.toks) (fun b o e => Heap.get?_push_of_some _ e) (Nat.le_of_eq hD) (hnew _ _ _ ?_)
    rw [← hD]
    exact Heap.get?_push_size _ rfl
  have sz : ∀ b ∈ fp, b < s2.heap.objs.size := fun b hb => by
    obtain ⟨o, e, _⟩ := T.obj _ _ st2 b hb
    exact Heap.lt_size e
  have f3 : ∀ b ∈ fp, FpOk X pins (upd H2 D (new D)) b ∧ b < s3.heap.objs.size := fun b hb => by
    have hlt := sz b hb
    have ne : b ≠ D := by rw [← hD]; exact Nat.ne_of_lt hlt
    exact ⟨⟨by rw [upd_ne ne]; exact (f2 b hb).1, (f2 b hb).2⟩, by rw [h3, Heap.size_push]; exact Nat.lt_succ_of_lt hlt⟩
  have st3 : tn 0 s3.heap := T.keep _ _ _ st2 fun b _ o e => by rw [h3]; exact Heap.get?_push_of_some _ e
  have I4 := block_start I3 ok hN f3
  have pg := hg s3 (upd H2 D (new D)) s3.heap.objs.size (cellsFrom (s3.heap.objs.size + 1) scope.names (cloFrom X.env.cells scope.names [])) fp
  have pt := ht s3 (upd H2 D (new D)) s3.heap.objs.size (cellsFrom (s3.heap.objs.size + 1) scope.names (cloFrom X.env.cells scope.names [])) fp
  have pe := he s3 (upd H2 D (new D)) s3.heap.objs.size (cellsFrom (s3.heap.objs.size + 1) scope.names (cloFrom X.env.cells scope.names [])) fp
  have goal : codeAny (model X.prog X.w) X.A (.compStart (.SetComp elt [⟨tg, iter, ifs, 0⟩] scope pos) 0 (.ref it) (.ref D) (compEnvC scope (cellsFrom (s3.heap.objs.size + 1) scope.names (cloFrom X.env.cells scope.names [])) s3.heap.objs.size X.env)) (compPost (model X.prog X.w) X.A X.xe use Qf (.ref D) s3.heap.objs.size)
      { s3 with heap := pushCells (s3.heap.push { cls := .type "dict", data := .dict #[] }) scope.names } := by
    have nfp : ∀ b ∈ fp, (upd H2 D (new D)) b = none := fun b hb => (f3 b hb).1.1
    generalize hce : compEnvC scope (cellsFrom (s3.heap.objs.size + 1) scope.names (cloFrom X.env.cells scope.names [])) s3.heap.objs.size X.env = ce at I4 pg pt pe ⊢
    have cL : ce.locals = s3.heap.objs.size := by subst hce; rfl
    generalize upd H2 D (new D) = H3 at I3 I4 pg pt pe w0 nfp f3
    generalize hs4 : ({ s3 with heap := pushCells (s3.heap.push { cls := .type "dict", data := .dict #[] }) scope.names } : Shared) = s4 at I4 ⊢
    have st4 : tn 0 s4.heap := T.keep _ _ _ st3 fun b _ o e => by rw [← hs4]; exact pushCells_keeps _ _ _ _ (Heap.get?_push_of_some _ e)
    have stat : ∀ {σ' : L2.St} {H' : Hp} {s' : Shared}, Inv (X.blk s3 H3 scope ce fp) [] σ' H' s' → (∀ b ∈ fp, H' b = none) → ∀ b ∈ fp, FpOk (X.blk s3 H3 scope ce fp) [] H' b := by
      intro σ' H' s' I' hn b hb
      exact ⟨hn b hb, (I'.ok.exf b hb).1, I'.ok.exfs b hb, .inl hb, fun x c e => (I'.ok.exf b hb).2 x c e, fun p hp => absurd (show p ∈ ([] : List (Addr × Obj)) ++ [] from hp) (by simp)⟩
    refine codeAny_compStart_set ?L (T.self X.A 0 _ _ _ st4 ?L)
    refine compLoopS_any (fun n s' => ∃ i H', Inv (X.blk s3 H3 scope ce fp) [] (wipe σ (own.map (·.2))) H' s' ∧ tn i s'.heap ∧ (∀ b ∈ fp, H' b = none) ∧ W i n H') ?_ m0 ⟨0, H3, I4, st4, nfp, w0⟩
    rintro n s5 ⟨i, H5, I5, st5, n5, w5⟩
    rcases turn i n H5 w5 with ⟨stop, qq⟩ | ⟨go, Nx, hNx, step⟩
    · refine thnF (T.done (X.blk s3 H3 scope ce fp) rfl rfl rfl hc i [] s5 _ H5 (fun _ _ => False) I5 (stat I5 n5) st5 stop) fun r s6 ⟨hr, I6⟩ => ?_
      subst hr
      have I7 : Inv X pins σ H5 s6 := I3.call' (ch := fp) I6.os I6.base I6.hok I6.bare fun b hb => ⟨(f3 b hb).1.2.2.2.1, (f3 b hb).1.2.1, (f3 b hb).1.2.2.2.2.1, (f3 b hb).1.2.2.2.2.2⟩
      obtain ⟨m, hn, _⟩ := I6.loc
      have hn : s6.heap.Ns ce.locals m := hn
      have nC : H5 ce.locals = none := I6.free
      rw [cL] at hn nC
      exact hRR D s3.heap.objs.size s6 m H5 I7 qq hn (I3.fpOk (Nat.le_refl _) nC)
    · refine thnF (T.item (X.blk s3 H3 scope ce fp) rfl rfl rfl hc i [] s5 _ H5 (fun _ _ => False) I5 (stat I5 n5) st5 go) fun r s6 ⟨u, hr, h6⟩ => ?_
      subst hr
      refine thnF h6 fun _ s7 ⟨x, H7, I7, r7, y7, st7, n7⟩ => ?_
      have I7' := I7.pinned (stat I7 n7) (T.obj _ _ st7)
      refine thnF (pg.run _ s7 _ H7 x u _ I7' r7 (step x H7 y7)) fun _ s8 ⟨σ8, H8, I8, hw8, q8⟩ => ?_
      refine thnF (pt.run _ s8 σ8 H8 _ I8 q8) fun b s9 ⟨H9, I9, q9⟩ => ?_
      have fin : ∀ {s' : Shared} {H' : Hp}, Inv (X.blk s3 H3 scope ce fp) ([] ++ pinsAt fp s7.heap) σ8 H' s' → Nx H' → ∃ m, m < n ∧ ∃ i H', Inv (X.blk s3 H3 scope ce fp) [] (wipe σ (own.map (·.2))) H' s' ∧ tn i s'.heap ∧ (∀ b ∈ fp, H' b = none) ∧ W i m H' := by
        intro s' H' I' nx
        obtain ⟨m', hm, w'⟩ := hNx H' nx
        have pin' : ∀ b ∈ fp, ∀ o, s7.heap.get? b = some o → s'.heap.get? b = some o ∧ H' b = none := fun b hb o e => by
          have z := I'.pin (b, o) (List.mem_append_right _ (List.mem_append_right _ (mem_pinsAt hb e)))
          exact ⟨z.1, z.2.1⟩
        refine ⟨m', hm, i + 1, H', (I'.unpinned (pins := [])).weak (by rw [← hw8, wipe_length]) (fun j v e => ?_), T.keep _ _ _ st7 fun b hb o e => (pin' b hb o e).1, fun b hb => ?_, w'⟩
        · rw [← hw8] at e
          exact (wipe_some e).1
        · obtain ⟨o, e, _⟩ := T.obj _ _ st7 b hb
          exact (pin' b hb o e).2
      cases b with
      | false =>
        simp only [Bool.false_eq_true, if_false] at q9 ⊢
        exact fin I9 q9
      | true =>
        simp only [if_true] at q9 ⊢
        refine thnF (pe.run _ s9 σ8 H9 _ I9 q9) fun z s10 ⟨yv, H10, I10, r10, nx⟩ => ?_
        refine thnF (hadd s3 H3 ce fp _ s10 σ8 H10 (.ref D) [yv] (.ref D) [z] _ I10 rfl (.cons r10 .nil) nx) fun _ s11 ⟨_, H11, I11, _, nx⟩ => ?_
        exact fin I11 nx
  subst hs3
  subst hD
  exact goal
/-- as a value -/
theorem pe_sg {elt tg iter : Expr} {ifs : List Expr} {scope : Scope} {own : List (Str × Nat)} {pos : Pos} {wi : TI} {g : TG} {tt : TT} {te : TE} {new : Addr → HO} {radd : V → List V → Hp → VK → Prop} (hc : X.calm = true) (hN : X.N.Nodup) (hi : PI X tg iter wi) (ok : BlkOk X.N X.env.scope scope own)
    (hnew : NewS X new) (hadd : ∀ (s : Shared) (H : Hp) (ce : Env) (fp : List Addr), MtR (X.blk s H scope ce fp) "set.add" radd)
    (hg : ∀ (s : Shared) (H : Hp) (C : Addr) (cl : List (Str × Addr)) (fp : List Addr), PG (X.blk s H scope (compEnvC scope cl C X.env) fp) tg g) (ht : ∀ (s : Shared) (H : Hp) (C : Addr) (cl : List (Str × Addr)) (fp : List Addr), PTs (X.blk s H scope (compEnvC scope cl C X.env) fp) ifs tt)
    (he : ∀ (s : Shared) (H : Hp) (C : Addr) (cl : List (Str × Addr)) (fp : List Addr), PE (X.blk s H scope (compEnvC scope cl C X.env) fp) elt te) (hs : ∀ x, foldedSetIterable iter X.env x = pure x := by intro _; rfl) :
    PE X (.SetComp elt [⟨tg, iter, ifs, 0⟩] scope pos) (tSg new radd wi g tt te (own.map (·.2))) := by
  refine ⟨fun pins s σ H Q I h => ?_⟩
  rw [eval_SetComp]
  refine sg_core hc hN I hi ok hnew hadd hg ht he hs h fun D C s' m H' I' q hn f => ⟨m, hn, fun h'' sb => ?_⟩
  obtain ⟨f0, f1, f2, f3, f4, f5⟩ := f
  exact ⟨.ref D, H', I'.turned (t' := s'.toks) (fun b o hb e => (sb.2 b hb).trans e) f0 f1 f3 f4 f5, rfl, q⟩
end

/-- a comprehension's items; ok says which may come -/
def cpGo (ok : List D → D → Bool) (vs : List Nat) (t : Tg) (ft : Den Bool) (fe : Den O) : List D → List D → Den (List D)
  | [], acc, sl => .ok acc sl
  | d :: ds, acc, sl => match t d (wipeS sl vs) with
    | none => .no
    | some s1 => match ft s1 with
      | .ok false s2 => cpGo ok vs t ft fe ds acc s2
      | .ok true s2 => match fe s2 with
        | .ok (.d x) s3 => if ok acc x = true then cpGo ok vs t ft fe ds (acc ++ [x]) s3 else .no
        | _ => .no
      | _ => .no
section
variable {X : Cx} {W : WX} {pa : PAs} {σ : L2.St} {I H : Hp} {fp : Fps}
/-- a comprehension's loop, whatever it makes -/
theorem cp_loop {Xb : Cx} (hK : Xb.K = X.K) (hmg : Xb.mg = X.mg) {vs ws : List Nat} {t : Tg} {ft : Den Bool} {fe : Den O} {okA : List D → D → Bool} {new : HO} {ob : List D → Hp → HO → Prop} {app : V → Hp → (Hp → Prop) → Prop} (hws : ∀ j ∈ ws, j ∈ vs) {ds : List D} {sl : Sls} {J : It} {Tn : Addr} {Q : Hp → Prop} {accF : List D} {sF : Sls}
    (sr : SR X.K pa I H σ sl fp) (hJ : ItR X.K J ds I) (hT : H Tn = none) (ok : cpGo okA vs t ft (dFix fe) ds [] sl = .ok accF sF)
    (hm : ∀ acc I I' o, Le I I' → ob acc I o → ob acc I' o) (h0 : ∀ I, ob [] I new) (ha : ∀ acc d y o I H (Nx : Hp → Prop), okA acc d = true → H Tn = some o → ob acc I o → Rl X.K I y d → Sub I H → (∀ o', ob (acc ++ [d]) I o' → Nx (upd H Tn o')) → app y H Nx)
    (hQ : ∀ I' H' fp' avs, SR X.K pa I' H' (wipe σ vs) (wipeS sF vs) fp' → Mv (fpW fp vs) I H fp' I' H' → H' Tn = some avs → I' Tn = none → ¬ FP fp' Tn → ob accF I' avs → Q H') :
    ∃ W' : Nat → Nat → Hp → Prop, (∃ m, W' 0 m (upd H Tn new)) ∧ ∀ i m H, W' i m H → (J.stop i H ∧ Q H) ∨ (J.go i H ∧ ∃ Nx : Hp → Prop, (∀ H', Nx H' → ∃ m', m' < m ∧ W' (i + 1) m' H') ∧ ∀ x H', J.yld i H x H' →
      tG Xb t ws x (wipe σ vs) H' fun σ2 H2 => wipe σ2 vs = wipe σ vs ∧ tT Xb Wn ft σ2 H2 fun b H3 => if b = true then tE Xb Wn fe σ2 H3 fun y H4 => app y H4 Nx else Nx H3) := by
  obtain ⟨G, Y, Wk, hG, hY⟩ := hJ
  let P : Nat → Hp → Prop := fun i H' => ∃ I' sl' fp' avs acc, SR X.K pa I' H' (wipe σ vs) (wipeS sl' vs) fp' ∧ Mv (fpW fp vs) I H fp' I' H' ∧ H' Tn = some avs ∧ I' Tn = none ∧ ¬ FP fp' Tn ∧ ob acc I' avs ∧ cpGo okA vs t ft (dFix fe) (ds.drop i) acc sl' = .ok accF sF
  have nT : ¬ FP fp Tn := fun z => by obtain ⟨u, hu⟩ := sr.there z; rw [hT] at hu; cases hu
  refine ⟨fun i m H' => i + m = ds.length ∧ P i H', ⟨ds.length, by simp, I, sl, fpW fp vs, new, [], sr.wipe.poke (Sub.non sr.sub hT) (fun z => nT (fpW_sub z).1), Mv.refl.poke hT, upd_same, Sub.non sr.sub hT, fun z => nT (fpW_sub z).1, h0 _, ok⟩, ?_⟩
  rintro i m H1 ⟨em, I1, sl1, fp1, avs, acc, sr1, m1, e1, i1, n1, r1, ok1⟩
  have l1 : Le I I1 := m1.tr.le
  have sb1 : Sub I H1 := fun b o e => m1.tr.keep b o (sr.sub b o e) fun z => by rw [sr.nfree (fpW_sub z).1] at e; cases e
  by_cases hi : i < ds.length
  · have ed : ds.drop i = ds[i] :: ds.drop (i + 1) := List.drop_eq_getElem_cons hi
    rw [ed] at ok1
    refine .inr ⟨Wk.goes i H1 hi (hG I1 H1 l1 sr1.sub sb1), fun H' => P (i + 1) H', fun H' n => ⟨m - 1, by omega, by omega, n⟩, fun x H2 y => ?_⟩
    obtain ⟨I2, a2, r2⟩ := hY i I1 H1 x H2 ds[i] (List.getElem?_eq_getElem hi) l1 sr1.sub (Wk.yields i H1 x H2 hi (hG I1 H1 l1 sr1.sub sb1) y)
    have sr2 := sr1.al a2
    have e2 : H2 Tn = some avs := a2.keep _ _ e1
    have i2 : I2 Tn = none := by
      cases z : I2 Tn with
      | none => rfl
      | some u => rcases a2.fr _ _ z with q | q
                  · rw [e1] at q; cases q
                  · rw [i1] at q; cases q
    have m2 := m1.trans a2.mv
    have r12 := hm _ _ _ _ a2.le r1
    unfold cpGo at ok1
    refine ⟨pa, I2, wipeS sl1 vs, fp1, ds[i], by rw [hK]; exact sr2, by rw [hK]; exact r2, ?_⟩
    cases et : t ds[i] (wipeS sl1 vs) with
    | none => simp only [et] at ok1; cases ok1
    | some s1 =>
      simp only [et] at ok1 ⊢
      intro σ3 fp3 sr3 f3 k3
      rw [hK] at sr3
      have n3 : ¬ FP fp3 Tn := fun z => n1 (f3 _ z)
      have m3 : Mv (fpW fp vs) I H fp3 I2 H2 := ⟨m2.tr, fun b hb => m2.fresh b (f3 b hb)⟩
      have w3 := wipe_keeps k3 hws
      refine ⟨w3, pa, I2, s1, fp3, by rw [hK]; exact sr3, ?_⟩
      -- what stays of the new list behind a step
      have stay : ∀ {I4 H4 fp4}, Mv fp3 I2 H2 fp4 I4 H4 → H4 Tn = some avs ∧ I4 Tn = none ∧ ¬ FP fp4 Tn := fun {I4 H4 fp4} m4 => by
        refine ⟨m4.tr.keep _ _ e2 n3, m4.tr.fr _ _ e2 n3 i2, fun z => ?_⟩
        rcases m4.fresh _ z with q | q
        · exact n3 q
        · rw [e2] at q; cases q
      cases ef : ft s1 with
      | no => simp only [ef] at ok1; cases ok1
      | err x s => simp only [ef] at ok1; cases ok1
      | ok k s2 =>
        intro I4 H4 fp4 sr4 m4
        rw [hK] at sr4
        cases k with
        | false =>
          simp only [ef] at ok1
          obtain ⟨e4, i4, n4⟩ := stay m4
          have q := sr4.wipe (vs := vs)
          rw [w3] at q
          refine iteF ⟨I4, s2, fpW fp4 vs, avs, acc, q, ?_, e4, i4, fun z => n4 (fpW_sub z).1, hm _ _ _ _ m4.tr.le r12, ok1⟩
          have := m3.trans m4
          exact ⟨this.tr, fun b hb => this.fresh b (fpW_sub hb).1⟩
        | true =>
          simp only [ef] at ok1
          refine iteT (tE_fix ⟨pa, I4, s2, fp4, by rw [hK]; exact sr4, ?_⟩)
          cases ee : (dFix fe) s2 with
          | no => simp only [ee] at ok1; cases ok1
          | err x s => simp only [ee] at ok1; cases ok1
          | ok o s3 =>
            intro I5 H5 fp5 sr5 m5 v hv
            rw [hK] at sr5
            cases o with
            | d x =>
              have hv : Rl Xb.K I5 v x := hv
              rw [hK] at hv
              simp only [ee] at ok1
              by_cases hl : okA acc x = true
              · simp only [if_pos hl] at ok1
                obtain ⟨e5, i5, n5⟩ := stay (m4.trans m5)
                have ml := m4.trans m5
                refine ha acc x v avs I5 H5 _ hl e5 (hm _ _ _ _ ml.tr.le r12) hv sr5.sub fun o' r' => ?_
                have q := (sr5.wipe (vs := vs)).poke (T := Tn) (o := o') i5 (fun z => n5 (fpW_sub z).1)
                rw [w3] at q
                refine ⟨I5, s3, fpW fp5 vs, o', acc ++ [x], q, ?_, upd_same, i5, fun z => n5 (fpW_sub z).1, r', ok1⟩
                have := (m3.trans ml).poke (T := Tn) (o := o') hT
                exact ⟨this.tr, fun b hb => this.fresh b (fpW_sub hb).1⟩
              · simp only [if_neg hl] at ok1; cases ok1
            | sl i => simp only [ee] at ok1; cases ok1
            | tmp m => simp only [ee] at ok1; cases ok1
            | set xs => simp only [ee] at ok1; cases ok1
            | scr ns => simp only [ee] at ok1; cases ok1
  · have ei : i = ds.length := by omega
    rw [ei, List.drop_length] at ok1
    have ok1 : Rz.ok acc sl1 = Rz.ok accF sF := ok1
    cases ok1
    rw [ei]
    exact .inl ⟨Wk.stops H1 (hG I1 H1 l1 sr1.sub sb1), hQ I1 H1 fp1 avs sr1 m1 e1 i1 n1 r1⟩
end
end AL
end
section
set_option Elab.async false
set_option linter.all false
set_option maxRecDepth 100000
set_option maxHeartbeats 4000000
set_option autoImplicit false
/-! The A-layer, part s: sorting, plainly. -/
namespace AL
open PySem PySem.Spec
section
variable {α β : Type}
/-- into its place, ahead of its equals -/
def insE (le : α → α → Bool) (x : α) : List α → List α
  | [] => [x]
  | y :: l => if le x y = true then x :: y :: l else y :: insE le x l
def isort (le : α → α → Bool) : List α → List α
  | [] => []
  | x :: l => insE le x (isort le l)
theorem insE_perm (le : α → α → Bool) (x : α) : ∀ l : List α, (insE le x l).Perm (x :: l)
  | [] => .refl _
  | y :: l => by
    unfold insE
    split
    · exact .refl _
    · exact ((insE_perm le x l).cons y).trans (.swap x y l)
theorem isort_perm (le : α → α → Bool) : ∀ l : List α, (isort le l).Perm l
  | [] => .refl _
  | x :: l => (insE_perm le x _).trans ((isort_perm le l).cons x)
theorem insE_sorted {le : α → α → Bool} (tr : ∀ a b c, le a b = true → le b c = true → le a c = true) (tot : ∀ a b, le a b = true ∨ le b a = true) (x : α) : ∀ l : List α, l.Pairwise (fun a b => le a b = true) → (insE le x l).Pairwise fun a b => le a b = true
  | [], _ => by simp [insE]
  | y :: l, h => by
    obtain ⟨h1, h2⟩ := List.pairwise_cons.mp h
    unfold insE
    split
    · rename_i e
      refine List.pairwise_cons.mpr ⟨fun z hz => ?_, h⟩
      rcases List.mem_cons.mp hz with q | q
      · subst q; exact e
      · exact tr _ _ _ e (h1 z q)
    · rename_i e
      refine List.pairwise_cons.mpr ⟨fun z hz => ?_, insE_sorted tr tot x l h2⟩
      rcases List.mem_cons.mp ((insE_perm le x l).mem_iff.mp hz) with q | q
      · subst q; exact (tot z y).resolve_left e
      · exact h1 z q
theorem isort_sorted {le : α → α → Bool} (tr : ∀ a b c, le a b = true → le b c = true → le a c = true) (tot : ∀ a b, le a b = true ∨ le b a = true) : ∀ l : List α, (isort le l).Pairwise fun a b => le a b = true
  | [] => .nil
  | x :: l => insE_sorted tr tot x _ (isort_sorted tr tot l)
/-- two sorted lists of the same things are one -/
theorem sorted_one {le : α → α → Bool} (an : ∀ a b, le a b = true → le b a = true → a = b) : ∀ {l m : List α}, l.Pairwise (fun a b => le a b = true) → m.Pairwise (fun a b => le a b = true) → l.Perm m → l = m
  | [], m, _, _, p => (List.nil_perm.mp p).symm
  | x :: l, [], _, _, p => absurd p.length_eq (by simp)
  | x :: l, y :: m, hl, hm, p => by
    obtain ⟨l1, l2⟩ := List.pairwise_cons.mp hl
    obtain ⟨m1, m2⟩ := List.pairwise_cons.mp hm
    have e : x = y := by
      rcases List.mem_cons.mp (p.mem_iff.mp List.mem_cons_self) with q | q
      · exact q
      · rcases List.mem_cons.mp (p.mem_iff.mpr List.mem_cons_self) with r | r
        · exact r.symm
        · exact an _ _ (l1 y r) (m1 x q)
    subst e
    rw [sorted_one an l2 m2 (List.Perm.cons_inv p)]
/-- without those that stand twice -/
def insU (lt : α → α → Bool) (x : α) : List α → List α
  | [] => [x]
  | y :: l => if lt x y = true then x :: y :: l else if lt y x = true then y :: insU lt x l else y :: l
def sortU (lt : α → α → Bool) : List α → List α
  | [] => []
  | x :: l => insU lt x (sortU lt l)
theorem insU_mem {lt : α → α → Bool} (tri : ∀ a b, lt a b = false → lt b a = false → a = b) (x z : α) : ∀ l : List α, z ∈ insU lt x l ↔ z = x ∨ z ∈ l
  | [] => by simp [insU]
  | y :: l => by
    unfold insU
    split
    · simp
    · rename_i e1
      split
      · rw [List.mem_cons, insU_mem tri x z l, List.mem_cons]
        exact ⟨fun h => h.elim (fun q => .inr (.inl q)) fun q => q.elim .inl fun r => .inr (.inr r), fun h => h.elim (fun q => .inr (.inl q)) fun q => q.elim .inl fun r => .inr (.inr r)⟩
      · rename_i e2
        have e := tri x y (by simpa using e1) (by simpa using e2)
        subst e
        simp
theorem sortU_mem {lt : α → α → Bool} (tri : ∀ a b, lt a b = false → lt b a = false → a = b) (z : α) : ∀ l : List α, z ∈ sortU lt l ↔ z ∈ l
  | [] => .rfl
  | x :: l => by
    show z ∈ insU lt x (sortU lt l) ↔ _
    rw [insU_mem tri, sortU_mem tri z l, List.mem_cons]
theorem insU_sorted {lt : α → α → Bool} (tri : ∀ a b, lt a b = false → lt b a = false → a = b) (tr : ∀ a b c, lt a b = true → lt b c = true → lt a c = true) (x : α) : ∀ l : List α, l.Pairwise (fun a b => lt a b = true) → (insU lt x l).Pairwise fun a b => lt a b = true
  | [], _ => by simp [insU]
  | y :: l, h => by
    obtain ⟨h1, h2⟩ := List.pairwise_cons.mp h
    unfold insU
    split
    · rename_i e
      refine List.pairwise_cons.mpr ⟨fun z hz => ?_, h⟩
      rcases List.mem_cons.mp hz with q | q
      · subst q; exact e
      · exact tr _ _ _ e (h1 z q)
    · split
      · rename_i e
        refine List.pairwise_cons.mpr ⟨fun z hz => ?_, insU_sorted tri tr x l h2⟩
        rcases (insU_mem tri x z l).mp hz with q | q
        · subst q; exact e
        · exact h1 z q
      · exact h
theorem sortU_sorted {lt : α → α → Bool} (tri : ∀ a b, lt a b = false → lt b a = false → a = b) (tr : ∀ a b c, lt a b = true → lt b c = true → lt a c = true) : ∀ l : List α, (sortU lt l).Pairwise fun a b => lt a b = true
  | [] => .nil
  | x :: l => insU_sorted tri tr x _ (sortU_sorted tri tr l)
/-- two strictly sorted lists with the same members are one -/
theorem strict_one {lt : α → α → Bool} (irr : ∀ a, lt a a = false) (tr : ∀ a b c, lt a b = true → lt b c = true → lt a c = true) : ∀ {l m : List α}, l.Pairwise (fun a b => lt a b = true) → m.Pairwise (fun a b => lt a b = true) → (∀ z, z ∈ l ↔ z ∈ m) → l = m
  | [], [], _, _, _ => rfl
  | [], y :: m, _, _, p => absurd ((p y).mpr List.mem_cons_self) (by simp)
  | x :: l, [], _, _, p => absurd ((p x).mp List.mem_cons_self) (by simp)
  | x :: l, y :: m, hl, hm, p => by
    obtain ⟨l1, l2⟩ := List.pairwise_cons.mp hl
    obtain ⟨m1, m2⟩ := List.pairwise_cons.mp hm
    have e : x = y := by
      rcases List.mem_cons.mp ((p x).mp List.mem_cons_self) with q | q
      · exact q
      · rcases List.mem_cons.mp ((p y).mpr List.mem_cons_self) with r | r
        · exact r.symm
        · have := tr _ _ _ (l1 y r) (m1 x q)
          rw [irr] at this
          cases this
    subst e
    congr 1
    refine strict_one irr tr l2 m2 fun z => ?_
    have n1 : x ∉ l := fun h => by have := l1 x h; rw [irr] at this; cases this
    have n2 : x ∉ m := fun h => by have := m1 x h; rw [irr] at this; cases this
    have q := p z
    rw [List.mem_cons, List.mem_cons] at q
    by_cases hz : z = x
    · subst hz
      exact ⟨fun h => absurd h n1, fun h => absurd h n2⟩
    · exact ⟨fun h => (q.mp (.inr h)).resolve_left hz, fun h => (q.mpr (.inr h)).resolve_left hz⟩
end

/-! ### the data that are sorted -/
abbrev ltR : List Int → List Int → Bool := fun a b => decide (a < b)
abbrev leR : List Int → List Int → Bool := fun a b => decide (a ≤ b)
abbrev leI : Int → Int → Bool := fun a b => decide (a ≤ b)
abbrev ltI : Int → Int → Bool := fun a b => decide (a < b)
abbrev leS : Str → Str → Bool := fun a b => decide (a.cps.toList ≤ b.cps.toList)
def rowOf : D → Option (List Int)
  | .tuple xs => dInts xs
  | _ => none
def dRows : List D → Option (List (List Int))
  | [] => some []
  | d :: r => match rowOf d, dRows r with
    | some k, some ks => some (k :: ks)
    | _, _ => none
def dStrs : List D → Option (List Str)
  | [] => some []
  | .str b :: r => (dStrs r).map (b :: ·)
  | _ => none
def rowD (k : List Int) : D := .tuple (k.map .int)
def orient {α : Type} (rev : Bool) (l : List α) : List α := if rev = true then l.reverse else l
def sortD (rev : Bool) (ds : List D) : Option (List D) := match dInts ds with
  | some is => some ((orient rev (isort leI is)).map .int)
  | none => match dRows ds with
    | some ks => if ks.all (fun k => !k.isEmpty) = true then some ((orient rev (isort leR ks)).map rowD) else none
    | none => match dStrs ds with
      | some xs => if xs.all (fun x => (PyData.str x).canLay0) = true then some ((orient rev (isort leS xs)).map .str) else none
      | none => none
theorem dInts_map : ∀ {ds : List D} {is : List Int}, dInts ds = some is → ds = is.map .int
  | [], _, e => by cases e; rfl
  | d :: r, is, e => by
    cases d with
    | int i =>
      have e : (dInts r).map (i :: ·) = some is := e
      cases h : dInts r with
      | none => rw [h] at e; cases e
      | some js => rw [h] at e; cases e; rw [dInts_map h]; rfl
    | _ => cases e
theorem dStrs_map : ∀ {ds : List D} {is : List Str}, dStrs ds = some is → ds = is.map .str
  | [], _, e => by cases e; rfl
  | d :: r, is, e => by
    cases d with
    | str i =>
      have e : (dStrs r).map (i :: ·) = some is := e
      cases h : dStrs r with
      | none => rw [h] at e; cases e
      | some js => rw [h] at e; cases e; rw [dStrs_map h]; rfl
    | _ => cases e
theorem rowOf_eq {d : D} {k : List Int} (e : rowOf d = some k) : d = rowD k := by
  cases d with
  | tuple xs => rw [dInts_map (show dInts xs = some k from e)]; rfl
  | _ => cases e
theorem dRows_map : ∀ {ds : List D} {ks : List (List Int)}, dRows ds = some ks → ds = ks.map rowD
  | [], _, e => by cases e; rfl
  | d :: r, ks, e => by
    have e : (match rowOf d, dRows r with
      | some k, some ks => some (k :: ks)
      | _, _ => none) = some ks := e
    cases h : rowOf d with
    | none => rw [h] at e; cases e
    | some k =>
      cases h2 : dRows r with
      | none => rw [h, h2] at e; cases e
      | some js => rw [h, h2] at e; cases e; rw [dRows_map h2, rowOf_eq h]; rfl
theorem dInts_of : ∀ is : List Int, dInts (is.map PyData.int) = some is
  | [] => rfl
  | i :: is => by
    show (dInts (is.map PyData.int)).map (i :: ·) = _
    rw [dInts_of is]
    rfl
theorem dRows_of : ∀ ks : List (List Int), dRows (ks.map rowD) = some ks
  | [] => rfl
  | k :: ks => by
    have h1 : rowOf (rowD k) = some k := dInts_of k
    show (match rowOf (rowD k), dRows (ks.map rowD) with
      | some k, some ks => some (k :: ks)
      | _, _ => none) = _
    rw [h1, dRows_of ks]
end AL
end
section
set_option Elab.async false
set_option linter.all false
set_option maxRecDepth 100000
set_option maxHeartbeats 4000000
set_option autoImplicit false
/-! The A-layer, part t: sorted(..) of lists and tuples. -/
namespace AL
open PySem PySem.Spec PyProof.Rows

/-! ### the kit's merge sort is our plain one -/
section
variable {α β : Type}
theorem msort_one {le r : α → α → Bool} (rev : Bool) (hr : ∀ a b, r a b = if rev = true then le b a else le a b) (tr : ∀ a b c, le a b = true → le b c = true → le a c = true) (tot : ∀ a b, le a b = true ∨ le b a = true) (an : ∀ a b, le a b = true → le b a = true → a = b) (l : List α) :
    l.mergeSort r = orient rev (isort le l) := by
  have trr : ∀ a b c, r a b = true → r b c = true → r a c = true := fun a b c h1 h2 => by
    rw [hr] at h1 h2 ⊢
    cases rev with
    | true => exact tr _ _ _ h2 h1
    | false => exact tr _ _ _ h1 h2
  have totr : ∀ a b, (r a b || r b a) = true := fun a b => by
    rw [hr, hr]
    rcases tot a b with h | h <;> cases rev <;> simp [h]
  have anr : ∀ a b, r a b = true → r b a = true → a = b := fun a b h1 h2 => by
    rw [hr] at h1 h2
    cases rev with
    | true => exact an _ _ h2 h1
    | false => exact an _ _ h1 h2
  refine sorted_one anr (List.pairwise_mergeSort trr totr l) ?_ ?_
  · have s := isort_sorted tr tot l
    unfold orient
    cases rev with
    | true =>
      simp only [if_true]
      rw [List.pairwise_reverse]
      exact s.imp fun {a b} h => by rw [hr]; simpa using h
    | false => exact s.imp fun {a b} h => by rw [hr]; simpa using h
  · refine (List.mergeSort_perm l r).trans ?_
    unfold orient
    cases rev with
    | true => exact ((List.reverse_perm _).trans (isort_perm le l)).symm
    | false => exact (isort_perm le l).symm
theorem leI_an : ∀ a b : Int, leI a b = true → leI b a = true → a = b := fun a b h1 h2 => by
  have h1 := of_decide_eq_true h1
  have h2 := of_decide_eq_true h2
  omega
theorem leI_tot : ∀ a b : Int, leI a b = true ∨ leI b a = true := fun a b => by
  by_cases h : a ≤ b
  · exact .inl (decide_eq_true h)
  · exact .inr (decide_eq_true (by omega))
theorem leI_tr : ∀ a b c : Int, leI a b = true → leI b c = true → leI a c = true := fun a b c h1 h2 => decide_eq_true (Int.le_trans (of_decide_eq_true h1) (of_decide_eq_true h2))
theorem leR_an : ∀ a b : List Int, leR a b = true → leR b a = true → a = b := fun a b h1 h2 => List.le_antisymm (of_decide_eq_true h1) (of_decide_eq_true h2)
theorem leR_tot : ∀ a b : List Int, leR a b = true ∨ leR b a = true := fun a b => (List.le_total a b).elim (fun h => .inl (decide_eq_true h)) fun h => .inr (decide_eq_true h)
theorem leR_tr : ∀ a b c : List Int, leR a b = true → leR b c = true → leR a c = true := fun a b c h1 h2 => decide_eq_true (List.le_trans (of_decide_eq_true h1) (of_decide_eq_true h2))
theorem leS_an : ∀ a b : Str, leS a b = true → leS b a = true → a = b := fun a b h1 h2 => by
  have e : a.cps.toList = b.cps.toList := List.le_antisymm (of_decide_eq_true h1) (of_decide_eq_true h2)
  cases a with
  | mk x =>
    cases b with
    | mk y =>
      have e : x.toList = y.toList := e
      rw [Array.toList_inj.mp e]
theorem leS_tot : ∀ a b : Str, leS a b = true ∨ leS b a = true := fun a b => (List.le_total a.cps.toList b.cps.toList).elim (fun h => .inl (decide_eq_true h)) fun h => .inr (decide_eq_true h)
theorem leS_tr : ∀ a b c : Str, leS a b = true → leS b c = true → leS a c = true := fun a b c h1 h2 => decide_eq_true (List.le_trans (of_decide_eq_true h1) (of_decide_eq_true h2))
open PySem.W in
theorem dataLe_rowT (rev : Bool) (a b : List Int) : dataLe rev (fun k : List Int => rowD k) a b = if rev = true then leR b a else leR a b := by
  have h : ∀ a b : List Int, dataLt (rowD a) (rowD b) = decide (a < b) := fun a b => dataLt_ints a b
  have n : ∀ a b : List Int, (!decide (b < a)) = leR a b := fun a b => by
    by_cases q : b < a
    · have q2 : ¬ a ≤ b := fun z => List.not_lt.mpr z q
      simp [leR, q, q2]
    · have q2 : a ≤ b := List.not_lt.mp q
      simp [leR, q, q2]
  cases rev with
  | true =>
    show (!dataLt (rowD a) (rowD b)) = leR b a
    rw [h, n]
  | false =>
    show (!dataLt (rowD b) (rowD a)) = leR a b
    rw [h, n]
open PySem.W in
theorem map_msort {γ : Type} (f : γ → D) (rev : Bool) {le : γ → γ → Bool} (hr : ∀ a b, dataLe rev f a b = if rev = true then le b a else le a b) (tr : ∀ a b c, le a b = true → le b c = true → le a c = true) (tot : ∀ a b, le a b = true ∨ le b a = true) (an : ∀ a b, le a b = true → le b a = true → a = b) (l : List γ) :
    (l.map f).mergeSort (dataLe rev id) = (orient rev (isort le l)).map f := by
  rw [← msort_one rev hr tr tot an l]
  exact (List.map_mergeSort (f := f) (r := dataLe rev f) (s := dataLe rev id) (l := l) fun a _ b _ => rfl).symm
open PySem.W in
theorem sortD_eq {rev : Bool} {ds es : List D} (e : sortD rev ds = some es) : ds.mergeSort (dataLe rev id) = es := by
  unfold sortD at e
  cases h1 : dInts ds with
  | some is =>
    rw [h1] at e
    cases e
    rw [dInts_map h1]
    refine map_msort _ rev (fun a b => ?_) leI_tr leI_tot leI_an is
    cases rev with
    | true => exact congrFun (congrFun (dataGe_int fun i : Int => i) a) b
    | false => exact congrFun (congrFun (dataLe_int fun i : Int => i) a) b
  | none =>
    rw [h1] at e
    dsimp only at e
    cases h2 : dRows ds with
    | some ks =>
      rw [h2] at e
      dsimp only at e
      split at e
      · cases e
        rw [dRows_map h2]
        exact map_msort _ rev (dataLe_rowT rev) leR_tr leR_tot leR_an ks
      · cases e
    | none =>
      rw [h2] at e
      dsimp only at e
      cases h3 : dStrs ds with
      | none => rw [h3] at e; cases e
      | some xs =>
        rw [h3] at e
        dsimp only at e
        split at e
        case isFalse => cases e
        cases e
        rw [dStrs_map h3]
        refine map_msort _ rev (fun a b => ?_) leS_tr leS_tot leS_an xs
        cases rev with
        | true => exact congrFun (congrFun (dataGe_str fun i : Str => i) a) b
        | false => exact congrFun (congrFun (dataLe_str fun i : Str => i) a) b
theorem canLay_ints : ∀ k : List Int, PyData.canLayAll0 (k.map .int) = true
  | [] => rfl
  | i :: k => by
    show (PyData.canLay0 (.int i) && PyData.canLayAll0 (k.map .int)) = true
    rw [canLay_ints k]
    rfl
open PySem.W in
/-- what the sort asks of the data -/
theorem sortD_ok {rev : Bool} {ds es : List D} (e : sortD rev ds = some es) : AllAlike ds ∧ PySem.W.Sortable ds ∧ (∀ d ∈ ds, d.depth ≤ 1) ∧ ∀ d ∈ ds, d.canLay0 = true := by
  unfold sortD at e
  cases h1 : dInts ds with
  | some is =>
    rw [dInts_map h1]
    refine ⟨AllAlike.of fun _ _ => rfl, .others fun b => ⟨(fun z => nomatch z), fun _ z => nomatch z⟩, fun d hd => ?_, fun d hd => ?_⟩
    · obtain ⟨i, _, rfl⟩ := List.mem_map.mp hd
      exact Nat.zero_le _
    · obtain ⟨i, _, rfl⟩ := List.mem_map.mp hd
      rfl
  | none =>
    rw [h1] at e
    dsimp only at e
    cases h2 : dRows ds with
    | some ks =>
      rw [h2] at e
      dsimp only at e
      split at e
      · rename_i hne
        rw [dRows_map h2]
        refine ⟨AllAlike.of fun a b => alike_ints a b, .inl fun d hd => ?_, fun d hd => ?_, fun d hd => ?_⟩
        · obtain ⟨k, hk, rfl⟩ := List.mem_map.mp hd
          have := List.all_eq_true.mp hne k hk
          cases k with
          | nil => cases this
          | cons x r => exact ⟨_, _, rfl⟩
        · obtain ⟨k, hk, rfl⟩ := List.mem_map.mp hd
          show PyData.depth (.tuple (k.map .int)) ≤ 1
          rw [PyData.depth, depth_ints]
          exact Nat.le_refl _
        · obtain ⟨k, hk, rfl⟩ := List.mem_map.mp hd
          exact canLay_ints k
      · cases e
    | none =>
      rw [h2] at e
      dsimp only at e
      cases h3 : dStrs ds with
      | none => rw [h3] at e; cases e
      | some xs =>
        rw [h3] at e
        dsimp only at e
        split at e
        case isFalse => cases e
        rename_i hla
        rw [dStrs_map h3]
        refine ⟨AllAlike.of fun _ _ => rfl, .others fun b => ⟨(fun z => nomatch z), fun _ z => nomatch z⟩, fun d hd => ?_, fun d hd => ?_⟩
        · obtain ⟨i, _, rfl⟩ := List.mem_map.mp hd
          exact Nat.zero_le _
        · obtain ⟨i, hi, rfl⟩ := List.mem_map.mp hd
          exact List.all_eq_true.mp hla i hi
end
end AL
end
section
set_option Elab.async false
set_option linter.all false
set_option maxRecDepth 100000
set_option maxHeartbeats 4000000
set_option autoImplicit false
/-! The A-layer, part u: sorted(..), the call. -/
namespace AL
open PySem PySem.Spec PyProof.Rows PySem.Calls PySem.W
section
variable {prog : Program} {w : World} {A : Around} {E : Value → Shared → Prop} {s : Shared}
/-- a tuple's items, gathered -/
theorem gather_tup {l : Addr} {vs : List Value} {Q : List Value → Shared → Prop} (hl : IsTup s.heap l vs.toArray) (hsz : vs.length ≤ sizeLine)
    (h : Q vs { s with heap := (s.heap.push (seqObj "list" #[] 0)).update s.heap.objs.size (Obj.mapSeq (· ++ vs.toArray)) }) : wpAny (model prog w) A (collect (.ref l)) Q E s := by
  obtain ⟨o, ho, hc, n, hd⟩ := id hl
  have ho' : (s.heap.push (seqObj "list" #[] 0)).get? l = some o := Heap.get?_push_of_some _ ho
  have yes : (Builtin.List.listSameRef (.ref s.heap.objs.size) (.ref l) || Value.type "tuple" == Value.type "list" || Value.type "tuple" == Value.type "tuple") = true := by
    have : (Value.type "tuple" == Value.type "tuple") = true := by rfl
    rw [this, Bool.or_true]
  unfold collect
  refine wpAny_bind (wpAny_runValue (codeAny_builtin entry_proto_collect' ?_))
  show wpAny _ _ (do again (.builtin "list.__iadd__" ⟨[← newList [], .ref l], []⟩)) _ _ s
  refine wpAny_bind (wpAny_newList (wpAny_pure ⟨Code.quiet_builtin _ (by decide +kernel), codeAny_builtin entry_list_iadd' ?_⟩))
  show wpAny _ _ (Builtin.List.listExtendWith (.ref s.heap.objs.size) (.ref l) (.ref s.heap.objs.size)) _ _ { s with heap := s.heap.push (seqObj "list" #[] 0) }
  unfold Builtin.List.listExtendWith
  refine wpAny_bind (wpAny_typeOf (T := "tuple") ⟨o, ho', hc⟩ ?_)
  rw [if_pos (by exact yes)]
  refine wpAny_bind (listItems_at ho' hd (wpAny_bind (listItems_at (xs := #[]) (n := 0) (Heap.get?_push_size _ rfl) rfl ?_)))
  rw [if_neg (by simp)]
  refine wpAny_bind (listUpdate_at (xs := #[]) (n := 0) (Heap.get?_push_size _ rfl) rfl (wpAny_pure ?_) (Nat.zero_le _) (by show (#[] ++ vs.toArray).size ≤ sizeLine + 1; simp only [Array.size_append, List.size_toArray, List.length_nil]; omega))
  refine wpAny_bind (wpAny_load (get?_update_seq (Heap.get?_push_size _ rfl) _) ?_)
  show wpAny _ _ (pure ((#[] : Array Value) ++ vs.toArray).toList) Q E _
  rw [show ((#[] : Array Value) ++ vs.toArray).toList = vs by simp]
  exact wpAny_pure h
theorem sorted_of_tup {l : Addr} {vs : List Value} {kw : List (Str × Value)} {Q : Value → Shared → Prop} (hl : IsTup s.heap l vs.toArray) (hL : vs.length ≤ sizeLine) (ha1 : argsOk "sorted" ⟨[.ref l], kw⟩) (ha2 : ∀ x, argsOk "list.sort" ⟨[.ref x], kw⟩)
    (body : ∀ E' : Value → Shared → Prop, wpAny (model prog w) A.in1.in1 (Builtin.«list.sort» ⟨[.ref (s.heap.objs.size + 1)], kw⟩) (fun f s' => f = .done (.ret .none) ∧ Q (.ref (s.heap.objs.size + 1)) s') E' { s with heap := copyHeap s.heap vs }) :
    wpAny (model prog w) A (call (.builtin "sorted") [.ref l] kw) Q E s := by
  have hsz : ((s.heap.push (seqObj "list" #[] 0)).update s.heap.objs.size (Obj.mapSeq (· ++ vs.toArray))).objs.size = s.heap.objs.size + 1 := by rw [Heap.size_update, size_push']
  refine call_function_entry_kw kind_sorted plain_sorted entry_sorted ha1 ?_
  unfold Builtin.«sorted»
  refine wpAny_bind (m := checkCount "sorted" 1 1 _) (wpAny_pure (wpAny_bind (gather_tup hl hL (wpAny_bind (wpAny_newList ?_ hL)))))
  show wpAny _ _ _ _ _ { s with heap := copyHeap s.heap vs }
  rw [hsz]
  refine wpAny_bind (wpAny_holding (wpAny_call_entry_kw slot_list_sort ⟨_, copyHeap_at s.heap vs, rfl⟩ entry_list_sort ?body (ha2 _)))
  case body =>
    refine wpAny_mono (body _) (fun f s' hf => ?_) fun _ _ e => e
    obtain ⟨rfl, hq⟩ := hf
    exact ⟨_, rfl, wpAny_pure ⟨_, rfl, hq⟩⟩
/-- the words behind the first argument: none, or reverse=b -/
def SortKw (b : Bool) (kw : List (Str × Value)) : Prop := (kw = [] ∧ b = false) ∨ kw = [(Str.ofString "reverse", .bool b)]
theorem sort_run {β : Type} {l : Addr} {b : Bool} {kw : List (Str × Value)} {vs : List Value} {bs : List β} {enc : β → PyData} {R : Value → β → Prop} {Q : Value → Shared → Prop} (hkw : SortKw b kw) (hl : s.heap.IsList l vs.toArray ∨ IsTup s.heap l vs.toArray) (e : EachIs R vs bs) (er : EachIs (fun v b => ∃ as, Reads s.heap v (enc b) as) vs bs)
    (hal : AllAlike (bs.map enc)) (hk : PySem.W.Sortable (bs.map enc)) (hL : bs.length ≤ sizeLine) (hu : ∀ b, b ∈ bs → A.units + 2 + (enc b).depth < cLine)
    (h : ∀ out, out.length = bs.length → EachIs R out (bs.mergeSort (dataLe b enc)) → Q (.ref (s.heap.objs.size + 1)) { s with heap := sortedAll s.heap vs (List.toArray out) }) : wpAny (model prog w) A (call (.builtin "sorted") [.ref l] kw) Q E s := by
  rcases hl with hl | hl
  · rcases hkw with ⟨rfl, rfl⟩ | rfl
    · exact sorted_data hl e er hal hk hL hu h
    · exact sorted_rev_data hl e er hal hk hL hu h
  · have er' : EachIs (fun v b => ∃ as, Reads (sortingHeap (copyHeap s.heap vs) (s.heap.objs.size + 1) vs) v (enc b) as) vs bs := er.mono fun _ _ ⟨as, r⟩ => ⟨as, PyProof.Rows.Reads.keeps (fun _ _ => sorting_copy_old) r⟩
    have S := SortsAt.data (prog := prog) (w := w) (A := A.in1.in1) (s := { s with heap := sortingHeap (copyHeap s.heap vs) (s.heap.objs.size + 1) vs }) (each_map (R := fun v d => ∃ as, Reads (sortingHeap (copyHeap s.heap vs) (s.heap.objs.size + 1) vs) v d as) enc er') hal hk (bound_map hu)
    have hz : vs.length ≤ sizeLine := by rw [e.length]; exact hL
    have fin := h _ (by rw [sortVals_length b rfl]; exact e.length) (sortVals_data b e er' hal)
    rcases hkw with ⟨rfl, rfl⟩ | rfl
    · exact sorted_of_tup hl hz (args_sorted1 _) (fun _ => args_list_sort _) fun _ => list_sort_vals (s := { s with heap := copyHeap s.heap vs }) (copyHeap_at s.heap vs) S hz ⟨rfl, fin⟩
    · exact sorted_of_tup hl hz (args_sorted_rev _ _) (fun _ => args_list_sort_rev _ _) fun _ => list_sort_rev_vals (s := { s with heap := copyHeap s.heap vs }) (copyHeap_at s.heap vs) S hz ⟨rfl, fin⟩
end
end AL
namespace AL
open PySem PySem.Spec PyProof.Rows L2
open PySem.W (EachIs dataLe)
/-- sorted(x), sorted(x, reverse=b), by values -/
def rSortA (K : PySem.W.Frag) (b : Bool) : List V → Hp → VK → Prop := fun xs H Q => ∃ (a : Addr) (bs : List (V × D)) (es : List D), xs = [.ref a] ∧ (SqL K H a (bs.map (·.1)) ∨ SqT K H a (bs.map (·.1))) ∧ (∀ p ∈ bs, Dp K H p.1 p.2) ∧ sortD b (bs.map (·.2)) = some es ∧
  ∀ (bs' : List (V × D)) (p : Addr), bs'.Perm bs → bs'.map (·.2) = es → H p = none → Q (.ref p) (upd H p (.lst (bs'.map (·.1))))
section
variable {X : Cx}
theorem each_of {P : V → D → Value → Prop} : ∀ {bs : List (V × D)} {us : List Value}, Vals (bs.map (·.1)) us → (∀ p ∈ bs, ∀ u, RelV p.1 u → P p.1 p.2 u) → EachIs (fun u (p : V × D) => P p.1 p.2 u) us bs
  | [], _, .nil, _ => .nil
  | p :: bs, _, .cons r t, h => .cons (h p (by simp) _ r) (each_of t fun q hq => h q (by simp [hq]))
theorem each_vals : ∀ {bs : List (V × D)} {us : List Value}, EachIs (fun u (p : V × D) => RelV p.1 u) us bs → Vals (bs.map (·.1)) us
  | _, _, .nil => .nil
  | _, _, .cons r t => .cons r (each_vals t)
theorem cr_sortA {b : Bool} {kw : List (Str × Value)} (hkw : SortKw b kw) (hu : X.A.units + 65 < cLine) {pins : List (Addr × Obj)} {s : Shared} {σ : L2.St} {H : Hp} {xs : List V} {us : List Value} {Q : VK} (I : Inv X pins σ H s) (r : Vals xs us) (h : rSortA X.K b xs H Q) :
    wpAny (model X.prog X.w) X.A (call (.builtin "sorted") us kw) (EP X pins σ Q) X.xe s := by
  obtain ⟨a, bs, es, rfl, hq, hd, hs, q⟩ := h
  rw [Vals.ref1 r]
  obtain ⟨k1, k2, k3, k4⟩ := sortD_ok hs
  have hz : ∃ its, Vals (bs.map (·.1)) its ∧ (s.heap.IsList a its.toArray ∨ IsTup s.heap a its.toArray) ∧ (bs.map (·.1)).length ≤ sizeLine := by
    rcases hq with hq | hq
    · obtain ⟨its, rv, pl, hz⟩ := I.list hq
      exact ⟨its, rv, .inl pl.isList, hz⟩
    · obtain ⟨its, rv, pl, hz⟩ := I.tuple hq
      exact ⟨its, rv, .inr pl, hz⟩
  obtain ⟨its, rv, pl, hz⟩ := hz
  rw [List.length_map] at hz
  refine sort_run (enc := fun p : V × D => p.2) (R := fun u p => RelV p.1 u) hkw pl (each_of (P := fun v _ u => RelV v u) rv fun p _ u hu => hu) (each_of (P := fun _ d u => ∃ as, Reads s.heap u d as) rv fun p hp u hu => Dp.reads I p.2 p.1 u (hd p hp) hu) k1 k2 hz (fun p hp => ?_) fun out hl ho => ?_
  · have := k3 p.2 (List.mem_map.mpr ⟨p, hp, rfl⟩)
    omega
  · have hp := List.mergeSort_perm bs (dataLe b fun p : V × D => p.2)
    have e1 : (bs.mergeSort (dataLe b fun p : V × D => p.2)).map (·.2) = es := by
      rw [← sortD_eq hs]
      exact List.map_mergeSort fun _ _ _ _ => rfl
    obtain ⟨ep, he'⟩ := PyProof.Rows.sortedAll_at s.heap its out.toArray
    refine ⟨.ref _, upd H (s.heap.objs.size + 1) (.lst ((bs.mergeSort (dataLe b fun p : V × D => p.2)).map (·.1))), I.laid (t' := s.toks) (fun _ _ => PyProof.Rows.sortedAll_old) (Nat.le_succ _) ⟨?_, _, ep, each_vals ho, he'⟩, rfl, q _ _ hp e1 (I.hok.fresh (Nat.le_succ _))⟩
    rw [List.length_map, hp.length_eq]
    exact hz
theorem call_sortA (hu : X.A.units + 65 < cLine) : CallR X (.builtin "sorted") (rSortA X.K false) := fun pins s σ H xs us Q I r h => cr_sortA (.inl ⟨rfl, rfl⟩) hu I r h
theorem call_sortR {b : Bool} (hu : X.A.units + 65 < cLine) : CallRK X (.builtin "sorted") [Str.ofString "reverse"] (fun xs zs H Q => zs = [.bl b] ∧ rSortA X.K b xs H Q) := by
  intro pins s σ H xs zs us ws Q I r rz h
  obtain ⟨rfl, h⟩ := h
  obtain ⟨w1, rfl, e1⟩ := vals1 rz
  cases e1
  exact cr_sortA (.inr rfl) hu I r h
/-- .. of what is seen -/
def dSorted (b : Bool) : List D → Option O
  | [.list xs] => (sortD b xs).map fun es => .tmp (.lst es)
  | [.tuple xs] => (sortD b xs).map fun es => .tmp (.lst es)
  | _ => none
variable {K : PySem.W.Frag}
theorem Rs.zipS {I : Hp} : ∀ {vs : List V} {ds : List D}, Rs K I vs ds → (vs.zip ds).map (·.1) = vs ∧ (vs.zip ds).map (·.2) = ds ∧ ∀ p ∈ vs.zip ds, Rl K I p.1 p.2
  | _, _, .nil => ⟨rfl, rfl, fun p hp => by simp at hp⟩
  | _, _, .cons r t => by
    obtain ⟨h1, h2, h3⟩ := Rs.zipS t
    refine ⟨by rw [List.zip_cons_cons, List.map_cons, h1], by rw [List.zip_cons_cons, List.map_cons, h2], fun p hp => ?_⟩
    rcases List.mem_cons.mp hp with e | hp
    · subst e; exact r
    · exact h3 p hp
theorem Rs.ofPairs {I : Hp} : ∀ {bs : List (V × D)}, (∀ p ∈ bs, Rl K I p.1 p.2) → Rs K I (bs.map (·.1)) (bs.map (·.2))
  | [], _ => .nil
  | p :: bs, h => .cons (h p (by simp)) (Rs.ofPairs fun q hq => h q (by simp [hq]))
theorem snd_sorted {b : Bool} : SndC K (rSortA K b) (dSorted b) := by
  intro I H xs ds o Q s hxs e k
  have go : ∀ {a : Addr} {vs : List V} {ys es : List D}, (SqL K H a vs ∨ SqT K H a vs) → Rs K I vs ys → sortD b ys = some es → o = .tmp (.lst es) → rSortA K b [.ref a] H Q := by
    intro a vs ys es hq r hs eo
    subst eo
    obtain ⟨z1, z2, z3⟩ := r.zipS
    refine ⟨a, vs.zip ys, es, rfl, by rw [z1]; exact hq, fun p hp => ?_, by rw [z2]; exact hs, fun bs' p hp he hn => ?_⟩
    · have hm : p.2 ∈ ys := by rw [← z2]; exact List.mem_map.mpr ⟨p, hp, rfl⟩
      exact Rl.dp p.2 p.1 ((sortD_ok hs).2.2.2 p.2 hm) ((z3 p hp).up s.le)
    · have r' := Rs.ofPairs (bs := bs') fun q hq => z3 q (hp.mem_iff.mp hq)
      rw [he] at r'
      exact k _ _ _ (Al.lst s hn) (NR.lst s hn r')
  unfold dSorted at e
  split at e
  · rename_i ys
    obtain ⟨es, h1, h2⟩ := Option.map_eq_some_iff.mp e
    obtain ⟨x, rfl, hx⟩ := hxs.one
    obtain ⟨a, vs, rfl, ha, r⟩ := hx.list s
    exact go (.inl (.of ha)) r h1 h2.symm
  · rename_i ys
    obtain ⟨es, h1, h2⟩ := Option.map_eq_some_iff.mp e
    obtain ⟨x, rfl, hx⟩ := hxs.one
    obtain ⟨a, vs, rfl, ha, r⟩ := hx.tup
    exact go (.inr (s.le.sqt ha)) r h1 h2.symm
  · cases e
/-- sorted(x, reverse=b) as written -/
theorem ae_sortedK {W : WX} {a : Expr} {es : List Expr} {fs : Den (List O)} {p pos kpos cp : Pos} {j : Nat} {b : Bool} {nm : Option Str} (hu : X.A.units + 65 < cLine) (hg : Gl X "sorted") (hm : X.mg "sorted" = none) (ha : AA X W (a :: es) fs)
    (he : backTo pos (starEach (a :: es) X.env) = (false, eval a X.env) :: backTo pos (starEach es X.env) := by rfl) (hpl : (backTo pos (starEach (a :: es) X.env)).any (·.1) = false := by rfl)
    (hall : (backToKw pos (keywordEach [⟨nm, .Constant (.bool b) j cp, kpos⟩] X.env)).all (·.1.isSome) = true := by rfl) (hnone : (backToKw pos (keywordEach [⟨nm, .Constant (.bool b) j cp, kpos⟩] X.env)).any (·.1.isNone) = false := by rfl)
    (hks : (backToKw pos (keywordEach [⟨nm, .Constant (.bool b) j cp, kpos⟩] X.env)).filterMap (·.1) = [Str.ofString "reverse"] := by rfl) (hv : bootBuiltins "sorted" = some (.builtin "sorted") := by rfl) :
    AE X W (.Call (.Name "sorted" p) (a :: es) [⟨nm, .Constant (.bool b) j cp, kpos⟩] pos) (dVC (dSorted b) fs) := by
  refine ⟨(pe_callBK (call_sortR (b := b) hu) hg hm hv ha.pa (pk_cons pe_bl pk_nil) (by decide) (by decide) he hpl hall hnone hks).imp fun σ H Q h => ?_⟩
  obtain ⟨pa, I, sl, fp, sr, h⟩ := h
  refine ⟨pa, I, sl, fp, sr, h.bind.mono fun os sl1 I1 H1 fp1 _ sr1 m1 q vs hv => ⟨rfl, stepC snd_sorted sr1 (fun b hb => m1.tr.gone hb) hv q⟩⟩
end
end AL
end
section
set_option Elab.async false
set_option linter.all false
set_option maxRecDepth 100000
set_option maxHeartbeats 4000000
set_option autoImplicit false
/-! The A-layer, part v: sorted({..}) of rows of ints. -/
namespace AL
open PySem PySem.Spec PyProof.Rows L2 PpSet

/-- found.add(a row) -/
def rAddT (K : PySem.W.Frag) (P : Program) (w : World) : V → List V → Hp → VK → Prop := fun x xs H Q => ∃ (a b : Addr) (k : List Int) (L : List (Addr × List Int)), x = .ref a ∧ xs = [.ref b] ∧ SqT K H b (k.map V.int) ∧ H a = some (SetTO P w a L) ∧ (∀ p ∈ L, SqT K H p.1 (p.2.map V.int)) ∧ L.length + 1 < 64 ∧
  ∀ L' : List (Addr × List Int), (k ∈ L.map (·.2) → L' = L) → (k ∉ L.map (·.2) → L'.Perm ((b, k) :: L)) → Q .non (upd H a (SetTO P w a L'))
theorem setTO_at {w : World} {P : Program} {H : Hp} {h : Heap} {a : Addr} (ho : h.get? a = some (freshSet w)) : ObjOk P w H h a (SetTO P w a []) := setTO_new (setTR_fresh (P := P) ho).t0
section
variable {X : Cx}
theorem newT : NewS X fun a => SetTO X.prog X.w a [] := fun H h D ho => setTO_at ho
theorem mt_addT (hu : X.A.units + 2 < cLine) : MtR X "set.add" (rAddT X.K X.prog X.w) := by
  intro pins s σ H x xs v us Q I rx rxs h
  obtain ⟨a, b, k, L, rfl, rfl, hb, ha, hk, hf, q⟩ := h
  cases rx
  rw [Vals.ref1 rxs]
  have R0 : SetT0 X.prog X.w s.heap a L := (I.hok a _ ha).1
  obtain ⟨es, ep, t, R⟩ := R0.full fun p hp => I.isT (hk p hp)
  have hx := I.isT hb
  obtain ⟨o, ho, hex, hd⟩ := R.ob
  refine wpAny_call_entry F.slot_set_add ⟨o, ho, hex.1⟩ F.entry_set_add ?_ (F.args_set_add_2 _ _)
  unfold Builtin.«set.add» Builtin.Frozenset.oneOther
  simp only [List.isEmpty_nil, bind_assoc]
  unfold Builtin.Frozenset.addrOf setAdd
  refine wpAny_bind (wpAny_pure ?_)
  try dsimp only
  refine wpAny_bind (wpAny_pure ?_)
  try dsimp only
  refine wpAny_bind (wpAny_holding (wpAny_bind (wpAny_pyHash_tuple (by show X.A.units + 1 < cLine; omega) hx ?_)))
  refine add_at (s := { s with toks := s.toks + (k.length + 1) }) R hx (by show X.A.units + 1 < cLine; omega) hf fun b' h' L' es' ep' t' sb R' c1 c2 => ?_
  show wpAny _ _ (ret Value.none) _ _ _
  have he : ∃ u, h'.get? a = some u := by
    obtain ⟨o', ho', _⟩ := R'.ob
    exact ⟨o', ho'⟩
  exact wpAny_pure ⟨_, rfl, ⟨.non, _, I.write (e := a) (t' := s.toks + (k.length + 1)) (by rw [ha]; trivial) (.inl rfl) (fun c u hc hu => (sb.2 c hc).trans hu) he (setTO_new R'.t0), rfl, q L' c1 c2⟩⟩

/-! .. and what comes out -/
theorem code_ltR {B : Int} : ∀ {a b : List Int}, a.length = b.length → TS.Bd B a → TS.Bd B b → TS.code B a ≤ TS.code B b → a ≠ b → a < b
  | [], [], _, _, _, _, n => absurd rfl n
  | x :: a, y :: b, hl, ha, hb, hc, n => by
    have hl2 : a.length = b.length := by simpa using hl
    rcases Int.lt_trichotomy x y with h | h | h
    · exact List.cons_lt_cons_iff.mpr (.inl h)
    · subst h
      refine List.cons_lt_cons_iff.mpr (.inr ⟨rfl, code_ltR hl2 ha.tail hb.tail ?_ fun e => n (by rw [e])⟩)
      apply Int.not_lt.mp
      intro z
      exact absurd ((TS.code_same (d := x) hl2.symm).mpr z) (by omega)
    · have := TS.code_lt hl2.symm hb.tail ha.tail h
      exact absurd hc (by omega)
  | [], _ :: _, hl, _, _, _, _ => by simp at hl
  | _ :: _, [], hl, _, _, _, _ => by simp at hl
theorem ltR_irr : ∀ a : List Int, ltR a a = false := fun a => decide_eq_false (List.lt_irrefl a)
theorem ltR_tr : ∀ a b c : List Int, ltR a b = true → ltR b c = true → ltR a c = true := fun a b c h1 h2 => decide_eq_true (List.lt_trans (of_decide_eq_true h1) (of_decide_eq_true h2))
theorem ltR_tri : ∀ a b : List Int, ltR a b = false → ltR b a = false → a = b := fun a b h1 h2 => List.le_antisymm (List.not_lt.mp (of_decide_eq_false h2)) (List.not_lt.mp (of_decide_eq_false h1))
def topI : List Int → Int
  | [] => 0
  | i :: l => if topI l < i then i else topI l
theorem topI_ge : ∀ {l : List Int} {i : Int}, i ∈ l → i ≤ topI l
  | j :: l, i, h => by
    unfold topI
    rcases List.mem_cons.mp h with e | h
    · subst e; split <;> omega
    · have := topI_ge h
      split <;> omega
def okRow (acc : List D) (d : D) : Bool := (rowOf d).isSome && decide (acc.length < 63)
/-- rows of one length, no number below 0 -/
def rowsFit : List (List Int) → Bool
  | [] => true
  | k :: ks => decide (1 ≤ k.length) && (k :: ks).all fun j => decide (j.length = k.length) && j.all fun i => decide (0 ≤ i)
def obT (K : PySem.W.Frag) (P : Program) (w : World) (a : Addr) (acc : List D) (I : Hp) (o : HO) : Prop :=
  ∃ (L : List (Addr × List Int)) (ks : List (List Int)), o = SetTO P w a L ∧ dRows acc = some ks ∧ (∀ p ∈ L, SqT K I p.1 (p.2.map V.int)) ∧ (∀ k, k ∈ L.map (·.2) ↔ k ∈ ks) ∧ L.length ≤ acc.length
theorem dRows_snoc {d : D} {k : List Int} : ∀ {ds : List D} {ks : List (List Int)}, dRows ds = some ks → rowOf d = some k → dRows (ds ++ [d]) = some (ks ++ [k])
  | [], _, e, h => by
    cases e
    show (match rowOf d, dRows [] with
      | some k, some ks => some (k :: ks)
      | _, _ => none) = _
    rw [h]
    rfl
  | x :: ds, ks, e, h => by
    have e : (match rowOf x, dRows ds with
      | some k, some ks => some (k :: ks)
      | _, _ => none) = some ks := e
    cases h1 : rowOf x with
    | none => rw [h1] at e; cases e
    | some kx =>
      cases h2 : dRows ds with
      | none => rw [h1, h2] at e; cases e
      | some js =>
        rw [h1, h2] at e
        cases e
        show (match rowOf x, dRows (ds ++ [d]) with
          | some k, some ks => some (k :: ks)
          | _, _ => none) = _
        rw [h1, dRows_snoc h2 h]
        rfl
theorem Rs.ofInts {K : PySem.W.Frag} {I : Hp} : ∀ {vs : List V} {k : List Int}, Rs K I vs (k.map PyData.int) → vs = k.map V.int
  | _, [], h => by cases h; rfl
  | _, i :: k, h => by
    cases h with
    | cons r t =>
      cases r
      rw [List.map_cons, Rs.ofInts t]
theorem Rl.row {K : PySem.W.Frag} {I : Hp} {v : V} {d : D} {k : List Int} (h : Rl K I v d) (e : rowOf d = some k) : ∃ b, v = .ref b ∧ SqT K I b (k.map V.int) := by
  rw [rowOf_eq e] at h
  cases h with
  | tup a r =>
    rw [r.ofInts] at a
    exact ⟨_, rfl, a⟩
def dSortSet (vs : List Nat) (fi : Den (List D)) (t : Tg) (ft : Den Bool) (fe : Den O) : Den O := fi.bind fun ds sl => match cpGo okRow vs t ft (dFix fe) ds [] sl with
  | .ok acc s => match dRows acc with
    | some ks => if rowsFit ks = true then .ok (.tmp (.lst ((sortU ltR ks).map rowD))) (restS sl s vs) else .no
    | none => .no
  | _ => .no
theorem Rs.rows {K : PySem.W.Frag} {I : Hp} : ∀ {L : List (Addr × List Int)}, (∀ p ∈ L, SqT K I p.1 (p.2.map V.int)) → Rs K I (L.map fun p => V.ref p.1) ((L.map (·.2)).map rowD)
  | [], _ => .nil
  | p :: L, h => by
    refine .cons (.tup (h p (by simp)) ?_) (Rs.rows fun q hq => h q (by simp [hq]))
    have : ∀ k : List Int, Rs K I (k.map V.int) (k.map PyData.int) := fun k => by
      induction k with
      | nil => exact .nil
      | cons i k ih => exact .cons (.int i) ih
    exact this _
variable {W : WX}
theorem ae_sortSet {elt tg iter : Expr} {ifs : List Expr} {scope : Scope} {own : List (Str × Nat)} {pos cpos p : Pos} {t : Tg} {ws : List Nat} {ft : Den Bool} {fe : Den O} {fi : Den (List D)} (hu : X.A.units + 3 < cLine) (hG : Gl X "sorted") (hM : X.mg "sorted" = none) (hc : X.calm = true) (hN : X.N.Nodup) (hi : AI X W tg iter fi) (ok : BlkOk X.N X.env.scope scope own)
    (hws : ∀ j ∈ ws, j ∈ own.map (·.2))
    (hg : ∀ (s : Shared) (H : Hp) (C : Addr) (cl : List (Str × Addr)) (fp : List Addr), AG (X.blk s H scope (compEnvC scope cl C X.env) fp) tg t ws) (ht : ∀ (s : Shared) (H : Hp) (C : Addr) (cl : List (Str × Addr)) (fp : List Addr), ATs (X.blk s H scope (compEnvC scope cl C X.env) fp) Wn ifs ft)
    (he : ∀ (s : Shared) (H : Hp) (C : Addr) (cl : List (Str × Addr)) (fp : List Addr), AE (X.blk s H scope (compEnvC scope cl C X.env) fp) Wn elt fe) (hs : ∀ x, foldedSetIterable iter X.env x = pure x := by intro _; rfl)
    (hv : bootBuiltins "sorted" = some (.builtin "sorted") := by rfl) (hst : starEach [.SetComp elt [⟨tg, iter, ifs, 0⟩] scope pos] X.env = [(false, eval (.SetComp elt [⟨tg, iter, ifs, 0⟩] scope pos) X.env)] := by rfl) :
    AE X W (.Call (.Name "sorted" p) [.SetComp elt [⟨tg, iter, ifs, 0⟩] scope pos] [] cpos) (dSortSet (own.map (·.2)) fi t ft fe) := by
  have P1 := pe_sg hc hN hi.pi ok (new := fun a => SetTO X.prog X.w a []) (radd := rAddT X.K X.prog X.w) (pos := pos) newT (fun s H ce fp => mt_addT (X := X.blk s H scope ce fp) (by exact Nat.lt_of_succ_lt hu)) (g := tG X t ws) (tt := tT X Wn ft) (te := tE X Wn fe) (fun s H C cl fp => ⟨(hg s H C cl fp).pg.run⟩) (fun s H C cl fp => ⟨(ht s H C cl fp).pt.run⟩) (fun s H C cl fp => ⟨(he s H C cl fp).pe.run⟩) hs
  refine ⟨(pe_callB (cr_sortedT hc) hG hM hv (pa_cons P1 pa_nil hst) (by decide) (by decide) hst rfl).imp fun σ H Q h => ?_⟩
  obtain ⟨pa, I, sl, fp, sr, h⟩ := h
  refine ⟨pa, I, sl, fp, sr, h.bind.mono fun ds sl1 I1 H1 fp1 _ sr1 m1 q J hJ Tn hT => ?_⟩
  cases e : cpGo okRow (own.map (·.2)) t ft (dFix fe) ds [] sl1 with
  | no => simp only [e] at q; exact q.elim
  | err x s => simp only [e] at q; exact q.elim
  | ok acc s =>
    simp only [e] at q
    cases e2 : dRows acc with
    | none => simp only [e2] at q; exact q.elim
    | some ks =>
      simp only [e2] at q
      by_cases hf : rowsFit ks = true
      case neg => simp only [if_neg hf] at q; exact q.elim
      simp only [if_pos hf] at q
      refine cp_loop (Xb := X) (ob := obT X.K X.prog X.w Tn) (app := fun y H4 Nx => rAddT X.K X.prog X.w (.ref Tn) [y] H4 fun _ H5 => Nx H5) (okA := okRow) rfl rfl hws sr1 hJ hT e ?_ ?_ ?_ fun I' H' fp' avs sr2 m2 eT iT nT r => ?_
      · rintro acc I I' o l ⟨L, ks, e1, e2, e3, e4⟩
        exact ⟨L, ks, e1, e2, fun p hp => l.sqt (e3 p hp), e4⟩
      · exact fun I => ⟨[], [], rfl, rfl, fun p hp => (by simp at hp), fun k => (by simp), Nat.le_refl _⟩
      · rintro acc d y o I H Nx hok ho ⟨L, ks, rfl, e2, e3, e4, e5⟩ ry sub nx
        unfold okRow at hok
        simp only [Bool.and_eq_true, decide_eq_true_eq, Option.isSome_iff_exists] at hok
        obtain ⟨⟨k, hk⟩, hlen⟩ := hok
        obtain ⟨b, rfl, hb⟩ := ry.row hk
        refine ⟨Tn, b, k, L, rfl, rfl, sub.le.sqt hb, ho, fun p hp => sub.le.sqt (e3 p hp), by omega, fun L' c1 c2 => nx _ ?_⟩
        by_cases hm : k ∈ L.map (·.2)
        · rw [c1 hm]
          refine ⟨L, ks ++ [k], rfl, dRows_snoc e2 hk, e3, fun j => ?_, by simp; omega⟩
          rw [List.mem_append, e4 j, List.mem_singleton]
          exact ⟨.inl, fun z => z.elim id fun z => by rw [z]; exact (e4 k).mp hm⟩
        · have pm := c2 hm
          refine ⟨L', ks ++ [k], rfl, dRows_snoc e2 hk, fun p hp => ?_, fun j => ?_, by rw [pm.length_eq]; simp; omega⟩
          · rcases List.mem_cons.mp (pm.mem_iff.mp hp) with z | z
            · subst z; exact hb
            · exact e3 p z
          · rw [(pm.map (·.2)).mem_iff, List.map_cons, List.mem_cons, List.mem_append, List.mem_singleton, e4 j]
            exact or_comm
      · obtain ⟨L, ks', rfl, e2', e3, e4, e5⟩ := r
        rw [e2] at e2'
        cases e2'
        obtain ⟨sr3, m3⟩ := sr1.unwipe sr2 m2
        -- the rows' length and bound
        obtain ⟨d, hd, hB⟩ : ∃ d : Nat, 1 ≤ d ∧ ∀ p ∈ L, p.2.length = d ∧ TS.Bd (topI ks.flatten + 1) p.2 := by
          cases ks with
          | nil => exact ⟨1, Nat.le_refl _, fun p hp => absurd ((e4 p.2).mp (List.mem_map.mpr ⟨p, hp, rfl⟩)) (by simp)⟩
          | cons k0 kr =>
            unfold rowsFit at hf
            rw [Bool.and_eq_true, List.all_eq_true] at hf
            obtain ⟨f1, f2⟩ := hf
            refine ⟨k0.length, of_decide_eq_true f1, fun p hp => ?_⟩
            have hm := (e4 p.2).mp (List.mem_map.mpr ⟨p, hp, rfl⟩)
            have q2 := f2 p.2 hm
            rw [Bool.and_eq_true, List.all_eq_true] at q2
            refine ⟨of_decide_eq_true q2.1, fun i hi => ⟨of_decide_eq_true (q2.2 i hi), ?_⟩⟩
            have := topI_ge (l := (k0 :: kr).flatten) (i := i) (List.mem_flatten.mpr ⟨p.2, hm, hi⟩)
            omega
        refine ⟨Tn, L, d, topI ks.flatten + 1, rfl, eT, fun p hp => sr3.sub |> fun sb => (Sub.le sb).sqt (e3 p hp), hd, hB, fun L' p' pm nd few srt hn => ?_⟩
        have eL : L'.map (·.2) = sortU ltR ks := by
          refine strict_one ltR_irr ltR_tr ?_ (sortU_sorted ltR_tri ltR_tr ks) fun z => ?_
          · have hall : ∀ q ∈ L', q.2.length = d ∧ TS.Bd (topI ks.flatten + 1) q.2 := fun q hq => hB q (pm.mem_iff.mp hq)
            clear hn
            rw [List.pairwise_map]
            have nd' : L'.Pairwise fun a b => a.2 ≠ b.2 := List.pairwise_map.mp nd
            have both := srt.and nd'
            refine List.Pairwise.imp_of_mem (fun {a b} ha hb h => ?_) both
            exact decide_eq_true (code_ltR ((hall a ha).1.trans (hall b hb).1.symm) (hall a ha).2 (hall b hb).2 h.1 h.2)
          · rw [(pm.map (·.2)).mem_iff, e4 z, sortU_mem ltR_tri z ks]
        have r' : Rs X.K I' (L'.map fun q => V.ref q.1) ((sortU ltR ks).map rowD) := by
          rw [← eL]
          exact Rs.rows fun q hq => e3 q (pm.mem_iff.mp hq)
        -- the set itself stays behind, nobody has it
        have al : Al I' H' I' (upd H' p' (.lst (L'.map fun q => V.ref q.1))) := Al.lst sr3.sub hn
        refine (show Po X W pa σ I1 H1 fp1 (.ok (O.tmp (.lst ((sortU ltR ks).map rowD))) (restS sl1 s (own.map (·.2)))) _ from q) I' _ _ (sr3.al al) (m3.trans al.mv) (.ref p') ?_
        exact NR.or sr3 (fun b hb => m1.tr.gone (m3.tr.gone hb)) (NR.lst sr3.sub hn r')
end
end AL
end
section
set_option Elab.async false
set_option linter.all false
set_option maxRecDepth 100000
set_option maxHeartbeats 4000000
set_option autoImplicit false
/-! The A-layer, part w: enumerate and zip of lists and tuples; isinstance. -/
namespace PySem
open PySem PyProof.Rows
set_option maxHeartbeats 1000000 in
/-- enumerate(v) -/
theorem alEnumNew {v : Value} {o : Obj} {H : Heap → Prop} (B : Begins v o H) :
    Meets (Builtin.«enumerate.__new__» ⟨[.type "enumerate", v], []⟩) (fun _ R s => H s.heap ∧
      R (.ok (.ret (.ref (s.heap.push o).objs.size))) { s with heap := (s.heap.push o).push { cls := .type "enumerate", data := .fields #[.none, .bool false, .ref s.heap.objs.size, rawInt 0, .none, .none] } }) :=
  .of_wp fun prog w A R s h => by
    obtain ⟨hp, g, d, tk, os⟩ := s
    obtain ⟨h1, h⟩ := h
    have hsub := sub_enumerate
    have q1 : ∀ {A' : Around} {E : Value → Shared → Prop} {Q : Value → Shared → Prop}, Q (.ref hp.objs.size) ⟨hp.push o, g, d, tk, os⟩ → wpAny (model prog w) A' (pyIter v) Q E ⟨hp, g, d, tk, os⟩ := fun q => B.iter prog w _ _ ⟨hp, g, d, tk, os⟩ _ h1 q
    wp_walk using q1
    refine wpAny_stack_any fun st => wpAny_pure ?_
    split
    · rename_i c _ _ _ _ _
      cases (c == Value.type "enumerate")
      · wp_walk using q1
        exact ⟨_, rfl, h⟩
      · wp_walk using q1
        exact ⟨_, rfl, h⟩
    · wp_walk using q1
      exact ⟨_, rfl, h⟩
section
variable {prog : Program} {w : World} {A : Around} {E : Value → Shared → Prop} {s : Shared}
theorem alEnumCall {v : Value} {o : Obj} {H : Heap → Prop} {Q : Value → Shared → Prop} (B : Begins v o H) (h1 : H s.heap)
    (h : ∀ h', IsEnum h' (s.heap.objs.size + 1) s.heap.objs.size 0 .none → h'.get? s.heap.objs.size = some o → h'.objs.size = s.heap.objs.size + 2 → (∀ b o, s.heap.get? b = some o → h'.get? b = some o) → Q (.ref (s.heap.objs.size + 1)) { s with heap := h' }) :
    wpAny (model prog w) A (call (.type "enumerate") [v]) Q E s := by
  have hz : (s.heap.push o).objs.size = s.heap.objs.size + 1 := Heap.size_push ..
  have he := Heap.get?_push_size (s.heap.push o) (o := { cls := .type "enumerate", data := .fields #[.none, .bool false, .ref s.heap.objs.size, rawInt 0, .none, .none] }) rfl
  rw [hz] at he
  refine callType_new F.called_enumerate (by decide) (F.typeCall_enumerate_1 _) (F.newCall_enumerate_1 _) (fun obj => F.args_object_init_2 obj _) F.entry_enumerate_new (alEnumNew B) ⟨h1, ?_⟩
  show _ ∧ _
  rw [hz]
  exact ⟨⟨_, he, rfl⟩, h _ he (Heap.get?_push_of_some _ (Heap.get?_push_size _ B.free)) (by rw [Heap.size_push, hz]) fun b o x => Heap.get?_push_of_some _ (Heap.get?_push_of_some _ x)⟩
end
end PySem
namespace AL
open PySem PySem.Spec PyProof.Rows L2
def IteT (K : PySem.W.Frag) (a : Addr) : It :=
  ⟨fun i H => ∃ (xs : List V) (x : V), SqT K H a xs ∧ xs[i]? = some x, fun i H v H' => ∃ T x, v = .ref T ∧ H T = none ∧ H' = upd H T (.tup [.int (i : Nat), x]) ∧ ∀ xs, SqT K H a xs → xs[i]? = some x, fun i H => ∃ xs : List V, SqT K H a xs ∧ xs.length = i⟩
theorem turn_enumT {P : Program} {w : World} {K : PySem.W.Frag} {elts : List Expr} {kk : Nat} {tpos : Pos} (a e it : Addr) :
    Turn P w K (.Tuple elts kk tpos) (IteT K a) [e, it] e (fun i h => (∃ old, IsEnum h e it ((i : Nat) : Int) old) ∧ h.IsTupleIter it a i ∧ e ≠ it ∧ a ≠ it ∧ a ≠ e) where
  mem := by simp
  obj := fun i h st b hb => by
    obtain ⟨⟨old, he⟩, ⟨o, ho, hc, hd⟩, _⟩ := st
    have e' : b = e ∨ b = it := by simpa using hb
    rcases e' with z | z
    · rw [z]; exact ⟨_, he, fun v q => nomatch q⟩
    · rw [z]; exact ⟨o, ho, fun v q => by rw [hd] at q; cases q⟩
  keep := fun i h h' st k => by
    obtain ⟨⟨old, he⟩, hi, hne⟩ := st
    exact ⟨⟨old, k e (by simp) _ he⟩, hi.at fun o q => k it (by simp) o q, hne⟩
  item := by
    intro X hP hw hK hc i pins s σ H E I hf st hg
    subst hP hw hK
    obtain ⟨⟨old, he⟩, hit, hne, hai, hae⟩ := st
    obtain ⟨xs, x, hq, hx⟩ := hg
    obtain ⟨its, rv, p, hz⟩ := I.tuple hq
    obtain ⟨u, hu, ru⟩ := rv.get hx
    have hel : e < s.heap.objs.size := Heap.lt_size he
    have hil : it < s.heap.objs.size := by obtain ⟨_, q, _⟩ := hit; exact Heap.lt_size q
    have D := Draws.tuple (prog := X.prog) (w := X.w) (A := X.A.in1) (by show X.A.in1.handled = none; exact I.ok.hd hc) it a hai its.toArray
    have hin : i < its.toArray.size := by
      have := (List.getElem?_eq_some_iff.mp hu).1
      simpa using this
    refine wpAny_pyNext_enum_itemD (i := i) D he ⟨hit, show s.heap.IsTuple a its.toArray from p⟩ hin hne (by simp; exact ⟨hne, Ne.symm hae⟩) fun y h' tk hy ho hit' hT hsz hk => ?_
    have ey : y = u := by
      have : its.toArray[i]? = some u := by simpa using hu
      rw [this] at hy
      exact (Option.some.inj hy).symm
    subst ey
    refine ⟨_, rfl, wpAny_letOwnedTupleGo_enum (s := { s with heap := h', toks := tk + 1 }) ho fun h'' he' sb => ?_⟩
    have hT2 : h''.get? s.heap.objs.size = some { cls := .type "tuple", data := .seq #[.int i tk, y] } := (sb.2 _ (Nat.ne_of_gt hel)).trans hT
    have new : ObjOk X.prog X.w (upd H s.heap.objs.size (.tup [.int (i : Nat), x])) h'' s.heap.objs.size (.tup [.int (i : Nat), x]) := ⟨by show 2 ≤ sizeLine; decide, [.int i tk, y], .cons ⟨_, rfl⟩ (.cons ru .nil), ⟨_, hT2, rfl, _, rfl⟩⟩
    have I1 : Inv X pins σ (upd H s.heap.objs.size (.tup [.int (i : Nat), x])) { s with heap := h'', toks := tk + 1 } :=
      I.turnedNew (ch := [e, it]) (fun b ob hb q => (sb.2 b (fun z => hb (by simp [z]))).trans (hk b ob (fun z => hb (by simp [z])) (fun z => hb (by simp [z])) q)) hf (Nat.le_refl _) new
    refine ⟨.ref s.heap.objs.size, _, I1, rfl, ⟨_, x, rfl, I.hok.fresh (Nat.le_refl _), rfl, fun ys hy => by rw [I.tuple_inj hy hq]; exact hx⟩, ⟨⟨y, ?_⟩, hit'.1.at fun o q => (sb.2 it (Ne.symm hne)).trans q, hne, hai, hae⟩, fun b hb => ?_⟩
    · have e1 : ((i + 1 : Nat) : Int) = (i : Int) + 1 := by omega
      rw [e1]; exact he'
    · have hb' : b < s.heap.objs.size := by
        have e' : b = e ∨ b = it := by simpa using hb
        rcases e' with z | z
        · rw [z]; exact hel
        · rw [z]; exact hil
      rw [upd_ne (Nat.ne_of_lt hb')]
      exact (hf b hb).1
  done := by
    intro X hP hw hK hc i pins s σ H E I hf st hg
    subst hP hw hK
    obtain ⟨⟨old, he⟩, hit, hne, hai, hae⟩ := st
    obtain ⟨xs, hq, hx⟩ := hg
    obtain ⟨its, rv, p, hz⟩ := I.tuple hq
    obtain ⟨f0, f1, f2, f3, f4, f5⟩ := hf it (by simp)
    have hl := rv.length
    have D := Draws.tuple (prog := X.prog) (w := X.w) (A := X.A.in1) (by show X.A.in1.handled = none; exact I.ok.hd hc) it a hai its.toArray
    have ei : i = its.toArray.size := by rw [← hx, hl, List.size_toArray]
    refine wpAny_pyNext_enum_endD D he ⟨by rw [← ei]; exact hit, show s.heap.IsTuple a its.toArray from p⟩ fun h' eb => ⟨rfl, I.turned (t' := s.toks) (fun b o hb q => eb b o hb q) f0 f1 f3 f4 f5⟩
  self := fun A i s Q E st h => let ⟨⟨_, he⟩, _⟩ := st; wpAny_pyIter_enum he h
theorem _root_.L2.PI.or {X : Cx} {tg iter : Expr} {t t' : TI} (h : PI X tg iter t) (h' : PI X tg iter t') : PI X tg iter fun σ H R => t σ H R ∨ t' σ H R := ⟨fun pins s σ H R I hw => hw.elim (h.run pins s σ H R I) (h'.run pins s σ H R I)⟩
def iEnumT (K : PySem.W.Frag) (ta : TA) : TI := fun σ H R => ta σ H fun vs H1 => ∃ a xs, vs = [.ref a] ∧ SqT K H1 a xs ∧ R (IteT K a) H1
theorem pi_enumT {X : Cx} {e : Expr} {ta : TA} {p pos tpos : Pos} {elts : List Expr} {kk : Nat} (hg : Gl X "enumerate") (hm : X.mg "enumerate" = none) (ha : PA X [e] ta) (hs : starEach [e] X.env = [(false, eval e X.env)] := by rfl) :
    PI X (.Tuple elts kk tpos) (.Call (.Name "enumerate" p) [e] [] pos) (iEnumT X.K ta) := by
  refine ⟨fun pins s σ H R I h => ?_⟩
  refine Call_ (ld_blt I hg hm boot_enumerate (PyProof.Rows.callWith_type1 (thn (ha.run pos pins s σ H _ I h) fun us s1 ⟨vs, H1, I1, r1, q1⟩ => ?_) hs rfl))
  obtain ⟨a, xs, rfl, hq, q⟩ := q1
  rw [Vals.ref1 r1]
  obtain ⟨its, rv, p', hz⟩ := I1.tuple hq
  refine alEnumCall (begins_tuple a its.toArray) (show s1.heap.IsTuple a its.toArray from p') fun h' he hit hsz hk => wpAny_pyIter_enum he ?_
  have I2 : Inv X pins σ H1 { s1 with heap := h' } := I1.kept (t' := s1.toks) hk
  have la : a < s1.heap.objs.size := by obtain ⟨o, ho, _⟩ := p'; exact Heap.lt_size ho
  refine ⟨s1.heap.objs.size + 1, [s1.heap.objs.size + 1, s1.heap.objs.size], _, _, H1, rfl, I2, turn_enumT a (s1.heap.objs.size + 1) s1.heap.objs.size, ⟨⟨.none, he⟩, ⟨_, hit, rfl, rfl⟩, Nat.succ_ne_self _, Nat.ne_of_lt la, Nat.ne_of_lt (Nat.lt_succ_of_lt la)⟩, fun b hb => ?_, q⟩
  have hle : s1.heap.objs.size ≤ b := by
    have e' : b = s1.heap.objs.size + 1 ∨ b = s1.heap.objs.size := by simpa using hb
    rcases e' with z | z
    · rw [z]; exact Nat.le_add_right _ _
    · rw [z]; exact Nat.le_refl _
  exact I1.fpOk hle (I1.hok.fresh hle)
theorem walk_enumT {K : PySem.W.Frag} {a : Addr} {xs : List V} : Walk (IteT K a) xs.length (fun H => SqT K H a xs) (YPair (fun i => some (.int (i : Nat))) (fun i => xs[i]?)) := by
  refine ⟨fun i _ hi q => ⟨xs, xs[i], q, by simp [hi]⟩, fun _ q => ⟨xs, q, rfl⟩, fun i H v H' _ q y => ?_⟩
  obtain ⟨T, x, h1, h2, h3, h4⟩ := y
  exact ⟨T, .int (i : Nat), x, h1, h2, h3, rfl, h4 xs q⟩
theorem walk_zipT {K : PySem.W.Frag} {a b : Addr} {xs ys : List V} {n : Nat} (hn : n = min xs.length ys.length) : Walk (RZ.ItzT K a b) n (fun H => SqT K H a xs ∧ SqT K H b ys) (YPair (fun i => xs[i]?) (fun i => ys[i]?)) := by
  subst hn
  refine ⟨fun i _ hi q => ?_, fun _ q => ⟨xs, ys, q.1, q.2, by omega⟩, fun i H v H' _ q y => ?_⟩
  · have h1 : i < xs.length := by omega
    have h2 : i < ys.length := by omega
    exact ⟨xs, ys, xs[i], ys[i], q.1, q.2, by simp [h1], by simp [h2]⟩
  · obtain ⟨T, x, z, h1, h2, h3, h4, h5⟩ := y
    exact ⟨T, x, z, h1, h2, h3, h4 xs q.1, h5 ys q.2⟩
/-! .. their items -/
def enumD : Nat → List D → List D
  | _, [] => []
  | k, d :: ds => .tuple [.int (k : Nat), d] :: enumD (k + 1) ds
def zipD : List D → List D → List D
  | a :: as, b :: bs => .tuple [a, b] :: zipD as bs
  | _, _ => []
theorem enumD_length : ∀ (k : Nat) (ds : List D), (enumD k ds).length = ds.length
  | _, [] => rfl
  | k, d :: ds => by simp [enumD, enumD_length (k + 1) ds]
theorem enumD_get : ∀ (ds : List D) (k i : Nat) (e : D), (enumD k ds)[i]? = some e → ∃ d, ds[i]? = some d ∧ e = .tuple [.int ((k + i : Nat) : Int), d]
  | [], _, _, _, h => by simp [enumD] at h
  | d :: ds, k, 0, e, h => by
    simp [enumD] at h
    exact ⟨d, rfl, by simp [← h]⟩
  | d :: ds, k, i + 1, e, h => by
    have h : (enumD (k + 1) ds)[i]? = some e := by simpa [enumD] using h
    obtain ⟨d', h1, h2⟩ := enumD_get ds (k + 1) i e h
    refine ⟨d', by simpa using h1, ?_⟩
    have e3 : k + 1 + i = k + (i + 1) := by omega
    rw [h2, e3]
theorem zipD_length : ∀ (as bs : List D), (zipD as bs).length = min as.length bs.length
  | [], bs => by simp [zipD]
  | a :: as, [] => by simp [zipD]
  | a :: as, b :: bs => by
    show (zipD as bs).length + 1 = min (as.length + 1) (bs.length + 1)
    rw [zipD_length as bs]
    omega
theorem zipD_get : ∀ (as bs : List D) (i : Nat) (e : D), (zipD as bs)[i]? = some e → ∃ a b, as[i]? = some a ∧ bs[i]? = some b ∧ e = .tuple [a, b]
  | [], _, _, _, h => by simp [zipD] at h
  | _ :: _, [], _, _, h => by simp [zipD] at h
  | a :: as, b :: bs, 0, e, h => by
    simp [zipD] at h
    exact ⟨a, b, rfl, rfl, h.symm⟩
  | a :: as, b :: bs, i + 1, e, h => by
    have h : (zipD as bs)[i]? = some e := by simpa [zipD] using h
    obtain ⟨a', b', h1, h2, h3⟩ := zipD_get as bs i e h
    exact ⟨a', b', by simpa using h1, by simpa using h2, h3⟩
section
variable {K : PySem.W.Frag} {I : Hp} {a b : Addr} {vs ws : List V} {ds es : List D}
theorem pair_of {xs ys : Nat → Option V} {I' H H' : Hp} {i : Nat} {x : V} {d e : D} {dx dy : V} (s : Sub I' H) (y : YPair xs ys i H x H') (hx : xs i = some dx) (hy : ys i = some dy) (rx : Rl K I' dx d) (ry : Rl K I' dy e) : ∃ I2, Al I' H I2 H' ∧ Rl K I2 x (.tuple [d, e]) := by
  obtain ⟨T, u, v, rfl, hT, rfl, e1, e2⟩ := y
  rw [hx] at e1; rw [hy] at e2
  cases e1; cases e2
  exact Al.pair s hT rx ry
theorem itr_enumL (h : SqL K I a vs) (r : Rs K I vs ds) : ItR K (Ite K a) (enumD 0 ds) I := by
  refine ⟨_, _, by rw [enumD_length, ← r.length]; exact walk_enum (xs := vs), fun I' H l s _ => s.le.sql (l.sql h), fun i I' H x H' d e l s y => ?_⟩
  obtain ⟨d0, h1, rfl⟩ := enumD_get ds 0 i d e
  obtain ⟨v, h2, r2⟩ := r.get h1
  rw [Nat.zero_add]
  exact pair_of s y rfl h2 (.int _) (r2.up l)
theorem itr_enumT (h : SqT K I a vs) (r : Rs K I vs ds) : ItR K (IteT K a) (enumD 0 ds) I := by
  refine ⟨_, _, by rw [enumD_length, ← r.length]; exact walk_enumT (xs := vs), fun I' H l s _ => s.le.sqt (l.sqt h), fun i I' H x H' d e l s y => ?_⟩
  obtain ⟨d0, h1, rfl⟩ := enumD_get ds 0 i d e
  obtain ⟨v, h2, r2⟩ := r.get h1
  rw [Nat.zero_add]
  exact pair_of s y rfl h2 (.int _) (r2.up l)
theorem itr_zipL (h : SqL K I a vs) (r : Rs K I vs ds) (h' : SqL K I b ws) (r' : Rs K I ws es) : ItR K (Itz K a b) (zipD ds es) I := by
  refine ⟨_, _, walk_zip (xs := vs) (ys := ws) (by rw [zipD_length, r.length, r'.length]), fun I' H l s _ => ⟨s.le.sql (l.sql h), s.le.sql (l.sql h')⟩, fun i I' H x H' d e l s y => ?_⟩
  obtain ⟨d1, d2, h1, h2, rfl⟩ := zipD_get ds es i d e
  obtain ⟨v, q1, r1⟩ := r.get h1
  obtain ⟨w, q2, r2⟩ := r'.get h2
  exact pair_of s y q1 q2 (r1.up l) (r2.up l)
theorem itr_zipT (h : SqT K I a vs) (r : Rs K I vs ds) (h' : SqT K I b ws) (r' : Rs K I ws es) : ItR K (RZ.ItzT K a b) (zipD ds es) I := by
  refine ⟨_, _, walk_zipT (xs := vs) (ys := ws) (by rw [zipD_length, r.length, r'.length]), fun I' H l s _ => ⟨s.le.sqt (l.sqt h), s.le.sqt (l.sqt h')⟩, fun i I' H x H' d e l s y => ?_⟩
  obtain ⟨d1, d2, h1, h2, rfl⟩ := zipD_get ds es i d e
  obtain ⟨v, q1, r1⟩ := r.get h1
  obtain ⟨w, q2, r2⟩ := r'.get h2
  exact pair_of s y q1 q2 (r1.up l) (r2.up l)
end
def dItF (g : List D → Option (List D)) (fa : Den (List O)) : Den (List D) := fa.bind fun os => Den.opt ((asDs os).bind g)
def enumL : List D → Option (List D)
  | [.list ds] => some (enumD 0 ds)
  | [.tuple ds] => some (enumD 0 ds)
  | _ => none
def zipL : List D → Option (List D)
  | [.list as, .list bs] => some (zipD as bs)
  | [.tuple as, .tuple bs] => some (zipD as bs)
  | _ => none
section
variable {X : Cx} {W : WX} {e e2 : Expr} {fs : Den (List O)} {p pos tpos : Pos} {elts : List Expr} {kk : Nat}
theorem itF_po {g : List D → Option (List D)} {os : List O} {sl : Sls} {σ : L2.St} {pa : PAs} {I H H0 : Hp} {fp : Fps} {vs : List V} {Q : List D → Sls → Hp → Hp → Fps → Prop} (sr : SR X.K pa I H σ sl fp) (hv : ORs X.K σ I H fp H0 vs os)
    (h : Po X W pa σ I H fp (Den.opt ((asDs os).bind g) sl) Q) : ∃ ds xs, asDs os = some ds ∧ Rs X.K I vs ds ∧ g ds = some xs ∧ Q xs sl I H fp := by
  cases e : asDs os with
  | none => rw [e] at h; exact h.elim
  | some ds =>
    rw [e] at h
    have h : Po X W pa σ I H fp (Den.opt (g ds) sl) Q := h
    cases e2 : g ds with
    | none => rw [e2] at h; exact h.elim
    | some xs =>
      rw [e2] at h
      exact ⟨ds, xs, rfl, hv.ds e, e2, Po.ret sr h⟩
theorem ai_enum (hg : Gl X "enumerate") (hm : X.mg "enumerate" = none) (ha : AA X W [e] fs) (hs : starEach [e] X.env = [(false, eval e X.env)] := by rfl) : AI X W (.Tuple elts kk tpos) (.Call (.Name "enumerate" p) [e] [] pos) (dItF enumL fs) := by
  refine ⟨((pi_enum hg hm ha.pa hs).or (pi_enumT hg hm ha.pa hs)).imp fun σ H R h => ?_⟩
  obtain ⟨pa, I, sl, fp, sr, h⟩ := h
  by_cases c : ∃ os s ds, fs sl = .ok os s ∧ asDs os = some [.tuple ds]
  · obtain ⟨os0, s0, ds0, c1, c2⟩ := c
    refine .inr ⟨pa, I, sl, fp, sr, h.bind.mono fun os sl1 I1 H1 fp1 eq sr1 m1 q vs hv => ?_⟩
    rw [c1] at eq
    cases eq
    obtain ⟨ds, xs, e1, r, e, q⟩ := itF_po sr1 hv q
    rw [c2] at e1
    cases e1
    obtain ⟨v, rfl, rv⟩ := r.one
    cases e
    cases rv with
    | tup a r => exact ⟨_, _, rfl, sr1.sub |> fun sb => (Sub.le sb).sqt a, q _ (itr_enumT a r)⟩
  · refine .inl ⟨pa, I, sl, fp, sr, h.bind.mono fun os sl1 I1 H1 fp1 eq sr1 m1 q vs hv => ?_⟩
    obtain ⟨ds, xs, e1, r, e, q⟩ := itF_po sr1 hv q
    unfold enumL at e
    split at e
    · cases e
      obtain ⟨v, rfl, rv⟩ := r.one
      cases rv with
      | lst a r => exact ⟨_, _, rfl, .of (sr1.sub _ _ a), q _ (itr_enumL (.of a) r)⟩
    · exact absurd ⟨os, sl1, _, eq, e1⟩ c
    · cases e
theorem Rs.two {K : PySem.W.Frag} {I : Hp} {vs : List V} {d e : D} (r : Rs K I vs [d, e]) : ∃ v w, vs = [v, w] ∧ Rl K I v d ∧ Rl K I w e := by
  cases r with
  | cons a b =>
    obtain ⟨w, rfl, r⟩ := b.one
    exact ⟨_, w, rfl, a, r⟩
theorem ai_zip (hg : Gl X "zip") (hm : X.mg "zip" = none) (ha : AA X W [e, e2] fs) (hs : starEach [e, e2] X.env = (false, eval e X.env) :: starEach [e2] X.env := by rfl) (hpl : (backTo pos (starEach [e2] X.env)).any (·.1) = false := by rfl) :
    AI X W (.Tuple elts kk tpos) (.Call (.Name "zip" p) [e, e2] [] pos) (dItF zipL fs) := by
  refine ⟨(RZ.pi_zipA hg hm ha.pa hs hpl).imp fun σ H R h => ?_⟩
  obtain ⟨pa, I, sl, fp, sr, h⟩ := h
  refine ⟨pa, I, sl, fp, sr, h.bind.mono fun os sl1 I1 H1 fp1 eq sr1 m1 q vs hv => ?_⟩
  obtain ⟨ds, xs, e1, r, e, q⟩ := itF_po sr1 hv q
  have sb := sr1.sub
  unfold zipL at e
  split at e
  · cases e
    obtain ⟨v, w, rfl, rv, rw'⟩ := r.two
    cases rv with
    | lst a r1 =>
      cases rw' with
      | lst b r2 => exact ⟨_, _, _, _, rfl, .inl ⟨.of (sb _ _ a), .of (sb _ _ b), q _ (itr_zipL (.of a) r1 (.of b) r2)⟩⟩
  · cases e
    obtain ⟨v, w, rfl, rv, rw'⟩ := r.two
    cases rv with
    | tup a r1 =>
      cases rw' with
      | tup b r2 => exact ⟨_, _, _, _, rfl, .inr ⟨(Sub.le sb).sqt a, (Sub.le sb).sqt b, q _ (itr_zipT a r1 b r2)⟩⟩
  · cases e
end

/-! ### isinstance -/
inductive Ty where
  | list | tuple | dict | str | int | bool
deriving DecidableEq
def Ty.nm : Ty → String
  | .list => "list"
  | .tuple => "tuple"
  | .dict => "dict"
  | .str => "str"
  | .int => "int"
  | .bool => "bool"
def isD : Ty → D → Bool
  | .list, .list _ => true
  | .tuple, .tuple _ => true
  | .dict, .dict _ => true
  | .str, .str _ => true
  | .int, .int _ => true
  | .int, .bool _ => true
  | .bool, .bool _ => true
  | _, _ => false
def tyN : D → String
  | .none => "NoneType"
  | .bool _ => "bool"
  | .int _ => "int"
  | .str _ => "str"
  | .list _ => "list"
  | .tuple _ => "tuple"
  | .dict _ => "dict"
theorem kit_isD {K : PySem.W.Frag} (T : Ty) (d : D) : PySem.W.kitOne K (.type (tyN d)) (.type T.nm) = some (isD T d) := by
  apply kit_ty
  cases T <;> cases d <;> (dsimp only [tyN, Ty.nm, isD]; decide +kernel)
theorem kit_isDs {K : PySem.W.Frag} (d : D) : ∀ Ts : List Ty, PySem.W.kitAny K (.type (tyN d)) (Ts.map fun T => .type T.nm) = some (Ts.any fun T => isD T d)
  | [] => rfl
  | T :: Ts => by
    refine kitAny_cons (kit_isD T d) (fun h => ?_) fun h => ?_
    · rw [List.any_cons, h, Bool.false_or]
      exact kit_isDs d Ts
    · rw [List.any_cons, h, Bool.true_or]
theorem Vw.tyX {K : PySem.W.Frag} {I H : Hp} {v : V} {d : D} (s : Sub I H) (h : Vw K I H v d) : TyX K H v (.type (tyN d)) := by
  cases h with
  | ls a _ => exact .base (.lst a)
  | dc a _ => exact .base (.dK a)
  | im r =>
    cases r with
    | non => exact .base .non
    | bl b => exact .base (.bl b)
    | int i => exact .base (.int i)
    | str x => exact .base (.str x)
    | lst a _ => exact .base (.lst (s _ _ a))
    | tup a _ =>
      rcases s.le.sqt a with a | ⟨o, its, n, e, c, _⟩
      · rcases a with a | ⟨o, a⟩
        · exact .base (.tup a)
        · exact .fTuple a
      · exact .kTuple e c
    | dic a _ =>
      rcases s.le.rd _ (HO.dK _) (fun _ _ z => nomatch z) a with a | ⟨o, a⟩
      · exact .base (.dK a)
      · exact .fDict a
theorem Vw.al {K : PySem.W.Frag} {I H I' H' : Hp} {v : V} {d : D} (h : Vw K I H v d) (a : Al I H I' H') : Vw K I' H' v d := by
  cases h with
  | im r => exact .im (r.up a.le)
  | ls p q => exact .ls (a.keep _ _ p) (q.up a.le)
  | dc p q => exact .dc (a.keep _ _ p) (q.up a.le)
def dIsi (Ts : List Ty) (d : D) : Option O := some (.d (.bool (Ts.any fun T => isD T d)))
def rIsi1 (K : PySem.W.Frag) (T : Ty) : V → Hp → VK → Prop := fun x H Q => rIsi K [x, .ty T.nm] H Q
theorem snd_isi1 {K : PySem.W.Frag} {T : Ty} : Snd1 K (rIsi1 K T) (dIsi [T]) := by
  intro I H x dx o Q s hx e k
  cases e
  refine ⟨x, _, _, _, isD T dx, rfl, .ty _, hx.tyX s, kit_isD T dx, ?_⟩
  have := k (.bl (isD T dx)) I H (.refl s)
  refine this ?_
  rw [List.any_cons, List.any_nil, Bool.or_false]
  exact .bl _
def rIsiN (K : PySem.W.Frag) (Ts : List Ty) : V → Hp → VK → Prop := fun x H Q => Ts.length ≤ sizeLine ∧ ∀ p, H p = none → rIsiT K [x, .ref p] (upd H p (.tup (Ts.map fun T => V.ty T.nm))) Q
theorem cls_tys : ∀ Ts : List Ty, Paired ClsV (Ts.map fun T => V.ty T.nm) (Ts.map fun T => Value.type T.nm)
  | [] => .nil
  | T :: Ts => .cons (.ty _) (cls_tys Ts)
theorem snd_isiN {K : PySem.W.Frag} {Ts : List Ty} (hl : Ts.length ≤ sizeLine) : Snd1 K (rIsiN K Ts) (dIsi Ts) := by
  intro I H x dx o Q s hx e k
  cases e
  refine ⟨hl, fun p hp => ?_⟩
  have a := Al.tup (vs := Ts.map fun T => V.ty T.nm) s hp
  exact ⟨x, p, _, _, _, Ts.any fun T => isD T dx, rfl, upd_same, cls_tys Ts, (hx.al a).tyX a.sub, kit_isDs dx Ts, k _ _ _ a (.bl _)⟩
section
variable {X : Cx} {W : WX} {e : Expr} {es : List Expr} {fe : Den O} {p p2 pos tpos : Pos}
structure TyEs (X : Cx) (es : List Expr) (Ts : List Ty) : Prop where
  pa : PA X es fun σ H Q => Q (Ts.map fun T => V.ty T.nm) H
theorem tyes_nil : TyEs X [] [] := ⟨pa_nil⟩
theorem tyes_cons {T : Ty} {Ts : List Ty} {x : Str} (hg : Gl X x) (hm : X.mg x = none) (hv : bootBuiltins x = some (.type T.nm)) (h : TyEs X es Ts) (hn : x ≠ "__name__" := by decide) (hd : (x == ("__debug__" : Str)) = false := by decide)
    (hs : starEach (.Name x p2 :: es) X.env = (false, eval (.Name x p2) X.env) :: starEach es X.env := by rfl) : TyEs X (.Name x p2 :: es) (T :: Ts) :=
  ⟨(pa_cons (pe_bltn (v := .ty T.nm) hg hm hv rfl hn hd) h.pa hs).imp fun σ H Q q => q⟩
theorem ae_isi1 {T : Ty} {x : Str} (hg : Gl X "isinstance") (hm : X.mg "isinstance" = none) (he : AE X W e fe) (hgx : Gl X x) (hmx : X.mg x = none) (hvx : bootBuiltins x = some (.type T.nm)) (hnx : x ≠ "__name__" := by decide) (hdx : (x == ("__debug__" : Str)) = false := by decide)
    (hs : starEach [e, .Name x p2] X.env = (false, eval e X.env) :: starEach [.Name x p2] X.env := by rfl) (hs2 : starEach [.Name x p2] X.env = [(false, eval (.Name x p2) X.env)] := by rfl) (hpl : (backTo pos (starEach [.Name x p2] X.env)).any (·.1) = false := by rfl)
    (hv : bootBuiltins "isinstance" = some (.builtin "isinstance") := by rfl) : AE X W (.Call (.Name "isinstance" p) [e, .Name x p2] [] pos) (dU1 (dIsi [T]) fe) := by
  refine ⟨(pe_callB call_isi hg hm hv (pa_cons he.pe (pa_cons (pe_bltn (v := .ty T.nm) hgx hmx hvx rfl hnx hdx) pa_nil hs2) hs) (by decide) (by decide) hs hpl).imp fun σ H Q h => ?_⟩
  exact tE_un (r := rIsi1 X.K T) snd_isi1 h
theorem ae_isiN {Ts : List Ty} {k : Nat} (hg : Gl X "isinstance") (hm : X.mg "isinstance" = none) (he : AE X W e fe) (ht : TyEs X es Ts) (hl : Ts.length ≤ 64 := by decide)
    (hs : starEach [e, .Tuple es k tpos] X.env = (false, eval e X.env) :: starEach [.Tuple es k tpos] X.env := by rfl) (hs2 : starEach [.Tuple es k tpos] X.env = [(false, eval (.Tuple es k tpos) X.env)] := by rfl) (hpl : (backTo pos (starEach [.Tuple es k tpos] X.env)).any (·.1) = false := by rfl)
    (hv : bootBuiltins "isinstance" = some (.builtin "isinstance") := by rfl) : AE X W (.Call (.Name "isinstance" p) [e, .Tuple es k tpos] [] pos) (dU1 (dIsi Ts) fe) := by
  refine ⟨(pe_callB call_isiT hg hm hv (pa_cons he.pe (pa_cons (pe_tup ht.pa) pa_nil hs2) hs) (by decide) (by decide) hs hpl).imp fun σ H Q h => ?_⟩
  have q : tUn (rIsiN X.K Ts) (tE X W fe) σ H Q := tE_un (snd_isiN (by rw [sizeLine_eq]; omega)) h
  obtain ⟨pa, I, sl, fp, sr, q⟩ := q
  refine ⟨pa, I, sl, fp, sr, q.mono fun o s I' H' fp' _ _ _ q v hv => ?_⟩
  obtain ⟨q1, q2⟩ := q v hv
  exact ⟨by rw [List.length_map]; exact q1, q2⟩
end
end AL
end
section
set_option Elab.async false
set_option linter.all false
set_option maxRecDepth 100000
set_option maxHeartbeats 4000000
set_option autoImplicit false
/-! The A-layer, part x: dicts walked by keys, values, items (locked meanwhile). -/
namespace AL
open PySem PySem.Spec PyProof.Rows L2

section
variable {K : PySem.W.Frag} {pa : PAs} {I H I' H' H0 : Hp} {σ σ' : L2.St} {sl sl' : Sls} {fp fp' : Fps} {d : Addr} {od : Obj} {kvs : List (Key × V)} {v : V} {o : O}
/-- the same but at d, where both tell the same dict -/
theorem Le.swap {u w : HO} (hd : I d = some u) (hr : ∀ x, (∀ o y, x ≠ HO.frz o y) → (u = x ∨ ∃ o, u = .frz o x) → (w = x ∨ ∃ o, w = .frz o x)) (hl : ∀ xs, u ≠ .lst xs) : Le I (upd I d w) := by
  refine ⟨fun b x n r => ?_, fun b xs r => ?_⟩
  · by_cases e : b = d
    · subst e
      have q := hr x n (by
        rcases r with r | ⟨o, r⟩
        · rw [hd] at r; exact .inl (Option.some.inj r)
        · rw [hd] at r; exact .inr ⟨o, Option.some.inj r⟩)
      rcases q with q | ⟨o, q⟩
      · exact .inl (by rw [upd_same, q])
      · exact .inr ⟨o, by rw [upd_same, q]⟩
    · rcases r with r | ⟨o, r⟩
      · exact .inl (by rw [upd_ne e]; exact r)
      · exact .inr ⟨o, by rw [upd_ne e]; exact r⟩
  · have e : b ≠ d := fun e => by rw [e, hd] at r; exact hl xs (Option.some.inj r)
    rw [upd_ne e]; exact r
theorem Le.lock (hd : I d = some (.dK kvs)) : Le I (upd I d (.frz od (.dK kvs))) := Le.swap hd (fun x n h => by
  rcases h with h | ⟨o, h⟩
  · exact .inr ⟨od, by rw [h]⟩
  · cases h) (fun xs h => by cases h)
theorem Le.unlock (hd : I d = some (.frz od (.dK kvs))) : Le I (upd I d (.dK kvs)) := Le.swap hd (fun x n h => by
  rcases h with h | ⟨o, h⟩
  · exact absurd h.symm (n _ _)
  · cases h; exact .inl rfl) (fun xs h => by cases h)
/-- at a told place something else is written, in both -/
theorem SR.both {u w : HO} (sr : SR K pa I H σ sl fp) (hd : I d = some u) (l : Le I (upd I d w)) : SR K pa (upd I d w) (upd H d w) σ sl fp := by
  have ne : ∀ b, FP fp b → b ≠ d := fun b h e => by
    have := sr.nfree h
    rw [e, hd] at this
    cases this
  refine ⟨fun b o e => ?_, sr.len, fun i s e => (sr.slot i s e).keep l fun b hb => upd_ne (ne b ⟨i, hb⟩), sr.out, fun i b hb => by rw [upd_ne (ne b ⟨i, hb⟩)]; exact sr.free i b hb, sr.nd, sr.dj, fun b hb => ?_⟩
  · by_cases z : b = d
    · subst z; rw [upd_same] at e ⊢; exact e
    · rw [upd_ne z] at e ⊢; exact sr.sub b o e
  · by_cases z : b = d
    · exact ⟨w, by rw [z, upd_same]⟩
    · rw [upd_ne z]; exact sr.pin b hb
/-- a stretch while d is locked, as its surroundings see it -/
theorem Mv.locked (sub : Sub I H) (hd : I d = some (.dK kvs)) (hd' : I' d = some (.frz od (.dK kvs))) (m : Mv fp (upd I d (.frz od (.dK kvs))) (upd H d (.frz od (.dK kvs))) fp' I' H') : Mv fp I H fp' (upd I' d (.dK kvs)) (upd H' d (.dK kvs)) := by
  have hH := sub _ _ hd
  refine ⟨⟨(Le.lock hd).trans (m.tr.le.trans (Le.unlock hd')), fun b u e n => ?_, fun b u e n i => ?_, fun b u e => ?_⟩, fun b h => ?_⟩
  · by_cases z : b = d
    · subst z; rw [upd_same]; rw [hH] at e; exact e
    · rw [upd_ne z]; exact m.tr.keep b u (by rw [upd_ne z]; exact e) n
  · by_cases z : b = d
    · subst z; rw [hd] at i; cases i
    · rw [upd_ne z]; exact m.tr.fr b u (by rw [upd_ne z]; exact e) n (by rw [upd_ne z]; exact i)
  · by_cases z : b = d
    · exact ⟨_, by rw [z, upd_same]⟩
    · rw [upd_ne z]; exact m.tr.there b u (by rw [upd_ne z]; exact e)
  · rcases m.fresh b h with q | q
    · exact .inl q
    · by_cases z : b = d
      · rw [z, upd_same] at q; cases q
      · rw [upd_ne z] at q; exact .inr q
theorem OR.unlock (hH : H d = some (.dK kvs)) (hd : I' d = some (.frz od (.dK kvs))) (h : OR K σ I' H' fp (upd H d (.frz od (.dK kvs))) v o) : OR K σ (upd I' d (.dK kvs)) (upd H' d (.dK kvs)) fp H v o := by
  cases o with
  | d x => exact Rl.up h (Le.unlock hd)
  | sl i => exact h
  | set x => exact h
  | scr ns =>
    obtain ⟨a, e, q⟩ := h
    exact ⟨a, e, (Le.unlock hd).sql q⟩
  | tmp m =>
    obtain ⟨a, f, e, ow, nd, q⟩ := h
    have ne : ∀ b ∈ f, b ≠ d := fun b hb z => by
      have := (q b hb).1
      rw [z, upd_same] at this
      cases this
    refine ⟨a, f, e, ow.keep (Le.unlock hd) fun b hb => upd_ne (ne b hb), nd, fun b hb => ⟨?_, ?_, (q b hb).2.2⟩⟩
    · have := (q b hb).1
      rw [upd_ne (ne b hb)] at this
      exact this
    · rw [upd_ne (ne b hb)]; exact (q b hb).2.1
end

/-! ### what a dict gives -/
/-- tg over it gives the items f of a locked dict whose name is slot i -/
structure DI (X : Cx) (tg iter : Expr) (i : Nat) (J : Addr → Obj → List (Key × V) → It) (f : List (D × D) → List D) : Prop where
  ex : ∃ wi, PI X tg iter wi ∧ ∀ (σ : L2.St) (H : Hp) (R : It → Hp → Prop) (d : Addr) (o : Obj) (kvs : List (Key × V)), σ[i]? = some (some (.ref d)) → H d = some (.frz o (.dK kvs)) → R (J d o kvs) H → wi σ H R
  itr : ∀ (I : Hp) (d : Addr) (o : Obj) (kvs : List (Key × V)) (ds : List (D × D)), I d = some (.frz o (.dK kvs)) → Rk X.K I kvs ds → ItR X.K (J d o kvs) (f ds) I
theorem Rk.get {K : PySem.W.Frag} {I : Hp} : ∀ {vs : List (Key × V)} {ds : List (D × D)} {i : Nat} {d e : D}, Rk K I vs ds → ds[i]? = some (d, e) → ∃ k v, vs[i]? = some (k, v) ∧ d = kD k ∧ Rl K I v e
  | _, _, _, _, _, .nil, e => by simp at e
  | _, _, 0, _, _, .cons r _, e => by
    simp at e
    obtain ⟨e1, e2⟩ := e
    subst e1 e2
    exact ⟨_, _, rfl, rfl, r⟩
  | _, _, i + 1, _, _, .cons _ t, e => by
    obtain ⟨k, v, h1, h2⟩ := Rk.get (i := i) t (by simpa using e)
    exact ⟨k, v, by simpa using h1, h2⟩
theorem Rl.kD {K : PySem.W.Frag} {I : Hp} (k : Key) : Rl K I (kV k) (kD k) := by
  cases k with
  | inl i => exact .int i
  | inr x => exact .str x
section
variable {X : Cx} {x : Str} {i : Nat} {p : Pos} {tg : Expr}
theorem itr_keys {K : PySem.W.Frag} {I : Hp} {d : Addr} {o : Obj} {kvs : List (Key × V)} {ds : List (D × D)} (hd : I d = some (.frz o (.dK kvs))) (r : Rk K I kvs ds) : ItR K (Itk d o kvs) (ds.map (·.1)) I := by
  refine ⟨_, _, by rw [List.length_map, ← r.length]; exact walk_keys (kvs := kvs), fun I' H l s s0 => s0 _ _ hd, fun i I' H x H' e he l s y => ?_⟩
  obtain ⟨rfl, k, v, h1, rfl⟩ := y
  rw [List.getElem?_map] at he
  cases hq : ds[i]? with
  | none => rw [hq] at he; cases he
  | some q =>
    rw [hq] at he
    cases he
    obtain ⟨a, b⟩ := q
    obtain ⟨k', v', h3, h4, _⟩ := r.get hq
    rw [h1] at h3
    cases h3
    exact ⟨I', .refl s, by rw [h4]; exact Rl.kD k⟩
theorem itr_items {K : PySem.W.Frag} {I : Hp} {d : Addr} {o : Obj} {kvs : List (Key × V)} {ds : List (D × D)} (hd : I d = some (.frz o (.dK kvs))) (r : Rk K I kvs ds) : ItR K (Iti d o kvs) (ds.map fun q => .tuple [q.1, q.2]) I := by
  refine ⟨_, _, by rw [List.length_map, ← r.length]; exact walk_items (kvs := kvs), fun I' H l s s0 => s0 _ _ hd, fun i I' H x H' e he l s y => ?_⟩
  rw [List.getElem?_map] at he
  cases hq : ds[i]? with
  | none => rw [hq] at he; cases he
  | some q =>
    rw [hq] at he
    cases he
    obtain ⟨a, b⟩ := q
    obtain ⟨k', v', h3, h4, h5⟩ := r.get hq
    have h4 : a = AL.kD k' := h4
    subst h4
    exact pair_of s y (dx := kV k') (dy := v') (by rw [h3]; rfl) (by rw [h3]; rfl) (Rl.kD k') (h5.up l)
theorem itr_vals {K : PySem.W.Frag} {I : Hp} {d : Addr} {o : Obj} {kvs : List (Key × V)} {ds : List (D × D)} (hd : I d = some (.frz o (.dK kvs))) (r : Rk K I kvs ds) : ItR K (Itd d o kvs) (ds.map (·.2)) I := by
  refine ⟨_, _, by rw [List.length_map, ← r.length]; exact walk_values (kvs := kvs), fun I' H l s s0 => s0 _ _ hd, fun i I' H x H' e he l s y => ?_⟩
  obtain ⟨rfl, k, h1⟩ := y
  rw [List.getElem?_map] at he
  cases hq : ds[i]? with
  | none => rw [hq] at he; cases he
  | some q =>
    rw [hq] at he
    cases he
    obtain ⟨a, b⟩ := q
    obtain ⟨k', v', h3, h4, h5⟩ := r.get hq
    rw [h1] at h3
    cases h3
    exact ⟨I', .refl s, h5.up l⟩
theorem di_keys (hN : X.N[i]? = some x) (hv : Vis X.env.scope x) (hd : (x == ("__debug__" : Str)) = false := by decide) (hcd : (x == ("__classdict__" : Str)) = false := by decide) : DI X tg (.Name x p) i Itk (fun ds => ds.map (·.1)) :=
  ⟨⟨_, pi_keys (pe_var hN hv hd hcd), fun σ H R d o kvs e h q => ⟨.ref d, e, d, o, rfl, .inl ⟨kvs, h, q⟩⟩⟩, fun I d o kvs ds h r => itr_keys h r⟩
theorem di_items {apos cpos tpos : Pos} {elts : List Expr} {kk : Nat} (hN : X.N[i]? = some x) (hv : Vis X.env.scope x) (hd : (x == ("__debug__" : Str)) = false := by decide) (hcd : (x == ("__classdict__" : Str)) = false := by decide)
    (hbase : attributeBase (.Name x p) "items" X.env (eval (.Name x p) X.env) = eval (.Name x p) X.env := by rfl) (hline : (apos.endLine == cpos.line) = true := by rfl) : DI X (.Tuple elts kk tpos) (.Call (.Attribute (.Name x p) "items" apos) [] [] cpos) i Iti (fun ds => ds.map fun q => .tuple [q.1, q.2]) :=
  ⟨⟨_, pi_items (pe_var hN hv hd hcd) hbase hline, fun σ H R d o kvs e h q => ⟨.ref d, e, d, o, kvs, rfl, h, q⟩⟩, fun I d o kvs ds h r => itr_items h r⟩
theorem di_vals {apos cpos : Pos} (hN : X.N[i]? = some x) (hv : Vis X.env.scope x) (hd : (x == ("__debug__" : Str)) = false := by decide) (hcd : (x == ("__classdict__" : Str)) = false := by decide)
    (hbase : attributeBase (.Name x p) "values" X.env (eval (.Name x p) X.env) = eval (.Name x p) X.env := by rfl) (hline : (apos.endLine == cpos.line) = true := by rfl) : DI X tg (.Call (.Attribute (.Name x p) "values" apos) [] [] cpos) i Itd (fun ds => ds.map (·.2)) :=
  ⟨⟨_, pi_values (pe_var hN hv hd hcd) hbase hline, fun σ H R d o kvs e h q => ⟨.ref d, e, d, o, kvs, rfl, h, q⟩⟩, fun I d o kvs ds h r => itr_vals h r⟩
end
def noErr {α : Type} : Rz α → Rz α
  | .err _ _ => .no
  | r => r
def dForD (i : Nat) (f : List (D × D) → List D) (t : Tg) (g : Den Fl) : Den Fl := (dFix (dVar i)).bind fun o => match o with
  | .d (.dict kvs) => fun sl => noErr (forGo t g (f kvs) sl)
  | _ => Den.no
section
variable {X : Cx} {W : WX} {pa : PAs} {σ : L2.St} {I H : Hp} {fp : Fps} {E : Ends} {sl : Sls} {i : Nat} {tg iter : Expr} {J : Addr → Obj → List (Key × V) → It} {f : List (D × D) → List D} {t : Tg} {g : Den Fl} {ws : List Nat} {body : List Stmt} {pos : Pos}
/-- a name's operand -/
theorem var_or {o : O} {s : Sls} (sr : SR X.K pa I H σ sl fp) (e : dVar i sl = .ok o s) : s = sl ∧ ∃ v, σ[i]? = some (some v) ∧ OR X.K σ I H fp H v o := by
  unfold dVar at e
  cases es : sl[i]? with
  | none => rw [es] at e; cases e
  | some z =>
    rw [es] at e
    have q := sr.slot i z es
    cases z with
    | em => cases e
    | val d =>
      cases e
      obtain ⟨_, v, e1, r⟩ := q
      exact ⟨rfl, v, join_some e1, r⟩
    | own t m =>
      cases e
      obtain ⟨a, e1, _⟩ := q
      exact ⟨rfl, _, join_some e1, join_some e1⟩
    | scr ns =>
      cases e
      obtain ⟨_, a, e1, r⟩ := q
      exact ⟨rfl, _, join_some e1, a, rfl, r⟩
/-- a dict in a slot, told for good -/
theorem dict_at {α : Type} {k : O → Den α} {r : Rz α} (sr : SR X.K pa I H σ sl fp) (hk : ∀ o s, (∀ kvs, o ≠ .d (.dict kvs)) → k o s = .no) (e : ((dFix (dVar i)).bind k) sl = r) (n : r ≠ .no) :
    ∃ (a : Addr) (vs : List (Key × V)) (kvs : List (D × D)) (I2 : Hp) (fp2 : Fps) (s2 : Sls), σ[i]? = some (some (.ref a)) ∧ SR X.K pa I2 H σ s2 fp2 ∧ Mv fp I H fp2 I2 H ∧ Rd I2 a (.dK vs) ∧ Rk X.K I2 vs kvs ∧ k (.d (.dict kvs)) s2 = r := by
  unfold dFix Den.bind at e
  cases e1 : dVar i sl with
  | no => simp only [e1] at e; exact absurd e.symm n
  | err x s =>
    exfalso
    unfold dVar at e1
    split at e1 <;> cases e1
  | ok o s =>
    simp only [e1] at e
    obtain ⟨rfl, v, hv, ho⟩ := var_or sr e1
    cases e2 : O.fix o s with
    | no => simp only [e2] at e; exact absurd e.symm n
    | err x s' =>
      exfalso
      unfold O.fix at e2
      split at e2
      · cases e2
      · split at e2 <;> cases e2
      · cases e2
      · cases e2
      · cases e2
    | ok o' s2 =>
      simp only [e2] at e
      obtain ⟨I2, fp2, sr2, m2, q⟩ := fix_all sr .refl ho e2
      rcases q with ⟨x, rfl, rx⟩ | ⟨ns, rfl, _⟩
      · cases x with
        | dict kvs =>
          cases rx with
          | dic p q => exact ⟨_, _, kvs, I2, fp2, s2, hv, sr2, m2, p, q, e⟩
        | _ => rw [hk _ _ (fun _ z => by cases z)] at e; exact absurd e.symm n
      · rw [hk _ _ (fun _ z => by cases z)] at e; exact absurd e.symm n
theorem PoS.noErr {r : Rz Fl} (h : PoS X W pa I H fp (noErr r) E) : PoS X W pa I H fp r E := by
  cases r with
  | err x s => exact h.elim
  | no => exact h.elim
  | ok a s => exact h
theorem as_forD (hp : PassesOwn (model X.prog X.w) X.A X.env X.xe) (hc : X.calm = true) (hi : DI X tg iter i J f) (hg : AG X tg t ws) (hb : ASs X W body g) (hs : ∀ x, foldedSetIterable iter X.env x = pure x := by intro _; rfl) : AS X W (.For tg iter body [] pos) (dForD i f t g) := by
  obtain ⟨wi, hpi, hwi⟩ := hi.ex
  have P := ps_for (pos := pos) hp hc hpi hg.pg hb.ps hs
  refine ⟨⟨fun pins s σ H E I0 h => ?_⟩⟩
  obtain ⟨pa, I, sl, fp, sr, h⟩ := h
  have hn : dForD i f t g sl ≠ .no := fun z => by rw [z] at h; exact h
  obtain ⟨a, vs, kvs, I2, fp2, s2, hv, sr2, m2, rd, rk, e⟩ := dict_at (k := fun o => match o with
    | .d (.dict kvs) => fun sl => noErr (forGo t g (f kvs) sl)
    | _ => Den.no) sr (fun o s z => by
      cases o with
      | d x =>
        cases x with
        | dict kvs => exact absurd rfl (z kvs)
        | _ => rfl
      | _ => rfl) rfl hn
  have h2 : PoS X W pa I H fp (noErr (forGo t g (f kvs) s2)) E := by
    have e : noErr (forGo t g (f kvs) s2) = dForD i f t g sl := e
    rw [e]; exact h
  rcases rd with hd | ⟨od, hd⟩
  · -- it is locked for the while
    have hH := sr2.sub _ _ hd
    refine (ps_lock P).run pins s σ H E I0 ⟨a, .dK vs, hH, trivial, fun od => ?_⟩
    have sr3 := sr2.both hd (Le.lock (od := od) hd)
    have hd3 : upd I2 a (HO.frz od (.dK vs)) a = some (.frz od (.dK vs)) := upd_same
    refine hwi σ _ _ a od vs hv (by rw [upd_same]) (for_core sr3 .refl (hi.itr _ a od vs kvs hd3 (rk.up (Le.lock hd))) ?_)
    -- the ends
    have h3 := h2.from m2
    cases er : forGo t g (f kvs) s2 with
    | no => rw [er] at h3; exact h3
    | err x s => rw [er] at h3; exact h3.elim
    | ok fl s4 =>
      rw [er] at h3
      have h3 : PoS X W pa I2 H fp2 (.ok fl s4) E := h3
      intro σ' I' H' fp' sr' m'
      have hH' : H' a = some (.frz od (.dK vs)) := m'.tr.keep a _ upd_same fun z => by
        have := sr2.nfree z
        rw [hd] at this; cases this
      have hI' : I' a = some (.frz od (.dK vs)) := by
        have q := m'.tr.le.rd a (.dK vs) (fun _ _ z => nomatch z) (.inr ⟨od, upd_same⟩)
        rcases q with q | ⟨o, q⟩
        · rw [sr'.sub _ _ q] at hH'; cases hH'
        · have := sr'.sub _ _ q
          rw [hH'] at this; cases this; exact q
      have srU := sr'.both hI' (Le.unlock hI')
      have mU := Mv.locked sr2.sub hd hI' m'
      have q := h3 σ' _ _ fp' srU mU
      cases fl with
      | nx => exact ⟨hH', q⟩
      | bk => exact ⟨hH', q⟩
      | ct => exact ⟨hH', q⟩
      | rt o => exact fun v hv => ⟨hH', q v (OR.unlock hH hI' hv)⟩
  · exact P.run pins s σ H E I0 (hwi σ _ _ a od vs hv (sr2.sub _ _ hd) (for_core sr2 m2 (hi.itr _ a od vs kvs hd rk) h2.noErr))
end
end AL
end
section
set_option Elab.async false
set_option linter.all false
set_option maxRecDepth 100000
set_option maxHeartbeats 4000000
set_option autoImplicit false
/-! The A-layer, part y: comprehensions over a dict; d.setdefault(k, []).append(v). -/
namespace AL
open PySem PySem.Spec PyProof.Rows L2
def dLcDk (f : List (D × D) → List D) (vs : List Nat) (t : Tg) (ft : Den Bool) (fe : Den O) (o : O) : Den O := match o with
  | .d (.dict kvs) => fun sl => match lcGo vs t ft (dFix fe) (f kvs) [] sl with
    | .ok acc s => .ok (.tmp (.lst acc)) (restS sl s vs)
    | _ => .no
  | _ => Den.no
def dLcD (i : Nat) (f : List (D × D) → List D) (vs : List Nat) (t : Tg) (ft : Den Bool) (fe : Den O) : Den O := (dFix (dVar i)).bind (dLcDk f vs t ft fe)
section
variable {X : Cx} {W : WX} {pa : PAs} {σ : L2.St} {I H : Hp} {fp : Fps} {sl : Sls} {i : Nat} {J : Addr → Obj → List (Key × V) → It} {f : List (D × D) → List D} {t : Tg} {ws vs : List Nat} {ft : Den Bool} {fe : Den O}
theorem lcD_core {wi : TI} {tg iter : Expr} (hi : DI X tg iter i J f) (hwi : ∀ (σ : L2.St) (H : Hp) (R : It → Hp → Prop) (d : Addr) (o : Obj) (kvs : List (Key × V)), σ[i]? = some (some (.ref d)) → H d = some (.frz o (.dK kvs)) → R (J d o kvs) H → wi σ H R) (hws : ∀ j ∈ ws, j ∈ vs) {Q : VK} (h : tE X W (dLcD i f vs t ft fe) σ H Q) :
    tLc wi (tG X t ws) (tT X Wn ft) (tE X Wn fe) vs σ H Q ∨ tLockE (tLc wi (tG X t ws) (tT X Wn ft) (tE X Wn fe) vs) σ H Q := by
  obtain ⟨pa, I, sl, fp, sr, h⟩ := h
  have hn : dLcD i f vs t ft fe sl ≠ .no := fun z => by rw [z] at h; exact h
  obtain ⟨a, vs', kvs, I2, fp2, s2, hv, sr2, m2, rd, rk, e⟩ := dict_at (i := i) (k := dLcDk f vs t ft fe) sr (fun o s z => by
      cases o with
      | d x =>
        cases x with
        | dict kvs => exact absurd rfl (z kvs)
        | _ => rfl
      | _ => rfl) rfl hn
  dsimp only [dLcDk] at e
  cases eg : lcGo vs t ft (dFix fe) (f kvs) [] s2 with
  | no => rw [eg] at e; exact absurd e.symm hn
  | err x s => rw [eg] at e; exact absurd e.symm hn
  | ok acc s =>
    rw [eg] at e
    dsimp only at e
    have h : Po X W pa σ I H fp (dLcD i f vs t ft fe sl) fun o _ I' H' fp' => ∀ v, OR X.K σ I' H' fp' H v o → Q v H' := h
    have h : Po X W pa σ I H fp (.ok (O.tmp (.lst acc)) (restS s2 s vs)) fun o _ I' H' fp' => ∀ v, OR X.K σ I' H' fp' H v o → Q v H' := e.symm ▸ h
    -- the new list at the end
    have fin : ∀ {I3 H3 H3' : Hp} {fp3 : Fps} {Tn : Addr} {avs : List V}, H3 Tn = some (.lst avs) → I3 Tn = none → Mv fp2 I2 H fp3 I3 H3 → H Tn = none → Rs X.K I3 avs acc → SR X.K pa I3 H3 σ (restS s2 s vs) fp3 → ¬ FP fp3 Tn → Q (.ref Tn) H3 := fun {I3 H3 _ fp3 Tn avs} eT iT m3 hT r sr3 nT =>
      h I3 H3 fp3 sr3 (m2.trans m3) (.ref Tn) ⟨Tn, [Tn], rfl, .lst eT r, by simp, fun b hb => by
        have eb : b = Tn := by simpa using hb
        subst eb
        exact ⟨hT, iT, nT⟩⟩
    have nFP : ∀ {fp' : Fps} {Tn : Addr} {I1 H1 : Hp} {fp1 : Fps}, SR X.K pa I1 H1 σ s2 fp1 → H1 Tn = none → ¬ FP fp' Tn → ¬ FP (fun j => if j ∈ vs then fp1 j else fp' j) Tn := fun {fp' Tn I1 H1 fp1} sr1 hT nT z => by
      obtain ⟨j, hj⟩ := z
      by_cases hjv : j ∈ vs
      · simp only [if_pos hjv] at hj
        obtain ⟨u, hu⟩ := sr1.there ⟨j, hj⟩
        rw [hT] at hu; cases hu
      · simp only [if_neg hjv] at hj
        exact nT ⟨j, hj⟩
    rcases rd with hd | ⟨od, hd⟩
    · refine .inr ⟨a, .dK vs', sr2.sub _ _ hd, trivial, fun od => ?_⟩
      have sr3 := sr2.both hd (Le.lock (od := od) hd)
      have hd3 : upd I2 a (HO.frz od (.dK vs')) a = some (.frz od (.dK vs')) := upd_same
      refine hwi σ _ _ a od vs' hv (by rw [upd_same]) fun Tn hT => ?_
      have neT : Tn ≠ a := fun z => by rw [z, upd_same] at hT; cases hT
      refine lc_loop (Q := fun H' => H' a = some (.frz od (.dK vs')) ∧ Q (.ref Tn) (upd H' a (.dK vs'))) rfl rfl hws sr3 (hi.itr _ a od vs' kvs hd3 (rk.up (Le.lock hd))) hT eg fun I' H' fp' avs srw mw eT iT nT r => ?_
      obtain ⟨sr4, m4⟩ := sr3.unwipe srw mw
      have hH' : H' a = some (.frz od (.dK vs')) := m4.tr.keep a _ upd_same fun z => by
        have := sr2.nfree z
        rw [hd] at this; cases this
      have hI' : I' a = some (.frz od (.dK vs')) := by
        have q := m4.tr.le.rd a (.dK vs') (fun _ _ z => nomatch z) (.inr ⟨od, upd_same⟩)
        rcases q with q | ⟨o, q⟩
        · rw [sr4.sub _ _ q] at hH'; cases hH'
        · have := sr4.sub _ _ q
          rw [hH'] at this; cases this; exact q
      rw [upd_ne neT] at hT
      exact ⟨hH', fin (H3' := H') (by rw [upd_ne neT]; exact eT) (by rw [upd_ne neT]; exact iT) (Mv.locked sr2.sub hd hI' m4) hT (r.up (Le.unlock hI')) (sr4.both hI' (Le.unlock hI')) (nFP sr2 hT nT)⟩
    · refine .inl (hwi σ _ _ a od vs' hv (sr2.sub _ _ hd) fun Tn hT => ?_)
      refine lc_loop (Q := fun H' => Q (.ref Tn) H') rfl rfl hws sr2 (hi.itr _ a od vs' kvs hd rk) hT eg fun I' H' fp' avs srw mw eT iT nT r => ?_
      obtain ⟨sr4, m4⟩ := sr2.unwipe srw mw
      exact fin (H3' := H') eT iT m4 hT r sr4 (nFP sr2 hT nT)
variable {elt tg iter : Expr} {ifs : List Expr} {scope : Scope} {own : List (Str × Nat)} {pos : Pos}
theorem ae_lcD (hc : X.calm = true) (hN : X.N.Nodup) (hi : DI X tg iter i J f) (ok : BlkOk X.N X.env.scope scope own) (hws : ∀ j ∈ ws, j ∈ own.map (·.2))
    (hg : ∀ (s : Shared) (H : Hp) (C : Addr) (cl : List (Str × Addr)) (fp : List Addr), AG (X.blk s H scope (compEnvC scope cl C X.env) fp) tg t ws) (ht : ∀ (s : Shared) (H : Hp) (C : Addr) (cl : List (Str × Addr)) (fp : List Addr), ATs (X.blk s H scope (compEnvC scope cl C X.env) fp) Wn ifs ft)
    (he : ∀ (s : Shared) (H : Hp) (C : Addr) (cl : List (Str × Addr)) (fp : List Addr), AE (X.blk s H scope (compEnvC scope cl C X.env) fp) Wn elt fe) (hs : ∀ x, foldedSetIterable iter X.env x = pure x := by intro _; rfl) :
    AE X W (.ListComp elt [⟨tg, iter, ifs, 0⟩] scope pos) (dLcD i f (own.map (·.2)) t ft fe) := by
  obtain ⟨wi, hpi, hwi⟩ := hi.ex
  have P := pe_lc (pos := pos) hc hN hpi ok (g := tG X t ws) (tt := tT X Wn ft) (te := tE X Wn fe) (fun s H C cl fp => ⟨(hg s H C cl fp).pg.run⟩) (fun s H C cl fp => ⟨(ht s H C cl fp).pt.run⟩) (fun s H C cl fp => ⟨(he s H C cl fp).pe.run⟩) hs
  exact ⟨(P.or (pe_lock P)).imp fun σ H Q h => lcD_core hi hwi hws h⟩
theorem as_putLcD (j : Nat) {y : Str} {py spos : Pos} (hc : X.calm = true) (hN : X.N.Nodup) (hy : X.N[j]? = some y) (hyl : X.env.scope.names.lookup y = some .local)
    (hsw : swapsWith (.ListComp elt [⟨tg, iter, ifs, 0⟩] scope pos) (some (.Name y py)) spos.line X.env = pure true) (hi : DI X tg iter i J f) (ok : BlkOk X.N X.env.scope scope own) (hws : ∀ j ∈ ws, j ∈ own.map (·.2))
    (hg : ∀ (s : Shared) (H : Hp) (C : Addr) (cl : List (Str × Addr)) (fp : List Addr), AG (X.blk s H scope (compEnvC scope cl C X.env) fp) tg t ws) (ht : ∀ (s : Shared) (H : Hp) (C : Addr) (cl : List (Str × Addr)) (fp : List Addr), ATs (X.blk s H scope (compEnvC scope cl C X.env) fp) Wn ifs ft)
    (he : ∀ (s : Shared) (H : Hp) (C : Addr) (cl : List (Str × Addr)) (fp : List Addr), AE (X.blk s H scope (compEnvC scope cl C X.env) fp) Wn elt fe) (hs : ∀ x, foldedSetIterable iter X.env x = pure x := by intro _; rfl) :
    AS X W (.Assign [.Name y py] (.ListComp elt [⟨tg, iter, ifs, 0⟩] scope pos) spos) (dPut j (dLcD i f (own.map (·.2)) t ft fe)) := by
  obtain ⟨wi, hpi, hwi⟩ := hi.ex
  have P := ps_setLc (spos := spos) hc hN hy hyl hsw hpi ok (g := tG X t ws) (tt := tT X Wn ft) (te := tE X Wn fe) (fun s H C cl fp => ⟨(hg s H C cl fp).pg.run⟩) (fun s H C cl fp => ⟨(ht s H C cl fp).pt.run⟩) (fun s H C cl fp => ⟨(he s H C cl fp).pe.run⟩) hs
  refine ⟨⟨fun pins s σ H E I0 h => ?_⟩⟩
  rcases lcD_core hi hwi hws (setP_core h) with q | q
  · exact P.run pins s σ H E I0 q
  · exact (ps_lock P).run pins s σ H E I0 q
end

/-! ### d.setdefault(k, []).append(v) -/
section
variable {K : PySem.W.Frag} {pa : PAs} {I H H' : Hp} {σ : L2.St} {sl : Sls} {fp : Fps} {i : Nat} {t : Option Nat} {m m' : Mu} {a : Addr} {f' : List Addr}
/-- a slot's owned thing is written, and may grow -/
theorem SR.ownG (sr : SR K pa I H σ sl fp) (e : sl[i]? = some (.own t m)) (hv : σ[i]? = some (some (.ref a))) (o : Own K I H' a m' f') (hf : ∀ b ∈ f', b ∈ fp i ∨ H b = none) (nd : f'.Nodup) (k : ∀ b, b ∉ fp i → b ∉ f' → H' b = H b) (th : ∀ b ∈ fp i, ∃ u, H' b = some u) :
    SR K pa I H' σ (sl.set i (.own t m')) (fpSet fp i f') ∧ Mv fp I H (fpSet fp i f') I H' := by
  have hi : i < sl.length := (List.getElem?_eq_some_iff.mp e).1
  have ther : ∀ b u, H b = some u → ∃ u', H' b = some u' := fun b u hb => by
    by_cases z : b ∈ fp i
    · exact th b z
    · by_cases z2 : b ∈ f'
      · exact o.there b z2
      · exact ⟨u, by rw [k b z z2]; exact hb⟩
  have stay : ∀ b u, H b = some u → b ∉ fp i → H' b = some u := fun b u hb z => by
    by_cases z2 : b ∈ f'
    · rcases hf b z2 with q | q
      · exact absurd q z
      · rw [hb] at q; cases q
    · rw [k b z z2]; exact hb
  refine ⟨⟨fun b u hb => stay b u (sr.sub b u hb) (fun z => by rw [sr.free i b z] at hb; cases hb), by rw [List.length_set]; exact sr.len, fun j s ej => ?_, fun j h => ?_, fun j b hb => ?_, fun j => ?_, fun j l hjl b hb => ?_, fun b hb => ?_⟩, ⟨.refl _, fun b u hb n => stay b u hb fun z => n ⟨i, z⟩, fun b u hb n z => z, ther⟩, fun b h => ?_⟩
  · by_cases hj : j = i
    · subst hj
      rw [List.getElem?_set_self hi] at ej
      cases ej
      obtain ⟨a', ea, _, p1, p2⟩ := sr.slot j _ e
      rw [hv] at ea
      have ea : some (V.ref a) = some (V.ref a') := ea
      cases ea
      rw [fpSet_same]
      refine ⟨a, by rw [hv]; rfl, o, p1, fun tn b hb z => ?_⟩
      rcases hf b hb with q | q
      · exact p2 tn b q z
      · obtain ⟨u, hu⟩ := sr.pin b z
        rw [q] at hu; cases hu
    · rw [List.getElem?_set_ne (Ne.symm hj)] at ej
      rw [fpSet_ne hj]
      refine (sr.slot j s ej).keep (.refl _) fun b hb => ?_
      obtain ⟨u, hu⟩ := sr.there ⟨j, hb⟩
      rw [hu]
      exact stay b u hu (sr.dj j i hj b hb)
  · rw [List.length_set] at h
    rw [fpSet_ne (by omega)]
    exact sr.out j h
  · by_cases hj : j = i
    · subst hj
      rw [fpSet_same] at hb
      rcases hf b hb with q | q
      · exact sr.free j b q
      · exact Sub.non sr.sub q
    · rw [fpSet_ne hj] at hb; exact sr.free j b hb
  · by_cases hj : j = i
    · subst hj; rw [fpSet_same]; exact nd
    · rw [fpSet_ne hj]; exact sr.nd j
  · have away : ∀ b ∈ f', ∀ q, q ≠ i → b ∉ fp q := fun b hb q hq z => by
      rcases hf b hb with w | w
      · exact sr.dj i q (Ne.symm hq) b w z
      · obtain ⟨u, hu⟩ := sr.there ⟨q, z⟩
        rw [w] at hu; cases hu
    by_cases hj : j = i
    · subst hj
      rw [fpSet_same] at hb
      rw [fpSet_ne (Ne.symm hjl)]
      exact away b hb l (Ne.symm hjl)
    · rw [fpSet_ne hj] at hb
      by_cases hl : l = i
      · subst hl
        rw [fpSet_same]
        exact fun z => away b z j hj hb
      · rw [fpSet_ne hl]; exact sr.dj j l hjl b hb
  · obtain ⟨u, hu⟩ := sr.pin b hb
    exact ther b u hu
  · rcases FP.of_set h with q | q
    · exact (hf b q).imp (fun z => ⟨i, z⟩) id
    · exact .inl q
end
def addTo : List (D × List D) → Key → D → List (D × List D)
  | [], k, v => [(kD k, [v])]
  | p :: r, k, v => if keyOf p.1 = some k then (p.1, p.2 ++ [v]) :: r else p :: addTo r k v
def lenAt : List (D × List D) → Key → Nat
  | [], _ => 0
  | p :: r, k => if keyOf p.1 = some k then p.2.length else lenAt r k
def mSda : Mu → D → D → Option Mu
  | .dic [], y, v => (keyOf y).map fun k => .dll (addTo [] k v)
  | .dll kvs, y, v => match keyOf y with
    | some k => if kvs.length < sizeLine ∧ lenAt kvs k < sizeLine then some (.dll (addTo kvs k v)) else none
    | none => none
  | _, _, _ => none
def dSda (i j l : Nat) : Den O := fun sl => match sl[i]?, sl[j]?, sl[l]? with
  | some (.own t m), some (.val y), some (.val v) => match mSda m y v with
    | some m' => .ok (.d .none) (sl.set i (.own t m'))
    | none => .no
  | _, _, _ => .no
section
variable {K : PySem.W.Frag} {I H : Hp}
/-- the entry that is there, with one more -/
theorem Rdl.hit {k : Key} {v : V} {d : D} {q : V} (rv : Rl K I v d) : ∀ {kvs : List (Key × V)} {ds : List (D × List D)} {l : List Addr}, Rdl K I H kvs ds l → l.Nodup → valV kvs k = some q →
    ∃ b xs, q = .ref b ∧ b ∈ l ∧ H b = some (.lst xs) ∧ xs.length = lenAt ds k ∧ Rdl K I (upd H b (.lst (xs ++ [v]))) kvs (addTo ds k d) l
  | _, _, _, .nil, _, e => by cases e
  | _, _, _, @Rdl.cons _ _ _ k' b vs xs kvs ds l h r t, nd, e => by
    obtain ⟨n1, n2⟩ := List.nodup_cons.mp nd
    by_cases hk : k' = k
    · subst hk
      rw [valV_pos (p := (k', V.ref b)) rfl] at e
      cases e
      refine ⟨b, vs, rfl, by simp, h, by simp [lenAt, keyOf_kD, r.length], ?_⟩
      have e2 : addTo ((kD k', xs) :: ds) k' d = (kD k', xs ++ [d]) :: ds := by simp [addTo, keyOf_kD]
      rw [e2]
      exact .cons upd_same (r.append (.cons rv .nil)) (t.keep (.refl _) fun c hc => upd_ne fun z => n1 (z ▸ hc))
    · rw [valV_neg (p := (k', V.ref b)) hk] at e
      obtain ⟨b', ys, h1, h2, h3, h4, h5⟩ := Rdl.hit rv t n2 e
      have e2 : addTo ((kD k', xs) :: ds) k d = (kD k', xs) :: addTo ds k d := by simp [addTo, keyOf_kD, hk]
      have e3 : lenAt ((kD k', xs) :: ds) k = lenAt ds k := by simp [lenAt, keyOf_kD, hk]
      refine ⟨b', ys, h1, by simp [h2], h3, by rw [h4, e3], ?_⟩
      rw [e2]
      refine .cons ?_ r h5
      rw [upd_ne fun z => n1 (by rw [z]; exact h2)]
      exact h
/-- one more entry -/
theorem Rdl.miss {k : Key} {v : V} {d : D} {p : Addr} (rv : Rl K I v d) (hp : H p = some (.lst [v])) : ∀ {kvs : List (Key × V)} {ds : List (D × List D)} {l : List Addr}, Rdl K I H kvs ds l → valV kvs k = none → Rdl K I H (kvs ++ [(k, .ref p)]) (addTo ds k d) (l ++ [p])
  | _, _, _, .nil, _ => .cons hp (.cons rv .nil) .nil
  | _, _, _, @Rdl.cons _ _ _ k' b vs xs kvs ds l h r t, e => by
    by_cases hk : k' = k
    · subst hk
      rw [valV_pos (p := (k', V.ref b)) rfl] at e
      cases e
    · rw [valV_neg (p := (k', V.ref b)) hk] at e
      have e2 : addTo ((kD k', xs) :: ds) k d = (kD k', xs) :: addTo ds k d := by simp [addTo, keyOf_kD, hk]
      rw [e2]
      exact .cons h r (Rdl.miss rv hp t e)
theorem putK_miss {kvs : List (Key × V)} {k : Key} {v : V} (e : valV kvs k = none) : putK kvs k v = kvs ++ [(k, v)] := by
  unfold putK
  rw [valV_any, e]
  rfl
theorem Rdl.length : ∀ {kvs : List (Key × V)} {ds : List (D × List D)} {l : List Addr}, Rdl K I H kvs ds l → kvs.length = ds.length
  | _, _, _, .nil => rfl
  | _, _, _, .cons _ _ t => by rw [List.length_cons, List.length_cons, Rdl.length t]
end
section
variable {X : Cx} {W : WX} {i j l : Nat} {x y z : Str} {p1 p2 p3 p4 apos bpos cpos dpos : Pos}
theorem ae_sda (hx : X.N[i]? = some x) (hy : X.N[j]? = some y) (hz : X.N[l]? = some z) (vx : Vis X.env.scope x) (vy : Vis X.env.scope y) (vz : Vis X.env.scope z)
    (m : M2 X (.Name x p1) "setdefault" apos (.Name y p2) (.List [] p3) bpos)
    (hbase : attributeBase (.Call (.Attribute (.Name x p1) "setdefault" apos) [.Name y p2, .List [] p3] [] bpos) "append" X.env (eval (.Call (.Attribute (.Name x p1) "setdefault" apos) [.Name y p2, .List [] p3] [] bpos) X.env) = eval (.Call (.Attribute (.Name x p1) "setdefault" apos) [.Name y p2, .List [] p3] [] bpos) X.env := by rfl)
    (hfew : ((backTo dpos (starEach [.Name z p4] X.env)).all (fun x => !x.1) && (backToKw dpos (keywordEach [] X.env)).all (fun x => x.1.isSome) && decide (([.Name z p4] : List Expr).length + ([] : List Keyword).length + (if ([] : List Keyword).isEmpty then 0 else 1) < 30)) = true := by rfl)
    (hline : (cpos.endLine == dpos.line) = true := by rfl) (hs2 : starEach [.Name z p4] X.env = [(false, eval (.Name z p4) X.env)] := by rfl) (hplain : (backTo dpos (starEach ([] : List Expr) X.env)).any (·.1) = false := by rfl)
    (dx : (x == ("__debug__" : Str)) = false := by decide) (dy : (y == ("__debug__" : Str)) = false := by decide) (dz : (z == ("__debug__" : Str)) = false := by decide)
    (cx : (x == ("__classdict__" : Str)) = false := by decide) (cy : (y == ("__classdict__" : Str)) = false := by decide) (cz : (z == ("__classdict__" : Str)) = false := by decide) :
    AE X W (.Call (.Attribute (.Call (.Attribute (.Name x p1) "setdefault" apos) [.Name y p2, .List [] p3] [] bpos) "append" cpos) [.Name z p4] [] dpos) (dSda i j l) := by
  have P := pe_bm PySem.F.plainAttrs_list PySem.F.slot_list_append PySem.F.type_list_append mt_append (pe_dsetd (pe_var hx vx dx cx) (pe_var hy vy dy cy) (pe_lst pa_nil) m) (pa_cons (pe_var hz vz dz cz) pa_nil hs2) hbase hfew hline hs2 hplain
  refine ⟨P.imp fun σ H Q h => ?_⟩
  obtain ⟨pa, I, sl, fp, sr, h⟩ := h
  unfold dSda at h
  cases e1 : sl[i]? with
  | none => simp only [e1] at h; exact h.elim
  | some s1 =>
    cases s1 with
    | own t mu =>
      cases e2 : sl[j]? with
      | none => simp only [e1, e2] at h; exact h.elim
      | some s2 =>
        cases s2 with
        | val dy =>
          cases e3 : sl[l]? with
          | none => simp only [e1, e2, e3] at h; exact h.elim
          | some s3 =>
            cases s3 with
            | val dv =>
              simp only [e1, e2, e3] at h
              cases em : mSda mu dy dv with
              | none => simp only [em] at h; exact h.elim
              | some mu' =>
                simp only [em] at h
                obtain ⟨a, ea, ow, _⟩ := sr.slot i _ e1
                obtain ⟨_, vy', ey, ry⟩ := sr.slot j _ e2
                obtain ⟨_, vv, ev, rv⟩ := sr.slot l _ e3
                have hv := join_some ea
                -- the dict there, as a dict of lists
                obtain ⟨kvs, ds, ls, k, hk, hH, rd, efp, hlen, hlat, emu⟩ : ∃ (kvs : List (Key × V)) (ds : List (D × List D)) (ls : List Addr) (k : Key), keyOf dy = some k ∧ H a = some (.dK kvs) ∧ Rdl X.K I H kvs ds ls ∧ fp i = a :: ls ∧ kvs.length < sizeLine ∧ lenAt ds k < sizeLine ∧ mu' = .dll (addTo ds k dv) := by
                  unfold mSda at em
                  split at em
                  · obtain ⟨k, h1, h2⟩ := Option.map_eq_some_iff.mp em
                    obtain ⟨fi, hfi⟩ : ∃ fi, fi = fp i := ⟨_, rfl⟩
                    rw [← hfi] at ow
                    cases ow with
                    | dic q r =>
                      cases r
                      exact ⟨[], [], [], k, h1, q, .nil, hfi.symm, by rw [sizeLine_eq]; decide, by show 0 < sizeLine; rw [sizeLine_eq]; decide, h2.symm⟩
                  · rename_i kvs0 _ _
                    cases hk : keyOf dy with
                    | none => rw [hk] at em; cases em
                    | some k =>
                      rw [hk] at em
                      dsimp only at em
                      split at em
                      · rename_i hl
                        cases em
                        obtain ⟨fi, hfi⟩ : ∃ fi, fi = fp i := ⟨_, rfl⟩
                        rw [← hfi] at ow
                        cases ow with
                        | dll q r => exact ⟨_, _, _, k, rfl, q, r, hfi.symm, by rw [r.length]; exact hl.1, hl.2, rfl⟩
                      · cases em
                  · cases em
                subst emu
                have nd := sr.nd i
                rw [efp] at nd
                obtain ⟨n1, n2⟩ := List.nodup_cons.mp nd
                have ek : vy' = kV k := (Vw.im ry : Vw X.K I H vy' dy).key hk
                subst ek
                have hvv := join_some ev
                refine ⟨.ref a, hv, a, rfl, .inl ⟨kvs, .inl hH⟩, kV k, join_some ey, ?_⟩
                refine ⟨by show 0 ≤ sizeLine; exact Nat.zero_le _, fun p hp => ?_⟩
                have nep : p ≠ a := fun z => by rw [z, hH] at hp; cases hp
                have npl : p ∉ ls := fun z => by
                  obtain ⟨u, hu⟩ := rd.there p z
                  rw [hp] at hu; cases hu
                refine ⟨kvs, k, by rw [upd_ne (Ne.symm nep)]; exact hH, rfl, hlen, fun q hq => ?_, fun hq => ?_⟩
                · -- it is there
                  have rd' : Rdl X.K I (upd H p (.lst [])) kvs ds ls := rd.keep (.refl _) fun b hb => upd_ne fun z => npl (z ▸ hb)
                  obtain ⟨b, xs, rfl, hb, hHb, hxl, rd2⟩ := Rdl.hit rv rd' n2 hq
                  have nbp : b ≠ p := fun z => npl (z ▸ hb)
                  have nba : b ≠ a := fun z => n1 (z ▸ hb)
                  refine ⟨.inl ⟨rfl, xs, .of hHb⟩, vv, hvv, b, xs, vv, rfl, rfl, hHb, by rw [hxl]; exact hlat, ?_⟩
                  have al := Al.lst (vs := ([] : List V)) sr.sub hp
                  have sr1 := sr.al al
                  have o2 : Own X.K I (upd (upd H p (.lst [])) b (.lst (xs ++ [vv]))) a (.dll (addTo ds k dv)) (fp i) := by
                    rw [efp]
                    exact .dll (by rw [upd_ne (Ne.symm nba), upd_ne (Ne.symm nep)]; exact hH) rd2
                  obtain ⟨sr2, m2⟩ := sr1.ownW e1 hv o2 fun c hc => upd_ne fun z => hc (by rw [efp, z]; simp [hb])
                  exact h I _ fp sr2 (al.mv.trans m2) .non .non
                · -- it is new
                  refine ⟨.inl ⟨rfl, [], .of (by rw [upd_ne nep, upd_same])⟩, vv, hvv, p, [], vv, rfl, rfl, by rw [upd_ne nep, upd_same], by rw [sizeLine_eq]; decide, ?_⟩
                  rw [putK_miss hq, List.nil_append]
                  have o2 : Own X.K I (upd (upd (upd H p (.lst [])) a (.dK (kvs ++ [(k, .ref p)]))) p (.lst [vv])) a (.dll (addTo ds k dv)) (a :: (ls ++ [p])) := by
                    refine .dll (by rw [upd_ne (Ne.symm nep), upd_same]) (Rdl.miss rv upd_same (rd.keep (.refl _) fun b hb => ?_) hq)
                    have e1 : b ≠ p := fun z => npl (z ▸ hb)
                    have e2 : b ≠ a := fun z => n1 (z ▸ hb)
                    rw [upd_ne e1, upd_ne e2, upd_ne e1]
                  have nd2 : (a :: (ls ++ [p])).Nodup := by
                    refine List.nodup_cons.mpr ⟨fun z => ?_, List.nodup_append.mpr ⟨n2, by simp, fun u hu w hw z => ?_⟩⟩
                    · rcases List.mem_append.mp z with z | z
                      · exact n1 z
                      · exact nep (List.mem_singleton.mp z).symm
                    · rw [List.mem_singleton.mp hw] at z
                      exact npl (z ▸ hu)
                  obtain ⟨sr2, m2⟩ := sr.ownG e1 hv o2 (fun b hb => by
                    rcases List.mem_cons.mp hb with z | z
                    · exact .inl (by rw [efp, z]; simp)
                    · rcases List.mem_append.mp z with z | z
                      · exact .inl (by rw [efp]; simp [z])
                      · exact .inr (by rw [List.mem_singleton.mp z]; exact hp)) nd2 (fun b h1 h2 => by
                    have e1 : b ≠ p := fun z => h2 (by rw [z]; simp)
                    have e2 : b ≠ a := fun z => h2 (by rw [z]; simp)
                    rw [upd_ne e1, upd_ne e2, upd_ne e1]) (fun b hb => by
                    by_cases z1 : b = p
                    · exact ⟨_, by rw [z1, upd_same]⟩
                    · by_cases z2 : b = a
                      · exact ⟨_, by rw [z2, upd_ne (Ne.symm nep), upd_same]⟩
                      · obtain ⟨u, hu⟩ := sr.there ⟨i, hb⟩
                        exact ⟨u, by rw [upd_ne z1, upd_ne z2, upd_ne z1]; exact hu⟩)
                  exact h I _ _ sr2 m2 .non .non
            | _ => simp only [e1, e2, e3] at h; exact h.elim
        | _ => simp only [e1, e2] at h; exact h.elim
    | _ => simp only [e1] at h; exact h.elim
end
end AL
end
section
set_option Elab.async false
set_option linter.all false
set_option maxRecDepth 100000
set_option maxHeartbeats 4000000
set_option autoImplicit false
/-! The A-layer, part z: the rules as a printing program uses them. -/
namespace AL
open PySem PySem.Spec PyProof.Rows L2

/-! stores whose order hangs on the scope alone -/
def dE (S : Scope) : Env := envOfC Str.empty S 0 0 .none
theorem sw_env {ts : List Expr} {v : Expr} {env : Env} {S : Scope} (h : env.scope = S) : swappedStores ts v env = swappedStores ts v (dE S) := by
  subst h
  rfl
theorem sw_env2 {v : Expr} {t : Option Expr} {l : Nat} {env : Env} {S : Scope} (h : env.scope = S) : swapsWith v t l env = swapsWith v t l (dE S) := by
  subst h
  rfl
/-- a comprehension's scope within S -/
def relS (sc S : Scope) : Scope := { sc with names := sc.names.map fun (n, k) => if (k == .free && S.kind == .function && S.names.lookup n == some .cell) then (n, .cell) else (n, k) }
/-- where a text stands: what its frame is -/
structure Ct (P : Program) (w : World) (K : PySem.W.Frag) (mg : Str → Option Value) (base : Heap) (N : List Str) (k : Nat) (S : Scope) (X : Cx) : Prop where
  eP : X.prog = P
  eW : X.w = w
  eK : X.K = K
  eM : X.mg = mg
  eB : X.base = base
  eN : X.N = N
  eS : X.env.scope = S
  calm : X.calm = true
  room : Room k X.A
/-- a name whose value stands in slot i -/
def nvC (N : List Str) (S : Scope) (i : Nat) (x : Str) : Bool := decide (N[i]? = some x) && (match S.names.lookup x with | some .local => true | some .cell => true | some .free => true | _ => false) && !(x == ("__debug__" : Str)) && !(x == ("__classdict__" : Str))
/-- .. that is stored to -/
def nlC (N : List Str) (S : Scope) (i : Nat) (x : Str) : Bool := decide (N[i]? = some x) && decide (S.names.lookup x = some .local)
def ncC (N : List Str) (S : Scope) (i : Nat) (x : Str) : Bool := decide (N[i]? = some x) && (match S.names.lookup x with | some .local => true | some .cell => true | _ => false)
/-- a global name -/
def ngC (S : Scope) (x : Str) : Bool := decide (S.names.lookup x = some .globalImplicit) && !(x == ("__debug__" : Str)) && !(x == ("__name__" : Str))
structure NV (N : List Str) (S : Scope) (i : Nat) (x : Str) : Prop where
  c : nvC N S i x = true
structure NL (N : List Str) (S : Scope) (i : Nat) (x : Str) : Prop where
  c : nlC N S i x = true
structure NC (N : List Str) (S : Scope) (i : Nat) (x : Str) : Prop where
  c : ncC N S i x = true
structure NG (S : Scope) (x : Str) : Prop where
  c : ngC S x = true
theorem NV.all {N : List Str} {S : Scope} {i : Nat} {x : Str} (n : NV N S i x) : N[i]? = some x ∧ Vis S x ∧ (x == ("__debug__" : Str)) = false ∧ (x == ("__classdict__" : Str)) = false := by
  have h := n.c
  unfold nvC at h
  simp only [Bool.and_eq_true, decide_eq_true_eq, Bool.not_eq_true'] at h
  obtain ⟨⟨⟨h1, h2⟩, h3⟩, h4⟩ := h
  refine ⟨h1, ?_, h3, h4⟩
  unfold Vis
  cases e : S.names.lookup x with
  | none => rw [e] at h2; cases h2
  | some k =>
    rw [e] at h2
    cases k with
    | «local» => exact .inl rfl
    | cell => exact .inr (.inl rfl)
    | free => exact .inr (.inr rfl)
    | _ => cases h2
theorem NL.all {N : List Str} {S : Scope} {i : Nat} {x : Str} (n : NL N S i x) : N[i]? = some x ∧ S.names.lookup x = some .local := by
  have h := n.c
  unfold nlC at h
  simpa only [Bool.and_eq_true, decide_eq_true_eq] using h
theorem NC.all {N : List Str} {S : Scope} {i : Nat} {x : Str} (n : NC N S i x) : N[i]? = some x ∧ L2.Loc S x := by
  have h := n.c
  unfold ncC at h
  simp only [Bool.and_eq_true, decide_eq_true_eq] at h
  refine ⟨h.1, ?_⟩
  have h2 := h.2
  unfold L2.Loc
  cases e : S.names.lookup x with
  | none => rw [e] at h2; cases h2
  | some k =>
    rw [e] at h2
    cases k with
    | «local» => exact .inl rfl
    | cell => exact .inr rfl
    | _ => cases h2
theorem NG.all {S : Scope} {x : Str} (n : NG S x) : S.names.lookup x = some .globalImplicit ∧ (x == ("__debug__" : Str)) = false ∧ x ≠ "__name__" := by
  have h := n.c
  unfold ngC at h
  simp only [Bool.and_eq_true, decide_eq_true_eq, Bool.not_eq_true'] at h
  obtain ⟨⟨h1, h2⟩, h3⟩ := h
  exact ⟨h1, h2, fun e => by rw [e] at h3; exact absurd h3 (by decide +kernel)⟩
section
variable {P : Program} {w : World} {K : PySem.W.Frag} {mg : Str → Option Value} {base : Heap} {N : List Str} {k : Nat} {S : Scope} {X : Cx} {W : WX}
theorem Ct.blk (c : Ct P w K mg base N k S X) (sc : Scope) (s : Shared) (H : Hp) (C : Addr) (cl : List (Str × Addr)) (fp : List Addr) : Ct P w K mg base N k (relS sc S) (X.blk s H sc (compEnvC sc cl C X.env) fp) := by
  obtain ⟨h1, h2, h3, h4, h5, h6, h7, h8, h9⟩ := c
  exact ⟨h1, h2, h3, h4, h5, h6, by rw [← h7]; rfl, h8, h9⟩
theorem Ct.mono {j : Nat} (c : Ct P w K mg base N k S X) (h : j ≤ k) : Ct P w K mg base N j S X := ⟨c.eP, c.eW, c.eK, c.eM, c.eB, c.eN, c.eS, c.calm, c.room.mono h⟩
theorem Ct.u (c : Ct P w K mg base N k S X) : X.A.units + 100 < cLine := by have := c.room.un; omega
theorem Ct.gl (c : Ct P w K mg base N k S X) {x : Str} (n : NG S x) : Gl X x := by
  unfold Gl Env.kindOf
  rw [c.eS]
  exact n.all.1
theorem Ct.mgn (c : Ct P w K mg base N k S X) {x : Str} (h : mg x = none) : X.mg x = none := by rw [c.eM]; exact h
theorem Ct.at (c : Ct P w K mg base N k S X) {x : Str} {i : Nat} (h : N[i]? = some x) : X.N[i]? = some x := by rw [c.eN]; exact h
theorem Ct.nd (c : Ct P w K mg base N k S X) (h : N.Nodup) : X.N.Nodup := by rw [c.eN]; exact h
/-! names -/
theorem Ct.var (c : Ct P w K mg base N k S X) (i : Nat) {x : Str} {pos : Pos} (n : NV N S i x) : AE X W (.Name x pos) (dVar i) :=
  ae_var i (c.at n.all.1) (by rw [c.eS]; exact n.all.2.1) n.all.2.2.1 n.all.2.2.2
/-! calls -/
section
variable {a : Expr} {es : List Expr} {fs : Den (List O)} {x : Str} {p pos : Pos}
theorem Ct.callB (c : Ct P w K mg base N k S X) {id : String} {r : List V → Hp → VK → Prop} {g : List D → Option O} (hs : SndC X.K r g) (hc : CallR X (.builtin id) r) (n : NG S x) (hm : mg x = none) (hv : bootBuiltins x = some (.builtin id)) (ha : AA X W (a :: es) fs)
    (he : starEach (a :: es) X.env = (false, eval a X.env) :: starEach es X.env := by rfl) (hpl : (backTo pos (starEach es X.env)).any (·.1) = false := by rfl) : AE X W (.Call (.Name x p) (a :: es) [] pos) (dVC g fs) :=
  ae_callB hs hc (c.gl n) (c.mgn hm) hv ha n.all.2.2 n.all.2.1 he hpl
theorem Ct.callT (c : Ct P w K mg base N k S X) {T : String} {r : List V → Hp → VK → Prop} {g : List D → Option O} (hs : SndC X.K r g) (hc : CallR X (.type T) r) (n : NG S x) (hm : mg x = none) (hv : bootBuiltins x = some (.type T)) (ha : AA X W (a :: es) fs)
    (he : starEach (a :: es) X.env = (false, eval a X.env) :: starEach es X.env := by rfl) (hpl : (backTo pos (starEach es X.env)).any (·.1) = false := by rfl) : AE X W (.Call (.Name x p) (a :: es) [] pos) (dVC g fs) :=
  ae_callTy hs hc (c.gl n) (c.mgn hm) hv ha n.all.2.2 n.all.2.1 he hpl
theorem Ct.call (c : Ct P w K mg base N k S X) {j : Nat} {g : FnD} (C : Callee P w K mg base x j g) (n : NG S x) (ha : AA X W (a :: es) fs) (hj : j ≤ k := by decide)
    (he : starEach (a :: es) X.env = (false, eval a X.env) :: starEach es X.env := by rfl) (hpl : (backTo pos (starEach es X.env)).any (·.1) = false := by rfl) : AE X W (.Call (.Name x p) (a :: es) [] pos) (dCall g fs) := by
  have C' : Callee X.prog X.w X.K X.mg X.base x j g := by rw [c.eP, c.eW, c.eK, c.eM, c.eB]; exact C
  exact ae_call C' (c.room.mono hj) (c.gl n) ha n.all.2.1 he hpl
theorem Ct.call0 (c : Ct P w K mg base N k S X) {j : Nat} {g : FnD} (C : Callee P w K mg base x j g) (n : NG S x) (hj : j ≤ k := by decide) : AE X W (.Call (.Name x p) [] [] pos) (dCall g dNil) := by
  have C' : Callee X.prog X.w X.K X.mg X.base x j g := by rw [c.eP, c.eW, c.eK, c.eM, c.eB]; exact C
  exact ae_call0 C' (c.room.mono hj) (c.gl n) n.all.2.1
end
/-! targets, statements -/
theorem Ct.gn (c : Ct P w K mg base N k S X) (i : Nat) {x : Str} {pos : Pos} (nd : N.Nodup) (n : NL N S i x) : AG X (.Name x pos) (gN i) [i] :=
  ag_name i (c.nd nd) (c.at n.all.1) (.inl (by rw [c.eS]; exact n.all.2)) (.inr (by rw [c.eS]; exact n.all.2))
theorem Ct.gc (c : Ct P w K mg base N k S X) (i : Nat) {x : Str} {pos : Pos} (nd : N.Nodup) (n : NC N S i x) (hf : X.fn x = true) : AG X (.Name x pos) (gN i) [i] :=
  ag_name i (c.nd nd) (c.at n.all.1) (by rw [c.eS]; exact n.all.2) (.inl hf)
theorem Ct.put (c : Ct P w K mg base N k S X) (hfn : X.fn = fun _ => true) (i : Nat) {x : Str} {e : Expr} {fe : Den O} {pos pos' : Pos} (nd : N.Nodup) (n : NC N S i x) (he : AE X W e fe) (hs : swapsWith e (some (.Name x pos')) pos.line X.env = pure false := by rfl) :
    AS X W (.Assign [.Name x pos'] e pos) (dPut i fe) :=
  as_put i (c.nd nd) (c.at n.all.1) (by rw [c.eS]; exact n.all.2) he hs (.inl (by rw [hfn]))
/-! comprehensions -/
section
variable {elt tg iter : Expr} {ifs : List Expr} {scope : Scope} {own : List (Str × Nat)} {pos : Pos} {t : Tg} {ws : List Nat} {ft : Den Bool} {fe : Den O} {fi : Den (List D)}
def wsC (ws : List Nat) (own : List (Str × Nat)) : Bool := ws.all fun j => decide (j ∈ own.map (·.2))
theorem wsC_of (h : wsC ws own = true) : ∀ j ∈ ws, j ∈ own.map (·.2) := fun j hj => of_decide_eq_true (List.all_eq_true.mp h j hj)
theorem Ct.blkOk (c : Ct P w K mg base N k S X) (h : blkC N S scope own = true) : BlkOk X.N X.env.scope scope own := by
  rw [c.eN, c.eS]
  exact blkOk_by h
theorem Ct.lc (c : Ct P w K mg base N k S X) (own : List (Str × Nat)) (nd : N.Nodup) (hi : AI X W tg iter fi) (ok : blkC N S scope own = true) (hws : wsC ws own = true)
    (hg : ∀ X', Ct P w K mg base N k (relS scope S) X' → X'.fn = (fun x => scope.names.lookup x == some .cell) → AG X' tg t ws) (ht : ∀ X', Ct P w K mg base N k (relS scope S) X' → ATs X' Wn ifs ft) (he : ∀ X', Ct P w K mg base N k (relS scope S) X' → AE X' Wn elt fe)
    (hs : ∀ x, foldedSetIterable iter X.env x = pure x := by intro _; rfl) : AE X W (.ListComp elt [⟨tg, iter, ifs, 0⟩] scope pos) (dLc (own.map (·.2)) fi t ft fe) :=
  ae_lc c.calm (c.nd nd) hi (c.blkOk ok) (wsC_of hws) (fun s H C cl fp => hg _ (c.blk scope s H C cl fp) rfl) (fun s H C cl fp => ht _ (c.blk scope s H C cl fp)) (fun s H C cl fp => he _ (c.blk scope s H C cl fp)) hs
theorem Ct.sortSet (c : Ct P w K mg base N k S X) (own : List (Str × Nat)) {p cpos : Pos} (nd : N.Nodup) (n : NG S "sorted") (hm : mg "sorted" = none) (hi : AI X W tg iter fi) (ok : blkC N S scope own = true) (hws : wsC ws own = true)
    (hg : ∀ X', Ct P w K mg base N k (relS scope S) X' → X'.fn = (fun x => scope.names.lookup x == some .cell) → AG X' tg t ws) (ht : ∀ X', Ct P w K mg base N k (relS scope S) X' → ATs X' Wn ifs ft) (he : ∀ X', Ct P w K mg base N k (relS scope S) X' → AE X' Wn elt fe)
    (hs : ∀ x, foldedSetIterable iter X.env x = pure x := by intro _; rfl) (hv : bootBuiltins "sorted" = some (.builtin "sorted") := by rfl)
    (hst : starEach [.SetComp elt [⟨tg, iter, ifs, 0⟩] scope pos] X.env = [(false, eval (.SetComp elt [⟨tg, iter, ifs, 0⟩] scope pos) X.env)] := by rfl) :
    AE X W (.Call (.Name "sorted" p) [.SetComp elt [⟨tg, iter, ifs, 0⟩] scope pos] [] cpos) (dSortSet (own.map (·.2)) fi t ft fe) :=
  ae_sortSet (by have := c.u; omega) (c.gl n) (c.mgn hm) c.calm (c.nd nd) hi (c.blkOk ok) (wsC_of hws) (fun s H C cl fp => hg _ (c.blk scope s H C cl fp) rfl) (fun s H C cl fp => ht _ (c.blk scope s H C cl fp)) (fun s H C cl fp => he _ (c.blk scope s H C cl fp)) hs hv hst
theorem Ct.putLc (c : Ct P w K mg base N k S X) (own : List (Str × Nat)) (i : Nat) {y : Str} {py spos : Pos} (nd : N.Nodup) (n : NL N S i y) (hi : AI X W tg iter fi) (ok : blkC N S scope own = true) (hws : wsC ws own = true)
    (hsw : swapsWith (.ListComp elt [⟨tg, iter, ifs, 0⟩] scope pos) (some (.Name y py)) spos.line (dE S) = pure true)
    (hg : ∀ X', Ct P w K mg base N k (relS scope S) X' → X'.fn = (fun x => scope.names.lookup x == some .cell) → AG X' tg t ws) (ht : ∀ X', Ct P w K mg base N k (relS scope S) X' → ATs X' Wn ifs ft) (he : ∀ X', Ct P w K mg base N k (relS scope S) X' → AE X' Wn elt fe)
    (hs : ∀ x, foldedSetIterable iter X.env x = pure x := by intro _; rfl) : AS X W (.Assign [.Name y py] (.ListComp elt [⟨tg, iter, ifs, 0⟩] scope pos) spos) (dPut i (dLc (own.map (·.2)) fi t ft fe)) :=
  as_putLc i c.calm (c.nd nd) (c.at n.all.1) (by rw [c.eS]; exact n.all.2) ((sw_env2 c.eS).trans hsw) hi (c.blkOk ok) (wsC_of hws) (fun s H C cl fp => hg _ (c.blk scope s H C cl fp) rfl) (fun s H C cl fp => ht _ (c.blk scope s H C cl fp)) (fun s H C cl fp => he _ (c.blk scope s H C cl fp)) hs
variable {J : Addr → Obj → List (Key × V) → It} {f : List (D × D) → List D} {i : Nat}
theorem Ct.lcD (c : Ct P w K mg base N k S X) (own : List (Str × Nat)) (nd : N.Nodup) (hi : DI X tg iter i J f) (ok : blkC N S scope own = true) (hws : wsC ws own = true)
    (hg : ∀ X', Ct P w K mg base N k (relS scope S) X' → X'.fn = (fun x => scope.names.lookup x == some .cell) → AG X' tg t ws) (ht : ∀ X', Ct P w K mg base N k (relS scope S) X' → ATs X' Wn ifs ft) (he : ∀ X', Ct P w K mg base N k (relS scope S) X' → AE X' Wn elt fe)
    (hs : ∀ x, foldedSetIterable iter X.env x = pure x := by intro _; rfl) : AE X W (.ListComp elt [⟨tg, iter, ifs, 0⟩] scope pos) (dLcD i f (own.map (·.2)) t ft fe) :=
  ae_lcD c.calm (c.nd nd) hi (c.blkOk ok) (wsC_of hws) (fun s H C cl fp => hg _ (c.blk scope s H C cl fp) rfl) (fun s H C cl fp => ht _ (c.blk scope s H C cl fp)) (fun s H C cl fp => he _ (c.blk scope s H C cl fp)) hs
theorem Ct.putLcD (c : Ct P w K mg base N k S X) (own : List (Str × Nat)) (j : Nat) {y : Str} {py spos : Pos} (nd : N.Nodup) (n : NL N S j y) (hi : DI X tg iter i J f) (ok : blkC N S scope own = true) (hws : wsC ws own = true)
    (hsw : swapsWith (.ListComp elt [⟨tg, iter, ifs, 0⟩] scope pos) (some (.Name y py)) spos.line (dE S) = pure true)
    (hg : ∀ X', Ct P w K mg base N k (relS scope S) X' → X'.fn = (fun x => scope.names.lookup x == some .cell) → AG X' tg t ws) (ht : ∀ X', Ct P w K mg base N k (relS scope S) X' → ATs X' Wn ifs ft) (he : ∀ X', Ct P w K mg base N k (relS scope S) X' → AE X' Wn elt fe)
    (hs : ∀ x, foldedSetIterable iter X.env x = pure x := by intro _; rfl) : AS X W (.Assign [.Name y py] (.ListComp elt [⟨tg, iter, ifs, 0⟩] scope pos) spos) (dPut j (dLcD i f (own.map (·.2)) t ft fe)) :=
  as_putLcD j c.calm (c.nd nd) (c.at n.all.1) (by rw [c.eS]; exact n.all.2) ((sw_env2 c.eS).trans hsw) hi (c.blkOk ok) (wsC_of hws) (fun s H C cl fp => hg _ (c.blk scope s H C cl fp) rfl) (fun s H C cl fp => ht _ (c.blk scope s H C cl fp)) (fun s H C cl fp => he _ (c.blk scope s H C cl fp)) hs
end
/-! what is walked -/
section
variable {tg a b : Expr} {es : List Expr} {fs : Den (List O)} {p pos : Pos}
theorem Ct.range1 (c : Ct P w K mg base N k S X) (n : NG S "range") (hm : mg "range" = none) (ha : AA X W [a] fs) (hs : starEach [a] X.env = [(false, eval a X.env)] := by rfl) : AI X W tg (.Call (.Name "range" p) [a] [] pos) (dItC dR1 fs) := ai_range1 (c.gl n) (c.mgn hm) ha hs
theorem Ct.range2 (c : Ct P w K mg base N k S X) (n : NG S "range") (hm : mg "range" = none) (ha : AA X W [a, b] fs) (hs : starEach [a, b] X.env = [(false, eval a X.env), (false, eval b X.env)] := by rfl) (hs2 : starEach [b] X.env = [(false, eval b X.env)] := by rfl) :
    AI X W tg (.Call (.Name "range" p) [a, b] [] pos) (dItC dR2 fs) := ai_range2 (c.gl n) (c.mgn hm) ha hs hs2
variable {elts : List Expr} {kk : Nat} {tpos : Pos}
theorem Ct.enum (c : Ct P w K mg base N k S X) (n : NG S "enumerate") (hm : mg "enumerate" = none) (ha : AA X W [a] fs) (hs : starEach [a] X.env = [(false, eval a X.env)] := by rfl) : AI X W (.Tuple elts kk tpos) (.Call (.Name "enumerate" p) [a] [] pos) (dItF enumL fs) := ai_enum (c.gl n) (c.mgn hm) ha hs
theorem Ct.zip (c : Ct P w K mg base N k S X) (n : NG S "zip") (hm : mg "zip" = none) (ha : AA X W [a, b] fs) (hs : starEach [a, b] X.env = (false, eval a X.env) :: starEach [b] X.env := by rfl) (hpl : (backTo pos (starEach [b] X.env)).any (·.1) = false := by rfl) :
    AI X W (.Tuple elts kk tpos) (.Call (.Name "zip" p) [a, b] [] pos) (dItF zipL fs) := ai_zip (c.gl n) (c.mgn hm) ha hs hpl
theorem Ct.keys (c : Ct P w K mg base N k S X) (i : Nat) {x : Str} (n : NV N S i x) : DI X tg (.Name x p) i Itk (fun ds => ds.map (·.1)) := di_keys (c.at n.all.1) (by rw [c.eS]; exact n.all.2.1) n.all.2.2.1 n.all.2.2.2
theorem Ct.items (c : Ct P w K mg base N k S X) (i : Nat) {x : Str} {apos cpos : Pos} (n : NV N S i x) (hbase : attributeBase (.Name x p) "items" X.env (eval (.Name x p) X.env) = eval (.Name x p) X.env := by rfl) (hline : (apos.endLine == cpos.line) = true := by rfl) :
    DI X (.Tuple elts kk tpos) (.Call (.Attribute (.Name x p) "items" apos) [] [] cpos) i Iti (fun ds => ds.map fun q => .tuple [q.1, q.2]) := di_items (c.at n.all.1) (by rw [c.eS]; exact n.all.2.1) n.all.2.2.1 n.all.2.2.2 hbase hline
/-! isinstance, sorted(reverse=) -/
variable {e : Expr} {fe : Den O} {p2 : Pos}
theorem Ct.isi1 (c : Ct P w K mg base N k S X) (T : Ty) {x : Str} (n : NG S "isinstance") (hm : mg "isinstance" = none) (he : AE X W e fe) (nx : NG S x) (hmx : mg x = none) (hvx : bootBuiltins x = some (.type T.nm))
    (hs : starEach [e, .Name x p2] X.env = (false, eval e X.env) :: starEach [.Name x p2] X.env := by rfl) (hs2 : starEach [.Name x p2] X.env = [(false, eval (.Name x p2) X.env)] := by rfl) (hpl : (backTo pos (starEach [.Name x p2] X.env)).any (·.1) = false := by rfl) :
    AE X W (.Call (.Name "isinstance" p) [e, .Name x p2] [] pos) (dU1 (dIsi [T]) fe) := ae_isi1 (c.gl n) (c.mgn hm) he (c.gl nx) (c.mgn hmx) hvx nx.all.2.2 nx.all.2.1 hs hs2 hpl
theorem Ct.tyc (c : Ct P w K mg base N k S X) (T : Ty) {Ts : List Ty} {x : Str} (nx : NG S x) (hmx : mg x = none) (hvx : bootBuiltins x = some (.type T.nm)) (h : TyEs X es Ts) (hs : starEach (.Name x p2 :: es) X.env = (false, eval (.Name x p2) X.env) :: starEach es X.env := by rfl) : TyEs X (.Name x p2 :: es) (T :: Ts) :=
  tyes_cons (c.gl nx) (c.mgn hmx) hvx h nx.all.2.2 nx.all.2.1 hs
theorem Ct.isiN (c : Ct P w K mg base N k S X) {Ts : List Ty} {kk : Nat} (n : NG S "isinstance") (hm : mg "isinstance" = none) (he : AE X W e fe) (ht : TyEs X es Ts) (hl : Ts.length ≤ 64 := by decide)
    (hs : starEach [e, .Tuple es kk tpos] X.env = (false, eval e X.env) :: starEach [.Tuple es kk tpos] X.env := by rfl) (hs2 : starEach [.Tuple es kk tpos] X.env = [(false, eval (.Tuple es kk tpos) X.env)] := by rfl) (hpl : (backTo pos (starEach [.Tuple es kk tpos] X.env)).any (·.1) = false := by rfl) :
    AE X W (.Call (.Name "isinstance" p) [e, .Tuple es kk tpos] [] pos) (dU1 (dIsi Ts) fe) := ae_isiN (c.gl n) (c.mgn hm) he ht hl hs hs2 hpl
end
/-! a def -/
/-- the promise of nothing -/
theorem ok_no {x qual : Str} {st : Stmt} {f : Addr} {fd : FuncData} {ps : List Str} {j : Nat} (F : Fun K x qual st f fd) (Sc : FnScope N ps (defScope st)) : FnOk P w K mg base CX0 (j + 1) f fd ps (spOf K mg fun _ => .no) := by
  refine F.ok Sc (fun vs H Q E h => ?_) (fun cdv A outer s H vs Q E hr h => ?_)
  · obtain ⟨_, _, _, _, _, _, h⟩ := h
    exact h.elim
  · obtain ⟨_, _, _, _, _, _, h⟩ := h
    exact h.elim
theorem ok_def {x qual : Str} {st : Stmt} {f : Addr} {fd : FuncData} {ps : List Str} {n : Nat} {own : Bool} {g : Den Fl} (F : Fun K x qual st f fd) (Sc : FnScope N ps (defScope st)) (hN : N.length = n)
    (hb : ∀ (X : Cx) (W : WX), Ct P w K mg base N k (defScope st) X → X.fn = (fun _ => true) → PassesOwn (model X.prog X.w) X.A X.env X.xe → ASs X W (defBody st) g) :
    FnOk P w K mg base CX0 (k + 1) f fd ps (spOf K mg fun ars => if ars.length = ps.length then runFn n own g ars else .no) :=
  ok_fn F Sc hN fun X W e1 e2 e3 e4 e5 e6 e7 e8 e9 e10 e11 => hb X W ⟨e4, e5, e1, e2, e6, e3, e7, e8, e11⟩ e9 e10
/-- what a def gives -/
def fnD (m n : Nat) (own : Bool) (g : Den Fl) : FnD := fun ars => if ars.length = m then runFn n own g ars else .no
end

section
variable {P : Program} {w : World} {K : PySem.W.Frag} {mg : Str → Option Value} {base : Heap} {N : List Str} {k : Nat} {S : Scope} {X : Cx} {W : WX}
theorem Ct.putS (c : Ct P w K mg base N k S X) (hfn : X.fn = fun _ => true) (i : Nat) {x : Str} {e : Expr} {fe : Den O} {pos pos' : Pos} (nd : N.Nodup) (n : NC N S i x) (he : AE X W e fe) (hs : swapsWith e (some (.Name x pos')) pos.line (dE S) = pure false) :
    AS X W (.Assign [.Name x pos'] e pos) (dPut i fe) :=
  as_put i (c.nd nd) (c.at n.all.1) (by rw [c.eS]; exact n.all.2) he ((sw_env2 c.eS).trans hs) (.inl (by rw [hfn]))
theorem Ct.par (c : Ct P w K mg base N k S X) (i j : Nat) {x y : Str} {a b : Expr} {px py pt pos : Pos} {kt k2 pt2} {fa : Den (List O)} (nd : N.Nodup) (hij : i ≠ j) (hx : NL N S i x) (hy : NL N S j y) (ha : AA X W [a, b] fa)
    (hw : swappedStores [.Tuple [.Name x px, .Name y py] kt pt] (.Tuple [a, b] k2 pt2) (dE S) = pure (some [x, y]))
    (hs : swapsWithSole [.Tuple [.Name x px, .Name y py] kt pt] (.Tuple [a, b] k2 pt2) pos.line X.env = pure false := by rfl) :
    AS X W (.Assign [.Tuple [.Name x px, .Name y py] kt pt] (.Tuple [a, b] k2 pt2) pos) (dPutL [i, j] fa) :=
  as_par c.calm (c.nd nd) (c.at hx.all.1) (c.at hy.all.1) hij (by rw [c.eS]; exact hx.all.2) (by rw [c.eS]; exact hy.all.2) ha ((sw_env c.eS).trans hw) hs
theorem Ct.par3 (c : Ct P w K mg base N k S X) (i j l : Nat) {x y z : Str} {a b d : Expr} {px py pz pt pos : Pos} {kt k2 pt2} {fa : Den (List O)} (nd : N.Nodup) (hij : i ≠ j) (hil : i ≠ l) (hjl : j ≠ l) (hx : NL N S i x) (hy : NL N S j y) (hz : NL N S l z) (ha : AA X W [a, b, d] fa)
    (hw : swappedStores [.Tuple [.Name x px, .Name y py, .Name z pz] kt pt] (.Tuple [a, b, d] k2 pt2) (dE S) = pure (some [x, y, z]))
    (hs : swapsWithSole [.Tuple [.Name x px, .Name y py, .Name z pz] kt pt] (.Tuple [a, b, d] k2 pt2) pos.line X.env = pure false := by rfl) :
    AS X W (.Assign [.Tuple [.Name x px, .Name y py, .Name z pz] kt pt] (.Tuple [a, b, d] k2 pt2) pos) (dPutL [i, j, l] fa) :=
  as_par3 c.calm (c.nd nd) (c.at hx.all.1) (c.at hy.all.1) (c.at hz.all.1) hij hil hjl (by rw [c.eS]; exact hx.all.2) (by rw [c.eS]; exact hy.all.2) (by rw [c.eS]; exact hz.all.2) ha ((sw_env c.eS).trans hw) hs
theorem Ct.asg (c : Ct P w K mg base N k S X) {tg e : Expr} {fe : Den O} {t : Tg} {ws : List Nat} {pos : Pos} (he : AE X W e fe) (hg : AG X tg t ws) (hw : swappedStores [tg] e (dE S) = pure none) (hs : swapsWithSole [tg] e pos.line X.env = pure false := by rfl)
    (h1 : (assignEach [tg] X.env).map (·.2) = [assign tg X.env] := by rfl) : AS X W (.Assign [tg] e pos) (dAsg t fe) := as_asg he hg hs ((sw_env c.eS).trans hw) h1
theorem Ct.for (c : Ct P w K mg base N k S X) (hp : PassesOwn (model X.prog X.w) X.A X.env X.xe) {tg iter : Expr} {body : List Stmt} {pos : Pos} {fi : Den (List D)} {t : Tg} {ws : List Nat} {g : Den Fl} (hi : AI X W tg iter fi) (hg : AG X tg t ws) (hb : ASs X W body g)
    (hs : ∀ x, foldedSetIterable iter X.env x = pure x := by intro _; rfl) : AS X W (.For tg iter body [] pos) (dFor fi t g) := as_for hp c.calm hi hg hb hs
theorem Ct.forD (c : Ct P w K mg base N k S X) (hp : PassesOwn (model X.prog X.w) X.A X.env X.xe) {tg iter : Expr} {body : List Stmt} {pos : Pos} {i : Nat} {J : Addr → Obj → List (Key × V) → It} {f : List (D × D) → List D} {t : Tg} {ws : List Nat} {g : Den Fl} (hi : DI X tg iter i J f) (hg : AG X tg t ws) (hb : ASs X W body g)
    (hs : ∀ x, foldedSetIterable iter X.env x = pure x := by intro _; rfl) : AS X W (.For tg iter body [] pos) (dForD i f t g) := as_forD hp c.calm hi hg hb hs
theorem Ct.sda (c : Ct P w K mg base N k S X) (i j l : Nat) {x y z : Str} {p1 p2 p3 p4 apos bpos cpos dpos : Pos} (hx : NV N S i x) (hy : NV N S j y) (hz : NV N S l z) (m : M2 X (.Name x p1) "setdefault" apos (.Name y p2) (.List [] p3) bpos := by exact ⟨rfl, rfl, rfl, rfl⟩)
    (hbase : attributeBase (.Call (.Attribute (.Name x p1) "setdefault" apos) [.Name y p2, .List [] p3] [] bpos) "append" X.env (eval (.Call (.Attribute (.Name x p1) "setdefault" apos) [.Name y p2, .List [] p3] [] bpos) X.env) = eval (.Call (.Attribute (.Name x p1) "setdefault" apos) [.Name y p2, .List [] p3] [] bpos) X.env := by rfl)
    (hfew : ((backTo dpos (starEach [.Name z p4] X.env)).all (fun x => !x.1) && (backToKw dpos (keywordEach [] X.env)).all (fun x => x.1.isSome) && decide (([.Name z p4] : List Expr).length + ([] : List Keyword).length + (if ([] : List Keyword).isEmpty then 0 else 1) < 30)) = true := by rfl)
    (hline : (cpos.endLine == dpos.line) = true := by rfl) (hs2 : starEach [.Name z p4] X.env = [(false, eval (.Name z p4) X.env)] := by rfl) (hplain : (backTo dpos (starEach ([] : List Expr) X.env)).any (·.1) = false := by rfl) :
    AE X W (.Call (.Attribute (.Call (.Attribute (.Name x p1) "setdefault" apos) [.Name y p2, .List [] p3] [] bpos) "append" cpos) [.Name z p4] [] dpos) (dSda i j l) :=
  ae_sda (c.at hx.all.1) (c.at hy.all.1) (c.at hz.all.1) (by rw [c.eS]; exact hx.all.2.1) (by rw [c.eS]; exact hy.all.2.1) (by rw [c.eS]; exact hz.all.2.1) m hbase hfew hline hs2 hplain hx.all.2.2.1 hy.all.2.2.1 hz.all.2.2.1 hx.all.2.2.2 hy.all.2.2.2 hz.all.2.2.2
theorem ix_ok {b : Expr} (h : ∀ o i, subscripted b false o i = operate [o, i] (getItem o i) := by intro _ _; rfl) : PlainIx b := h
end

section
variable {P : Program} {w : World} {K : PySem.W.Frag} {mg : Str → Option Value} {base : Heap} {N : List Str} {k : Nat} {S : Scope} {X : Cx} {W : WX}
theorem Ct.u64 (c : Ct P w K mg base N k S X) : X.A.units + 64 < cLine := by have := c.u; omega
theorem Ct.u65 (c : Ct P w K mg base N k S X) : X.A.units + 65 < cLine := by have := c.u; omega
theorem Ct.u1 (c : Ct P w K mg base N k S X) : X.A.units + 1 < cLine := by have := c.u; omega
theorem Ct.sortedK (c : Ct P w K mg base N k S X) {a : Expr} {es : List Expr} {fs : Den (List O)} {p pos kpos cp : Pos} {j : Nat} {b : Bool} {nm : Option Str} (n : NG S "sorted") (hm : mg "sorted" = none) (ha : AA X W (a :: es) fs)
    (he : backTo pos (starEach (a :: es) X.env) = (false, eval a X.env) :: backTo pos (starEach es X.env) := by rfl) (hpl : (backTo pos (starEach (a :: es) X.env)).any (·.1) = false := by rfl)
    (hall : (backToKw pos (keywordEach [⟨nm, .Constant (.bool b) j cp, kpos⟩] X.env)).all (·.1.isSome) = true := by rfl) (hnone : (backToKw pos (keywordEach [⟨nm, .Constant (.bool b) j cp, kpos⟩] X.env)).any (·.1.isNone) = false := by rfl)
    (hks : (backToKw pos (keywordEach [⟨nm, .Constant (.bool b) j cp, kpos⟩] X.env)).filterMap (·.1) = [Str.ofString "reverse"] := by rfl) :
    AE X W (.Call (.Name "sorted" p) (a :: es) [⟨nm, .Constant (.bool b) j cp, kpos⟩] pos) (dVC (dSorted b) fs) := ae_sortedK c.u65 (c.gl n) (c.mgn hm) ha he hpl hall hnone hks
section
variable {elt tg iter : Expr} {ifs : List Expr} {scope : Scope} {pos : Pos} {t : Tg} {ws : List Nat} {ft : Den Bool} {fe : Den O} {fi : Den (List D)}
/-- name = [..], the name owns nothing -/
theorem Ct.putLcF (c : Ct P w K mg base N k S X) (own : List (Str × Nat)) (i : Nat) {y : Str} {py spos : Pos} (nd : N.Nodup) (n : NL N S i y) (hi : AI X W tg iter fi) (ok : blkC N S scope own = true) (hws : wsC ws own = true)
    (hsw : swapsWith (.ListComp elt [⟨tg, iter, ifs, 0⟩] scope pos) (some (.Name y py)) spos.line (dE S) = pure true)
    (hg : ∀ X', Ct P w K mg base N k (relS scope S) X' → X'.fn = (fun x => scope.names.lookup x == some .cell) → AG X' tg t ws) (ht : ∀ X', Ct P w K mg base N k (relS scope S) X' → ATs X' Wn ifs ft) (he : ∀ X', Ct P w K mg base N k (relS scope S) X' → AE X' Wn elt fe)
    (hs : ∀ x, foldedSetIterable iter X.env x = pure x := by intro _; rfl) : AS X W (.Assign [.Name y py] (.ListComp elt [⟨tg, iter, ifs, 0⟩] scope pos) spos) (dPut i (dFix (dLc (own.map (·.2)) fi t ft fe))) :=
  ⟨(ps_setLc c.calm (c.nd nd) (c.at n.all.1) (by rw [c.eS]; exact n.all.2) ((sw_env2 c.eS).trans hsw) hi.pi (c.blkOk ok) (g := tG X t ws) (tt := tT X Wn ft) (te := tE X Wn fe) (fun s H C cl fp => ⟨(hg _ (c.blk scope s H C cl fp) rfl).pg.run⟩) (fun s H C cl fp => ⟨(ht _ (c.blk scope s H C cl fp)).pt.run⟩) (fun s H C cl fp => ⟨(he _ (c.blk scope s H C cl fp)).pe.run⟩) hs).imp
    fun E σ H h => tE_lc (Xb := fun _ => True) (Xc := X) (wsC_of hws) rfl rfl (tE_fix (setP_core h))⟩
variable {J : Addr → Obj → List (Key × V) → It} {f : List (D × D) → List D} {i : Nat}
theorem Ct.putLcDF (c : Ct P w K mg base N k S X) (own : List (Str × Nat)) (j : Nat) {y : Str} {py spos : Pos} (nd : N.Nodup) (n : NL N S j y) (hi : DI X tg iter i J f) (ok : blkC N S scope own = true) (hws : wsC ws own = true)
    (hsw : swapsWith (.ListComp elt [⟨tg, iter, ifs, 0⟩] scope pos) (some (.Name y py)) spos.line (dE S) = pure true)
    (hg : ∀ X', Ct P w K mg base N k (relS scope S) X' → X'.fn = (fun x => scope.names.lookup x == some .cell) → AG X' tg t ws) (ht : ∀ X', Ct P w K mg base N k (relS scope S) X' → ATs X' Wn ifs ft) (he : ∀ X', Ct P w K mg base N k (relS scope S) X' → AE X' Wn elt fe)
    (hs : ∀ x, foldedSetIterable iter X.env x = pure x := by intro _; rfl) : AS X W (.Assign [.Name y py] (.ListComp elt [⟨tg, iter, ifs, 0⟩] scope pos) spos) (dPut j (dFix (dLcD i f (own.map (·.2)) t ft fe))) := by
  obtain ⟨wi, hpi, hwi⟩ := hi.ex
  have P := ps_setLc (spos := spos) c.calm (c.nd nd) (c.at n.all.1) (by rw [c.eS]; exact n.all.2) ((sw_env2 c.eS).trans hsw) hpi (c.blkOk ok) (g := tG X t ws) (tt := tT X Wn ft) (te := tE X Wn fe) (fun s H C cl fp => ⟨(hg _ (c.blk scope s H C cl fp) rfl).pg.run⟩) (fun s H C cl fp => ⟨(ht _ (c.blk scope s H C cl fp)).pt.run⟩) (fun s H C cl fp => ⟨(he _ (c.blk scope s H C cl fp)).pe.run⟩) hs
  refine ⟨⟨fun pins s σ H E I0 h => ?_⟩⟩
  rcases lcD_core hi hwi (wsC_of hws) (tE_fix (setP_core h)) with q | q
  · exact P.run pins s σ H E I0 q
  · exact (ps_lock P).run pins s σ H E I0 q
end
end
/-! the script -/
def dLenS (i : Nat) : Den O := fun sl => match sl[i]? with
  | some (.scr ns) => .ok (.d (.int ns.length)) sl
  | _ => .no
def dIxS (i : Nat) (fi : Den O) : Den O := fun sl => match sl[i]? with
  | some (.scr ns) => (fi.bind fun o => match o with
    | .d (.int j) => Den.opt ((atI ns j).map fun z => .d (.int z))
    | _ => Den.no) sl
  | _ => .no
section
variable {P : Program} {w : World} {K : PySem.W.Frag} {mg : Str → Option Value} {base : Heap} {N : List Str} {k : Nat} {S : Scope} {X : Cx} {W : WX}
theorem Ct.lenS (c : Ct P w K mg base N k S X) (i : Nat) {x : Str} {p p2 pos : Pos} (n : NG S "len") (hm : mg "len" = none) (nx : NV N S i x) (hs : starEach [.Name x p2] X.env = [(false, eval (.Name x p2) X.env)] := by rfl) (hv : bootBuiltins "len" = some (.builtin "len") := by rfl) :
    AE X W (.Call (.Name "len" p) [.Name x p2] [] pos) (dLenS i) := by
  refine ⟨(pe_callB call_len_seq (c.gl n) (c.mgn hm) hv (pa_cons (pe_var (i := i) (c.at nx.all.1) (by rw [c.eS]; exact nx.all.2.1) nx.all.2.2.1 nx.all.2.2.2) pa_nil hs) n.all.2.2 n.all.2.1 hs rfl).imp fun σ H Q h => ?_⟩
  obtain ⟨pa, I, sl, fp, sr, h⟩ := h
  unfold dLenS at h
  cases e : sl[i]? with
  | none => simp only [e] at h; exact h.elim
  | some s =>
    cases s with
    | scr ns =>
      simp only [e] at h
      obtain ⟨_, a, ea, q⟩ := sr.slot i _ e
      refine ⟨_, join_some ea, a, _, rfl, .inl ((Le.of_sub sr.sub).sql q), ?_⟩
      rw [List.length_map]
      exact Po.ret sr h _ (.int _)
    | _ => simp only [e] at h; exact h.elim
theorem Ct.ixS (c : Ct P w K mg base N k S X) (i : Nat) {x : Str} {p2 pos : Pos} {b : Expr} {fi : Den O} (nx : NV N S i x) (hb : AE X W b fi) (hp : PlainIx b) : AE X W (.Subscript (.Name x p2) b pos) (dIxS i fi) := by
  refine ⟨(pe_ix ix_list (pe_var (i := i) (c.at nx.all.1) (by rw [c.eS]; exact nx.all.2.1) nx.all.2.2.1 nx.all.2.2.2) hb.pe hp).imp fun σ H Q h => ?_⟩
  obtain ⟨pa, I, sl, fp, sr, h⟩ := h
  unfold dIxS at h
  cases e : sl[i]? with
  | none => simp only [e] at h; exact h.elim
  | some s =>
    cases s with
    | scr ns =>
      simp only [e] at h
      obtain ⟨_, a, ea, q⟩ := sr.slot i _ e
      refine ⟨_, join_some ea, pa, I, sl, fp, sr, h.bind.mono fun o sl1 I1 H1 fp1 _ sr1 m1 hq v hv => ?_⟩
      cases o with
      | d d =>
        cases d with
        | int j =>
          cases hv
          cases ez : atI ns j with
          | none => simp only [ez] at hq; exact hq.elim
          | some z =>
            simp only [ez] at hq
            refine ⟨a, _, j, .int z, rfl, rfl, (Le.of_sub sr1.sub).sql (m1.tr.le.sql q), ?_, Po.ret sr1 (show Po X W pa σ I1 H1 fp1 (.ok (O.d (.int z)) sl1) _ from hq) _ (.int _)⟩
            unfold atI at ez ⊢
            rw [List.length_map]
            cases hx : ixN ns.length j with
            | none => rw [hx] at ez; cases ez
            | some m =>
              rw [hx] at ez
              show (ns.map V.int)[m]? = some (.int z)
              rw [List.getElem?_map, show ns[m]? = some z from ez]
              rfl
        | _ => exact hq.elim
      | _ => exact hq.elim
    | _ => simp only [e] at h; exact h.elim
end
/-! the law -/
def spL (K : PySem.W.Frag) : Sp := fun vs H Q _ => ∃ (a : Addr) (ns : List Int), vs = [.ref a] ∧ SqL K H a (ns.map V.int) ∧ ns.length ≤ 63 ∧ ∀ H', Q (.bl true) H'
theorem ok_law {P : Program} {w : World} {K : PySem.W.Frag} {mg : Str → Option Value} {base : Heap} {k : Nat} {f : Addr} {fd : FuncData} {ps : List Str} {g : FnD} (F : FnOk P w K mg base CX0 k f fd ps (spOf K mg g)) (h : ∀ ns : List Int, ns.length ≤ 63 → g [.scr ns] = .ret (.d (.bool true)) []) : FnOk P w K mg base CX0 k f fd ps (spL K) := by
  refine F.imp fun vs H Q E q => ?_
  obtain ⟨a, ns, rfl, hS, hl, k⟩ := q
  refine ⟨⟨[], []⟩, H, fun _ => [], [.scr ns], ⟨fun _ _ e => e, rfl, fun i s e => ?_, fun _ _ => rfl, fun i b hb => by simp at hb, fun _ => List.nodup_nil, fun _ _ _ b hb => by simp at hb, fun b hb => by simp at hb⟩, fun b ⟨i, hb⟩ => by simp at hb, ?_⟩
  · cases i with
    | zero =>
      cases e
      exact ⟨rfl, a, rfl, hS⟩
    | succ i => simp [slotsOf] at e
  · rw [h ns hl]
    intro v I' H' fp' ars' _ _ _ hv
    have hv : Rl K I' v (.bool true) := hv
    cases hv
    exact k H'
theorem walk_law {l : PySem.W.OpenLaw} {q : Program} {loose : List Str} {XP : (Str → Option Value) → Heap → Prop} {YP : World → Heap → Prop} {d : DefRec} {K : Params → PySem.W.Frag} {k : Nat} {x : Str} (hn : l.most = some 63) (hdf : d.params.defaults = []) (hr : Room k callerA)
    (hY : ∀ (w : World) (h : Heap), YP w h → (K w.params).In h)
    (F : ∀ (w : World) (mg : Str → Option Value) (fa : Addr) (h : Heap), (K w.params).In h → h.Ns mainGlobals mg → mg d.name = some (.ref fa) →
      ∃ fd : FuncData, (∀ (s : Shared) (u : Value), BindsTo s fd ⟨[u], []⟩ [(x, u)]) ∧ ∀ base : Heap, (K w.params).In base → base.Ns mainGlobals mg → FnOk l.prog w (K w.params) mg base CX0 k fa fd [x] (spL (K w.params))) :
    PySem.W.WalkO q loose XP YP l.row.toRowW d [] (fun f vs => PySem.call f vs) :=
  L2.walk_of (n := 63) (CX := fun _ => CX0) (sp := fun w => spL (K w.params)) hn (by decide) hdf hr hY F (fun _ _ a ns hl _ hS => ⟨a, ns, rfl, hS, hl, fun _ => rfl⟩) fun _ _ _ _ _ z => z
end AL
end
section
set_option Elab.async false
set_option linter.all false
set_option maxRecDepth 100000
set_option maxHeartbeats 4000000
set_option autoImplicit false
namespace K61
open PySem PySem.Spec PyProof.Rows L2 AL
def tp (i : Nat) : Stmt := PySem.Challenge.pw_balconyrow_k61_known_needs.main.body.getD i (.Pass ⟨0, 0, 0, 0⟩)
structure Mg (mg : Str → Option Value) : Prop where
  n_abs : mg "abs" = none
  n_all : mg "all" = none
  n_bool : mg "bool" = none
  n_enumerate : mg "enumerate" = none
  n_int : mg "int" = none
  n_isinstance : mg "isinstance" = none
  n_len : mg "len" = none
  n_list : mg "list" = none
  n_max : mg "max" = none
  n_min : mg "min" = none
  n_range : mg "range" = none
  n_sorted : mg "sorted" = none
  n_str : mg "str" = none
  n_tuple : mg "tuple" = none
  n_zip : mg "zip" = none
section
variable {P : Program} {w : World} {K : PySem.W.Frag} {mg : Str → Option Value} {base : Heap}
/-! _law_take -/
abbrev st_law_take : Stmt := tp 20
def N_law_take : List Str := ["_law_pot_here", "_law_bound", "_law_found", "_law_once"]
theorem nd_law_take : N_law_take.Nodup := by decide +kernel
theorem sc_law_take : FnScope N_law_take ["_law_pot_here", "_law_bound"] (defScope st_law_take) := ⟨rfl, rfl, rfl, nd_law_take, rfl, by decide +kernel, by decide +kernel⟩
def d_law_take_1 (self : FnD) : Den Fl :=
    dIfS (dB (dV2 dGt (dV2 dIx (dVar 0) (dC (.int 0))) (dC (.int 0)))) (dSeq (dPut 2 (dV2 dMod (dV2 dIx (dVar 0) (dC (.int 0))) (dVar 1)))
    (dSeq (dSet mSetL (dVar 0) (dC (.int 0)) (dV2 dFdiv (dV2 dIx (dVar 0) (dC (.int 0))) (dVar 1)))
    (dRet (dVar 2)))) (dSkip)
def d_law_take_2 (self : FnD) : Den Fl :=
    dIfS (dB (dV2 dGt (dVar 1) (dV2 dPow (dC (.int 10)) (dC (.int 7))))) (dRet (dV2 dMod (dV2 dAdd (dCall self (dCons (dVar 0) (dCons (dV2 dPow (dC (.int 10)) (dC (.int 7))) (dNil)))) (dV2 dMul (dV2 dPow (dC (.int 10)) (dC (.int 7))) (dCall self (dCons (dVar 0) (dCons (dFix (dV2 dAdd (dV2 dFdiv (dVar 1) (dV2 dPow (dC (.int 10)) (dC (.int 7)))) (dC (.int 1)))) (dNil)))))) (dVar 1))) (dSkip)
def d_law_take_3 (self : FnD) : Den Fl :=
    dSet mSetL (dVar 0) (dC (.int 2)) (dV2 dAdd (dV2 dIx (dVar 0) (dC (.int 2))) (dC (.int 1)))
def d_law_take_4 (self : FnD) : Den Fl :=
    dPut 3 (dV2 dMod (dV2 dPow (dV2 dAdd (dV2 dIx (dVar 0) (dC (.int 1))) (dV2 dMul (dC (.int 52774)) (dV2 dIx (dVar 0) (dC (.int 2))))) (dC (.int 3))) (dC (.int 2147483563)))
def d_law_take_5 (self : FnD) : Den Fl :=
    dRet (dV2 dMod (dV2 dFdiv (dV2 dMod (dV2 dAdd (dV2 dMul (dVar 3) (dV2 dAdd (dV2 dMod (dVar 3) (dC (.int 40013))) (dC (.int 11)))) (dV2 dMul (dV2 dIx (dVar 0) (dC (.int 2))) (dC (.int 6089)))) (dC (.int 2147483647))) (dC (.int 32))) (dVar 1))
def d_law_take (self : FnD) : Den Fl :=
    dSeq (d_law_take_1 self)
    (dSeq (d_law_take_2 self)
    (dSeq (d_law_take_3 self)
    (dSeq (d_law_take_4 self)
    (d_law_take_5 self))))
def F_law_take : Nat → FnD
  | 0 => fun _ => .no
  | n + 1 => fnD 2 4 false (d_law_take (F_law_take n))
theorem ok_law_take (T : Mg mg) {f : Addr} {fd : FuncData} (F : Fun K "_law_take" "_law_take" st_law_take f fd) (b : Binds K fd ["_law_pot_here", "_law_bound"] []) (hm : mg "_law_take" = some (.ref f)) (hk : PySem.W.keepIn K (.ref f) = true)  : ∀ n : Nat, FnOk P w K mg base CX0 (1 + n) f fd ["_law_pot_here", "_law_bound"] (spOf K mg (F_law_take n))
  | 0 => ok_no F sc_law_take
  | n + 1 => by
    have C_law_take : Callee P w K mg base "_law_take" (1 + n) (F_law_take n) := ⟨f, fd, ["_law_pot_here", "_law_bound"], ok_law_take T F b hm hk  n, b, hm, hk⟩
    refine ok_def (k := 1 + n) F sc_law_take rfl fun X W c hfn hp => ?_
    unfold d_law_take
    exact (ass_cons (as_if (at_cmp op_gt snd_gt (ae_ix (ix_any c.u1) snd_ix (c.var 0 ⟨by decide +kernel⟩) ae_int ix_ok) ae_int (nomark _)) (ass_cons (c.put hfn 2 nd_law_take ⟨by decide +kernel⟩ (ae_bin op_mod snd_mod (ae_ix (ix_any c.u1) snd_ix (c.var 0 ⟨by decide +kernel⟩) ae_int ix_ok) (c.var 1 ⟨by decide +kernel⟩)))
    (ass_cons (as_sub snd_setL set_list (ae_bin op_fdivW snd_fdiv (ae_ix (ix_any c.u1) snd_ix (c.var 0 ⟨by decide +kernel⟩) ae_int ix_ok) (c.var 1 ⟨by decide +kernel⟩)) (c.var 0 ⟨by decide +kernel⟩) ae_int)
    (ass_one (as_ret (c.var 2 ⟨by decide +kernel⟩))))) ass_nil)
    (ass_cons (as_if (at_cmp op_gt snd_gt (c.var 1 ⟨by decide +kernel⟩) (ae_bin op_pow snd_pow ae_int ae_int) (nomark _)) (ass_one (as_ret (ae_bin op_mod snd_mod (ae_bin op_addA snd_add (c.call C_law_take ⟨by decide +kernel⟩ (aa_cons (c.var 0 ⟨by decide +kernel⟩) (aa_cons (ae_bin op_pow snd_pow ae_int ae_int) aa_nil)) (by omega)) (ae_bin op_mulA snd_mul (ae_bin op_pow snd_pow ae_int ae_int) (c.call C_law_take ⟨by decide +kernel⟩ (aa_cons (c.var 0 ⟨by decide +kernel⟩) (aa_cons (ae_fix (ae_bin op_addA snd_add (ae_bin op_fdivW snd_fdiv (c.var 1 ⟨by decide +kernel⟩) (ae_bin op_pow snd_pow ae_int ae_int)) ae_int)) aa_nil)) (by omega)))) (c.var 1 ⟨by decide +kernel⟩)))) ass_nil)
    (ass_cons (as_sub snd_setL set_list (ae_bin op_addA snd_add (ae_ix (ix_any c.u1) snd_ix (c.var 0 ⟨by decide +kernel⟩) ae_int ix_ok) ae_int) (c.var 0 ⟨by decide +kernel⟩) ae_int)
    (ass_cons (c.put hfn 3 nd_law_take ⟨by decide +kernel⟩ (ae_bin op_mod snd_mod (ae_bin op_pow snd_pow (ae_bin op_addA snd_add (ae_ix (ix_any c.u1) snd_ix (c.var 0 ⟨by decide +kernel⟩) ae_int ix_ok) (ae_bin op_mulA snd_mul ae_int (ae_ix (ix_any c.u1) snd_ix (c.var 0 ⟨by decide +kernel⟩) ae_int ix_ok))) ae_int) ae_int))
    (ass_one (as_ret (ae_bin op_mod snd_mod (ae_bin op_fdivW snd_fdiv (ae_bin op_mod snd_mod (ae_bin op_addA snd_add (ae_bin op_mulA snd_mul (c.var 3 ⟨by decide +kernel⟩) (ae_bin op_addA snd_add (ae_bin op_mod snd_mod (c.var 3 ⟨by decide +kernel⟩) ae_int) ae_int)) (ae_bin op_mulA snd_mul (ae_ix (ix_any c.u1) snd_ix (c.var 0 ⟨by decide +kernel⟩) ae_int ix_ok) ae_int)) ae_int) ae_int) (c.var 1 ⟨by decide +kernel⟩))))))))
/-! _law_same -/
abbrev st_law_same : Stmt := tp 21
def N_law_same : List Str := ["_law_found", "_law_due", "_law_lone", "_law_mate"]
theorem nd_law_same : N_law_same.Nodup := by decide +kernel
theorem sc_law_same : FnScope N_law_same ["_law_found", "_law_due"] (defScope st_law_same) := ⟨rfl, rfl, rfl, nd_law_same, rfl, by decide +kernel, by decide +kernel⟩
def d_law_same_1 (self : FnD) : Den Fl :=
    dIfS (dB (dU1 (dIsi [.list, .tuple]) (dVar 1))) (dSeq (dIfS (dOrT (dB (dV2 dNe (dU1 (dIsi [.list]) (dVar 0)) (dU1 (dIsi [.list]) (dVar 1)))) (dB (dV2 dNe (dU1 (dIsi [.tuple]) (dVar 0)) (dU1 (dIsi [.tuple]) (dVar 1))))) (dRet (dC (.bool false))) (dSkip))
    (dRet (dAndV (dV2 dEq (dVC dLen (dCons (dVar 0) (dNil))) (dVC dLen (dCons (dVar 1) (dNil)))) (dVC dAll (dCons (dLc [2, 3] (dItF zipL (dCons (dVar 0) (dCons (dVar 1) (dNil)))) (gT (gsCons (gN 2) (gsCons (gN 3) (gsNil)))) (Den.ret true) (dCall self (dCons (dVar 2) (dCons (dVar 3) (dNil))))) (dNil)))))) (dSkip)
def d_law_same_2 (self : FnD) : Den Fl :=
    dIfS (dOrT (dB (dV2 dIsN (dVar 1) (dC .none))) (dB (dU1 (dIsi [.str]) (dVar 1)))) (dRet (dAndV (dV2 dEq (dVar 0) (dVar 1)) (dV2 dEq (dU1 (dIsi [.str]) (dVar 0)) (dU1 (dIsi [.str]) (dVar 1))))) (dSkip)
def d_law_same_3 (self : FnD) : Den Fl :=
    dRet (dAndV (dU1 (dIsi [.int]) (dVar 0)) (dAndV (dV2 dEq (dU1 (dIsi [.bool]) (dVar 0)) (dU1 (dIsi [.bool]) (dVar 1))) (dV2 dEq (dVar 0) (dVar 1))))
def d_law_same (self : FnD) : Den Fl :=
    dSeq (d_law_same_1 self)
    (dSeq (d_law_same_2 self)
    (d_law_same_3 self))
def F_law_same : Nat → FnD
  | 0 => fun _ => .no
  | n + 1 => fnD 2 4 false (d_law_same (F_law_same n))
theorem ok_law_same (T : Mg mg) {f : Addr} {fd : FuncData} (F : Fun K "_law_same" "_law_same" st_law_same f fd) (b : Binds K fd ["_law_found", "_law_due"] []) (hm : mg "_law_same" = some (.ref f)) (hk : PySem.W.keepIn K (.ref f) = true)  : ∀ n : Nat, FnOk P w K mg base CX0 (1 + n) f fd ["_law_found", "_law_due"] (spOf K mg (F_law_same n))
  | 0 => ok_no F sc_law_same
  | n + 1 => by
    have C_law_same : Callee P w K mg base "_law_same" (1 + n) (F_law_same n) := ⟨f, fd, ["_law_found", "_law_due"], ok_law_same T F b hm hk  n, b, hm, hk⟩
    refine ok_def (k := 1 + n) F sc_law_same rfl fun X W c hfn hp => ?_
    unfold d_law_same
    exact (ass_cons (as_if (at_val (c.isiN ⟨by decide +kernel⟩ T.n_isinstance (c.var 1 ⟨by decide +kernel⟩) (c.tyc .list ⟨by decide +kernel⟩ T.n_list rfl (c.tyc .tuple ⟨by decide +kernel⟩ T.n_tuple rfl tyes_nil)))) (ass_cons (as_if (AW.at (aw_or (at_cmp (op_neD c.u64) snd_ne (c.isi1 .list ⟨by decide +kernel⟩ T.n_isinstance (c.var 0 ⟨by decide +kernel⟩) ⟨by decide +kernel⟩ T.n_list rfl) (c.isi1 .list ⟨by decide +kernel⟩ T.n_isinstance (c.var 1 ⟨by decide +kernel⟩) ⟨by decide +kernel⟩ T.n_list rfl) (nomark _)) (aw_or1 (at_cmp (op_neD c.u64) snd_ne (c.isi1 .tuple ⟨by decide +kernel⟩ T.n_isinstance (c.var 0 ⟨by decide +kernel⟩) ⟨by decide +kernel⟩ T.n_tuple rfl) (c.isi1 .tuple ⟨by decide +kernel⟩ T.n_isinstance (c.var 1 ⟨by decide +kernel⟩) ⟨by decide +kernel⟩ T.n_tuple rfl) (nomark _))))) (ass_one (as_ret ae_bl)) ass_nil)
    (ass_one (as_ret (ae_and (ae_cmp (op_eqD c.u64) snd_eq (c.callB snd_len call_lenA ⟨by decide +kernel⟩ T.n_len rfl (aa_cons (c.var 0 ⟨by decide +kernel⟩) aa_nil)) (c.callB snd_len call_lenA ⟨by decide +kernel⟩ T.n_len rfl (aa_cons (c.var 1 ⟨by decide +kernel⟩) aa_nil)) (nomark _)) (ae_one (c.callB snd_all (cr_all c.calm) ⟨by decide +kernel⟩ T.n_all rfl (aa_cons (c.lc [("_law_lone", 2), ("_law_mate", 3)] nd_law_same (c.zip ⟨by decide +kernel⟩ T.n_zip (aa_cons (c.var 0 ⟨by decide +kernel⟩) (aa_cons (c.var 1 ⟨by decide +kernel⟩) aa_nil))) (by decide +kernel) (by decide +kernel) (fun X c hf => (ag_tup (X := X) c.calm (ags_cons (c.gn 2 nd_law_same ⟨by decide +kernel⟩) (ags_cons (c.gn 3 nd_law_same ⟨by decide +kernel⟩) ags_nil)) (gsCons_len (gsCons_len gsNil_len)))) (fun X c => ats_nil) (fun X c => (c.call C_law_same ⟨by decide +kernel⟩ (aa_cons (c.var 2 ⟨by decide +kernel⟩) (aa_cons (c.var 3 ⟨by decide +kernel⟩) aa_nil)) (by omega)))) aa_nil))))))) ass_nil)
    (ass_cons (as_if (AW.at (aw_or (at_cmp op_isN snd_isN (c.var 1 ⟨by decide +kernel⟩) ae_non (nomark _)) (aw_or1 (at_val (c.isi1 .str ⟨by decide +kernel⟩ T.n_isinstance (c.var 1 ⟨by decide +kernel⟩) ⟨by decide +kernel⟩ T.n_str rfl))))) (ass_one (as_ret (ae_and (ae_cmp (op_eqD c.u64) snd_eq (c.var 0 ⟨by decide +kernel⟩) (c.var 1 ⟨by decide +kernel⟩) (nomark _)) (ae_one (ae_cmp (op_eqD c.u64) snd_eq (c.isi1 .str ⟨by decide +kernel⟩ T.n_isinstance (c.var 0 ⟨by decide +kernel⟩) ⟨by decide +kernel⟩ T.n_str rfl) (c.isi1 .str ⟨by decide +kernel⟩ T.n_isinstance (c.var 1 ⟨by decide +kernel⟩) ⟨by decide +kernel⟩ T.n_str rfl) (nomark _)))))) ass_nil)
    (ass_one (as_ret (ae_and (c.isi1 .int ⟨by decide +kernel⟩ T.n_isinstance (c.var 0 ⟨by decide +kernel⟩) ⟨by decide +kernel⟩ T.n_int rfl) (ae_and (ae_cmp (op_eqD c.u64) snd_eq (c.isi1 .bool ⟨by decide +kernel⟩ T.n_isinstance (c.var 0 ⟨by decide +kernel⟩) ⟨by decide +kernel⟩ T.n_bool rfl) (c.isi1 .bool ⟨by decide +kernel⟩ T.n_isinstance (c.var 1 ⟨by decide +kernel⟩) ⟨by decide +kernel⟩ T.n_bool rfl) (nomark _)) (ae_one (ae_cmp (op_eqD c.u64) snd_eq (c.var 0 ⟨by decide +kernel⟩) (c.var 1 ⟨by decide +kernel⟩) (nomark _)))))))))
/-! place_of -/
abbrev st_place_of : Stmt := tp 6
def N_place_of : List Str := ["row", "who", "found", "place", "one"]
theorem nd_place_of : N_place_of.Nodup := by decide +kernel
theorem sc_place_of : FnScope N_place_of ["row", "who"] (defScope st_place_of) := ⟨rfl, rfl, rfl, nd_place_of, rfl, by decide +kernel, by decide +kernel⟩
def d_place_of_1 : Den Fl :=
    dPut 2 (dFix (dLc [3, 4] (dItF enumL (dCons (dVar 0) (dNil))) (gT (gsCons (gN 3) (gsCons (gN 4) (gsNil)))) (dB (dV2 dEq (dVar 4) (dVar 1))) (dVar 3)))
def d_place_of_2 : Den Fl :=
    dIfS (dB (dV2 dEq (dVar 2) (dLst (dNil)))) (Den.no) (dSkip)
def d_place_of_3 : Den Fl :=
    dRet (dV2 dIx (dVar 2) (dC (.int 0)))
def d_place_of : Den Fl :=
    dSeq (d_place_of_1)
    (dSeq (d_place_of_2)
    (d_place_of_3))
def F_place_of : FnD := fnD 2 5 false d_place_of
theorem ok_place_of (T : Mg mg) {f : Addr} {fd : FuncData} (F : Fun K "place_of" "place_of" st_place_of f fd)  : FnOk P w K mg base CX0 1 f fd ["row", "who"] (spOf K mg F_place_of) := by
  refine ok_def (k := 0) F sc_place_of rfl fun X W c hfn hp => ?_
  unfold d_place_of
  exact (ass_cons (c.putLcF [("place", 3), ("one", 4)] 2 nd_place_of ⟨by decide +kernel⟩ (c.enum ⟨by decide +kernel⟩ T.n_enumerate (aa_cons (c.var 0 ⟨by decide +kernel⟩) aa_nil)) (by decide +kernel) (by decide +kernel) rfl (fun X c hf => (ag_tup (X := X) c.calm (ags_cons (c.gn 3 nd_place_of ⟨by decide +kernel⟩) (ags_cons (c.gn 4 nd_place_of ⟨by decide +kernel⟩) ags_nil)) (gsCons_len (gsCons_len gsNil_len)))) (fun X c => (ats_one (at_cmp (op_eqD c.u64) snd_eq (c.var 4 ⟨by decide +kernel⟩) (c.var 1 ⟨by decide +kernel⟩) (nomark _)))) (fun X c => (c.var 3 ⟨by decide +kernel⟩)))
    (ass_cons (as_if (at_cmp (op_eqD c.u64) snd_eq (c.var 2 ⟨by decide +kernel⟩) (ae_lst aa_nil) (nomark _)) (ass_one as_never) ass_nil)
    (ass_one (as_ret (ae_ix (ix_any c.u1) snd_ix (c.var 2 ⟨by decide +kernel⟩) ae_int ix_ok)))))
/-! taller_ahead -/
abbrev st_taller_ahead : Stmt := tp 7
def N_taller_ahead : List Str := ["row", "who", "one"]
theorem nd_taller_ahead : N_taller_ahead.Nodup := by decide +kernel
theorem sc_taller_ahead : FnScope N_taller_ahead ["row", "who"] (defScope st_taller_ahead) := ⟨rfl, rfl, rfl, nd_taller_ahead, rfl, by decide +kernel, by decide +kernel⟩
def d_taller_ahead_1 : Den Fl :=
    dRet (dVC dLen (dCons (dLc [2] (dItems (dSl (dVar 0) (Den.ret none) (dPart (dCall F_place_of (dCons (dVar 0) (dCons (dVar 1) (dNil))))))) (gN 2) (dB (dV2 dGt (dVar 2) (dVar 1))) (dVar 2)) (dNil)))
def d_taller_ahead : Den Fl :=
    d_taller_ahead_1
def F_taller_ahead : FnD := fnD 2 3 false d_taller_ahead
theorem ok_taller_ahead (T : Mg mg) {f : Addr} {fd : FuncData} (F : Fun K "taller_ahead" "taller_ahead" st_taller_ahead f fd) (C_place_of : Callee P w K mg base "place_of" 1 F_place_of) : FnOk P w K mg base CX0 2 f fd ["row", "who"] (spOf K mg F_taller_ahead) := by
  refine ok_def (k := 1) F sc_taller_ahead rfl fun X W c hfn hp => ?_
  unfold d_taller_ahead
  exact (ass_one (as_ret (c.callB snd_len call_lenA ⟨by decide +kernel⟩ T.n_len rfl (aa_cons (c.lc [("one", 2)] nd_taller_ahead (ai_any (ae_sl (c.var 0 ⟨by decide +kernel⟩) ao_none (ao_some (c.call C_place_of ⟨by decide +kernel⟩ (aa_cons (c.var 0 ⟨by decide +kernel⟩) (aa_cons (c.var 1 ⟨by decide +kernel⟩) aa_nil)) (by omega))))) (by decide +kernel) (by decide +kernel) (fun X c hf => (c.gn 2 nd_taller_ahead ⟨by decide +kernel⟩)) (fun X c => (ats_one (at_cmp op_gt snd_gt (c.var 2 ⟨by decide +kernel⟩) (c.var 1 ⟨by decide +kernel⟩) (nomark _)))) (fun X c => (c.var 2 ⟨by decide +kernel⟩))) aa_nil))))
/-! folk_of -/
abbrev st_folk_of : Stmt := tp 5
def N_folk_of : List Str := ["row"]
theorem nd_folk_of : N_folk_of.Nodup := by decide +kernel
theorem sc_folk_of : FnScope N_folk_of ["row"] (defScope st_folk_of) := ⟨rfl, rfl, rfl, nd_folk_of, rfl, by decide +kernel, by decide +kernel⟩
def d_folk_of_1 : Den Fl :=
    dRet (dVC dTuple (dCons (dVC (dSorted true) (dCons (dVar 0) (dNil))) (dNil)))
def d_folk_of : Den Fl :=
    d_folk_of_1
def F_folk_of : FnD := fnD 1 1 false d_folk_of
theorem ok_folk_of (T : Mg mg) {f : Addr} {fd : FuncData} (F : Fun K "folk_of" "folk_of" st_folk_of f fd)  : FnOk P w K mg base CX0 1 f fd ["row"] (spOf K mg F_folk_of) := by
  refine ok_def (k := 0) F sc_folk_of rfl fun X W c hfn hp => ?_
  unfold d_folk_of
  exact (ass_one (as_ret (c.callT snd_tuple call_tuple_of ⟨by decide +kernel⟩ T.n_tuple rfl (aa_cons (c.sortedK ⟨by decide +kernel⟩ T.n_sorted (aa_cons (c.var 0 ⟨by decide +kernel⟩) aa_nil)) aa_nil))))
/-! code_of -/
abbrev st_code_of : Stmt := tp 9
def N_code_of : List Str := ["row", "who"]
theorem nd_code_of : N_code_of.Nodup := by decide +kernel
theorem sc_code_of : FnScope N_code_of ["row"] (defScope st_code_of) := ⟨rfl, rfl, rfl, nd_code_of, rfl, by decide +kernel, by decide +kernel⟩
def d_code_of_1 : Den Fl :=
    dRet (dVC dTuple (dCons (dLc [1] (dItems (dCall F_folk_of (dCons (dVar 0) (dNil)))) (gN 1) (Den.ret true) (dCall F_taller_ahead (dCons (dVar 0) (dCons (dVar 1) (dNil))))) (dNil)))
def d_code_of : Den Fl :=
    d_code_of_1
def F_code_of : FnD := fnD 1 2 false d_code_of
theorem ok_code_of (T : Mg mg) {f : Addr} {fd : FuncData} (F : Fun K "code_of" "code_of" st_code_of f fd) (C_taller_ahead : Callee P w K mg base "taller_ahead" 2 F_taller_ahead) (C_folk_of : Callee P w K mg base "folk_of" 1 F_folk_of) : FnOk P w K mg base CX0 3 f fd ["row"] (spOf K mg F_code_of) := by
  refine ok_def (k := 2) F sc_code_of rfl fun X W c hfn hp => ?_
  unfold d_code_of
  exact (ass_one (as_ret (c.callT snd_tuple call_tuple_of ⟨by decide +kernel⟩ T.n_tuple rfl (aa_cons (c.lc [("who", 1)] nd_code_of (ai_any (c.call C_folk_of ⟨by decide +kernel⟩ (aa_cons (c.var 0 ⟨by decide +kernel⟩) aa_nil) (by omega))) (by decide +kernel) (by decide +kernel) (fun X c hf => (c.gn 1 nd_code_of ⟨by decide +kernel⟩)) (fun X c => ats_nil) (fun X c => (c.call C_taller_ahead ⟨by decide +kernel⟩ (aa_cons (c.var 0 ⟨by decide +kernel⟩) (aa_cons (c.var 1 ⟨by decide +kernel⟩) aa_nil)) (by omega)))) aa_nil))))
/-! needs_to_know -/
abbrev st_needs_to_know : Stmt := tp 11
def N_needs_to_know : List Str := ["row", "found", "taller", "ahead", "need"]
theorem nd_needs_to_know : N_needs_to_know.Nodup := by decide +kernel
theorem sc_needs_to_know : FnScope N_needs_to_know ["row"] (defScope st_needs_to_know) := ⟨rfl, rfl, rfl, nd_needs_to_know, rfl, by decide +kernel, by decide +kernel⟩
def d_needs_to_know_1 : Den Fl :=
    dPut 1 (dLst (dNil))
def d_needs_to_know_b1 : Den Fl :=
    dSeq (dIfS (dB (dV2 dGt (dVar 3) (dC (.int 0)))) (dExpr (dMt "list" mAppend (dVar 1) (dCons (dTup (dCons (dVar 3) (dCons (dFix (dV2 dAdd (dV2 dSub (dVar 2) (dVar 3)) (dC (.int 1)))) (dNil)))) (dNil)))) (dSkip))
    (dIfS (dB (dV2 dLt (dVar 3) (dVar 2))) (dExpr (dMt "list" mAppend (dVar 1) (dCons (dTup (dCons (dFix (dV2 dAdd (dVar 3) (dC (.int 1)))) (dCons (dV2 dSub (dVar 2) (dVar 3)) (dNil)))) (dNil)))) (dSkip))
def d_needs_to_know_2 : Den Fl :=
    dFor (dItF enumL (dCons (dCall F_code_of (dCons (dVar 0) (dNil))) (dNil))) (gT (gsCons (gN 2) (gsCons (gN 3) (gsNil)))) (d_needs_to_know_b1)
def d_needs_to_know_3 : Den Fl :=
    dRet (dSortSet [4] (dItems (dVar 1)) (gN 4) (Den.ret true) (dVar 4))
def d_needs_to_know : Den Fl :=
    dSeq (d_needs_to_know_1)
    (dSeq (d_needs_to_know_2)
    (d_needs_to_know_3))
def F_needs_to_know : FnD := fnD 1 5 false d_needs_to_know
theorem ok_needs_to_know (T : Mg mg) {f : Addr} {fd : FuncData} (F : Fun K "needs_to_know" "needs_to_know" st_needs_to_know f fd) (C_code_of : Callee P w K mg base "code_of" 3 F_code_of) : FnOk P w K mg base CX0 4 f fd ["row"] (spOf K mg F_needs_to_know) := by
  refine ok_def (k := 3) F sc_needs_to_know rfl fun X W c hfn hp => ?_
  unfold d_needs_to_know
  exact (ass_cons (c.put hfn 1 nd_needs_to_know ⟨by decide +kernel⟩ (ae_lst aa_nil))
    (ass_cons (c.for hp (c.enum ⟨by decide +kernel⟩ T.n_enumerate (aa_cons (c.call C_code_of ⟨by decide +kernel⟩ (aa_cons (c.var 0 ⟨by decide +kernel⟩) aa_nil) (by omega)) aa_nil)) (ag_tup (X := X) c.calm (ags_cons (c.gn 2 nd_needs_to_know ⟨by decide +kernel⟩) (ags_cons (c.gn 3 nd_needs_to_know ⟨by decide +kernel⟩) ags_nil)) (gsCons_len (gsCons_len gsNil_len))) (ass_cons (as_if (at_cmp op_gt snd_gt (c.var 3 ⟨by decide +kernel⟩) ae_int (nomark _)) (ass_one (as_expr (ae_mt snd_append PySem.F.plainAttrs_list PySem.F.slot_list_append PySem.F.type_list_append mt_append (c.var 1 ⟨by decide +kernel⟩) (aa_cons (ae_tup (aa_cons (c.var 3 ⟨by decide +kernel⟩) (aa_cons (ae_fix (ae_bin op_addA snd_add (ae_bin op_sub snd_sub (c.var 2 ⟨by decide +kernel⟩) (c.var 3 ⟨by decide +kernel⟩)) ae_int)) aa_nil))) aa_nil)))) ass_nil)
    (ass_one (as_if (at_cmp op_lt snd_lt (c.var 3 ⟨by decide +kernel⟩) (c.var 2 ⟨by decide +kernel⟩) (nomark _)) (ass_one (as_expr (ae_mt snd_append PySem.F.plainAttrs_list PySem.F.slot_list_append PySem.F.type_list_append mt_append (c.var 1 ⟨by decide +kernel⟩) (aa_cons (ae_tup (aa_cons (ae_fix (ae_bin op_addA snd_add (c.var 3 ⟨by decide +kernel⟩) ae_int)) (aa_cons (ae_bin op_sub snd_sub (c.var 2 ⟨by decide +kernel⟩) (c.var 3 ⟨by decide +kernel⟩)) aa_nil))) aa_nil)))) ass_nil))))
    (ass_one (as_ret (c.sortSet [("need", 4)] nd_needs_to_know ⟨by decide +kernel⟩ T.n_sorted (ai_any (c.var 1 ⟨by decide +kernel⟩)) (by decide +kernel) (by decide +kernel) (fun X c hf => (c.gn 4 nd_needs_to_know ⟨by decide +kernel⟩)) (fun X c => ats_nil) (fun X c => (c.var 4 ⟨by decide +kernel⟩)))))))
/-! taller_behind -/
abbrev st_taller_behind : Stmt := tp 8
def N_taller_behind : List Str := ["row", "who", "one"]
theorem nd_taller_behind : N_taller_behind.Nodup := by decide +kernel
theorem sc_taller_behind : FnScope N_taller_behind ["row", "who"] (defScope st_taller_behind) := ⟨rfl, rfl, rfl, nd_taller_behind, rfl, by decide +kernel, by decide +kernel⟩
def d_taller_behind_1 : Den Fl :=
    dRet (dVC dLen (dCons (dLc [2] (dItems (dSl (dVar 0) (dPart (dV2 dAdd (dCall F_place_of (dCons (dVar 0) (dCons (dVar 1) (dNil)))) (dC (.int 1)))) (Den.ret none))) (gN 2) (dB (dV2 dGt (dVar 2) (dVar 1))) (dVar 2)) (dNil)))
def d_taller_behind : Den Fl :=
    d_taller_behind_1
def F_taller_behind : FnD := fnD 2 3 false d_taller_behind
theorem ok_taller_behind (T : Mg mg) {f : Addr} {fd : FuncData} (F : Fun K "taller_behind" "taller_behind" st_taller_behind f fd) (C_place_of : Callee P w K mg base "place_of" 1 F_place_of) : FnOk P w K mg base CX0 2 f fd ["row", "who"] (spOf K mg F_taller_behind) := by
  refine ok_def (k := 1) F sc_taller_behind rfl fun X W c hfn hp => ?_
  unfold d_taller_behind
  exact (ass_one (as_ret (c.callB snd_len call_lenA ⟨by decide +kernel⟩ T.n_len rfl (aa_cons (c.lc [("one", 2)] nd_taller_behind (ai_any (ae_sl (c.var 0 ⟨by decide +kernel⟩) (ao_some (ae_bin op_addA snd_add (c.call C_place_of ⟨by decide +kernel⟩ (aa_cons (c.var 0 ⟨by decide +kernel⟩) (aa_cons (c.var 1 ⟨by decide +kernel⟩) aa_nil)) (by omega)) ae_int)) ao_none)) (by decide +kernel) (by decide +kernel) (fun X c hf => (c.gn 2 nd_taller_behind ⟨by decide +kernel⟩)) (fun X c => (ats_one (at_cmp op_gt snd_gt (c.var 2 ⟨by decide +kernel⟩) (c.var 1 ⟨by decide +kernel⟩) (nomark _)))) (fun X c => (c.var 2 ⟨by decide +kernel⟩))) aa_nil))))
/-! needs_to_watch -/
abbrev st_needs_to_watch : Stmt := tp 12
def N_needs_to_watch : List Str := ["row", "found", "one", "other", "who", "ahead", "behind", "need"]
theorem nd_needs_to_watch : N_needs_to_watch.Nodup := by decide +kernel
theorem sc_needs_to_watch : FnScope N_needs_to_watch ["row"] (defScope st_needs_to_watch) := ⟨rfl, rfl, rfl, nd_needs_to_watch, rfl, by decide +kernel, by decide +kernel⟩
def d_needs_to_watch_1 : Den Fl :=
    dPut 1 (dLst (dNil))
def d_needs_to_watch_b1 : Den Fl :=
    dSeq (dPut 4 (dVC dMin2 (dCons (dVar 2) (dCons (dVar 3) (dNil)))))
    (dSeq (dPutL [5, 6] (dCons (dCall F_taller_ahead (dCons (dVar 0) (dCons (dVar 4) (dNil)))) (dCons (dCall F_taller_behind (dCons (dVar 0) (dCons (dVar 4) (dNil)))) (dNil))))
    (dExpr (dMt "list" mAppend (dVar 1) (dCons (dIf (dB (dV2 dEq (dVar 4) (dVar 2))) (dTup (dCons (dFix (dV2 dAdd (dVar 5) (dC (.int 1)))) (dCons (dVar 6) (dNil)))) (dTup (dCons (dVar 5) (dCons (dFix (dV2 dAdd (dVar 6) (dC (.int 1)))) (dNil))))) (dNil)))))
def d_needs_to_watch_2 : Den Fl :=
    dFor (dItF zipL (dCons (dVar 0) (dCons (dFix (dSl (dVar 0) (dPart (dC (.int 1))) (Den.ret none))) (dNil)))) (gT (gsCons (gN 2) (gsCons (gN 3) (gsNil)))) (d_needs_to_watch_b1)
def d_needs_to_watch_3 : Den Fl :=
    dRet (dSortSet [7] (dItems (dVar 1)) (gN 7) (Den.ret true) (dVar 7))
def d_needs_to_watch : Den Fl :=
    dSeq (d_needs_to_watch_1)
    (dSeq (d_needs_to_watch_2)
    (d_needs_to_watch_3))
def F_needs_to_watch : FnD := fnD 1 8 false d_needs_to_watch
theorem ok_needs_to_watch (T : Mg mg) {f : Addr} {fd : FuncData} (F : Fun K "needs_to_watch" "needs_to_watch" st_needs_to_watch f fd) (C_taller_ahead : Callee P w K mg base "taller_ahead" 2 F_taller_ahead) (C_taller_behind : Callee P w K mg base "taller_behind" 2 F_taller_behind) : FnOk P w K mg base CX0 3 f fd ["row"] (spOf K mg F_needs_to_watch) := by
  refine ok_def (k := 2) F sc_needs_to_watch rfl fun X W c hfn hp => ?_
  unfold d_needs_to_watch
  exact (ass_cons (c.put hfn 1 nd_needs_to_watch ⟨by decide +kernel⟩ (ae_lst aa_nil))
    (ass_cons (c.for hp (c.zip ⟨by decide +kernel⟩ T.n_zip (aa_cons (c.var 0 ⟨by decide +kernel⟩) (aa_cons (ae_fix (ae_sl (c.var 0 ⟨by decide +kernel⟩) (ao_some ae_int) ao_none)) aa_nil))) (ag_tup (X := X) c.calm (ags_cons (c.gn 2 nd_needs_to_watch ⟨by decide +kernel⟩) (ags_cons (c.gn 3 nd_needs_to_watch ⟨by decide +kernel⟩) ags_nil)) (gsCons_len (gsCons_len gsNil_len))) (ass_cons (c.put hfn 4 nd_needs_to_watch ⟨by decide +kernel⟩ (c.callB snd_min2 (call_min2 c.calm) ⟨by decide +kernel⟩ T.n_min rfl (aa_cons (c.var 2 ⟨by decide +kernel⟩) (aa_cons (c.var 3 ⟨by decide +kernel⟩) aa_nil))))
    (ass_cons (c.par 5 6 nd_needs_to_watch (by decide) ⟨by decide +kernel⟩ ⟨by decide +kernel⟩ (aa_cons (c.call C_taller_ahead ⟨by decide +kernel⟩ (aa_cons (c.var 0 ⟨by decide +kernel⟩) (aa_cons (c.var 4 ⟨by decide +kernel⟩) aa_nil)) (by omega)) (aa_cons (c.call C_taller_behind ⟨by decide +kernel⟩ (aa_cons (c.var 0 ⟨by decide +kernel⟩) (aa_cons (c.var 4 ⟨by decide +kernel⟩) aa_nil)) (by omega)) aa_nil)) rfl)
    (ass_one (as_expr (ae_mt snd_append PySem.F.plainAttrs_list PySem.F.slot_list_append PySem.F.type_list_append mt_append (c.var 1 ⟨by decide +kernel⟩) (aa_cons (ae_if (at_cmp (op_eqD c.u64) snd_eq (c.var 4 ⟨by decide +kernel⟩) (c.var 2 ⟨by decide +kernel⟩) (nomark _)) (ae_tup (aa_cons (ae_fix (ae_bin op_addA snd_add (c.var 5 ⟨by decide +kernel⟩) ae_int)) (aa_cons (c.var 6 ⟨by decide +kernel⟩) aa_nil))) (ae_tup (aa_cons (c.var 5 ⟨by decide +kernel⟩) (aa_cons (ae_fix (ae_bin op_addA snd_add (c.var 6 ⟨by decide +kernel⟩) ae_int)) aa_nil)))) aa_nil)))))))
    (ass_one (as_ret (c.sortSet [("need", 7)] nd_needs_to_watch ⟨by decide +kernel⟩ T.n_sorted (ai_any (c.var 1 ⟨by decide +kernel⟩)) (by decide +kernel) (by decide +kernel) (fun X c hf => (c.gn 7 nd_needs_to_watch ⟨by decide +kernel⟩)) (fun X c => ats_nil) (fun X c => (c.var 7 ⟨by decide +kernel⟩)))))))
/-! as_tuples -/
abbrev st_as_tuples : Stmt := tp 3
def N_as_tuples : List Str := ["thing", "part"]
theorem nd_as_tuples : N_as_tuples.Nodup := by decide +kernel
theorem sc_as_tuples : FnScope N_as_tuples ["thing"] (defScope st_as_tuples) := ⟨rfl, rfl, rfl, nd_as_tuples, rfl, by decide +kernel, by decide +kernel⟩
def d_as_tuples_1 (self : FnD) : Den Fl :=
    dIfS (dB (dU1 (dIsi [.list, .tuple]) (dVar 0))) (dRet (dVC dTuple (dCons (dLc [1] (dItems (dVar 0)) (gN 1) (Den.ret true) (dCall self (dCons (dVar 1) (dNil)))) (dNil)))) (dSkip)
def d_as_tuples_2 (self : FnD) : Den Fl :=
    dRet (dVar 0)
def d_as_tuples (self : FnD) : Den Fl :=
    dSeq (d_as_tuples_1 self)
    (d_as_tuples_2 self)
def F_as_tuples : Nat → FnD
  | 0 => fun _ => .no
  | n + 1 => fnD 1 2 false (d_as_tuples (F_as_tuples n))
theorem ok_as_tuples (T : Mg mg) {f : Addr} {fd : FuncData} (F : Fun K "as_tuples" "as_tuples" st_as_tuples f fd) (b : Binds K fd ["thing"] []) (hm : mg "as_tuples" = some (.ref f)) (hk : PySem.W.keepIn K (.ref f) = true)  : ∀ n : Nat, FnOk P w K mg base CX0 (1 + n) f fd ["thing"] (spOf K mg (F_as_tuples n))
  | 0 => ok_no F sc_as_tuples
  | n + 1 => by
    have C_as_tuples : Callee P w K mg base "as_tuples" (1 + n) (F_as_tuples n) := ⟨f, fd, ["thing"], ok_as_tuples T F b hm hk  n, b, hm, hk⟩
    refine ok_def (k := 1 + n) F sc_as_tuples rfl fun X W c hfn hp => ?_
    unfold d_as_tuples
    exact (ass_cons (as_if (at_val (c.isiN ⟨by decide +kernel⟩ T.n_isinstance (c.var 0 ⟨by decide +kernel⟩) (c.tyc .list ⟨by decide +kernel⟩ T.n_list rfl (c.tyc .tuple ⟨by decide +kernel⟩ T.n_tuple rfl tyes_nil)))) (ass_one (as_ret (c.callT snd_tuple call_tuple_of ⟨by decide +kernel⟩ T.n_tuple rfl (aa_cons (c.lc [("part", 1)] nd_as_tuples (ai_any (c.var 0 ⟨by decide +kernel⟩)) (by decide +kernel) (by decide +kernel) (fun X c hf => (c.gn 1 nd_as_tuples ⟨by decide +kernel⟩)) (fun X c => ats_nil) (fun X c => (c.call C_as_tuples ⟨by decide +kernel⟩ (aa_cons (c.var 1 ⟨by decide +kernel⟩) aa_nil) (by omega)))) aa_nil)))) ass_nil)
    (ass_one (as_ret (c.var 0 ⟨by decide +kernel⟩))))
/-! partner -/
abbrev st_partner : Stmt := tp 13
def N_partner : List Str := ["left", "rights_by", "met", "seen", "right"]
theorem nd_partner : N_partner.Nodup := by decide +kernel
theorem sc_partner : FnScope N_partner ["left", "rights_by", "met", "seen"] (defScope st_partner) := ⟨rfl, rfl, rfl, nd_partner, rfl, by decide +kernel, by decide +kernel⟩
def d_partner_b1 (self : FnD) : Den Fl :=
    dIfS (dB (dV2 dNotIn (dVar 4) (dVar 3))) (dSeq (dExpr (dMt "list" mAppend (dVar 3) (dCons (dVar 4) (dNil))))
    (dIfS (dOrT (dB (dV2 dNotIn (dVar 4) (dVar 2))) (dB (dCall self (dCons (dV2 dIx (dVar 2) (dVar 4)) (dCons (dVar 1) (dCons (dVar 2) (dCons (dVar 3) (dNil)))))))) (dSeq (dSet mSetD (dVar 2) (dVar 4) (dVar 0))
    (dRet (dC (.bool true)))) (dSkip))) (dSkip)
def d_partner_1 (self : FnD) : Den Fl :=
    dFor (dItems (dV2 dIx (dVar 1) (dVar 0))) (gN 4) (d_partner_b1 self)
def d_partner_2 (self : FnD) : Den Fl :=
    dRet (dC (.bool false))
def d_partner (self : FnD) : Den Fl :=
    dSeq (d_partner_1 self)
    (d_partner_2 self)
def F_partner : Nat → FnD
  | 0 => fun _ => .no
  | n + 1 => fnD 4 5 false (d_partner (F_partner n))
theorem ok_partner (T : Mg mg) {f : Addr} {fd : FuncData} (F : Fun K "partner" "partner" st_partner f fd) (b : Binds K fd ["left", "rights_by", "met", "seen"] []) (hm : mg "partner" = some (.ref f)) (hk : PySem.W.keepIn K (.ref f) = true)  : ∀ n : Nat, FnOk P w K mg base CX0 (1 + n) f fd ["left", "rights_by", "met", "seen"] (spOf K mg (F_partner n))
  | 0 => ok_no F sc_partner
  | n + 1 => by
    have C_partner : Callee P w K mg base "partner" (1 + n) (F_partner n) := ⟨f, fd, ["left", "rights_by", "met", "seen"], ok_partner T F b hm hk  n, b, hm, hk⟩
    refine ok_def (k := 1 + n) F sc_partner rfl fun X W c hfn hp => ?_
    unfold d_partner
    exact (ass_cons (c.for hp (ai_any (ae_ix (ix_any c.u1) snd_ix (c.var 1 ⟨by decide +kernel⟩) (c.var 0 ⟨by decide +kernel⟩) ix_ok)) (c.gn 4 nd_partner ⟨by decide +kernel⟩) (ass_one (as_if (at_cmp (op_notInA c.u65) snd_notIn (c.var 4 ⟨by decide +kernel⟩) (c.var 3 ⟨by decide +kernel⟩) (by rfl)) (ass_cons (as_expr (ae_mt snd_append PySem.F.plainAttrs_list PySem.F.slot_list_append PySem.F.type_list_append mt_append (c.var 3 ⟨by decide +kernel⟩) (aa_cons (c.var 4 ⟨by decide +kernel⟩) aa_nil)))
    (ass_one (as_if (AW.at (aw_or (at_cmp (op_notInA c.u65) snd_notIn (c.var 4 ⟨by decide +kernel⟩) (c.var 2 ⟨by decide +kernel⟩) (by rfl)) (aw_or1 (at_val (c.call C_partner ⟨by decide +kernel⟩ (aa_cons (ae_ix (ix_any c.u1) snd_ix (c.var 2 ⟨by decide +kernel⟩) (c.var 4 ⟨by decide +kernel⟩) ix_ok) (aa_cons (c.var 1 ⟨by decide +kernel⟩) (aa_cons (c.var 2 ⟨by decide +kernel⟩) (aa_cons (c.var 3 ⟨by decide +kernel⟩) aa_nil)))) (by omega)))))) (ass_cons (as_sub snd_setD (set_dict c.u1) (c.var 0 ⟨by decide +kernel⟩) (c.var 2 ⟨by decide +kernel⟩) (c.var 4 ⟨by decide +kernel⟩))
    (ass_one (as_ret ae_bl))) ass_nil))) ass_nil)))
    (ass_one (as_ret ae_bl)))
/-! matched -/
abbrev st_matched : Stmt := tp 14
def N_matched : List Str := ["needs", "rights_by", "met", "left", "right", "need"]
theorem nd_matched : N_matched.Nodup := by decide +kernel
theorem sc_matched : FnScope N_matched ["needs"] (defScope st_matched) := ⟨rfl, rfl, rfl, nd_matched, rfl, by decide +kernel, by decide +kernel⟩
def d_matched_1 : Den Fl :=
    dPutL [1, 2] (dCons (dDic0) (dCons (dDic0) (dNil)))
def d_matched_b1 : Den Fl :=
    dExpr (dSda 1 3 4)
def d_matched_2 : Den Fl :=
    dFor (dItems (dSortSet [5] (dItems (dCall (F_as_tuples 4) (dCons (dVar 0) (dNil)))) (gN 5) (Den.ret true) (dVar 5))) (gT (gsCons (gN 3) (gsCons (gN 4) (gsNil)))) (d_matched_b1)
def d_matched_b2 : Den Fl :=
    dExpr (dCall (F_partner 64) (dCons (dVar 3) (dCons (dFix (dVar 1)) (dCons (dVar 2) (dCons (dLst (dNil)) (dNil))))))
def d_matched_3 : Den Fl :=
    dForD 1 (fun ds => ds.map (·.1)) (gN 3) (d_matched_b2)
def d_matched_4 : Den Fl :=
    dRet (dTup (dCons (dFix (dVar 1)) (dCons (dFix (dVar 2)) (dNil))))
def d_matched : Den Fl :=
    dSeq (d_matched_1)
    (dSeq (d_matched_2)
    (dSeq (d_matched_3)
    (d_matched_4)))
def F_matched : FnD := fnD 1 6 false d_matched
theorem ok_matched (T : Mg mg) {f : Addr} {fd : FuncData} (F : Fun K "matched" "matched" st_matched f fd) (C_as_tuples : Callee P w K mg base "as_tuples" 5 (F_as_tuples 4)) (C_partner : Callee P w K mg base "partner" 65 (F_partner 64)) : FnOk P w K mg base CX0 66 f fd ["needs"] (spOf K mg F_matched) := by
  refine ok_def (k := 65) F sc_matched rfl fun X W c hfn hp => ?_
  unfold d_matched
  exact (ass_cons (c.par 1 2 nd_matched (by decide) ⟨by decide +kernel⟩ ⟨by decide +kernel⟩ (aa_cons ae_dic0 (aa_cons ae_dic0 aa_nil)) rfl)
    (ass_cons (c.for hp (ai_any (c.sortSet [("need", 5)] nd_matched ⟨by decide +kernel⟩ T.n_sorted (ai_any (c.call C_as_tuples ⟨by decide +kernel⟩ (aa_cons (c.var 0 ⟨by decide +kernel⟩) aa_nil) (by omega))) (by decide +kernel) (by decide +kernel) (fun X c hf => (c.gn 5 nd_matched ⟨by decide +kernel⟩)) (fun X c => ats_nil) (fun X c => (c.var 5 ⟨by decide +kernel⟩)))) (ag_tup (X := X) c.calm (ags_cons (c.gn 3 nd_matched ⟨by decide +kernel⟩) (ags_cons (c.gn 4 nd_matched ⟨by decide +kernel⟩) ags_nil)) (gsCons_len (gsCons_len gsNil_len))) (ass_one (as_expr (c.sda 1 3 4 ⟨by decide +kernel⟩ ⟨by decide +kernel⟩ ⟨by decide +kernel⟩))))
    (ass_cons (c.forD hp (c.keys 1 ⟨by decide +kernel⟩) (c.gn 3 nd_matched ⟨by decide +kernel⟩) (ass_one (as_expr (c.call C_partner ⟨by decide +kernel⟩ (aa_cons (c.var 3 ⟨by decide +kernel⟩) (aa_cons (ae_fix (c.var 1 ⟨by decide +kernel⟩)) (aa_cons (c.var 2 ⟨by decide +kernel⟩) (aa_cons (ae_lst aa_nil) aa_nil)))) (by omega)))))
    (ass_one (as_ret (ae_tup (aa_cons (ae_fix (c.var 1 ⟨by decide +kernel⟩)) (aa_cons (ae_fix (c.var 2 ⟨by decide +kernel⟩)) aa_nil))))))))
/-! fewest -/
abbrev st_fewest : Stmt := tp 15
def N_fewest : List Str := ["needs"]
theorem nd_fewest : N_fewest.Nodup := by decide +kernel
theorem sc_fewest : FnScope N_fewest ["needs"] (defScope st_fewest) := ⟨rfl, rfl, rfl, nd_fewest, rfl, by decide +kernel, by decide +kernel⟩
def d_fewest_1 : Den Fl :=
    dRet (dVC dLen (dCons (dV2 dIx (dCall F_matched (dCons (dVar 0) (dNil))) (dC (.int 1))) (dNil)))
def d_fewest : Den Fl :=
    d_fewest_1
def F_fewest : FnD := fnD 1 1 false d_fewest
theorem ok_fewest (T : Mg mg) {f : Addr} {fd : FuncData} (F : Fun K "fewest" "fewest" st_fewest f fd) (C_matched : Callee P w K mg base "matched" 66 F_matched) : FnOk P w K mg base CX0 67 f fd ["needs"] (spOf K mg F_fewest) := by
  refine ok_def (k := 66) F sc_fewest rfl fun X W c hfn hp => ?_
  unfold d_fewest
  exact (ass_one (as_ret (c.callB snd_len call_lenA ⟨by decide +kernel⟩ T.n_len rfl (aa_cons (ae_ix (ix_any c.u1) snd_ix (c.call C_matched ⟨by decide +kernel⟩ (aa_cons (c.var 0 ⟨by decide +kernel⟩) aa_nil) (by omega)) ae_int ix_ok) aa_nil))))
/-! floors_for -/
abbrev st_floors_for : Stmt := tp 17
def N_floors_for : List Str := ["needs", "rights_by", "met", "right", "taken", "waiting", "rights", "lefts", "left"]
theorem nd_floors_for : N_floors_for.Nodup := by decide +kernel
theorem sc_floors_for : FnScope N_floors_for ["needs"] (defScope st_floors_for) := ⟨rfl, rfl, rfl, nd_floors_for, rfl, by decide +kernel, by decide +kernel⟩
def d_floors_for_1 : Den Fl :=
    dAsg (gTL (gsCons (gN 1) (gsCons (gN 2) (gsNil)))) (dCall F_matched (dCons (dVar 0) (dNil)))
def d_floors_for_2 : Den Fl :=
    dPut 4 (dFix (dLcD 2 (fun ds => ds.map fun q => .tuple [q.1, q.2]) [3, 8] (gT (gsCons (gN 3) (gsCons (gN 8) (gsNil)))) (Den.ret true) (dVar 8)))
def d_floors_for_3 : Den Fl :=
    dPutL [5, 6] (dCons (dLcD 1 (fun ds => ds.map (·.1)) [8] (gN 8) (dB (dV2 dNotIn (dVar 8) (dVar 4))) (dVar 8)) (dCons (dLst (dNil)) (dNil)))
def d_floors_for_4 : Den Fl :=
    dPut 7 (dVC dList (dCons (dVar 5) (dNil)))
def d_floors_for_b2 : Den Fl :=
    dIfS (dB (dV2 dNotIn (dVar 3) (dVar 6))) (dSeq (dExpr (dMt "list" mAppend (dVar 6) (dCons (dVar 3) (dNil))))
    (dIfS (dB (dV2 dNotIn (dV2 dIx (dVar 2) (dVar 3)) (dVar 7))) (dSeq (dExpr (dMt "list" mAppend (dVar 7) (dCons (dV2 dIx (dVar 2) (dVar 3)) (dNil))))
    (dExpr (dMt "list" mAppend (dVar 5) (dCons (dV2 dIx (dVar 2) (dVar 3)) (dNil))))) (dSkip))) (dSkip)
def d_floors_for_b1 : Den Fl :=
    dFor (dItems (dV2 dIx (dVar 1) (dMt "list" mPop (dVar 5) dNil))) (gN 3) (d_floors_for_b2)
def d_floors_for_5 : Den Fl :=
    dWhile (dB (dV2 dGt (dVC dLen (dCons (dVar 5) (dNil))) (dC (.int 0)))) (d_floors_for_b1) 100
def d_floors_for_6 : Den Fl :=
    dRet (dTup (dCons (dVC dTuple (dCons (dVC (dSorted false) (dCons (dLc [8] (dItems (dVar 4)) (gN 8) (dB (dV2 dNotIn (dVar 8) (dVar 7))) (dVar 8)) (dNil))) (dNil))) (dCons (dVC dTuple (dCons (dVC (dSorted false) (dCons (dVar 6) (dNil))) (dNil))) (dNil))))
def d_floors_for : Den Fl :=
    dSeq (d_floors_for_1)
    (dSeq (d_floors_for_2)
    (dSeq (d_floors_for_3)
    (dSeq (d_floors_for_4)
    (dSeq (d_floors_for_5)
    (d_floors_for_6)))))
def F_floors_for : FnD := fnD 1 9 false d_floors_for
theorem ok_floors_for (T : Mg mg) {f : Addr} {fd : FuncData} (F : Fun K "floors_for" "floors_for" st_floors_for f fd) (C_matched : Callee P w K mg base "matched" 66 F_matched) : FnOk P w K mg base CX0 67 f fd ["needs"] (spOf K mg F_floors_for) := by
  refine ok_def (k := 66) F sc_floors_for rfl fun X W c hfn hp => ?_
  unfold d_floors_for
  exact (ass_cons (c.asg (c.call C_matched ⟨by decide +kernel⟩ (aa_cons (c.var 0 ⟨by decide +kernel⟩) aa_nil) (by omega)) (ag_seq (X := X) c.calm (ags_cons (c.gn 1 nd_floors_for ⟨by decide +kernel⟩) (ags_cons (c.gn 2 nd_floors_for ⟨by decide +kernel⟩) ags_nil)) (gsCons_len (gsCons_len gsNil_len))) rfl)
    (ass_cons (c.putS hfn 4 nd_floors_for ⟨by decide +kernel⟩ (ae_fix (c.lcD [("right", 3), ("left", 8)] nd_floors_for (c.items 2 ⟨by decide +kernel⟩) (by decide +kernel) (by decide +kernel) (fun X c hf => (ag_tup (X := X) c.calm (ags_cons (c.gn 3 nd_floors_for ⟨by decide +kernel⟩) (ags_cons (c.gn 8 nd_floors_for ⟨by decide +kernel⟩) ags_nil)) (gsCons_len (gsCons_len gsNil_len)))) (fun X c => ats_nil) (fun X c => (c.var 8 ⟨by decide +kernel⟩)))) rfl)
    (ass_cons (c.par 5 6 nd_floors_for (by decide) ⟨by decide +kernel⟩ ⟨by decide +kernel⟩ (aa_cons (c.lcD [("left", 8)] nd_floors_for (c.keys 1 ⟨by decide +kernel⟩) (by decide +kernel) (by decide +kernel) (fun X c hf => (c.gn 8 nd_floors_for ⟨by decide +kernel⟩)) (fun X c => (ats_one (at_cmp (op_notInA c.u65) snd_notIn (c.var 8 ⟨by decide +kernel⟩) (c.var 4 ⟨by decide +kernel⟩) (by rfl)))) (fun X c => (c.var 8 ⟨by decide +kernel⟩))) (aa_cons (ae_lst aa_nil) aa_nil)) rfl)
    (ass_cons (c.put hfn 7 nd_floors_for ⟨by decide +kernel⟩ (c.callT snd_list call_list_of ⟨by decide +kernel⟩ T.n_list rfl (aa_cons (c.var 5 ⟨by decide +kernel⟩) aa_nil)))
    (ass_cons (as_while 100 hp (at_cmp op_gt snd_gt (c.callB snd_len call_lenA ⟨by decide +kernel⟩ T.n_len rfl (aa_cons (c.var 5 ⟨by decide +kernel⟩) aa_nil)) ae_int (nomark _)) (ass_one (c.for hp (ai_any (ae_ix (ix_any c.u1) snd_ix (c.var 1 ⟨by decide +kernel⟩) (ae_mt0 snd_pop PySem.F.plainAttrs_list PySem.F.slot_list_pop PySem.F.type_list_pop mt_pop (c.var 5 ⟨by decide +kernel⟩)) ix_ok)) (c.gn 3 nd_floors_for ⟨by decide +kernel⟩) (ass_one (as_if (at_cmp (op_notInA c.u65) snd_notIn (c.var 3 ⟨by decide +kernel⟩) (c.var 6 ⟨by decide +kernel⟩) (by rfl)) (ass_cons (as_expr (ae_mt snd_append PySem.F.plainAttrs_list PySem.F.slot_list_append PySem.F.type_list_append mt_append (c.var 6 ⟨by decide +kernel⟩) (aa_cons (c.var 3 ⟨by decide +kernel⟩) aa_nil)))
    (ass_one (as_if (at_cmp (op_notInA c.u65) snd_notIn (ae_ix (ix_any c.u1) snd_ix (c.var 2 ⟨by decide +kernel⟩) (c.var 3 ⟨by decide +kernel⟩) ix_ok) (c.var 7 ⟨by decide +kernel⟩) (by rfl)) (ass_cons (as_expr (ae_mt snd_append PySem.F.plainAttrs_list PySem.F.slot_list_append PySem.F.type_list_append mt_append (c.var 7 ⟨by decide +kernel⟩) (aa_cons (ae_ix (ix_any c.u1) snd_ix (c.var 2 ⟨by decide +kernel⟩) (c.var 3 ⟨by decide +kernel⟩) ix_ok) aa_nil)))
    (ass_one (as_expr (ae_mt snd_append PySem.F.plainAttrs_list PySem.F.slot_list_append PySem.F.type_list_append mt_append (c.var 5 ⟨by decide +kernel⟩) (aa_cons (ae_ix (ix_any c.u1) snd_ix (c.var 2 ⟨by decide +kernel⟩) (c.var 3 ⟨by decide +kernel⟩) ix_ok) aa_nil))))) ass_nil))) ass_nil)))))
    (ass_one (as_ret (ae_tup (aa_cons (c.callT snd_tuple call_tuple_of ⟨by decide +kernel⟩ T.n_tuple rfl (aa_cons (c.callB snd_sorted (call_sortA c.u65) ⟨by decide +kernel⟩ T.n_sorted rfl (aa_cons (c.lc [("left", 8)] nd_floors_for (ai_any (c.var 4 ⟨by decide +kernel⟩)) (by decide +kernel) (by decide +kernel) (fun X c hf => (c.gn 8 nd_floors_for ⟨by decide +kernel⟩)) (fun X c => (ats_one (at_cmp (op_notInA c.u65) snd_notIn (c.var 8 ⟨by decide +kernel⟩) (c.var 7 ⟨by decide +kernel⟩) (by rfl)))) (fun X c => (c.var 8 ⟨by decide +kernel⟩))) aa_nil)) aa_nil)) (aa_cons (c.callT snd_tuple call_tuple_of ⟨by decide +kernel⟩ T.n_tuple rfl (aa_cons (c.callB snd_sorted (call_sortA c.u65) ⟨by decide +kernel⟩ T.n_sorted rfl (aa_cons (c.var 6 ⟨by decide +kernel⟩) aa_nil)) aa_nil)) aa_nil))))))))))
/-! apart -/
abbrev st_apart : Stmt := tp 16
def N_apart : List Str := ["needs", "met", "right", "left"]
theorem nd_apart : N_apart.Nodup := by decide +kernel
theorem sc_apart : FnScope N_apart ["needs"] (defScope st_apart) := ⟨rfl, rfl, rfl, nd_apart, rfl, by decide +kernel, by decide +kernel⟩
def d_apart_1 : Den Fl :=
    dPut 1 (dV2 dIx (dCall F_matched (dCons (dVar 0) (dNil))) (dC (.int 1)))
def d_apart_2 : Den Fl :=
    dRet (dVC (dSorted false) (dCons (dLcD 1 (fun ds => ds.map fun q => .tuple [q.1, q.2]) [2, 3] (gT (gsCons (gN 2) (gsCons (gN 3) (gsNil)))) (Den.ret true) (dTup (dCons (dVar 3) (dCons (dVar 2) (dNil))))) (dNil)))
def d_apart : Den Fl :=
    dSeq (d_apart_1)
    (d_apart_2)
def F_apart : FnD := fnD 1 4 false d_apart
theorem ok_apart (T : Mg mg) {f : Addr} {fd : FuncData} (F : Fun K "apart" "apart" st_apart f fd) (C_matched : Callee P w K mg base "matched" 66 F_matched) : FnOk P w K mg base CX0 67 f fd ["needs"] (spOf K mg F_apart) := by
  refine ok_def (k := 66) F sc_apart rfl fun X W c hfn hp => ?_
  unfold d_apart
  exact (ass_cons (c.put hfn 1 nd_apart ⟨by decide +kernel⟩ (ae_ix (ix_any c.u1) snd_ix (c.call C_matched ⟨by decide +kernel⟩ (aa_cons (c.var 0 ⟨by decide +kernel⟩) aa_nil) (by omega)) ae_int ix_ok))
    (ass_one (as_ret (c.callB snd_sorted (call_sortA c.u65) ⟨by decide +kernel⟩ T.n_sorted rfl (aa_cons (c.lcD [("right", 2), ("left", 3)] nd_apart (c.items 1 ⟨by decide +kernel⟩) (by decide +kernel) (by decide +kernel) (fun X c hf => (ag_tup (X := X) c.calm (ags_cons (c.gn 2 nd_apart ⟨by decide +kernel⟩) (ags_cons (c.gn 3 nd_apart ⟨by decide +kernel⟩) ags_nil)) (gsCons_len (gsCons_len gsNil_len)))) (fun X c => ats_nil) (fun X c => (ae_tup (aa_cons (c.var 3 ⟨by decide +kernel⟩) (aa_cons (c.var 2 ⟨by decide +kernel⟩) aa_nil))))) aa_nil)))))
/-! _law_right -/
abbrev st_law_right : Stmt := tp 22
def N_law_right : List Str := ["_law_pot_here", "_law_base", "_law_gap", "_law_a", "_law_b", "_law_c", "_law_d", "_law_e", "_law_line", "_law_count", "_law_rising", "_law_due", "_law_k"]
theorem nd_law_right : N_law_right.Nodup := by decide +kernel
theorem sc_law_right : FnScope N_law_right ["_law_pot_here"] (defScope st_law_right) := ⟨rfl, rfl, rfl, nd_law_right, rfl, by decide +kernel, by decide +kernel⟩
def d_law_right_1 : Den Fl :=
    dAsg (gT (gsCons (gN 1) (gsCons (gN 2) (gsNil)))) (dTup (dCons (dV2 dSub (dCall (F_law_take 3) (dCons (dVar 0) (dCons (dC (.int 2001)) (dNil)))) (dC (.int 1000))) (dCons (dFix (dV2 dAdd (dC (.int 1)) (dCall (F_law_take 3) (dCons (dVar 0) (dCons (dV2 dPow (dC (.int 10)) (dC (.int 6))) (dNil)))))) (dNil))))
def d_law_right_2 : Den Fl :=
    dAsg (gTL (gsCons (gN 3) (gsCons (gN 4) (gsCons (gN 5) (gsCons (gN 6) (gsCons (gN 7) (gsNil))))))) (dLc [12] (dItC dR1 (dCons (dC (.int 5)) (dNil))) (gN 12) (Den.ret true) (dV2 dAdd (dVar 1) (dV2 dMul (dVar 2) (dVar 12))))
def d_law_right_3 : Den Fl :=
    dPut 8 (dTup (dCons (dVar 4) (dCons (dVar 6) (dCons (dVar 3) (dCons (dVar 7) (dCons (dVar 5) (dNil)))))))
def d_law_right_4 : Den Fl :=
    dIfS (dNotT (dB (dCall (F_law_same 6) (dCons (dCall F_needs_to_know (dCons (dVar 8) (dNil))) (dCons (dFix (dLst (dCons (dTup (dCons (dC (.int 1)) (dCons (dC (.int 1)) (dNil)))) (dCons (dTup (dCons (dC (.int 1)) (dCons (dC (.int 3)) (dNil)))) (dCons (dTup (dCons (dC (.int 2)) (dCons (dC (.int 1)) (dNil)))) (dCons (dTup (dCons (dC (.int 2)) (dCons (dC (.int 3)) (dNil)))) (dCons (dTup (dCons (dC (.int 3)) (dCons (dC (.int 2)) (dNil)))) (dNil)))))))) (dNil)))))) (dRet (dC (.bool false))) (dSkip)
def d_law_right_5 : Den Fl :=
    dIfS (dNotT (dB (dCall (F_law_same 6) (dCons (dCall F_needs_to_watch (dCons (dVar 8) (dNil))) (dCons (dFix (dLst (dCons (dTup (dCons (dC (.int 1)) (dCons (dC (.int 3)) (dNil)))) (dCons (dTup (dCons (dC (.int 2)) (dCons (dC (.int 1)) (dNil)))) (dCons (dTup (dCons (dC (.int 2)) (dCons (dC (.int 3)) (dNil)))) (dCons (dTup (dCons (dC (.int 3)) (dCons (dC (.int 2)) (dNil)))) (dNil))))))) (dNil)))))) (dRet (dC (.bool false))) (dSkip)
def d_law_right_6 : Den Fl :=
    dIfS (dB (dV2 dNe (dLst (dCons (dCall F_fewest (dCons (dCall F_needs_to_know (dCons (dVar 8) (dNil))) (dNil))) (dCons (dCall F_fewest (dCons (dCall F_needs_to_watch (dCons (dVar 8) (dNil))) (dNil))) (dNil)))) (dLst (dCons (dC (.int 3)) (dCons (dC (.int 3)) (dNil)))))) (dRet (dC (.bool false))) (dSkip)
def d_law_right_7 : Den Fl :=
    dIfS (dOrT (dB (dV2 dNe (dCall F_needs_to_know (dCons (dTup (dCons (dVar 5) (dNil))) (dNil))) (dLst (dNil)))) (dOrT (dB (dV2 dNe (dCall F_needs_to_watch (dCons (dTup (dCons (dVar 5) (dNil))) (dNil))) (dLst (dNil)))) (dB (dV2 dNe (dCall F_floors_for (dCons (dFix (dLst (dNil))) (dNil))) (dTup (dCons (dTup (dNil)) (dCons (dTup (dNil)) (dNil)))))))) (dRet (dC (.bool false))) (dSkip)
def d_law_right_8 : Den Fl :=
    dPut 9 (dFix (dV2 dAdd (dC (.int 2)) (dCall (F_law_take 3) (dCons (dVar 0) (dCons (dC (.int 20)) (dNil))))))
def d_law_right_9 : Den Fl :=
    dPut 10 (dVC dTuple (dCons (dLc [12] (dItC dR1 (dCons (dVar 9) (dNil))) (gN 12) (Den.ret true) (dV2 dAdd (dVar 1) (dV2 dMul (dVar 2) (dVar 12)))) (dNil)))
def d_law_right_10 : Den Fl :=
    dPut 11 (dFix (dLc [12] (dItC dR2 (dCons (dC (.int 1)) (dCons (dVar 9) (dNil)))) (gN 12) (Den.ret true) (dTup (dCons (dC (.int 1)) (dCons (dVar 12) (dNil))))))
def d_law_right_11 : Den Fl :=
    dIfS (dNotT (dB (dCall (F_law_same 6) (dCons (dFix (dLst (dCons (dCall F_needs_to_know (dCons (dVar 10) (dNil))) (dCons (dCall F_floors_for (dCons (dVar 11) (dNil))) (dNil))))) (dCons (dFix (dLst (dCons (dVar 11) (dCons (dIf (dB (dV2 dGt (dVar 9) (dC (.int 2)))) (dTup (dCons (dTup (dCons (dC (.int 1)) (dNil))) (dCons (dTup (dNil)) (dNil)))) (dCall F_floors_for (dCons (dVar 11) (dNil)))) (dNil))))) (dNil)))))) (dRet (dC (.bool false))) (dSkip)
def d_law_right_12 : Den Fl :=
    dIfS (dOrT (dB (dV2 dNe (dCall F_fewest (dCons (dVar 11) (dNil))) (dC (.int 1)))) (dOrT (dB (dV2 dNe (dVC dLen (dCons (dCall F_apart (dCons (dVar 11) (dNil))) (dNil))) (dC (.int 1)))) (dB (dV2 dNe (dCall F_needs_to_watch (dCons (dVar 10) (dNil))) (dVar 11))))) (dRet (dC (.bool false))) (dSkip)
def d_law_right_13 : Den Fl :=
    dPut 11 (dFix (dLc [12] (dItC dR2 (dCons (dC (.int 1)) (dCons (dVar 9) (dNil)))) (gN 12) (Den.ret true) (dTup (dCons (dVar 12) (dCons (dC (.int 1)) (dNil))))))
def d_law_right_14 : Den Fl :=
    dRet (dCall (F_law_same 6) (dCons (dFix (dLst (dCons (dCall F_needs_to_know (dCons (dU1 dRevT (dVar 10)) (dNil))) (dCons (dCall F_needs_to_watch (dCons (dU1 dRevT (dVar 10)) (dNil))) (dCons (dCall F_fewest (dCons (dVar 11) (dNil))) (dNil)))))) (dCons (dFix (dLst (dCons (dVar 11) (dCons (dVar 11) (dCons (dC (.int 1)) (dNil)))))) (dNil))))
def d_law_right : Den Fl :=
    dSeq (d_law_right_1)
    (dSeq (d_law_right_2)
    (dSeq (d_law_right_3)
    (dSeq (d_law_right_4)
    (dSeq (d_law_right_5)
    (dSeq (d_law_right_6)
    (dSeq (d_law_right_7)
    (dSeq (d_law_right_8)
    (dSeq (d_law_right_9)
    (dSeq (d_law_right_10)
    (dSeq (d_law_right_11)
    (dSeq (d_law_right_12)
    (dSeq (d_law_right_13)
    (d_law_right_14)))))))))))))
def F_law_right : FnD := fnD 1 13 false d_law_right
theorem ok_law_right (T : Mg mg) {f : Addr} {fd : FuncData} (F : Fun K "_law_right" "_law_right" st_law_right f fd) (C_law_take : Callee P w K mg base "_law_take" 4 (F_law_take 3)) (C_law_same : Callee P w K mg base "_law_same" 7 (F_law_same 6)) (C_needs_to_know : Callee P w K mg base "needs_to_know" 4 F_needs_to_know) (C_needs_to_watch : Callee P w K mg base "needs_to_watch" 3 F_needs_to_watch) (C_fewest : Callee P w K mg base "fewest" 67 F_fewest) (C_floors_for : Callee P w K mg base "floors_for" 67 F_floors_for) (C_apart : Callee P w K mg base "apart" 67 F_apart) : FnOk P w K mg base CX0 68 f fd ["_law_pot_here"] (spOf K mg F_law_right) := by
  refine ok_def (k := 67) F sc_law_right rfl fun X W c hfn hp => ?_
  unfold d_law_right
  exact (ass_cons (c.asg (ae_tup (aa_cons (ae_bin op_sub snd_sub (c.call C_law_take ⟨by decide +kernel⟩ (aa_cons (c.var 0 ⟨by decide +kernel⟩) (aa_cons ae_int aa_nil)) (by omega)) ae_int) (aa_cons (ae_fix (ae_bin op_addA snd_add ae_int (c.call C_law_take ⟨by decide +kernel⟩ (aa_cons (c.var 0 ⟨by decide +kernel⟩) (aa_cons (ae_bin op_pow snd_pow ae_int ae_int) aa_nil)) (by omega)))) aa_nil))) (ag_tup (X := X) c.calm (ags_cons (c.gc 1 nd_law_right ⟨by decide +kernel⟩ (by rw [hfn])) (ags_cons (c.gc 2 nd_law_right ⟨by decide +kernel⟩ (by rw [hfn])) ags_nil)) (gsCons_len (gsCons_len gsNil_len))) rfl)
    (ass_cons (c.asg (c.lc [("_law_k", 12)] nd_law_right (c.range1 ⟨by decide +kernel⟩ T.n_range (aa_cons ae_int aa_nil)) (by decide +kernel) (by decide +kernel) (fun X c hf => (c.gn 12 nd_law_right ⟨by decide +kernel⟩)) (fun X c => ats_nil) (fun X c => (ae_bin op_addA snd_add (c.var 1 ⟨by decide +kernel⟩) (ae_bin op_mulA snd_mul (c.var 2 ⟨by decide +kernel⟩) (c.var 12 ⟨by decide +kernel⟩))))) (ag_seq (X := X) c.calm (ags_cons (c.gn 3 nd_law_right ⟨by decide +kernel⟩) (ags_cons (c.gn 4 nd_law_right ⟨by decide +kernel⟩) (ags_cons (c.gn 5 nd_law_right ⟨by decide +kernel⟩) (ags_cons (c.gn 6 nd_law_right ⟨by decide +kernel⟩) (ags_cons (c.gn 7 nd_law_right ⟨by decide +kernel⟩) ags_nil))))) (gsCons_len (gsCons_len (gsCons_len (gsCons_len (gsCons_len gsNil_len)))))) rfl)
    (ass_cons (c.put hfn 8 nd_law_right ⟨by decide +kernel⟩ (ae_tup (aa_cons (c.var 4 ⟨by decide +kernel⟩) (aa_cons (c.var 6 ⟨by decide +kernel⟩) (aa_cons (c.var 3 ⟨by decide +kernel⟩) (aa_cons (c.var 7 ⟨by decide +kernel⟩) (aa_cons (c.var 5 ⟨by decide +kernel⟩) aa_nil)))))))
    (ass_cons (as_if (at_not (at_val (c.call C_law_same ⟨by decide +kernel⟩ (aa_cons (c.call C_needs_to_know ⟨by decide +kernel⟩ (aa_cons (c.var 8 ⟨by decide +kernel⟩) aa_nil) (by omega)) (aa_cons (ae_fix (ae_lst (aa_cons (ae_tup (aa_cons ae_int (aa_cons ae_int aa_nil))) (aa_cons (ae_tup (aa_cons ae_int (aa_cons ae_int aa_nil))) (aa_cons (ae_tup (aa_cons ae_int (aa_cons ae_int aa_nil))) (aa_cons (ae_tup (aa_cons ae_int (aa_cons ae_int aa_nil))) (aa_cons (ae_tup (aa_cons ae_int (aa_cons ae_int aa_nil))) aa_nil))))))) aa_nil)) (by omega)))) (ass_one (as_ret ae_bl)) ass_nil)
    (ass_cons (as_if (at_not (at_val (c.call C_law_same ⟨by decide +kernel⟩ (aa_cons (c.call C_needs_to_watch ⟨by decide +kernel⟩ (aa_cons (c.var 8 ⟨by decide +kernel⟩) aa_nil) (by omega)) (aa_cons (ae_fix (ae_lst (aa_cons (ae_tup (aa_cons ae_int (aa_cons ae_int aa_nil))) (aa_cons (ae_tup (aa_cons ae_int (aa_cons ae_int aa_nil))) (aa_cons (ae_tup (aa_cons ae_int (aa_cons ae_int aa_nil))) (aa_cons (ae_tup (aa_cons ae_int (aa_cons ae_int aa_nil))) aa_nil)))))) aa_nil)) (by omega)))) (ass_one (as_ret ae_bl)) ass_nil)
    (ass_cons (as_if (at_cmp (op_neD c.u64) snd_ne (ae_lst (aa_cons (c.call C_fewest ⟨by decide +kernel⟩ (aa_cons (c.call C_needs_to_know ⟨by decide +kernel⟩ (aa_cons (c.var 8 ⟨by decide +kernel⟩) aa_nil) (by omega)) aa_nil) (by omega)) (aa_cons (c.call C_fewest ⟨by decide +kernel⟩ (aa_cons (c.call C_needs_to_watch ⟨by decide +kernel⟩ (aa_cons (c.var 8 ⟨by decide +kernel⟩) aa_nil) (by omega)) aa_nil) (by omega)) aa_nil))) (ae_lst (aa_cons ae_int (aa_cons ae_int aa_nil))) (nomark _)) (ass_one (as_ret ae_bl)) ass_nil)
    (ass_cons (as_if (AW.at (aw_or (at_cmp (op_neD c.u64) snd_ne (c.call C_needs_to_know ⟨by decide +kernel⟩ (aa_cons (ae_tup (aa_cons (c.var 5 ⟨by decide +kernel⟩) aa_nil)) aa_nil) (by omega)) (ae_lst aa_nil) (nomark _)) (aw_or (at_cmp (op_neD c.u64) snd_ne (c.call C_needs_to_watch ⟨by decide +kernel⟩ (aa_cons (ae_tup (aa_cons (c.var 5 ⟨by decide +kernel⟩) aa_nil)) aa_nil) (by omega)) (ae_lst aa_nil) (nomark _)) (aw_or1 (at_cmp (op_neD c.u64) snd_ne (c.call C_floors_for ⟨by decide +kernel⟩ (aa_cons (ae_fix (ae_lst aa_nil)) aa_nil) (by omega)) (ae_tup (aa_cons (ae_tup aa_nil) (aa_cons (ae_tup aa_nil) aa_nil))) (nomark _)))))) (ass_one (as_ret ae_bl)) ass_nil)
    (ass_cons (c.put hfn 9 nd_law_right ⟨by decide +kernel⟩ (ae_fix (ae_bin op_addA snd_add ae_int (c.call C_law_take ⟨by decide +kernel⟩ (aa_cons (c.var 0 ⟨by decide +kernel⟩) (aa_cons ae_int aa_nil)) (by omega)))))
    (ass_cons (c.put hfn 10 nd_law_right ⟨by decide +kernel⟩ (c.callT snd_tuple call_tuple_of ⟨by decide +kernel⟩ T.n_tuple rfl (aa_cons (c.lc [("_law_k", 12)] nd_law_right (c.range1 ⟨by decide +kernel⟩ T.n_range (aa_cons (c.var 9 ⟨by decide +kernel⟩) aa_nil)) (by decide +kernel) (by decide +kernel) (fun X c hf => (c.gn 12 nd_law_right ⟨by decide +kernel⟩)) (fun X c => ats_nil) (fun X c => (ae_bin op_addA snd_add (c.var 1 ⟨by decide +kernel⟩) (ae_bin op_mulA snd_mul (c.var 2 ⟨by decide +kernel⟩) (c.var 12 ⟨by decide +kernel⟩))))) aa_nil)))
    (ass_cons (c.putLcF [("_law_k", 12)] 11 nd_law_right ⟨by decide +kernel⟩ (c.range2 ⟨by decide +kernel⟩ T.n_range (aa_cons ae_int (aa_cons (c.var 9 ⟨by decide +kernel⟩) aa_nil))) (by decide +kernel) (by decide +kernel) rfl (fun X c hf => (c.gn 12 nd_law_right ⟨by decide +kernel⟩)) (fun X c => ats_nil) (fun X c => (ae_tup (aa_cons ae_int (aa_cons (c.var 12 ⟨by decide +kernel⟩) aa_nil)))))
    (ass_cons (as_if (at_not (at_val (c.call C_law_same ⟨by decide +kernel⟩ (aa_cons (ae_fix (ae_lst (aa_cons (c.call C_needs_to_know ⟨by decide +kernel⟩ (aa_cons (c.var 10 ⟨by decide +kernel⟩) aa_nil) (by omega)) (aa_cons (c.call C_floors_for ⟨by decide +kernel⟩ (aa_cons (c.var 11 ⟨by decide +kernel⟩) aa_nil) (by omega)) aa_nil)))) (aa_cons (ae_fix (ae_lst (aa_cons (c.var 11 ⟨by decide +kernel⟩) (aa_cons (ae_if (at_cmp op_gt snd_gt (c.var 9 ⟨by decide +kernel⟩) ae_int (nomark _)) (ae_tup (aa_cons (ae_tup (aa_cons ae_int aa_nil)) (aa_cons (ae_tup aa_nil) aa_nil))) (c.call C_floors_for ⟨by decide +kernel⟩ (aa_cons (c.var 11 ⟨by decide +kernel⟩) aa_nil) (by omega))) aa_nil)))) aa_nil)) (by omega)))) (ass_one (as_ret ae_bl)) ass_nil)
    (ass_cons (as_if (AW.at (aw_or (at_cmp (op_neD c.u64) snd_ne (c.call C_fewest ⟨by decide +kernel⟩ (aa_cons (c.var 11 ⟨by decide +kernel⟩) aa_nil) (by omega)) ae_int (nomark _)) (aw_or (at_cmp (op_neD c.u64) snd_ne (c.callB snd_len call_lenA ⟨by decide +kernel⟩ T.n_len rfl (aa_cons (c.call C_apart ⟨by decide +kernel⟩ (aa_cons (c.var 11 ⟨by decide +kernel⟩) aa_nil) (by omega)) aa_nil)) ae_int (nomark _)) (aw_or1 (at_cmp (op_neD c.u64) snd_ne (c.call C_needs_to_watch ⟨by decide +kernel⟩ (aa_cons (c.var 10 ⟨by decide +kernel⟩) aa_nil) (by omega)) (c.var 11 ⟨by decide +kernel⟩) (nomark _)))))) (ass_one (as_ret ae_bl)) ass_nil)
    (ass_cons (c.putLcF [("_law_k", 12)] 11 nd_law_right ⟨by decide +kernel⟩ (c.range2 ⟨by decide +kernel⟩ T.n_range (aa_cons ae_int (aa_cons (c.var 9 ⟨by decide +kernel⟩) aa_nil))) (by decide +kernel) (by decide +kernel) rfl (fun X c hf => (c.gn 12 nd_law_right ⟨by decide +kernel⟩)) (fun X c => ats_nil) (fun X c => (ae_tup (aa_cons (c.var 12 ⟨by decide +kernel⟩) (aa_cons ae_int aa_nil)))))
    (ass_one (as_ret (c.call C_law_same ⟨by decide +kernel⟩ (aa_cons (ae_fix (ae_lst (aa_cons (c.call C_needs_to_know ⟨by decide +kernel⟩ (aa_cons (ae_revT (c.var 10 ⟨by decide +kernel⟩)) aa_nil) (by omega)) (aa_cons (c.call C_needs_to_watch ⟨by decide +kernel⟩ (aa_cons (ae_revT (c.var 10 ⟨by decide +kernel⟩)) aa_nil) (by omega)) (aa_cons (c.call C_fewest ⟨by decide +kernel⟩ (aa_cons (c.var 11 ⟨by decide +kernel⟩) aa_nil) (by omega)) aa_nil))))) (aa_cons (ae_fix (ae_lst (aa_cons (c.var 11 ⟨by decide +kernel⟩) (aa_cons (c.var 11 ⟨by decide +kernel⟩) (aa_cons ae_int aa_nil))))) aa_nil)) (by omega)))))))))))))))))
/-! _law_pot -/
abbrev st_law_pot : Stmt := tp 19
def N_law_pot : List Str := ["_law_script", "_law_k", "_law_cell"]
theorem nd_law_pot : N_law_pot.Nodup := by decide +kernel
theorem sc_law_pot : FnScope N_law_pot ["_law_script", "_law_k"] (defScope st_law_pot) := ⟨rfl, rfl, rfl, nd_law_pot, rfl, by decide +kernel, by decide +kernel⟩
def d_law_pot_1 : Den Fl :=
    dPut 2 (dC (.int 0))
def d_law_pot_2 : Den Fl :=
    dIfS (dB (dV2 dLt (dVar 1) (dLenS 0))) (dPut 2 (dIxS 0 (dVar 1))) (dSkip)
def d_law_pot_3 : Den Fl :=
    dRet (dLst (dCons (dFix (dV2 dMul (dVC dAbs (dCons (dVar 2) (dNil))) (dVC dInt1 (dCons (dV2 dGe (dVC dAbs (dCons (dVar 2) (dNil))) (dV2 dPow (dC (.int 10)) (dC (.int 18)))) (dNil))))) (dCons (dV2 dMod (dV2 dMul (dV2 dAdd (dV2 dAdd (dV2 dMod (dVar 2) (dC (.int 2147483587))) (dV2 dMul (dC (.int 104729)) (dVar 1))) (dC (.int 29))) (dC (.int 40692))) (dC (.int 2147483399))) (dCons (dC (.int 0)) (dNil)))))
def d_law_pot : Den Fl :=
    dSeq (d_law_pot_1)
    (dSeq (d_law_pot_2)
    (d_law_pot_3))
def F_law_pot : FnD := fnD 2 3 true d_law_pot
theorem ok_law_pot (T : Mg mg) {f : Addr} {fd : FuncData} (F : Fun K "_law_pot" "_law_pot" st_law_pot f fd)  : FnOk P w K mg base CX0 1 f fd ["_law_script", "_law_k"] (spOf K mg F_law_pot) := by
  refine ok_def (k := 0) F sc_law_pot rfl fun X W c hfn hp => ?_
  unfold d_law_pot
  exact (ass_cons (c.put hfn 2 nd_law_pot ⟨by decide +kernel⟩ ae_int)
    (ass_cons (as_if (at_cmp op_lt snd_lt (c.var 1 ⟨by decide +kernel⟩) (c.lenS 0 ⟨by decide +kernel⟩ T.n_len ⟨by decide +kernel⟩) (nomark _)) (ass_one (c.put hfn 2 nd_law_pot ⟨by decide +kernel⟩ (c.ixS 0 ⟨by decide +kernel⟩ (c.var 1 ⟨by decide +kernel⟩) ix_ok))) ass_nil)
    (ass_one (as_ret (ae_lst (aa_cons (ae_fix (ae_bin op_mulA snd_mul (c.callB snd_abs call_abs ⟨by decide +kernel⟩ T.n_abs rfl (aa_cons (c.var 2 ⟨by decide +kernel⟩) aa_nil)) (c.callT snd_int1 call_int1 ⟨by decide +kernel⟩ T.n_int rfl (aa_cons (ae_cmp op_ge snd_ge (c.callB snd_abs call_abs ⟨by decide +kernel⟩ T.n_abs rfl (aa_cons (c.var 2 ⟨by decide +kernel⟩) aa_nil)) (ae_bin op_pow snd_pow ae_int ae_int) (nomark _)) aa_nil)))) (aa_cons (ae_bin op_mod snd_mod (ae_bin op_mulA snd_mul (ae_bin op_addA snd_add (ae_bin op_addA snd_add (ae_bin op_mod snd_mod (c.var 2 ⟨by decide +kernel⟩) ae_int) (ae_bin op_mulA snd_mul ae_int (c.var 1 ⟨by decide +kernel⟩))) ae_int) ae_int) ae_int) (aa_cons ae_int aa_nil))))))))
/-! law -/
abbrev st_law : Stmt := tp 23
def N_law : List Str := ["_law_script", "_law_k"]
theorem nd_law : N_law.Nodup := by decide +kernel
theorem sc_law : FnScope N_law ["_law_script"] (defScope st_law) := ⟨rfl, rfl, rfl, nd_law, rfl, by decide +kernel, by decide +kernel⟩
def d_law_1 : Den Fl :=
    dRet (dVC dAll (dCons (dLc [1] (dItC dR1 (dCons (dVC dMax2 (dCons (dC (.int 1)) (dCons (dVC dMin2 (dCons (dC (.int 4)) (dCons (dLenS 0) (dNil)))) (dNil)))) (dNil))) (gN 1) (Den.ret true) (dCall F_law_right (dCons (dCall F_law_pot (dCons (dVar 0) (dCons (dVar 1) (dNil)))) (dNil)))) (dNil)))
def d_law : Den Fl :=
    d_law_1
def F_law : FnD := fnD 1 2 false d_law
theorem ok_law (T : Mg mg) {f : Addr} {fd : FuncData} (F : Fun K "law" "law" st_law f fd) (C_law_right : Callee P w K mg base "_law_right" 68 F_law_right) (C_law_pot : Callee P w K mg base "_law_pot" 1 F_law_pot) : FnOk P w K mg base CX0 69 f fd ["_law_script"] (spOf K mg F_law) := by
  refine ok_def (k := 68) F sc_law rfl fun X W c hfn hp => ?_
  unfold d_law
  exact (ass_one (as_ret (c.callB snd_all (cr_all c.calm) ⟨by decide +kernel⟩ T.n_all rfl (aa_cons (c.lc [("_law_k", 1)] nd_law (c.range1 ⟨by decide +kernel⟩ T.n_range (aa_cons (c.callB snd_max2 (call_max2 c.calm) ⟨by decide +kernel⟩ T.n_max rfl (aa_cons ae_int (aa_cons (c.callB snd_min2 (call_min2 c.calm) ⟨by decide +kernel⟩ T.n_min rfl (aa_cons ae_int (aa_cons (c.lenS 0 ⟨by decide +kernel⟩ T.n_len ⟨by decide +kernel⟩) aa_nil))) aa_nil))) aa_nil)) (by decide +kernel) (by decide +kernel) (fun X c hf => (c.gn 1 nd_law ⟨by decide +kernel⟩)) (fun X c => ats_nil) (fun X c => (c.call C_law_right ⟨by decide +kernel⟩ (aa_cons (c.call C_law_pot ⟨by decide +kernel⟩ (aa_cons (c.var 0 ⟨by decide +kernel⟩) (aa_cons (c.var 1 ⟨by decide +kernel⟩) aa_nil)) (by omega)) aa_nil) (by omega)))) aa_nil))))
end
theorem all_mk {l : PySem.W.OpenLaw} {w : World} {K : PySem.W.Frag} {h : Heap} {mg : Str → Option Value} {fa f0 f1 f2 f3 f4 f5 f6 f7 f8 f9 f10 f11 f12 f13 f14 f15 f16 f17 : Addr} (X : K.In h) (G : h.Ns mainGlobals mg) (hfa : mg "law" = some (.ref fa))
    {od0 an0 od1 an1 od2 an2 od3 an3 od4 an4 od5 an5 od6 an6 od7 an7 od8 an8 od9 an9 od10 an10 od11 an11 od12 an12 od13 an13 od14 an14 od15 an15 od16 an16 od17 an17 : Option Addr} {sl0 sl1 sl2 sl3 sl4 sl5 sl6 sl7 sl8 sl9 sl10 sl11 sl12 sl13 sl14 sl15 sl16 sl17 : Array (Option Value)} {oc0 kV0 dc0 pm0 cd0 ct0 oc1 kV1 dc1 pm1 cd1 ct1 oc2 kV2 dc2 pm2 cd2 ct2 oc3 kV3 dc3 pm3 cd3 ct3 oc4 kV4 dc4 pm4 cd4 ct4 oc5 kV5 dc5 pm5 cd5 ct5 oc6 kV6 dc6 pm6 cd6 ct6 oc7 kV7 dc7 pm7 cd7 ct7 oc8 kV8 dc8 pm8 cd8 ct8 oc9 kV9 dc9 pm9 cd9 ct9 oc10 kV10 dc10 pm10 cd10 ct10 oc11 kV11 dc11 pm11 cd11 ct11 oc12 kV12 dc12 pm12 cd12 ct12 oc13 kV13 dc13 pm13 cd13 ct13 oc14 kV14 dc14 pm14 cd14 ct14 oc15 kV15 dc15 pm15 cd15 ct15 oc16 kV16 dc16 pm16 cd16 ct16 oc17 kV17 dc17 pm17 cd17 ct17 : Value}
    (a0 : PySem.W.nsIn K mainGlobals "_law_take" = some (some (.ref f0))) (l0 : K.lookup f0 = some ⟨oc0, od0, .func (PySem.W.fnOf "_law_take" "_law_take" (defArgs st_law_take) (defBody st_law_take) (defScope st_law_take) .none kV0 dc0 pm0 an0 cd0 ct0), sl0⟩) (c0 : PySem.W.codeIn K cd0 "_law_take" = true) (k0 : PySem.W.keepIn K (.ref f0) = true)
    (a1 : PySem.W.nsIn K mainGlobals "_law_same" = some (some (.ref f1))) (l1 : K.lookup f1 = some ⟨oc1, od1, .func (PySem.W.fnOf "_law_same" "_law_same" (defArgs st_law_same) (defBody st_law_same) (defScope st_law_same) .none kV1 dc1 pm1 an1 cd1 ct1), sl1⟩) (c1 : PySem.W.codeIn K cd1 "_law_same" = true) (k1 : PySem.W.keepIn K (.ref f1) = true)
    (a2 : PySem.W.nsIn K mainGlobals "place_of" = some (some (.ref f2))) (l2 : K.lookup f2 = some ⟨oc2, od2, .func (PySem.W.fnOf "place_of" "place_of" (defArgs st_place_of) (defBody st_place_of) (defScope st_place_of) .none kV2 dc2 pm2 an2 cd2 ct2), sl2⟩) (c2 : PySem.W.codeIn K cd2 "place_of" = true) (k2 : PySem.W.keepIn K (.ref f2) = true)
    (a3 : PySem.W.nsIn K mainGlobals "taller_ahead" = some (some (.ref f3))) (l3 : K.lookup f3 = some ⟨oc3, od3, .func (PySem.W.fnOf "taller_ahead" "taller_ahead" (defArgs st_taller_ahead) (defBody st_taller_ahead) (defScope st_taller_ahead) .none kV3 dc3 pm3 an3 cd3 ct3), sl3⟩) (c3 : PySem.W.codeIn K cd3 "taller_ahead" = true) (k3 : PySem.W.keepIn K (.ref f3) = true)
    (a4 : PySem.W.nsIn K mainGlobals "folk_of" = some (some (.ref f4))) (l4 : K.lookup f4 = some ⟨oc4, od4, .func (PySem.W.fnOf "folk_of" "folk_of" (defArgs st_folk_of) (defBody st_folk_of) (defScope st_folk_of) .none kV4 dc4 pm4 an4 cd4 ct4), sl4⟩) (c4 : PySem.W.codeIn K cd4 "folk_of" = true) (k4 : PySem.W.keepIn K (.ref f4) = true)
    (a5 : PySem.W.nsIn K mainGlobals "code_of" = some (some (.ref f5))) (l5 : K.lookup f5 = some ⟨oc5, od5, .func (PySem.W.fnOf "code_of" "code_of" (defArgs st_code_of) (defBody st_code_of) (defScope st_code_of) .none kV5 dc5 pm5 an5 cd5 ct5), sl5⟩) (c5 : PySem.W.codeIn K cd5 "code_of" = true) (k5 : PySem.W.keepIn K (.ref f5) = true)
    (a6 : PySem.W.nsIn K mainGlobals "needs_to_know" = some (some (.ref f6))) (l6 : K.lookup f6 = some ⟨oc6, od6, .func (PySem.W.fnOf "needs_to_know" "needs_to_know" (defArgs st_needs_to_know) (defBody st_needs_to_know) (defScope st_needs_to_know) .none kV6 dc6 pm6 an6 cd6 ct6), sl6⟩) (c6 : PySem.W.codeIn K cd6 "needs_to_know" = true) (k6 : PySem.W.keepIn K (.ref f6) = true)
    (a7 : PySem.W.nsIn K mainGlobals "taller_behind" = some (some (.ref f7))) (l7 : K.lookup f7 = some ⟨oc7, od7, .func (PySem.W.fnOf "taller_behind" "taller_behind" (defArgs st_taller_behind) (defBody st_taller_behind) (defScope st_taller_behind) .none kV7 dc7 pm7 an7 cd7 ct7), sl7⟩) (c7 : PySem.W.codeIn K cd7 "taller_behind" = true) (k7 : PySem.W.keepIn K (.ref f7) = true)
    (a8 : PySem.W.nsIn K mainGlobals "needs_to_watch" = some (some (.ref f8))) (l8 : K.lookup f8 = some ⟨oc8, od8, .func (PySem.W.fnOf "needs_to_watch" "needs_to_watch" (defArgs st_needs_to_watch) (defBody st_needs_to_watch) (defScope st_needs_to_watch) .none kV8 dc8 pm8 an8 cd8 ct8), sl8⟩) (c8 : PySem.W.codeIn K cd8 "needs_to_watch" = true) (k8 : PySem.W.keepIn K (.ref f8) = true)
    (a9 : PySem.W.nsIn K mainGlobals "as_tuples" = some (some (.ref f9))) (l9 : K.lookup f9 = some ⟨oc9, od9, .func (PySem.W.fnOf "as_tuples" "as_tuples" (defArgs st_as_tuples) (defBody st_as_tuples) (defScope st_as_tuples) .none kV9 dc9 pm9 an9 cd9 ct9), sl9⟩) (c9 : PySem.W.codeIn K cd9 "as_tuples" = true) (k9 : PySem.W.keepIn K (.ref f9) = true)
    (a10 : PySem.W.nsIn K mainGlobals "partner" = some (some (.ref f10))) (l10 : K.lookup f10 = some ⟨oc10, od10, .func (PySem.W.fnOf "partner" "partner" (defArgs st_partner) (defBody st_partner) (defScope st_partner) .none kV10 dc10 pm10 an10 cd10 ct10), sl10⟩) (c10 : PySem.W.codeIn K cd10 "partner" = true) (k10 : PySem.W.keepIn K (.ref f10) = true)
    (a11 : PySem.W.nsIn K mainGlobals "matched" = some (some (.ref f11))) (l11 : K.lookup f11 = some ⟨oc11, od11, .func (PySem.W.fnOf "matched" "matched" (defArgs st_matched) (defBody st_matched) (defScope st_matched) .none kV11 dc11 pm11 an11 cd11 ct11), sl11⟩) (c11 : PySem.W.codeIn K cd11 "matched" = true) (k11 : PySem.W.keepIn K (.ref f11) = true)
    (a12 : PySem.W.nsIn K mainGlobals "fewest" = some (some (.ref f12))) (l12 : K.lookup f12 = some ⟨oc12, od12, .func (PySem.W.fnOf "fewest" "fewest" (defArgs st_fewest) (defBody st_fewest) (defScope st_fewest) .none kV12 dc12 pm12 an12 cd12 ct12), sl12⟩) (c12 : PySem.W.codeIn K cd12 "fewest" = true) (k12 : PySem.W.keepIn K (.ref f12) = true)
    (a13 : PySem.W.nsIn K mainGlobals "floors_for" = some (some (.ref f13))) (l13 : K.lookup f13 = some ⟨oc13, od13, .func (PySem.W.fnOf "floors_for" "floors_for" (defArgs st_floors_for) (defBody st_floors_for) (defScope st_floors_for) .none kV13 dc13 pm13 an13 cd13 ct13), sl13⟩) (c13 : PySem.W.codeIn K cd13 "floors_for" = true) (k13 : PySem.W.keepIn K (.ref f13) = true)
    (a14 : PySem.W.nsIn K mainGlobals "apart" = some (some (.ref f14))) (l14 : K.lookup f14 = some ⟨oc14, od14, .func (PySem.W.fnOf "apart" "apart" (defArgs st_apart) (defBody st_apart) (defScope st_apart) .none kV14 dc14 pm14 an14 cd14 ct14), sl14⟩) (c14 : PySem.W.codeIn K cd14 "apart" = true) (k14 : PySem.W.keepIn K (.ref f14) = true)
    (a15 : PySem.W.nsIn K mainGlobals "_law_right" = some (some (.ref f15))) (l15 : K.lookup f15 = some ⟨oc15, od15, .func (PySem.W.fnOf "_law_right" "_law_right" (defArgs st_law_right) (defBody st_law_right) (defScope st_law_right) .none kV15 dc15 pm15 an15 cd15 ct15), sl15⟩) (c15 : PySem.W.codeIn K cd15 "_law_right" = true) (k15 : PySem.W.keepIn K (.ref f15) = true)
    (a16 : PySem.W.nsIn K mainGlobals "_law_pot" = some (some (.ref f16))) (l16 : K.lookup f16 = some ⟨oc16, od16, .func (PySem.W.fnOf "_law_pot" "_law_pot" (defArgs st_law_pot) (defBody st_law_pot) (defScope st_law_pot) .none kV16 dc16 pm16 an16 cd16 ct16), sl16⟩) (c16 : PySem.W.codeIn K cd16 "_law_pot" = true) (k16 : PySem.W.keepIn K (.ref f16) = true)
    (a17 : PySem.W.nsIn K mainGlobals "law" = some (some (.ref f17))) (l17 : K.lookup f17 = some ⟨oc17, od17, .func (PySem.W.fnOf "law" "law" (defArgs st_law) (defBody st_law) (defScope st_law) .none kV17 dc17 pm17 an17 cd17 ct17), sl17⟩) (c17 : PySem.W.codeIn K cd17 "law" = true) (k17 : PySem.W.keepIn K (.ref f17) = true)
    (z0 : PySem.W.nsIn K mainGlobals "abs" = some none)
    (z1 : PySem.W.nsIn K mainGlobals "all" = some none)
    (z2 : PySem.W.nsIn K mainGlobals "bool" = some none)
    (z3 : PySem.W.nsIn K mainGlobals "enumerate" = some none)
    (z4 : PySem.W.nsIn K mainGlobals "int" = some none)
    (z5 : PySem.W.nsIn K mainGlobals "isinstance" = some none)
    (z6 : PySem.W.nsIn K mainGlobals "len" = some none)
    (z7 : PySem.W.nsIn K mainGlobals "list" = some none)
    (z8 : PySem.W.nsIn K mainGlobals "max" = some none)
    (z9 : PySem.W.nsIn K mainGlobals "min" = some none)
    (z10 : PySem.W.nsIn K mainGlobals "range" = some none)
    (z11 : PySem.W.nsIn K mainGlobals "sorted" = some none)
    (z12 : PySem.W.nsIn K mainGlobals "str" = some none)
    (z13 : PySem.W.nsIn K mainGlobals "tuple" = some none)
    (z14 : PySem.W.nsIn K mainGlobals "zip" = some none)
    (hlaw : ∀ ns : List Int, ns.length ≤ 63 → F_law [.scr ns] = .ret (.d (.bool true)) []) :
    ∃ fd : FuncData, (∀ (s : Shared) (v : Value), BindsTo s fd ⟨[v], []⟩ [("_law_script", v)]) ∧ ∀ base : Heap, K.In base → base.Ns mainGlobals mg → FnOk l.prog w K mg base CX0 69 fa fd ["_law_script"] (spL K) := by
  have e := hfa.symm.trans (PySem.W.mg_of X G a17)
  cases e
  have T : Mg mg := ⟨PySem.W.mg_none_of X G z0, PySem.W.mg_none_of X G z1, PySem.W.mg_none_of X G z2, PySem.W.mg_none_of X G z3, PySem.W.mg_none_of X G z4, PySem.W.mg_none_of X G z5, PySem.W.mg_none_of X G z6, PySem.W.mg_none_of X G z7, PySem.W.mg_none_of X G z8, PySem.W.mg_none_of X G z9, PySem.W.mg_none_of X G z10, PySem.W.mg_none_of X G z11, PySem.W.mg_none_of X G z12, PySem.W.mg_none_of X G z13, PySem.W.mg_none_of X G z14⟩
  refine ⟨PySem.W.fnOf "law" "law" (defArgs st_law) (defBody st_law) (defScope st_law) .none kV17 dc17 pm17 an17 cd17 ct17, fun s v => .of_eq rfl, fun base _ _ => ?_⟩
  have F0 := fun_mk (st := st_law_take) l0 c0 k0
  have b0 := F0.binds (ps := ["_law_pot_here", "_law_bound"]) fun _ _ _ _ _ _ us hl => match us, hl with | [_, _], _ => rfl
  have C_law_take : Callee l.prog w K mg base "_law_take" 4 (F_law_take 3) := ⟨f0, _, _, ok_law_take T F0 b0 (PySem.W.mg_of X G a0) k0  3, b0, PySem.W.mg_of X G a0, k0⟩
  have F1 := fun_mk (st := st_law_same) l1 c1 k1
  have b1 := F1.binds (ps := ["_law_found", "_law_due"]) fun _ _ _ _ _ _ us hl => match us, hl with | [_, _], _ => rfl
  have C_law_same : Callee l.prog w K mg base "_law_same" 7 (F_law_same 6) := ⟨f1, _, _, ok_law_same T F1 b1 (PySem.W.mg_of X G a1) k1  6, b1, PySem.W.mg_of X G a1, k1⟩
  have F2 := fun_mk (st := st_place_of) l2 c2 k2
  have b2 := F2.binds (ps := ["row", "who"]) fun _ _ _ _ _ _ us hl => match us, hl with | [_, _], _ => rfl
  have C_place_of : Callee l.prog w K mg base "place_of" 1 F_place_of := ⟨f2, _, _, ok_place_of T F2 , b2, PySem.W.mg_of X G a2, k2⟩
  have F3 := fun_mk (st := st_taller_ahead) l3 c3 k3
  have b3 := F3.binds (ps := ["row", "who"]) fun _ _ _ _ _ _ us hl => match us, hl with | [_, _], _ => rfl
  have C_taller_ahead : Callee l.prog w K mg base "taller_ahead" 2 F_taller_ahead := ⟨f3, _, _, ok_taller_ahead T F3 C_place_of, b3, PySem.W.mg_of X G a3, k3⟩
  have F4 := fun_mk (st := st_folk_of) l4 c4 k4
  have b4 := F4.binds (ps := ["row"]) fun _ _ _ _ _ _ us hl => match us, hl with | [_], _ => rfl
  have C_folk_of : Callee l.prog w K mg base "folk_of" 1 F_folk_of := ⟨f4, _, _, ok_folk_of T F4 , b4, PySem.W.mg_of X G a4, k4⟩
  have F5 := fun_mk (st := st_code_of) l5 c5 k5
  have b5 := F5.binds (ps := ["row"]) fun _ _ _ _ _ _ us hl => match us, hl with | [_], _ => rfl
  have C_code_of : Callee l.prog w K mg base "code_of" 3 F_code_of := ⟨f5, _, _, ok_code_of T F5 C_taller_ahead C_folk_of, b5, PySem.W.mg_of X G a5, k5⟩
  have F6 := fun_mk (st := st_needs_to_know) l6 c6 k6
  have b6 := F6.binds (ps := ["row"]) fun _ _ _ _ _ _ us hl => match us, hl with | [_], _ => rfl
  have C_needs_to_know : Callee l.prog w K mg base "needs_to_know" 4 F_needs_to_know := ⟨f6, _, _, ok_needs_to_know T F6 C_code_of, b6, PySem.W.mg_of X G a6, k6⟩
  have F7 := fun_mk (st := st_taller_behind) l7 c7 k7
  have b7 := F7.binds (ps := ["row", "who"]) fun _ _ _ _ _ _ us hl => match us, hl with | [_, _], _ => rfl
  have C_taller_behind : Callee l.prog w K mg base "taller_behind" 2 F_taller_behind := ⟨f7, _, _, ok_taller_behind T F7 C_place_of, b7, PySem.W.mg_of X G a7, k7⟩
  have F8 := fun_mk (st := st_needs_to_watch) l8 c8 k8
  have b8 := F8.binds (ps := ["row"]) fun _ _ _ _ _ _ us hl => match us, hl with | [_], _ => rfl
  have C_needs_to_watch : Callee l.prog w K mg base "needs_to_watch" 3 F_needs_to_watch := ⟨f8, _, _, ok_needs_to_watch T F8 C_taller_ahead C_taller_behind, b8, PySem.W.mg_of X G a8, k8⟩
  have F9 := fun_mk (st := st_as_tuples) l9 c9 k9
  have b9 := F9.binds (ps := ["thing"]) fun _ _ _ _ _ _ us hl => match us, hl with | [_], _ => rfl
  have C_as_tuples : Callee l.prog w K mg base "as_tuples" 5 (F_as_tuples 4) := ⟨f9, _, _, ok_as_tuples T F9 b9 (PySem.W.mg_of X G a9) k9  4, b9, PySem.W.mg_of X G a9, k9⟩
  have F10 := fun_mk (st := st_partner) l10 c10 k10
  have b10 := F10.binds (ps := ["left", "rights_by", "met", "seen"]) fun _ _ _ _ _ _ us hl => match us, hl with | [_, _, _, _], _ => rfl
  have C_partner : Callee l.prog w K mg base "partner" 65 (F_partner 64) := ⟨f10, _, _, ok_partner T F10 b10 (PySem.W.mg_of X G a10) k10  64, b10, PySem.W.mg_of X G a10, k10⟩
  have F11 := fun_mk (st := st_matched) l11 c11 k11
  have b11 := F11.binds (ps := ["needs"]) fun _ _ _ _ _ _ us hl => match us, hl with | [_], _ => rfl
  have C_matched : Callee l.prog w K mg base "matched" 66 F_matched := ⟨f11, _, _, ok_matched T F11 C_as_tuples C_partner, b11, PySem.W.mg_of X G a11, k11⟩
  have F12 := fun_mk (st := st_fewest) l12 c12 k12
  have b12 := F12.binds (ps := ["needs"]) fun _ _ _ _ _ _ us hl => match us, hl with | [_], _ => rfl
  have C_fewest : Callee l.prog w K mg base "fewest" 67 F_fewest := ⟨f12, _, _, ok_fewest T F12 C_matched, b12, PySem.W.mg_of X G a12, k12⟩
  have F13 := fun_mk (st := st_floors_for) l13 c13 k13
  have b13 := F13.binds (ps := ["needs"]) fun _ _ _ _ _ _ us hl => match us, hl with | [_], _ => rfl
  have C_floors_for : Callee l.prog w K mg base "floors_for" 67 F_floors_for := ⟨f13, _, _, ok_floors_for T F13 C_matched, b13, PySem.W.mg_of X G a13, k13⟩
  have F14 := fun_mk (st := st_apart) l14 c14 k14
  have b14 := F14.binds (ps := ["needs"]) fun _ _ _ _ _ _ us hl => match us, hl with | [_], _ => rfl
  have C_apart : Callee l.prog w K mg base "apart" 67 F_apart := ⟨f14, _, _, ok_apart T F14 C_matched, b14, PySem.W.mg_of X G a14, k14⟩
  have F15 := fun_mk (st := st_law_right) l15 c15 k15
  have b15 := F15.binds (ps := ["_law_pot_here"]) fun _ _ _ _ _ _ us hl => match us, hl with | [_], _ => rfl
  have C_law_right : Callee l.prog w K mg base "_law_right" 68 F_law_right := ⟨f15, _, _, ok_law_right T F15 C_law_take C_law_same C_needs_to_know C_needs_to_watch C_fewest C_floors_for C_apart, b15, PySem.W.mg_of X G a15, k15⟩
  have F16 := fun_mk (st := st_law_pot) l16 c16 k16
  have b16 := F16.binds (ps := ["_law_script", "_law_k"]) fun _ _ _ _ _ _ us hl => match us, hl with | [_, _], _ => rfl
  have C_law_pot : Callee l.prog w K mg base "_law_pot" 1 F_law_pot := ⟨f16, _, _, ok_law_pot T F16 , b16, PySem.W.mg_of X G a16, k16⟩
  have F17 := fun_mk (st := st_law) l17 c17 k17
  exact AL.ok_law (ok_law T F17 C_law_right C_law_pot) hlaw
end K61
end
section
set_option Elab.async false
set_option linter.all false
set_option maxRecDepth 100000
set_option maxHeartbeats 4000000
set_option autoImplicit false
/-! Pure tools, part a: computing with denotations, one step a rule (no rule looks into a branch ahead of its turn). -/
namespace AL
open PySem PySem.Spec PyProof.Rows L2
section
variable {α β : Type} {sl s : Sls}
/-- first, then -/
def Rz.sq (r : Rz α) (k : α → Sls → Rz β) : Rz β := match r with
  | .ok a s => k a s
  | .err x s => .err x s
  | .no => .no
@[simp] theorem sq_ok {a : α} {k : α → Sls → Rz β} : (Rz.ok a s).sq k = k a s := rfl
@[simp] theorem sq_err {x : Ex} {k : α → Sls → Rz β} : (Rz.err x s : Rz α).sq k = .err x s := rfl
@[simp] theorem sq_no {k : α → Sls → Rz β} : (Rz.no : Rz α).sq k = .no := rfl
def oq (r : Option α) (k : α → Rz β) : Rz β := match r with
  | some a => k a
  | none => .no
@[simp] theorem oq_some {a : α} {k : α → Rz β} : oq (some a) k = k a := rfl
@[simp] theorem oq_none {k : α → Rz β} : oq none k = .no := rfl
def okD (s : Sls) (o : O) : Rz O := .ok o s
@[simp] theorem okD_ {o : O} : okD s o = .ok o s := rfl
theorem c_bind {m : Den α} {k : α → Den β} : (m.bind k) sl = (m sl).sq k := rfl
@[simp] theorem c_ret {a : α} : Den.ret a sl = .ok a sl := rfl
@[simp] theorem c_no : (Den.no : Den α) sl = .no := rfl
@[simp] theorem c_opt {a : α} : Den.opt (some a) sl = .ok a sl := rfl
@[simp] theorem c_optN : (Den.opt none : Den α) sl = .no := rfl
@[simp] theorem c_dC {d : D} : dC d sl = .ok (.d d) sl := rfl
@[simp] theorem c_dNil : dNil sl = .ok [] sl := rfl
def kC (g : Den (List O)) (x : O) (s : Sls) : Rz (List O) := (g s).sq fun xs s => .ok (x :: xs) s
def kC2 (x : O) (xs : List O) (s : Sls) : Rz (List O) := .ok (x :: xs) s
@[simp] theorem c_dCons {f : Den O} {g : Den (List O)} : dCons f g sl = (f sl).sq (kC g) := rfl
@[simp] theorem c_kC {g : Den (List O)} {x : O} : kC g x sl = (g sl).sq (kC2 x) := rfl
@[simp] theorem c_kC2 {x : O} {xs : List O} : kC2 x xs sl = .ok (x :: xs) sl := rfl
def var1 (i : Nat) (sl : Sls) : Option Sl → Rz O
  | some (.val d) => .ok (.d d) sl
  | some (.own _ _) => .ok (.sl i) sl
  | some (.scr ns) => .ok (.scr ns) sl
  | _ => .no
@[simp] theorem c_dVar {i : Nat} : dVar i sl = var1 i sl sl[i]? := by
  unfold dVar var1
  cases sl[i]? with
  | none => rfl
  | some s => cases s <;> rfl
@[simp] theorem c_var1 {i : Nat} {d : D} : var1 i sl (some (.val d)) = .ok (.d d) sl := rfl
@[simp] theorem c_var2 {i : Nat} {t : Option Nat} {m : Mu} : var1 i sl (some (.own t m)) = .ok (.sl i) sl := rfl
@[simp] theorem c_var3 {i : Nat} {ns : List Int} : var1 i sl (some (.scr ns)) = .ok (.scr ns) sl := rfl
/-! operators -/
def k1 (g : D → Option O) (a : O) (s : Sls) : Rz O := dAp1 g a s
def k2 (g : D → D → Option O) (h : Den O) (a : O) (s : Sls) : Rz O := (h s).sq fun b s => dAp2 g a b s
def k2' (g : D → D → Option O) (a : O) (b : O) (s : Sls) : Rz O := dAp2 g a b s
def kc (g : List D → Option O) (a : List O) (s : Sls) : Rz O := dApC g a s
@[simp] theorem c_dU1 {g : D → Option O} {f : Den O} : dU1 g f sl = (f sl).sq (k1 g) := rfl
@[simp] theorem c_dV2 {g : D → D → Option O} {f h : Den O} : dV2 g f h sl = (f sl).sq (k2 g h) := rfl
@[simp] theorem c_k2 {g : D → D → Option O} {h : Den O} {a : O} : k2 g h a sl = (h sl).sq (k2' g a) := rfl
@[simp] theorem c_dVC {g : List D → Option O} {f : Den (List O)} : dVC g f sl = (f sl).sq (kc g) := rfl
def see1 : Option Sl → Option D
  | some (.own _ m) => m.see
  | some (.val x) => some x
  | _ => none
@[simp] theorem c_see1 {t : Option Nat} {m : Mu} : see1 (some (.own t m)) = m.see := rfl
@[simp] theorem c_see2 {x : D} : see1 (some (.val x)) = some x := rfl
@[simp] theorem c_seeD {d : D} : O.see sl (.d d) = some d := rfl
@[simp] theorem c_seeT {m : Mu} : O.see sl (.tmp m) = m.see := rfl
@[simp] theorem c_seeS {i : Nat} : O.see sl (.sl i) = see1 sl[i]? := by
  unfold see1
  show (match sl[i]? with
    | some (.own _ m) => m.see
    | some (.val x) => some x
    | _ => none) = _
  cases sl[i]? with
  | none => rfl
  | some s => cases s <;> rfl
@[simp] theorem c_seeL {xs : List D} : Mu.see (.lst xs) = some (.list xs) := rfl
@[simp] theorem c_seeK {xs : List (D × D)} : Mu.see (.dic xs) = some (.dict xs) := rfl
def ka1 (g : D → Option O) (s : Sls) (x : D) : Rz O := oq (g x) (okD s)
def ka2 (g : D → D → Option O) (b : O) (s : Sls) (x : D) : Rz O := oq (b.see s) fun y => oq (g x y) (okD s)
def ka2' (g : D → D → Option O) (s : Sls) (x y : D) : Rz O := oq (g x y) (okD s)
def kac (g : List D → Option O) (s : Sls) (x : List D) : Rz O := oq (g x) (okD s)
@[simp] theorem c_k1 {g : D → Option O} {a : O} : k1 g a sl = oq (a.see sl) (ka1 g sl) := by
  unfold k1 dAp1 oq ka1
  cases a.see sl with
  | none => rfl
  | some x => cases h : g x <;> simp [h, oq, okD]
@[simp] theorem c_k2' {g : D → D → Option O} {a b : O} : k2' g a b sl = oq (a.see sl) (ka2 g b sl) := by
  unfold k2' dAp2 ka2
  cases a.see sl with
  | none => cases b.see sl <;> rfl
  | some x =>
    cases b.see sl with
    | none => rfl
    | some y => cases h : g x y <;> simp [h, oq, okD]
@[simp] theorem c_kc {g : List D → Option O} {a : List O} : kc g a sl = oq (seeAll sl a) (kac g sl) := by
  unfold kc dApC kac
  cases seeAll sl a with
  | none => rfl
  | some x => cases h : g x <;> simp [h, oq, okD]
@[simp] theorem c_ka1 {g : D → Option O} {x : D} : ka1 g sl x = oq (g x) (okD sl) := rfl
@[simp] theorem c_ka2 {g : D → D → Option O} {b : O} {x : D} : ka2 g b sl x = oq (b.see sl) (ka2' g sl x) := rfl
@[simp] theorem c_ka2' {g : D → D → Option O} {x y : D} : ka2' g sl x y = oq (g x y) (okD sl) := rfl
@[simp] theorem c_kac {g : List D → Option O} {x : List D} : kac g sl x = oq (g x) (okD sl) := rfl
def see3 : Option D → Option (List D) → Option (List D)
  | some x, some xs => some (x :: xs)
  | _, _ => none
@[simp] theorem c_see3 {x : D} {xs : List D} : see3 (some x) (some xs) = some (x :: xs) := rfl
@[simp] theorem c_seeAll0 : seeAll sl [] = some [] := rfl
@[simp] theorem c_seeAll1 {a : O} {r : List O} : seeAll sl (a :: r) = see3 (a.see sl) (seeAll sl r) := by
  show (match a.see sl, seeAll sl r with
    | some x, some xs => some (x :: xs)
    | _, _ => none) = _
  cases a.see sl <;> cases seeAll sl r <;> rfl
/-! told for good -/
@[simp] theorem c_fix {f : Den O} : dFix f sl = (f sl).sq O.fix := rfl
def fix1 (i : Nat) (sl : Sls) : Option Sl → Rz O
  | some (.own _ m) => .ok (.d m.toD) (sl.set i (.val m.toD))
  | some (.val x) => .ok (.d x) sl
  | _ => .no
@[simp] theorem c_fixD {d : D} : O.fix (.d d) sl = .ok (.d d) sl := rfl
@[simp] theorem c_fixT {m : Mu} : O.fix (.tmp m) sl = .ok (.d m.toD) sl := rfl
@[simp] theorem c_fixScr {ns : List Int} : O.fix (.scr ns) sl = .ok (.scr ns) sl := rfl
@[simp] theorem c_fixS {i : Nat} : O.fix (.sl i) sl = fix1 i sl sl[i]? := by
  unfold O.fix fix1
  dsimp only
  all_goals
    cases sl[i]? with
    | none => rfl
    | some s => cases s <;> rfl
@[simp] theorem c_fix1 {i : Nat} {t : Option Nat} {m : Mu} : fix1 i sl (some (.own t m)) = .ok (.d m.toD) (sl.set i (.val m.toD)) := rfl
@[simp] theorem c_fix2 {i : Nat} {x : D} : fix1 i sl (some (.val x)) = .ok (.d x) sl := rfl
@[simp] theorem c_toL {xs : List D} : Mu.toD (.lst xs) = .list xs := rfl
@[simp] theorem c_toK {xs : List (D × D)} : Mu.toD (.dic xs) = .dict xs := rfl
@[simp] theorem c_toM {xs : List (D × List D)} : Mu.toD (.dll xs) = .dict (xs.map fun p => (p.1, .list p.2)) := rfl
/-! truths -/
def kB (o : O) (s : Sls) : Rz Bool := match o with
  | .d (.bool b) => .ok b s
  | _ => .no
@[simp] theorem c_kB {b : Bool} : kB (.d (.bool b)) sl = .ok b sl := rfl
@[simp] theorem c_dB {f : Den O} : dB f sl = (f sl).sq kB := by
  show (f sl).sq (fun o => Den.opt (isB o)) = _
  congr 1
  funext o s
  cases o with
  | d x => cases x <;> rfl
  | _ => rfl
def kT (f g : Den α) (b : Bool) (s : Sls) : Rz α := if b = true then f s else g s
@[simp] theorem c_kTt {f g : Den α} : kT f g true sl = f sl := rfl
@[simp] theorem c_kTf {f g : Den α} : kT f g false sl = g sl := rfl
theorem kT_eq {c : Den Bool} {f g : Den α} : (c.bind fun b => if b = true then f else g) sl = (c sl).sq (kT f g) := by
  show (c sl).sq _ = _
  congr 1
  funext b s
  cases b <;> rfl
@[simp] theorem c_andT {f g : Den Bool} : dAndT f g sl = (f sl).sq (kT g (Den.ret false)) := kT_eq
@[simp] theorem c_orT {f g : Den Bool} : dOrT f g sl = (f sl).sq (kT (Den.ret true) g) := kT_eq
def kN (b : Bool) (s : Sls) : Rz Bool := .ok (!b) s
@[simp] theorem c_kN {b : Bool} : kN b sl = .ok (!b) sl := rfl
@[simp] theorem c_notT {f : Den Bool} : dNotT f sl = (f sl).sq kN := rfl
@[simp] theorem c_andV {f g : Den O} : dAndV f g sl = (dB f sl).sq (kT g (Den.ret (.d (.bool false)))) := kT_eq
@[simp] theorem c_orV {f g : Den O} : dOrV f g sl = (dB f sl).sq (kT (Den.ret (.d (.bool true))) g) := kT_eq
def kNV (b : Bool) (s : Sls) : Rz O := .ok (.d (.bool !b)) s
@[simp] theorem c_kNV {b : Bool} : kNV b sl = .ok (.d (.bool !b)) sl := rfl
@[simp] theorem c_notV {f : Den O} : dNotV f sl = (dB f sl).sq kNV := rfl
@[simp] theorem c_dIf {c : Den Bool} {f g : Den O} : dIf c f g sl = (c sl).sq (kT f g) := kT_eq
@[simp] theorem c_ifS {c : Den Bool} {f g : Den Fl} : dIfS c f g sl = (c sl).sq (kT f g) := kT_eq
/-! displays -/
def kTup (os : List O) (s : Sls) : Rz O := oq (asDs os) fun ds => if ds.length ≤ sizeLine then .ok (.d (.tuple ds)) s else .no
def kTup' (s : Sls) (ds : List D) : Rz O := if ds.length ≤ sizeLine then .ok (.d (.tuple ds)) s else .no
def kLst (os : List O) (s : Sls) : Rz O := oq (asDs os) fun ds => if ds.length ≤ sizeLine then .ok (.tmp (.lst ds)) s else .no
def kLst' (s : Sls) (ds : List D) : Rz O := if ds.length ≤ sizeLine then .ok (.tmp (.lst ds)) s else .no
@[simp] theorem c_kTup {os : List O} : kTup os sl = oq (asDs os) (kTup' sl) := rfl
@[simp] theorem c_kLst {os : List O} : kLst os sl = oq (asDs os) (kLst' sl) := rfl
theorem kTup'_ok {ds : List D} (h : ds.length ≤ sizeLine) : kTup' sl ds = .ok (.d (.tuple ds)) sl := if_pos h
theorem kLst'_ok {ds : List D} (h : ds.length ≤ sizeLine) : kLst' sl ds = .ok (.tmp (.lst ds)) sl := if_pos h
theorem small {n : Nat} (h : n ≤ 16777216) : n ≤ sizeLine := by rw [sizeLine_eq]; exact h
@[simp] theorem c_kTup0 : kTup' sl [] = .ok (.d (.tuple [])) sl := kTup'_ok (Nat.zero_le _)
@[simp] theorem c_kTup1 {a : D} : kTup' sl [a] = .ok (.d (.tuple [a])) sl := kTup'_ok (small (by decide : 1 ≤ 16777216))
@[simp] theorem c_kTup2 {a b : D} : kTup' sl [a, b] = .ok (.d (.tuple [a, b])) sl := kTup'_ok (small (by decide : 2 ≤ 16777216))
@[simp] theorem c_kTup3 {a b c : D} : kTup' sl [a, b, c] = .ok (.d (.tuple [a, b, c])) sl := kTup'_ok (small (by decide : 3 ≤ 16777216))
@[simp] theorem c_kTup5 {a b c d e : D} : kTup' sl [a, b, c, d, e] = .ok (.d (.tuple [a, b, c, d, e])) sl := kTup'_ok (small (by decide : 5 ≤ 16777216))
@[simp] theorem c_kLst0 : kLst' sl [] = .ok (.tmp (.lst [])) sl := kLst'_ok (Nat.zero_le _)
@[simp] theorem c_kLst1 {a : D} : kLst' sl [a] = .ok (.tmp (.lst [a])) sl := kLst'_ok (small (by decide : 1 ≤ 16777216))
@[simp] theorem c_kLst2 {a b : D} : kLst' sl [a, b] = .ok (.tmp (.lst [a, b])) sl := kLst'_ok (small (by decide : 2 ≤ 16777216))
@[simp] theorem c_kLst3 {a b c : D} : kLst' sl [a, b, c] = .ok (.tmp (.lst [a, b, c])) sl := kLst'_ok (small (by decide : 3 ≤ 16777216))
@[simp] theorem c_kLst4 {a b c d : D} : kLst' sl [a, b, c, d] = .ok (.tmp (.lst [a, b, c, d])) sl := kLst'_ok (small (by decide : 4 ≤ 16777216))
@[simp] theorem c_kLst5 {a b c d e : D} : kLst' sl [a, b, c, d, e] = .ok (.tmp (.lst [a, b, c, d, e])) sl := kLst'_ok (small (by decide : 5 ≤ 16777216))
@[simp] theorem c_tup {f : Den (List O)} : dTup f sl = (f sl).sq kTup := by
  show (f sl).sq _ = _
  congr 1
  funext os s
  unfold kTup
  cases asDs os with
  | none => rfl
  | some ds =>
    show (if ds.length ≤ sizeLine then Den.ret (O.d (.tuple ds)) else Den.no) s = if ds.length ≤ sizeLine then _ else _
    split <;> rfl
@[simp] theorem c_lst {f : Den (List O)} : dLst f sl = (f sl).sq kLst := by
  show (f sl).sq _ = _
  congr 1
  funext os s
  unfold kLst
  cases asDs os with
  | none => rfl
  | some ds =>
    show (if ds.length ≤ sizeLine then Den.ret (O.tmp (.lst ds)) else Den.no) s = if ds.length ≤ sizeLine then _ else _
    split <;> rfl
@[simp] theorem c_dic0 : dDic0 sl = .ok (.tmp (.dic [])) sl := rfl
@[simp] theorem c_asDs0 : asDs [] = some [] := rfl
def cnsD (d : D) : Option (List D) → Option (List D)
  | some ds => some (d :: ds)
  | none => none
@[simp] theorem c_cnsD {d : D} {ds : List D} : cnsD d (some ds) = some (d :: ds) := rfl
@[simp] theorem c_asDs1 {d : D} {r : List O} : asDs (.d d :: r) = cnsD d (asDs r) := by
  show (asDs r).map (d :: ·) = _
  cases asDs r <;> rfl
/-! statements -/
def kS (g : Den Fl) (a : Fl) (s : Sls) : Rz Fl := match a with
  | .nx => g s
  | r => .ok r s
@[simp] theorem c_kSn {g : Den Fl} : kS g .nx sl = g sl := rfl
@[simp] theorem c_kSr {g : Den Fl} {o : O} : kS g (.rt o) sl = .ok (.rt o) sl := rfl
@[simp] theorem c_kSb {g : Den Fl} : kS g .bk sl = .ok .bk sl := rfl
@[simp] theorem c_kSc {g : Den Fl} : kS g .ct sl = .ok .ct sl := rfl
@[simp] theorem c_seq {f g : Den Fl} : dSeq f g sl = (f sl).sq (kS g) := by
  show (f sl).sq _ = _
  congr 1
  funext a s
  cases a <;> rfl
@[simp] theorem c_skip : dSkip sl = .ok .nx sl := rfl
def kR (o : O) (s : Sls) : Rz Fl := .ok (.rt o) s
@[simp] theorem c_kR {o : O} : kR o sl = .ok (.rt o) sl := rfl
@[simp] theorem c_dRet {f : Den O} : dRet f sl = (f sl).sq kR := rfl
def kE (o : O) (s : Sls) : Rz Fl := .ok .nx s
@[simp] theorem c_kE {o : O} : kE o sl = .ok .nx sl := rfl
@[simp] theorem c_expr {f : Den O} : dExpr f sl = (f sl).sq kE := rfl
@[simp] theorem c_put {i : Nat} {f : Den O} : dPut i f sl = (f sl).sq (putF i) := rfl
@[simp] theorem c_putF {i : Nat} {o : O} : putF i o sl = oq (putO i o sl) fun s => .ok .nx s := by
  unfold putF oq
  cases putO i o sl <;> rfl
@[simp] theorem c_putOD {i : Nat} {d : D} : putO i (.d d) sl = if i < sl.length then some (sl.set i (.val d)) else none := rfl
@[simp] theorem c_putOT {i : Nat} {m : Mu} : putO i (.tmp m) sl = if i < sl.length then some (sl.set i (.own none m)) else none := rfl
def kPL (is : List Nat) (os : List O) (s : Sls) : Rz Fl := oq (putL is os s) fun s => .ok .nx s
@[simp] theorem c_kPL {is : List Nat} {os : List O} : kPL is os sl = oq (putL is os sl) fun s => .ok .nx s := rfl
@[simp] theorem c_putLs {is : List Nat} {f : Den (List O)} : dPutL is f sl = (f sl).sq (kPL is) := by
  show (f sl).sq _ = _
  congr 1
  funext os s
  unfold kPL
  cases h : putL is os s <;> simp [h]
def oqS (r : Option α) (k : α → Option β) : Option β := match r with
  | some a => k a
  | none => none
@[simp] theorem oqS_some {a : α} {k : α → Option β} : oqS (some a) k = k a := rfl
@[simp] theorem oqS_none {k : α → Option β} : oqS none k = none := rfl
@[simp] theorem c_putL0 : putL [] [] sl = some sl := rfl
@[simp] theorem c_putL1 {i : Nat} {is : List Nat} {o : O} {os : List O} : putL (i :: is) (o :: os) sl = oqS (putO i o sl) (putL is os) := by
  show (match putO i o sl with
    | some s => putL is os s
    | none => none) = _
  cases putO i o sl <;> rfl
def kA (t : Tg) (o : O) (s : Sls) : Rz Fl := match o with
  | .d x => oq (t x s) fun s => .ok .nx s
  | _ => .no
@[simp] theorem c_kA {t : Tg} {x : D} : kA t (.d x) sl = oq (t x sl) fun s => .ok .nx s := rfl
@[simp] theorem c_asg {t : Tg} {f : Den O} : dAsg t f sl = (dFix f sl).sq (kA t) := by
  show (dFix f sl).sq _ = _
  congr 1
  funext o s
  cases o with
  | d x =>
    unfold kA
    dsimp only
    cases h : t x s <;> simp [h]
  | _ => rfl
@[simp] theorem c_gN {i : Nat} {d : D} : gN i d sl = if i < sl.length then some (sl.set i (.val d)) else none := rfl
@[simp] theorem c_gT {u : List D → Sls → Option Sls} {ds : List D} : gT u (.tuple ds) sl = u ds sl := rfl
@[simp] theorem c_gTL1 {u : List D → Sls → Option Sls} {ds : List D} : gTL u (.tuple ds) sl = u ds sl := rfl
@[simp] theorem c_gTL2 {u : List D → Sls → Option Sls} {ds : List D} : gTL u (.list ds) sl = u ds sl := rfl
@[simp] theorem c_gsN : gsNil [] sl = some sl := rfl
@[simp] theorem c_gsC {t : Tg} {u : List D → Sls → Option Sls} {d : D} {ds : List D} : gsCons t u (d :: ds) sl = oqS (t d sl) (u ds) := by
  show (match t d sl with
    | some sl1 => u ds sl1
    | none => none) = _
  cases t d sl <;> rfl
/-! what is walked -/
def kI (o : O) (s : Sls) : Rz (List D) := Den.opt ((optD o).bind itemsOf) s
@[simp] theorem c_items {f : Den O} : dItems f sl = (dFix f sl).sq kI := rfl
@[simp] theorem c_kIl {ds : List D} : kI (.d (.list ds)) sl = .ok ds sl := rfl
@[simp] theorem c_kIt {ds : List D} : kI (.d (.tuple ds)) sl = .ok ds sl := rfl
def kF (g : List D → Option (List D)) (os : List O) (s : Sls) : Rz (List D) := Den.opt ((asDs os).bind g) s
def kF' (s : Sls) (ds : List D) : Rz (List D) := .ok ds s
@[simp] theorem c_kF' {ds : List D} : kF' sl ds = .ok ds sl := rfl
@[simp] theorem c_kF {g : List D → Option (List D)} {os : List O} : kF g os sl = oq (oqS (asDs os) g) (kF' sl) := by
  unfold kF
  cases asDs os with
  | none => rfl
  | some ds =>
    show Den.opt (g ds) sl = oq (g ds) _
    cases g ds <;> rfl
@[simp] theorem c_itF {g : List D → Option (List D)} {f : Den (List O)} : dItF g f sl = (f sl).sq (kF g) := rfl
@[simp] theorem c_enL {ds : List D} : enumL [.list ds] = some (enumD 0 ds) := rfl
@[simp] theorem c_enT {ds : List D} : enumL [.tuple ds] = some (enumD 0 ds) := rfl
@[simp] theorem c_zipL {as bs : List D} : zipL [.list as, .list bs] = some (zipD as bs) := rfl
@[simp] theorem c_zipT {as bs : List D} : zipL [.tuple as, .tuple bs] = some (zipD as bs) := rfl
def kG (g : List D → Option (List D)) (os : List O) (s : Sls) : Rz (List D) := oq (oqS (seeAll s os) g) (kF' s)
@[simp] theorem c_kG {g : List D → Option (List D)} {os : List O} : kG g os sl = oq (oqS (seeAll sl os) g) (kF' sl) := rfl
@[simp] theorem c_itC {g : List D → Option (List D)} {f : Den (List O)} : dItC g f sl = (f sl).sq (kG g) := by
  show (f sl).sq _ = _
  congr 1
  funext os s
  unfold kG
  cases seeAll s os with
  | none => rfl
  | some ds =>
    dsimp only
    rw [oqS_some]
    cases g ds <;> rfl
@[simp] theorem c_for {fi : Den (List D)} {t : Tg} {body : Den Fl} : dFor fi t body sl = (fi sl).sq (forGo t body) := rfl
/-! the script -/
def len1 (sl : Sls) : Option Sl → Rz O
  | some (.scr ns) => .ok (.d (.int ns.length)) sl
  | _ => .no
@[simp] theorem c_len1 {ns : List Int} : len1 sl (some (.scr ns)) = .ok (.d (.int ns.length)) sl := rfl
@[simp] theorem c_lenS {i : Nat} : dLenS i sl = len1 sl sl[i]? := by
  unfold dLenS len1
  cases sl[i]? with
  | none => rfl
  | some s => cases s <;> rfl
def ix2 (ns : List Int) (o : O) (s : Sls) : Rz O := match o with
    | .d (.int j) => oq (atI ns j) fun z => .ok (.d (.int z)) s
    | _ => .no
@[simp] theorem c_ix2 {ns : List Int} {j : Int} : ix2 ns (.d (.int j)) sl = oq (atI ns j) fun z => .ok (.d (.int z)) sl := rfl
def ix1 (fi : Den O) (sl : Sls) : Option Sl → Rz O
  | some (.scr ns) => (fi sl).sq (ix2 ns)
  | _ => .no
@[simp] theorem c_ix1 {fi : Den O} {ns : List Int} : ix1 fi sl (some (.scr ns)) = (fi sl).sq (ix2 ns) := rfl
@[simp] theorem c_ixS {i : Nat} {fi : Den O} : dIxS i fi sl = ix1 fi sl sl[i]? := by
  unfold dIxS ix1
  cases sl[i]? with
  | none => rfl
  | some s =>
    cases s with
    | scr ns =>
      show (fi sl).sq _ = _
      congr 1
      funext o s
      cases o with
      | d x =>
        cases x with
        | int j =>
          unfold ix2
          dsimp only
          cases atI ns j <;> rfl
        | _ => rfl
      | _ => rfl
    | _ => rfl
/-! calls -/
@[simp] theorem c_call {g : FnD} {fa : Den (List O)} : dCall g fa sl = (fa sl).sq (dCallO g) := rfl
end
/-! operations on plain numbers -/
section
variable {i j : Int}
@[simp] theorem o_add : dAdd (.int i) (.int j) = some (.d (.int (i + j))) := rfl
@[simp] theorem o_sub : dSub (.int i) (.int j) = some (.d (.int (i - j))) := rfl
theorem o_mod (h : 0 < j) : dMod (.int i) (.int j) = some (.d (.int (i % j))) := if_pos h
theorem o_fdiv (h : 0 < j) (h2 : j.natAbs.log2 < 9000) : dFdiv (.int i) (.int j) = some (.d (.int (i / j))) := if_pos ⟨h, h2⟩
theorem o_mul (h : mulOk i j = true) : dMul (.int i) (.int j) = some (.d (.int (i * j))) := if_pos h
theorem mulOkR (h : -(2 ^ 64) < j ∧ j < 2 ^ 64) : mulOk i j = true := by
  unfold mulOk
  rw [Bool.or_eq_true]
  exact .inl (decide_eq_true (.inr h))
theorem mulOkL (h : -(2 ^ 64) < i ∧ i < 2 ^ 64) : mulOk i j = true := by
  unfold mulOk
  rw [Bool.or_eq_true]
  exact .inl (decide_eq_true (.inl h))
theorem o_pow (h : 0 ≤ j ∧ j ≤ 1000000 ∧ i.natAbs < 2 ^ 64) : dPow (.int i) (.int j) = some (.d (.int (i ^ j.toNat))) := if_pos h
@[simp] theorem o_neg : dNeg (.int i) = some (.d (.int (-i))) := rfl
@[simp] theorem o_lt : dLt (.int i) (.int j) = some (.d (.bool (decide (i < j)))) := rfl
@[simp] theorem o_le : dLe (.int i) (.int j) = some (.d (.bool (decide (i ≤ j)))) := rfl
@[simp] theorem o_gt : dGt (.int i) (.int j) = some (.d (.bool (decide (j < i)))) := rfl
@[simp] theorem o_ge : dGe (.int i) (.int j) = some (.d (.bool (decide (j ≤ i)))) := rfl
@[simp] theorem o_abs : dAbs [.int i] = some (.d (.int (if i < 0 then -i else i))) := rfl
@[simp] theorem o_max : dMax2 [.int i, .int j] = some (.d (.int (if j > i then j else i))) := rfl
@[simp] theorem o_min : dMin2 [.int i, .int j] = some (.d (.int (if j < i then j else i))) := rfl
@[simp] theorem o_int : dInt1 [.int i] = some (.d (.int i)) := rfl
@[simp] theorem o_intB {b : Bool} : dInt1 [.bool b] = some (.d (.int (if b then 1 else 0))) := rfl
@[simp] theorem o_tupL {ds : List D} : dTuple [.list ds] = some (.d (.tuple ds)) := rfl
@[simp] theorem o_tupT {ds : List D} : dTuple [.tuple ds] = some (.d (.tuple ds)) := rfl
@[simp] theorem o_lstL {ds : List D} : dList [.list ds] = some (.tmp (.lst ds)) := rfl
@[simp] theorem o_lstT {ds : List D} : dList [.tuple ds] = some (.tmp (.lst ds)) := rfl
@[simp] theorem o_lenL {ds : List D} : dLen [.list ds] = some (.d (.int ds.length)) := rfl
@[simp] theorem o_lenT {ds : List D} : dLen [.tuple ds] = some (.d (.int ds.length)) := rfl
@[simp] theorem o_lenK {ds : List (D × D)} : dLen [.dict ds] = some (.d (.int ds.length)) := rfl
@[simp] theorem o_ixL {ds : List D} : dIx (.list ds) (.int i) = (atI ds i).map .d := rfl
@[simp] theorem o_ixT {ds : List D} : dIx (.tuple ds) (.int i) = (atI ds i).map .d := rfl
end
/-- two numbers compared -/
theorem eqv_int {i j : Int} : PyData.eqv (.int i) (.int j) = decide (i = j) := by
  first
    | rfl
    | simp [PyData.eqv]
@[simp] theorem o_eqI {i j : Int} : dEq (.int i) (.int j) = some (.d (.bool (decide (i = j)))) := by
  show (if _ ∧ _ then some _ else none) = _
  rw [if_pos ⟨rfl, rfl⟩, eqv_int]
@[simp] theorem o_neI {i j : Int} : dNe (.int i) (.int j) = some (.d (.bool (!decide (i = j)))) := by
  show (if _ ∧ _ then some _ else none) = _
  rw [if_pos ⟨rfl, rfl⟩, eqv_int]

/-! ### calls, defs -/
section
variable {sl s : Sls} {os r : List O} {ars : List Ar} {ms : List Mu}
def ar1 : Option Sl → Option Ar
  | some (.own _ m) => some (.mu m)
  | some (.val x) => some (.val x)
  | _ => none
@[simp] theorem c_ar1 {t : Option Nat} {m : Mu} : ar1 (some (.own t m)) = some (.mu m) := rfl
@[simp] theorem c_ar2 {x : D} : ar1 (some (.val x)) = some (.val x) := rfl
@[simp] theorem c_arD {x : D} : arOf sl (.d x) = some (.val x) := rfl
@[simp] theorem c_arT {m : Mu} : arOf sl (.tmp m) = some (.mu m) := rfl
@[simp] theorem c_arScr {ns : List Int} : arOf sl (.scr ns) = some (.scr ns) := rfl
@[simp] theorem c_arS {i : Nat} : arOf sl (.sl i) = ar1 sl[i]? := by
  show (match sl[i]? with
    | some (.own _ m) => some (Ar.mu m)
    | some (.val x) => some (Ar.val x)
    | _ => none) = _
  cases sl[i]? with
  | none => rfl
  | some s => cases s <;> rfl
def ar3 : Option Ar → Option (List Ar) → Option (List Ar)
  | some a, some as => some (a :: as)
  | _, _ => none
@[simp] theorem c_ar3 {a : Ar} {as : List Ar} : ar3 (some a) (some as) = some (a :: as) := rfl
@[simp] theorem c_ars0 : arsOf sl [] = some [] := rfl
@[simp] theorem c_ars1 {o : O} : arsOf sl (o :: r) = ar3 (arOf sl o) (arsOf sl r) := by
  show (match arOf sl o, arsOf sl r with
    | some a, some as => some (a :: as)
    | _, _ => none) = _
  cases arOf sl o <;> cases arsOf sl r <;> rfl
def sls1 (i : Nat) (l : List Nat) : Option Sl → List Nat
  | some (.own _ _) => i :: l
  | _ => l
@[simp] theorem c_sls1 {i : Nat} {l : List Nat} {t : Option Nat} {m : Mu} : sls1 i l (some (.own t m)) = i :: l := rfl
@[simp] theorem c_sls2 {i : Nat} {l : List Nat} {x : D} : sls1 i l (some (.val x)) = l := rfl
@[simp] theorem c_sls0 : slsOf sl [] = [] := rfl
@[simp] theorem c_slsD {x : D} : slsOf sl (.d x :: r) = slsOf sl r := rfl
@[simp] theorem c_slsT {m : Mu} : slsOf sl (.tmp m :: r) = slsOf sl r := rfl
@[simp] theorem c_slsScr {ns : List Int} : slsOf sl (.scr ns :: r) = slsOf sl r := rfl
@[simp] theorem c_slsS {i : Nat} : slsOf sl (.sl i :: r) = sls1 i (slsOf sl r) sl[i]? := by
  show (match sl[i]? with
    | some (.own _ _) => i :: slsOf sl r
    | _ => slsOf sl r) = _
  cases sl[i]? with
  | none => rfl
  | some s => cases s <;> rfl
@[simp] theorem c_tk0 : takeOut sl [] = sl := rfl
@[simp] theorem c_tk1 {i : Nat} {l : List Nat} : takeOut sl (i :: l) = takeOut (sl.set i .em) l := rfl
def pb1 (sl0 : Sls) (i : Nat) (r : List O) (ms : List Mu) (sl : Sls) : Option Sl → Sls
  | some (.own t _) => match ms with
    | m :: ms => putBack sl0 r ms (sl.set i (.own t m))
    | [] => sl
  | _ => putBack sl0 r ms sl
@[simp] theorem c_pb1 {i : Nat} {t : Option Nat} {m m' : Mu} : pb1 s i r (m :: ms) sl (some (.own t m')) = putBack s r ms (sl.set i (.own t m)) := rfl
@[simp] theorem c_pb2 {i : Nat} {x : D} : pb1 s i r ms sl (some (.val x)) = putBack s r ms sl := rfl
@[simp] theorem c_pb0 : putBack s [] ms sl = sl := rfl
@[simp] theorem c_pbD {x : D} : putBack s (.d x :: r) ms sl = putBack s r ms sl := rfl
@[simp] theorem c_pbScr {ns : List Int} : putBack s (.scr ns :: r) ms sl = putBack s r ms sl := rfl
@[simp] theorem c_pbT {m m' : Mu} : putBack s (.tmp m :: r) (m' :: ms) sl = putBack s r ms sl := rfl
@[simp] theorem c_pbS {i : Nat} : putBack s (.sl i :: r) ms sl = pb1 s i r ms sl s[i]? := by
  show (match s[i]? with
    | some (.own t _) => match ms with
      | m :: ms => putBack s r ms (sl.set i (.own t m))
      | [] => sl
    | _ => putBack s r ms sl) = _
  cases s[i]? with
  | none => rfl
  | some z => cases z <;> rfl
def unt1 : Option Sl → Bool
  | some (.own none _) => true
  | _ => false
@[simp] theorem c_unt1 {m : Mu} : unt1 (some (.own none m)) = true := rfl
@[simp] theorem c_unt2 {k : Nat} {m : Mu} : unt1 (some (.own (some k) m)) = false := rfl
@[simp] theorem c_unt {i : Nat} : untagged sl i = unt1 sl[i]? := by
  unfold untagged
  cases sl[i]? with
  | none => rfl
  | some z =>
    cases z with
    | own t m => cases t <;> rfl
    | _ => rfl
/-- those handed on: all their own, or all somebody's -/
def okL (sl : Sls) (l : List Nat) : Bool := decide l.Nodup && (l.all (untagged sl) || l.all fun i => !untagged sl i)
@[simp] theorem c_callOk : callOk sl os = okL sl (slsOf sl os) := rfl
@[simp] theorem c_okL0 : okL sl [] = true := rfl
@[simp] theorem c_okL1 {i : Nat} : okL sl [i] = true := by
  unfold okL
  simp only [List.all_cons, List.all_nil, Bool.and_true]
  cases untagged sl i <;> rfl
theorem c_okL {l : List Nat} : okL sl l = (decide l.Nodup && (l.all (untagged sl) || l.all fun i => !untagged sl i)) := rfl
def cl2 (os : List O) (s : Sls) : FRes → Rz O
  | .ret o outs => if resOk o = true then .ok o (putBack s os outs (takeOut s (slsOf s os))) else .no
  | _ => .no
def cl1 (g : FnD) (os : List O) (s : Sls) (ars : List Ar) : Rz O := if callOk s os = true then cl2 os s (g ars) else .no
@[simp] theorem c_callO {g : FnD} : dCallO g os sl = oq (arsOf sl os) (cl1 g os sl) := by
  unfold dCallO cl1 cl2 oq
  cases arsOf sl os with
  | none => rfl
  | some ars =>
    dsimp only
    split
    · cases g ars <;> rfl
    · rfl
@[simp] theorem c_cl1 {g : FnD} : cl1 g os sl ars = if okL sl (slsOf sl os) = true then cl2 os sl (g ars) else .no := rfl
@[simp] theorem c_cl2D {x : D} : cl2 os sl (.ret (.d x) ms) = .ok (.d x) (putBack sl os ms (takeOut sl (slsOf sl os))) := rfl
@[simp] theorem c_cl2T {m : Mu} : cl2 os sl (.ret (.tmp m) ms) = .ok (.tmp m) (putBack sl os ms (takeOut sl (slsOf sl os))) := rfl
/-! a def's end -/
def fin2 : Option O → Option (List Mu) → FRes
  | some o, some outs => .ret o outs
  | _, _ => .no
@[simp] theorem c_fin2 {o : O} {outs : List Mu} : fin2 (some o) (some outs) = .ret o outs := rfl
def fin (own : Bool) (ars : List Ar) : Rz Fl → FRes
  | .ok fl sl => fin2 (retOf own sl fl) (outsOf sl 0 ars)
  | .err x sl => match outsOf sl 0 ars with
    | some outs => .err x outs
    | none => .no
  | .no => .no
@[simp] theorem c_fin {own : Bool} {fl : Fl} : fin own ars (.ok fl sl) = fin2 (retOf own sl fl) (outsOf sl 0 ars) := rfl
theorem c_fnD {m n : Nat} {own : Bool} {g : Den Fl} (h : ars.length = m) : fnD m n own g ars = fin own ars (g (slotsOf 0 ars ++ List.replicate (n - m) .em)) := by
  subst h
  show (if ars.length = ars.length then runFn n own g ars else .no) = _
  rw [if_pos rfl]
  show (match g (slotsOf 0 ars ++ List.replicate (n - ars.length) .em) with
    | .ok fl sl => match retOf own sl fl, outsOf sl 0 ars with
      | some o, some outs => FRes.ret o outs
      | _, _ => .no
    | .err x sl => match outsOf sl 0 ars with
      | some outs => .err x outs
      | none => .no
    | .no => .no) = _
  cases g (slotsOf 0 ars ++ List.replicate (n - ars.length) .em) with
  | ok fl sl =>
    dsimp only [fin]
    cases retOf own sl fl <;> cases outsOf sl 0 ars <;> rfl
  | err x s => rfl
  | no => rfl
@[simp] theorem c_fn1 {n : Nat} {own : Bool} {g : Den Fl} {a : Ar} : fnD 1 n own g [a] = fin own [a] (g (slotsOf 0 [a] ++ List.replicate (n - 1) .em)) := c_fnD rfl
@[simp] theorem c_fn2 {n : Nat} {own : Bool} {g : Den Fl} {a b : Ar} : fnD 2 n own g [a, b] = fin own [a, b] (g (slotsOf 0 [a, b] ++ List.replicate (n - 2) .em)) := c_fnD rfl
@[simp] theorem c_fn3 {n : Nat} {own : Bool} {g : Den Fl} {a b c : Ar} : fnD 3 n own g [a, b, c] = fin own [a, b, c] (g (slotsOf 0 [a, b, c] ++ List.replicate (n - 3) .em)) := c_fnD rfl
@[simp] theorem c_fn4 {n : Nat} {own : Bool} {g : Den Fl} {a b c d : Ar} : fnD 4 n own g [a, b, c, d] = fin own [a, b, c, d] (g (slotsOf 0 [a, b, c, d] ++ List.replicate (n - 4) .em)) := c_fnD rfl
@[simp] theorem c_sO0 {k : Nat} : slotsOf k [] = [] := rfl
@[simp] theorem c_sOv {k : Nat} {d : D} : slotsOf k (.val d :: ars) = .val d :: slotsOf k ars := rfl
@[simp] theorem c_sOs {k : Nat} {ns : List Int} : slotsOf k (.scr ns :: ars) = .scr ns :: slotsOf k ars := rfl
@[simp] theorem c_sOm {k : Nat} {m : Mu} : slotsOf k (.mu m :: ars) = .own (some k) m :: slotsOf (k + 1) ars := rfl
def ret1 (own : Bool) : Option Sl → Option O
  | some (.val x) => some (.d x)
  | some (.own none m) => some (if own = true then .tmp m else .d m.toD)
  | _ => none
@[simp] theorem c_ret1 {own : Bool} {x : D} : ret1 own (some (.val x)) = some (.d x) := rfl
@[simp] theorem c_ret2 {m : Mu} : ret1 true (some (.own none m)) = some (.tmp m) := rfl
@[simp] theorem c_ret3 {m : Mu} : ret1 false (some (.own none m)) = some (.d m.toD) := rfl
@[simp] theorem c_rN {own : Bool} : retOf own sl .nx = some (.d .none) := rfl
@[simp] theorem c_rD {own : Bool} {x : D} : retOf own sl (.rt (.d x)) = some (.d x) := rfl
@[simp] theorem c_rT {m : Mu} : retOf true sl (.rt (.tmp m)) = some (.tmp m) := rfl
@[simp] theorem c_rF {m : Mu} : retOf false sl (.rt (.tmp m)) = some (.d m.toD) := rfl
@[simp] theorem c_rS {own : Bool} {i : Nat} : retOf own sl (.rt (.sl i)) = ret1 own sl[i]? := by
  show (match sl[i]? with
    | some (.val x) => some (O.d x)
    | some (.own none m) => some (if own = true then O.tmp m else O.d m.toD)
    | _ => none) = _
  cases sl[i]? with
  | none => rfl
  | some z =>
    cases z with
    | own t m => cases t <;> rfl
    | _ => rfl
def out3 : Option Mu → Option (List Mu) → Option (List Mu)
  | some m, some ms => some (m :: ms)
  | _, _ => none
@[simp] theorem c_out3 {m : Mu} : out3 (some m) (some ms) = some (m :: ms) := rfl
@[simp] theorem c_ou0 {k : Nat} : outsOf sl k [] = some [] := rfl
@[simp] theorem c_ouv {k : Nat} {d : D} : outsOf sl k (.val d :: ars) = outsOf sl k ars := rfl
@[simp] theorem c_ous {k : Nat} {ns : List Int} : outsOf sl k (.scr ns :: ars) = outsOf sl k ars := rfl
@[simp] theorem c_oum {k : Nat} {m : Mu} : outsOf sl k (.mu m :: ars) = out3 (findTag sl k) (outsOf sl (k + 1) ars) := by
  show (match findTag sl k, outsOf sl (k + 1) ars with
    | some m, some ms => some (m :: ms)
    | _, _ => none) = _
  cases findTag sl k <;> cases outsOf sl (k + 1) ars <;> rfl
@[simp] theorem c_ft0 {k : Nat} : findTag [] k = none := rfl
@[simp] theorem c_ftv {k : Nat} {d : D} : findTag (.val d :: sl) k = findTag sl k := rfl
@[simp] theorem c_fte {k : Nat} : findTag (.em :: sl) k = findTag sl k := rfl
@[simp] theorem c_fts {k : Nat} {ns : List Int} : findTag (.scr ns :: sl) k = findTag sl k := rfl
@[simp] theorem c_ftn {k : Nat} {m : Mu} : findTag (.own none m :: sl) k = findTag sl k := rfl
@[simp] theorem c_fto {k : Nat} {m : Mu} : findTag (.own (some k) m :: sl) k = some m := by
  unfold findTag
  rw [List.findSome?_cons]
  simp
theorem c_ftx {j k : Nat} {m : Mu} (h : j ≠ k) : findTag (.own (some j) m :: sl) k = findTag sl k := by
  unfold findTag
  rw [List.findSome?_cons]
  simp [h]
end
/-! ### methods, stores -/
section
variable {sl s : Sls}
def mt3 (i : Nat) (g : Mu → List D → Option (Mu × D)) (ds : List D) (s : Sls) : Option Sl → Rz O
  | some (.own t m) => oq (g m ds) fun p => .ok (.d p.2) (s.set i (.own t p.1))
  | _ => .no
def mt2 (i : Nat) (g : Mu → List D → Option (Mu × D)) (os : List O) (s : Sls) : Rz O := oq (asDs os) fun ds => mt3 i g ds s s[i]?
def mt1 (T : String) (i : Nat) (g : Mu → List D → Option (Mu × D)) (fa : Den (List O)) (sl : Sls) : Option Sl → Rz O
  | some (.own _ m0) => if m0.ty = T then (fa sl).sq (mt2 i g) else .no
  | _ => .no
def kMt (T : String) (g : Mu → List D → Option (Mu × D)) (fa : Den (List O)) (o : O) (s : Sls) : Rz O := match o with
  | .sl i => mt1 T i g fa s s[i]?
  | _ => .no
@[simp] theorem c_kMt {T : String} {g : Mu → List D → Option (Mu × D)} {fa : Den (List O)} {i : Nat} : kMt T g fa (.sl i) sl = mt1 T i g fa sl sl[i]? := rfl
theorem c_mt1 {T : String} {g : Mu → List D → Option (Mu × D)} {fa : Den (List O)} {i : Nat} {t : Option Nat} {m : Mu} (h : m.ty = T) : mt1 T i g fa sl (some (.own t m)) = (fa sl).sq (mt2 i g) := if_pos h
@[simp] theorem c_mt1L {g : Mu → List D → Option (Mu × D)} {fa : Den (List O)} {i : Nat} {t : Option Nat} {xs : List D} : mt1 "list" i g fa sl (some (.own t (.lst xs))) = (fa sl).sq (mt2 i g) := c_mt1 (m := .lst xs) rfl
@[simp] theorem c_mt2 {g : Mu → List D → Option (Mu × D)} {i : Nat} {os : List O} : mt2 i g os sl = oq (asDs os) fun ds => mt3 i g ds sl sl[i]? := rfl
@[simp] theorem c_mt3 {g : Mu → List D → Option (Mu × D)} {i : Nat} {ds : List D} {t : Option Nat} {m : Mu} : mt3 i g ds sl (some (.own t m)) = oq (g m ds) fun p => .ok (.d p.2) (sl.set i (.own t p.1)) := rfl
@[simp] theorem c_mt {T : String} {g : Mu → List D → Option (Mu × D)} {fo : Den O} {fa : Den (List O)} : dMt T g fo fa sl = (fo sl).sq (kMt T g fa) := by
  show (fo sl).sq (fun o => dMt1 T g o fa) = _
  congr 1
  funext o s
  cases o with
  | sl i =>
    unfold dMt1 kMt mt1
    dsimp only
    cases e : s[i]? with
    | none => rfl
    | some z =>
      cases z with
      | own t m =>
        dsimp only
        split
        · show (fa s).sq _ = (fa s).sq _
          congr 1
          funext os s2
          unfold mt2 mt3
          cases asDs os with
          | none => rfl
          | some ds =>
            cases e2 : s2[i]? with
            | none => simp [e2]
            | some z2 =>
              cases z2 with
              | own t2 m2 =>
                simp only [e2, oq_some]
                cases g m2 ds <;> rfl
              | _ => simp [e2]
        · rfl
      | _ => rfl
  | _ => rfl
theorem m_append {xs : List D} {d : D} (h : xs.length < sizeLine) : mAppend (.lst xs) [d] = some (.lst (xs ++ [d]), .none) := if_pos h
/-! o[i] = v -/
def st3 (g : Mu → D → D → Option Mu) (dv dy : D) (i : Nat) (s : Sls) : Option Sl → Rz Fl
  | some (.own t m) => oq (g m dy dv) fun m' => .ok .nx (s.set i (.own t m'))
  | _ => .no
def st2 (g : Mu → D → D → Option Mu) (dv : D) (o y : O) (s : Sls) : Rz Fl := match o with
  | .sl i => oq (y.see s) fun dy => st3 g dv dy i s s[i]?
  | _ => .no
def st1 (g : Mu → D → D → Option Mu) (fi : Den O) (dv : D) (o : O) (s : Sls) : Rz Fl := (fi s).sq (st2 g dv o)
def kSet (g : Mu → D → D → Option Mu) (fo fi : Den O) (x : O) (s : Sls) : Rz Fl := match x with
  | .d dv => (fo s).sq (st1 g fi dv)
  | _ => .no
@[simp] theorem c_kSet {g : Mu → D → D → Option Mu} {fo fi : Den O} {dv : D} : kSet g fo fi (.d dv) sl = (fo sl).sq (st1 g fi dv) := rfl
@[simp] theorem c_st1 {g : Mu → D → D → Option Mu} {fi : Den O} {dv : D} {o : O} : st1 g fi dv o sl = (fi sl).sq (st2 g dv o) := rfl
@[simp] theorem c_st2 {g : Mu → D → D → Option Mu} {dv : D} {i : Nat} {y : O} : st2 g dv (.sl i) y sl = oq (y.see sl) fun dy => st3 g dv dy i sl sl[i]? := rfl
@[simp] theorem c_st3 {g : Mu → D → D → Option Mu} {dv dy : D} {i : Nat} {t : Option Nat} {m : Mu} : st3 g dv dy i sl (some (.own t m)) = oq (g m dy dv) fun m' => .ok .nx (sl.set i (.own t m')) := rfl
@[simp] theorem c_set {g : Mu → D → D → Option Mu} {fo fi fv : Den O} : dSet g fo fi fv sl = (dFix fv sl).sq (kSet g fo fi) := by
  show (dFix fv sl).sq _ = _
  congr 1
  funext x s
  cases x with
  | d dv =>
    show (fo s).sq _ = (fo s).sq _
    congr 1
    funext o s1
    show (fi s1).sq _ = (fi s1).sq _
    congr 1
    funext y s2
    cases o with
    | sl i =>
      unfold st2
      dsimp only
      cases y.see s2 with
      | none => rfl
      | some dy =>
        dsimp only [oq_some]
        unfold st3
        cases e : s2[i]? with
        | none => simp [e]
        | some z =>
          cases z with
          | own t m =>
            simp only [e]
            cases g m dy dv <;> rfl
          | _ => simp [e]
    | _ =>
      unfold st2
      cases y.see s2 <;> rfl
  | _ => rfl
end

/-! ### steps of a block -/
section
variable {sl s : Sls} {f g : Den Fl} {o : O}
theorem seq_nx (h : f sl = .ok .nx s) : dSeq f g sl = g s := by rw [c_seq, h]; rfl
theorem seq_rt (h : f sl = .ok (.rt o) s) : dSeq f g sl = .ok (.rt o) s := by rw [c_seq, h]; rfl
end
/-! ### places of short lists -/
section
variable {α : Type} {a b c d e : α}
@[simp] theorem at1_0 : atI [a] 0 = some a := rfl
@[simp] theorem at2_0 : atI [a, b] 0 = some a := rfl
@[simp] theorem at2_1 : atI [a, b] 1 = some b := rfl
@[simp] theorem at3_0 : atI [a, b, c] 0 = some a := rfl
@[simp] theorem at3_1 : atI [a, b, c] 1 = some b := rfl
@[simp] theorem at3_2 : atI [a, b, c] 2 = some c := rfl
end
section
variable {a b c d : D}
@[simp] theorem st3_0 : mSetL (.lst [a, b, c]) (.int 0) d = some (.lst [d, b, c]) := rfl
@[simp] theorem st3_1 : mSetL (.lst [a, b, c]) (.int 1) d = some (.lst [a, d, c]) := rfl
@[simp] theorem st3_2 : mSetL (.lst [a, b, c]) (.int 2) d = some (.lst [a, b, d]) := rfl
end
theorem log_small {j : Int} (h : 0 < j) (h2 : j < 2 ^ 64) : j.natAbs.log2 < 9000 := by
  have h3 : j.natAbs < 2 ^ 64 := by omega
  have := (Nat.log2_lt (by omega : j.natAbs ≠ 0)).mpr h3
  omega
end AL
end
section
set_option Elab.async false
set_option linter.all false
set_option maxRecDepth 100000
set_option maxHeartbeats 4000000
set_option autoImplicit false
/-! Pure tools, part b: comprehensions and loops. -/
namespace AL
open PySem PySem.Spec PyProof.Rows L2
theorem rest_wipe {sl s : Sls} : ∀ {vs : List Nat}, (∀ v ∈ vs, v < sl.length) → wipeS s vs = wipeS sl vs → restS sl s vs = sl := by
  intro vs hv h
  have hl : s.length = sl.length := by
    have := congrArg List.length h
    rw [wipeS_length, wipeS_length] at this
    exact this
  apply List.ext_getElem?
  intro j
  by_cases hj : j ∈ vs
  · rw [restS_in hl.symm hj]
  · rw [restS_out hj, ← wipeS_out (sl := s) hj, h, wipeS_out hj]
section
variable {vs : List Nat} {t : Tg} {ft : Den Bool} {fe : Den O} {p : D → Bool} {h : D → D} {w : Sls}
/-- one item of a comprehension that changes nothing else -/
structure LcAt (vs : List Nat) (t : Tg) (ft : Den Bool) (fe : Den O) (w : Sls) (d : D) (p : Bool) (h : D) : Prop where
  ex : ∃ s1, t d w = some s1 ∧ wipeS s1 vs = w ∧ ft s1 = .ok p s1 ∧ (p = true → fe s1 = .ok (.d h) s1)
theorem lc_pure : ∀ (ds acc : List D) (sl' : Sls), wipeS sl' vs = w → (∀ d ∈ ds, LcAt vs t ft fe w d (p d) (h d)) → acc.length + ds.length ≤ sizeLine →
    ∃ s, lcGo vs t ft fe ds acc sl' = .ok (acc ++ (ds.filter p).map h) s ∧ wipeS s vs = w
  | [], acc, sl', hw, _, _ => ⟨sl', by simp [lcGo], hw⟩
  | d :: ds, acc, sl', hw, hd, hl => by
    obtain ⟨s1, e1, e2, e3, e4⟩ := (hd d (by simp)).ex
    have hl : acc.length + (ds.length + 1) ≤ sizeLine := hl
    unfold lcGo
    rw [hw, e1]
    simp only [e3]
    cases hp : p d with
    | false =>
      obtain ⟨s, q1, q2⟩ := lc_pure ds acc s1 e2 (fun c hc => hd c (by simp [hc])) (by omega)
      refine ⟨s, ?_, q2⟩
      simp only [hp]
      rw [q1]
      simp [List.filter_cons, hp]
    | true =>
      obtain ⟨s, q1, q2⟩ := lc_pure ds (acc ++ [h d]) s1 e2 (fun c hc => hd c (by simp [hc])) (by rw [List.length_append, List.length_singleton]; omega)
      refine ⟨s, ?_, q2⟩
      simp only [hp, e4 hp]
      rw [if_pos (by omega), q1]
      simp [List.filter_cons, hp]
theorem dLc_eq {fi : Den (List D)} {sl sl1 : Sls} {ds : List D} (hi : fi sl = .ok ds sl1) (hv : ∀ v ∈ vs, v < sl1.length) (hd : ∀ d ∈ ds, LcAt vs t ft (dFix fe) (wipeS sl1 vs) d (p d) (h d)) (hl : ds.length ≤ sizeLine) :
    dLc vs fi t ft fe sl = .ok (.tmp (.lst ((ds.filter p).map h))) sl1 := by
  obtain ⟨s, q1, q2⟩ := lc_pure ds [] sl1 rfl hd (by simpa using hl)
  show (fi sl).sq _ = _
  rw [hi]
  show (match lcGo vs t ft (dFix fe) ds [] sl1 with
    | .ok acc s => Rz.ok (O.tmp (.lst acc)) (restS sl1 s vs)
    | _ => .no) = _
  rw [q1, List.nil_append]
  show Rz.ok _ (restS sl1 s vs) = _
  rw [rest_wipe hv q2]
theorem dLcD_eq {i : Nat} {f : List (D × D) → List D} {sl sl1 : Sls} {kvs : List (D × D)} (hi : (dFix (dVar i)) sl = .ok (.d (.dict kvs)) sl1) (hv : ∀ v ∈ vs, v < sl1.length) (hd : ∀ d ∈ f kvs, LcAt vs t ft (dFix fe) (wipeS sl1 vs) d (p d) (h d)) (hl : (f kvs).length ≤ sizeLine) :
    dLcD i f vs t ft fe sl = .ok (.tmp (.lst (((f kvs).filter p).map h))) sl1 := by
  obtain ⟨s, q1, q2⟩ := lc_pure (f kvs) [] sl1 rfl hd (by simpa using hl)
  show ((dFix (dVar i)) sl).sq _ = _
  rw [hi]
  show (match lcGo vs t ft (dFix fe) (f kvs) [] sl1 with
    | .ok acc s => Rz.ok (O.tmp (.lst acc)) (restS sl1 s vs)
    | _ => .no) = _
  rw [q1, List.nil_append]
  show Rz.ok _ (restS sl1 s vs) = _
  rw [rest_wipe hv q2]
/-- .. its items for a set -/
theorem cp_pure {okA : List D → D → Bool} : ∀ (ds acc : List D) (sl' : Sls), wipeS sl' vs = w → (∀ d ∈ ds, LcAt vs t ft fe w d (p d) (h d)) → (∀ (a : List D) (d : D), d ∈ ds → p d = true → a.length < acc.length + ds.length → okA a (h d) = true) →
    ∃ s, cpGo okA vs t ft fe ds acc sl' = .ok (acc ++ (ds.filter p).map h) s ∧ wipeS s vs = w
  | [], acc, sl', hw, _, _ => ⟨sl', by simp [cpGo], hw⟩
  | d :: ds, acc, sl', hw, hd, ho => by
    obtain ⟨s1, e1, e2, e3, e4⟩ := (hd d (by simp)).ex
    unfold cpGo
    rw [hw, e1]
    simp only [e3]
    cases hp : p d with
    | false =>
      obtain ⟨s, q1, q2⟩ := cp_pure (okA := okA) ds acc s1 e2 (fun c hc => hd c (by simp [hc])) (fun a c hc hpc hl => ho a c (by simp [hc]) hpc (by rw [List.length_cons]; omega))
      refine ⟨s, ?_, q2⟩
      simp only [hp]
      rw [q1]
      simp [List.filter_cons, hp]
    | true =>
      obtain ⟨s, q1, q2⟩ := cp_pure (okA := okA) ds (acc ++ [h d]) s1 e2 (fun c hc => hd c (by simp [hc])) (fun a c hc hpc hl => ho a c (by simp [hc]) hpc (by rw [List.length_append, List.length_singleton] at hl; rw [List.length_cons]; omega))
      refine ⟨s, ?_, q2⟩
      simp only [hp, e4 hp]
      rw [if_pos (ho acc d (by simp) hp (by rw [List.length_cons]; omega)), q1]
      simp [List.filter_cons, hp]
end
/-! ### for -/
/-- a loop that keeps a relation -/
theorem for_rel {σ : Type} {t : Tg} {body : Den Fl} (R : σ → Sls → Prop) (step : σ → D → σ) : ∀ (ds : List D) (s : σ) (sl : Sls), R s sl → (∀ (s : σ) (sl : Sls) (d : D), d ∈ ds → R s sl → ∃ s1 s2, t d sl = some s1 ∧ (body s1 = .ok .nx s2 ∨ body s1 = .ok .ct s2) ∧ R (step s d) s2) →
    ∃ sl', forGo t body ds sl = .ok .nx sl' ∧ R (ds.foldl step s) sl'
  | [], s, sl, h, _ => ⟨sl, rfl, h⟩
  | d :: ds, s, sl, h, hs => by
    obtain ⟨s1, s2, e1, e2, e3⟩ := hs s sl d (by simp) h
    obtain ⟨sl', q1, q2⟩ := for_rel R step ds (step s d) s2 e3 fun s sl c hc => hs s sl c (by simp [hc])
    refine ⟨sl', ?_, q2⟩
    unfold forGo
    rw [e1]
    dsimp only
    rcases e2 with e2 | e2
    · rw [e2]; exact q1
    · rw [e2]; exact q1

/-! ### what may be compared -/
def Sh (n : Nat) (d : D) : Prop := d.canLay0 = true ∧ d.depth ≤ n
theorem Sh.mono {m n : Nat} {d : D} (h : Sh m d) (l : m ≤ n) : Sh n d := ⟨h.1, Nat.le_trans h.2 l⟩
theorem Sh.shaped {n : Nat} {d : D} (h : Sh n d) (l : n ≤ 64) : SeqAt.shaped d = true := by
  unfold SeqAt.shaped
  rw [h.1, Bool.true_and]
  exact decide_eq_true (Nat.le_trans h.2 l)
theorem sh_int {i : Int} {n : Nat} : Sh n (.int i) := ⟨rfl, Nat.zero_le _⟩
theorem sh_bool {b : Bool} {n : Nat} : Sh n (.bool b) := ⟨rfl, Nat.zero_le _⟩
theorem sh_none {n : Nat} : Sh n .none := ⟨rfl, Nat.zero_le _⟩
theorem sh_all {n : Nat} : ∀ {ds : List D}, (∀ d ∈ ds, Sh n d) → PyData.canLayAll0 ds = true ∧ PyData.depthAll ds ≤ n
  | [], _ => ⟨rfl, Nat.zero_le _⟩
  | d :: ds, h => by
    obtain ⟨h1, h2⟩ := sh_all (n := n) (ds := ds) fun e he => h e (by simp [he])
    obtain ⟨h3, h4⟩ := h d (by simp)
    exact ⟨by show (d.canLay0 && PyData.canLayAll0 ds) = true; rw [h3, h1]; rfl, by show max d.depth (PyData.depthAll ds) ≤ n; omega⟩
theorem sh_list {n : Nat} {ds : List D} (h : ∀ d ∈ ds, Sh n d) : Sh (n + 1) (.list ds) := by
  obtain ⟨h1, h2⟩ := sh_all h
  exact ⟨h1, by show PyData.depthAll ds + 1 ≤ n + 1; omega⟩
theorem sh_tup {n : Nat} {ds : List D} (h : ∀ d ∈ ds, Sh n d) : Sh (n + 1) (.tuple ds) := by
  obtain ⟨h1, h2⟩ := sh_all h
  exact ⟨h1, by show PyData.depthAll ds + 1 ≤ n + 1; omega⟩
theorem o_eq {d e : D} {n : Nat} (h : Sh n d) (h' : Sh n e) (l : n ≤ 64) : dEq d e = some (.d (.bool (PyData.eqv d e))) := if_pos ⟨h.shaped l, h'.shaped l⟩
theorem o_ne {d e : D} {n : Nat} (h : Sh n d) (h' : Sh n e) (l : n ≤ 64) : dNe d e = some (.d (.bool (!PyData.eqv d e))) := if_pos ⟨h.shaped l, h'.shaped l⟩
theorem eqv_map {α : Type} [DecidableEq α] {f : α → D} (hf : ∀ a b, PyData.eqv (f a) (f b) = decide (a = b)) : ∀ xs ys : List α, PyData.eqvAll (xs.map f) (ys.map f) = decide (xs = ys)
  | [], [] => rfl
  | [], _ :: _ => rfl
  | _ :: _, [] => rfl
  | x :: xs, y :: ys => by
    show (PyData.eqv (f x) (f y) && PyData.eqvAll (xs.map f) (ys.map f)) = _
    rw [hf, eqv_map hf xs ys]
    by_cases h : x = y
    · by_cases h2 : xs = ys
      · simp [h, h2]
      · simp [h, h2]
    · simp [h]
/-! ### ints, rows, pairs as data -/
def dI (r : List Int) : List D := r.map .int
@[simp] theorem dI_len {r : List Int} : (dI r).length = r.length := List.length_map ..
theorem sh_dI {r : List Int} {n : Nat} : ∀ d ∈ dI r, Sh n d := fun d hd => by
  obtain ⟨i, _, rfl⟩ := List.mem_map.mp hd
  exact sh_int
theorem eqv_dI {a b : List Int} : PyData.eqvAll (dI a) (dI b) = decide (a = b) := eqv_map (fun _ _ => eqv_int) a b
theorem cut_to {ds : List D} {p : Nat} : AL.cutD ds none (some (p : Int)) = ds.take p := by
  unfold AL.cutD
  rw [HT.sIx_none, HT.sIx_nat, List.drop_zero, Nat.sub_zero]
  by_cases q : p ≤ ds.length
  · rw [Nat.min_eq_left q]
  · rw [Nat.min_eq_right (by omega), List.take_of_length_le (by omega), List.take_of_length_le (by omega)]
theorem cut_from {ds : List D} {p : Nat} : AL.cutD ds (some (p : Int)) none = ds.drop p := by
  unfold AL.cutD
  rw [HT.sIx_none, HT.sIx_nat]
  by_cases q : p ≤ ds.length
  · rw [Nat.min_eq_left q, List.take_of_length_le (by rw [List.length_drop]; omega)]
  · rw [Nat.min_eq_right (by omega), Nat.sub_self, List.take_zero, List.drop_of_length_le (by omega)]
/-! slices, step by step -/
section
variable {sl : Sls}
def kPart (o : O) (s : Sls) : Rz (Option Int) := match o with
  | .d (.int i) => .ok (some i) s
  | _ => .no
@[simp] theorem c_kPart {i : Int} : kPart (.d (.int i)) sl = .ok (some i) sl := rfl
@[simp] theorem c_part {f : Den O} : dPart f sl = (f sl).sq kPart := by
  show (f sl).sq _ = _
  congr 1
  funext o s
  cases o with
  | d x => cases x <;> rfl
  | _ => rfl
def sl3 (o : O) (l u : Option Int) (s : Sls) : Rz O := oq (o.see s) fun x => oq (dCut x l u) (okD s)
def sl2 (fh : Den (Option Int)) (o : O) (l : Option Int) (s : Sls) : Rz O := (fh s).sq (sl3 o l)
def sl1 (fl fh : Den (Option Int)) (o : O) (s : Sls) : Rz O := (fl s).sq (sl2 fh o)
@[simp] theorem c_sl3 {o : O} {l u : Option Int} : sl3 o l u sl = oq (o.see sl) fun x => oq (dCut x l u) (okD sl) := rfl
@[simp] theorem c_sl2 {fh : Den (Option Int)} {o : O} {l : Option Int} : sl2 fh o l sl = (fh sl).sq (sl3 o l) := rfl
@[simp] theorem c_sl1 {fl fh : Den (Option Int)} {o : O} : sl1 fl fh o sl = (fl sl).sq (sl2 fh o) := rfl
@[simp] theorem c_sl {fe : Den O} {fl fh : Den (Option Int)} : dSl fe fl fh sl = (fe sl).sq (sl1 fl fh) := by
  show (fe sl).sq _ = _
  congr 1
  funext o s
  show (fl s).sq _ = (fl s).sq _
  congr 1
  funext l s
  show (fh s).sq _ = (fh s).sq _
  congr 1
  funext u s
  unfold sl3
  cases o.see s with
  | none => rfl
  | some x => cases h : dCut x l u <;> simp [h]
@[simp] theorem c_cutL {ds : List D} {l u : Option Int} : dCut (.list ds) l u = some (.tmp (.lst (AL.cutD ds l u))) := rfl
@[simp] theorem c_cutT {ds : List D} {l u : Option Int} : dCut (.tuple ds) l u = some (.d (.tuple (AL.cutD ds l u))) := rfl
end

/-! ### sorted({x for x in ..}) -/
theorem rowOf_rowD (k : List Int) : rowOf (rowD k) = some k := dInts_of k
theorem dSortSet_eq {vs : List Nat} {t : Tg} {ft : Den Bool} {fe : Den O} {p : D → Bool} {h : D → D} {fi : Den (List D)} {sl sl1 : Sls} {ds : List D} {rows : List (List Int)} (hi : fi sl = .ok ds sl1) (hv : ∀ v ∈ vs, v < sl1.length) (hd : ∀ d ∈ ds, LcAt vs t ft (dFix fe) (wipeS sl1 vs) d (p d) (h d))
    (hr : (ds.filter p).map h = rows.map rowD) (hl : ds.length ≤ 63) (hf : rowsFit rows = true) : dSortSet vs fi t ft fe sl = .ok (.tmp (.lst ((sortU ltR rows).map rowD))) sl1 := by
  have hrow : ∀ d ∈ ds, p d = true → ∃ k, h d = rowD k := fun d hd hp => by
    have : h d ∈ (ds.filter p).map h := List.mem_map.mpr ⟨d, List.mem_filter.mpr ⟨hd, hp⟩, rfl⟩
    rw [hr] at this
    obtain ⟨k, _, e⟩ := List.mem_map.mp this
    exact ⟨k, e.symm⟩
  obtain ⟨s, q1, q2⟩ := cp_pure (okA := okRow) ds [] sl1 rfl hd fun a d hd hp hlt => by
    obtain ⟨k, e⟩ := hrow d hd hp
    unfold okRow
    rw [e, rowOf_rowD]
    simp at hlt ⊢
    omega
  show (fi sl).sq _ = _
  rw [hi]
  show (match cpGo okRow vs t ft (dFix fe) ds [] sl1 with
    | .ok acc s => match dRows acc with
      | some ks => if rowsFit ks = true then Rz.ok (O.tmp (.lst ((sortU ltR ks).map rowD))) (restS sl1 s vs) else .no
      | none => .no
    | _ => .no) = _
  rw [q1, List.nil_append, hr]
  simp only [dRows_of, hf, if_true]
  rw [rest_wipe hv q2]

/-- a loop, by what is walked so far -/
theorem for_pre {t : Tg} {body : Den Fl} (ds : List D) (R : List D → Sls → Prop) {sl : Sls} (h0 : R [] sl) (hs : ∀ (pre post : List D) (d : D) (sl : Sls), ds = pre ++ d :: post → R pre sl → ∃ s1 s2, t d sl = some s1 ∧ (body s1 = .ok .nx s2 ∨ body s1 = .ok .ct s2) ∧ R (pre ++ [d]) s2) :
    ∃ sl', forGo t body ds sl = .ok .nx sl' ∧ R ds sl' := by
  have go : ∀ (post pre : List D) (sl : Sls), ds = pre ++ post → R pre sl → ∃ sl', forGo t body post sl = .ok .nx sl' ∧ R ds sl' := by
    intro post
    induction post with
    | nil =>
      intro pre sl e r
      rw [List.append_nil] at e
      subst e
      exact ⟨sl, rfl, r⟩
    | cons d post ih =>
      intro pre sl e r
      obtain ⟨s1, s2, e1, e2, e3⟩ := hs pre post d sl e r
      obtain ⟨sl', q1, q2⟩ := ih (pre ++ [d]) s2 (by rw [e, List.append_assoc]; rfl) e3
      refine ⟨sl', ?_, q2⟩
      unfold forGo
      rw [e1]
      dsimp only
      rcases e2 with e2 | e2
      · rw [e2]; exact q1
      · rw [e2]; exact q1
  exact go ds [] sl rfl h0
end AL
end
section
set_option Elab.async false
set_option linter.all false
set_option maxRecDepth 100000
set_option maxHeartbeats 4000000
set_option autoImplicit false
/-! What _law_pot, _law_take compute. -/
namespace K61
open PySem PySem.Spec PyProof.Rows L2 AL
theorem atI_lt {ns : List Int} {k : Nat} (h : k < ns.length) : atI ns (k : Int) = some ns[k] := atI_nat (List.getElem?_eq_getElem h)
/-- the numbers of a pot, for a script's number c and its place k -/
def absI (c : Int) : Int := if c < 0 then -c else c
def big (c : Int) : Int := if 1000000000000000000 ≤ c then 1 else 0
def pot1 (c : Int) : Int := absI c * big (absI c)
def pot2 (c : Int) (k : Nat) : Int := (c % 2147483587 + 104729 * (k : Int) + 29) * 40692 % 2147483399
theorem pow18 : dPow (.int 10) (.int 18) = some (.d (.int 1000000000000000000)) := o_pow (by decide)
theorem pow7 : dPow (.int 10) (.int 7) = some (.d (.int 10000000)) := o_pow (by decide)
theorem o_absA {i : Int} : dAbs [.int i] = some (.d (.int (absI i))) := rfl
theorem key1 (c : Int) : dMul (.int (absI c)) (.int (if 1000000000000000000 ≤ absI c then 1 else 0)) = some (.d (.int (pot1 c))) := by
  rw [o_mul (mulOkR (by split <;> decide))]
  rfl
theorem mul_R {i j : Int} (h : -(2 ^ 64) < j ∧ j < 2 ^ 64) : dMul (.int i) (.int j) = some (.d (.int (i * j))) := o_mul (mulOkR h)
theorem mul_L {i j : Int} (h : -(2 ^ 64) < i ∧ i < 2 ^ 64) : dMul (.int i) (.int j) = some (.d (.int (i * j))) := o_mul (mulOkL h)
theorem pot_3 (ns : List Int) (k : Nat) (c : Int) : d_law_pot_3 [.scr ns, .val (.int (k : Nat)), .val (.int c)] = .ok (.rt (.tmp (.lst [.int (pot1 c), .int (pot2 c k), .int 0]))) [.scr ns, .val (.int (k : Nat)), .val (.int c)] := by
  unfold d_law_pot_3 pot2
  simp [pow18, key1, o_absA, - o_abs, o_mod, mul_L (i := 104729), mul_R (j := 40692)]
theorem pot_1 (ns : List Int) (k : Nat) : d_law_pot_1 [.scr ns, .val (.int (k : Nat)), .em] = .ok .nx [.scr ns, .val (.int (k : Nat)), .val (.int 0)] := by
  unfold d_law_pot_1
  simp
theorem pot_2 (ns : List Int) (k : Nat) : ∃ c, d_law_pot_2 [.scr ns, .val (.int (k : Nat)), .val (.int 0)] = .ok .nx [.scr ns, .val (.int (k : Nat)), .val (.int c)] := by
  unfold d_law_pot_2
  by_cases h : k < ns.length
  · exact ⟨ns[k], by simp [h, atI_lt h]⟩
  · exact ⟨0, by simp [h]⟩
theorem pot_eq (ns : List Int) (k : Nat) : ∃ c, F_law_pot [.scr ns, .val (.int (k : Nat))] = .ret (.tmp (.lst [.int (pot1 c), .int (pot2 c k), .int 0])) [] := by
  obtain ⟨c, hc⟩ := pot_2 ns k
  refine ⟨c, ?_⟩
  have e : d_law_pot [.scr ns, .val (.int (k : Nat)), .em] = .ok (.rt (.tmp (.lst [.int (pot1 c), .int (pot2 c k), .int 0]))) [.scr ns, .val (.int (k : Nat)), .val (.int c)] := by
    unfold d_law_pot
    rw [c_seq, pot_1, sq_ok, c_kSn, c_seq, hc, sq_ok, c_kSn, pot_3]
  unfold F_law_pot
  rw [c_fn2]
  show fin true _ (d_law_pot [.scr ns, .val (.int (k : Nat)), .em]) = _
  rw [e]
  rfl
section
variable {x y z b : Int} {self : FnD}
theorem fdiv_small (i : Int) (h : 0 < b) (h2 : b ≤ 10000000) : dFdiv (.int i) (.int b) = some (.d (.int (i / b))) := o_fdiv h (log_small h (by omega))
theorem take_1p (hb : 0 < b) (hb2 : b ≤ 10000000) (h : 0 < x) : d_law_take_1 self [.own (some 0) (.lst [.int x, .int y, .int z]), .val (.int b), .em, .em] = .ok (.rt (.d (.int (x % b)))) [.own (some 0) (.lst [.int (x / b), .int y, .int z]), .val (.int b), .val (.int (x % b)), .em] := by
  unfold d_law_take_1
  simp [h, o_mod hb, fdiv_small x hb hb2]
theorem take_1n (h : ¬ 0 < x) : d_law_take_1 self [.own (some 0) (.lst [.int x, .int y, .int z]), .val (.int b), .em, .em] = .ok .nx [.own (some 0) (.lst [.int x, .int y, .int z]), .val (.int b), .em, .em] := by
  unfold d_law_take_1
  simp [h]
theorem take_2 (hb2 : b ≤ 10000000) : d_law_take_2 self [.own (some 0) (.lst [.int x, .int y, .int z]), .val (.int b), .em, .em] = .ok .nx [.own (some 0) (.lst [.int x, .int y, .int z]), .val (.int b), .em, .em] := by
  have h : ¬ 10000000 < b := by omega
  unfold d_law_take_2
  simp [pow7, h]
theorem take_3 : d_law_take_3 self [.own (some 0) (.lst [.int x, .int y, .int z]), .val (.int b), .em, .em] = .ok .nx [.own (some 0) (.lst [.int x, .int y, .int (z + 1)]), .val (.int b), .em, .em] := by
  unfold d_law_take_3
  simp
/-- what a draw comes from -/
def once (y z : Int) : Int := (y + 52774 * z) ^ 3 % 2147483563
def drawn (y z b : Int) : Int := (once y z * (once y z % 40013 + 11) + z * 6089) % 2147483647 / 32 % b
theorem take_4 (h : (y + 52774 * z).natAbs < 2 ^ 64) : d_law_take_4 self [.own (some 0) (.lst [.int x, .int y, .int z]), .val (.int b), .em, .em] = .ok .nx [.own (some 0) (.lst [.int x, .int y, .int z]), .val (.int b), .em, .val (.int (once y z))] := by
  have hp : dPow (.int (y + 52774 * z)) (.int 3) = some (.d (.int ((y + 52774 * z) ^ 3))) := o_pow ⟨by decide, by decide, h⟩
  unfold d_law_take_4 once
  simp [o_mod, mul_L (i := 52774), hp]
theorem take_5 (hb : 0 < b) : d_law_take_5 self [.own (some 0) (.lst [.int x, .int y, .int z]), .val (.int b), .em, .val (.int (once y z))] = .ok (.rt (.d (.int (drawn y z b)))) [.own (some 0) (.lst [.int x, .int y, .int z]), .val (.int b), .em, .val (.int (once y z))] := by
  have h1 : dMul (.int (once y z)) (.int (once y z % 40013 + 11)) = some (.d (.int (once y z * (once y z % 40013 + 11)))) := mul_R (by omega)
  have h2 : ∀ i : Int, dFdiv (.int i) (.int 32) = some (.d (.int (i / 32))) := fun i => o_fdiv (by decide) (log_small (by decide) (by decide))
  unfold d_law_take_5 drawn
  simp [o_mod, o_mod hb, mul_R (j := 6089), h1, h2]
end
/-- a draw: what it tells, what the pot holds behind it -/
def dr (x y z b : Int) : Int := if 0 < x then x % b else drawn y (z + 1) b
def aft (x y z b : Int) : Mu := if 0 < x then .lst [.int (x / b), .int y, .int z] else .lst [.int x, .int y, .int (z + 1)]
theorem take_eq {x y z b : Int} (n : Nat) (hb : 0 < b) (hb2 : b ≤ 10000000) (h : (y + 52774 * (z + 1)).natAbs < 2 ^ 64) :
    F_law_take (n + 1) [.mu (.lst [.int x, .int y, .int z]), .val (.int b)] = .ret (.d (.int (dr x y z b))) [aft x y z b] := by
  show fnD 2 4 false (d_law_take (F_law_take n)) [.mu (.lst [.int x, .int y, .int z]), .val (.int b)] = _
  rw [c_fn2]
  show fin false _ (d_law_take (F_law_take n) [.own (some 0) (.lst [.int x, .int y, .int z]), .val (.int b), .em, .em]) = _
  unfold d_law_take dr aft
  by_cases hx : 0 < x
  · rw [seq_rt (take_1p hb hb2 hx), if_pos hx, if_pos hx]
    rfl
  · rw [seq_nx (take_1n hx), seq_nx (take_2 hb2), seq_nx take_3, seq_nx (take_4 h), take_5 hb, if_neg hx, if_neg hx]
    rfl
/-- a pot that can be drawn from n times -/
def Pot (n : Nat) (m : Mu) : Prop := ∃ x y z : Int, m = .lst [.int x, .int y, .int z] ∧ 0 ≤ x ∧ 0 ≤ y ∧ y < 2147483399 ∧ 0 ≤ z ∧ z + n ≤ 1000000
theorem draw {n : Nat} {m : Mu} (p : Pot (n + 1) m) (k : Nat) {b : Int} (hb : 0 < b) (hb2 : b ≤ 10000000) :
    ∃ (r : Int) (m' : Mu), F_law_take (k + 1) [.mu m, .val (.int b)] = .ret (.d (.int r)) [m'] ∧ 0 ≤ r ∧ r < b ∧ Pot n m' ∧ ∃ xs, m = .lst xs := by
  obtain ⟨x, y, z, rfl, hx, hy, hy2, hz, hn⟩ := p
  refine ⟨dr x y z b, aft x y z b, take_eq k hb hb2 (by omega), ?_, ?_, ?_, _, rfl⟩
  · unfold dr drawn
    split
    · exact Int.emod_nonneg _ (by omega)
    · exact Int.emod_nonneg _ (by omega)
  · unfold dr drawn
    split
    · exact Int.emod_lt_of_pos _ hb
    · exact Int.emod_lt_of_pos _ hb
  · unfold aft
    split
    · exact ⟨x / b, y, z, rfl, Int.ediv_nonneg hx (by omega), hy, hy2, hz, by omega⟩
    · exact ⟨x, y, z + 1, rfl, hx, hy, hy2, by omega, by omega⟩
theorem pot_pot (ns : List Int) (k : Nat) : ∃ m, F_law_pot [.scr ns, .val (.int (k : Nat))] = .ret (.tmp m) [] ∧ Pot 1000 m := by
  obtain ⟨c, hc⟩ := pot_eq ns k
  refine ⟨_, hc, _, _, _, rfl, ?_, ?_, ?_, by decide, by decide⟩
  · unfold pot1 absI big
    split <;> split <;> omega
  · exact Int.emod_nonneg _ (by decide)
  · exact Int.emod_lt_of_pos _ (by decide)
end K61
end
section
set_option Elab.async false
set_option linter.all false
set_option maxRecDepth 100000
set_option maxHeartbeats 4000000
set_option autoImplicit false
/-! What the functions of rows compute. -/
namespace K61
open PySem PySem.Spec PyProof.Rows L2 AL
/-- where who stands -/
def placesI (who : Int) : Nat → List Int → List Nat
  | _, [] => []
  | k, x :: r => if x = who then k :: placesI who (k + 1) r else placesI who (k + 1) r
def placeI (who : Int) (r : List Int) : Nat := (placesI who 0 r).headD 0
theorem places_mem {who : Int} : ∀ (r : List Int) (k : Nat), who ∈ r → ∃ j l, placesI who k r = j :: l
  | [], _, h => by simp at h
  | x :: r, k, h => by
    unfold placesI
    split
    · exact ⟨_, _, rfl⟩
    · rename_i n
      rcases List.mem_cons.mp h with e | h
      · exact absurd e.symm n
      · exact places_mem r (k + 1) h
theorem place_list {who : Int} : ∀ (r : List Int) (k : Nat), ((enumD k (dI r)).filter (fun d => match d with | .tuple [_, .int v] => decide (v = who) | _ => false)).map (fun d => match d with | .tuple [i, _] => i | _ => .none) = (placesI who k r).map fun j => PyData.int (j : Nat)
  | [], _ => rfl
  | x :: r, k => by
    have e : enumD k (dI (x :: r)) = .tuple [.int (k : Nat), .int x] :: enumD (k + 1) (dI r) := rfl
    rw [e, List.filter_cons]
    unfold placesI
    by_cases h : x = who
    · simp only [h, decide_true, if_true, List.map_cons, place_list r (k + 1)]
    · simp only [h, decide_false, if_false, Bool.false_eq_true, place_list r (k + 1)]
theorem place_1 {r : List Int} {who : Int} (hl : r.length ≤ sizeLine) : d_place_of_1 [.val (.tuple (dI r)), .val (.int who), .em, .em, .em] = .ok .nx [.val (.tuple (dI r)), .val (.int who), .val (.list ((placesI who 0 r).map fun j => .int (j : Nat))), .em, .em] := by
  unfold d_place_of_1
  have hi : dItF enumL (dCons (dVar 0) (dNil)) [.val (.tuple (dI r)), .val (.int who), .em, .em, .em] = .ok (enumD 0 (dI r)) [.val (.tuple (dI r)), .val (.int who), .em, .em, .em] := by simp
  rw [c_put, c_fix, dLc_eq (p := fun d => match d with | .tuple [_, .int v] => decide (v = who) | _ => false) (h := fun d => match d with | .tuple [i, _] => i | _ => .none) hi (by simp) (fun d hd => ?_) (by rw [enumD_length, dI_len]; exact hl), place_list]
  · simp
  · obtain ⟨i, hi'⟩ := List.mem_iff_getElem?.mp hd
    obtain ⟨d0, h1, rfl⟩ := enumD_get _ 0 i d hi'
    unfold dI at h1
    rw [List.getElem?_map] at h1
    cases hx : r[i]? with
    | none => rw [hx] at h1; cases h1
    | some v =>
      rw [hx] at h1
      cases h1
      exact ⟨[.val (.tuple (dI r)), .val (.int who), .em, .val (.int ((0 + i : Nat) : Int)), .val (.int v)], rfl, rfl, by simp, fun _ => by simp⟩
theorem place_eq {r : List Int} {who : Int} (hl : r.length ≤ 10000) (hw : who ∈ r) : F_place_of [.val (.tuple (dI r)), .val (.int who)] = .ret (.d (.int (placeI who r : Nat))) [] := by
  obtain ⟨j, l, e⟩ := places_mem r 0 hw
  have e2 : placeI who r = j := by unfold placeI; rw [e]; rfl
  unfold F_place_of
  rw [c_fn2]
  show fin false _ (d_place_of [.val (.tuple (dI r)), .val (.int who), .em, .em, .em]) = _
  unfold d_place_of
  rw [seq_nx (place_1 (small (by omega))), e, e2]
  have h2 : dEq (.list ((j :: l).map fun j => .int (j : Nat))) (.list []) = some (.d (.bool false)) := o_eq (n := 1) (sh_list fun d hd => by obtain ⟨i, _, rfl⟩ := List.mem_map.mp hd; exact sh_int) (sh_list fun d hd => by simp at hd) (by decide)
  have h3 : d_place_of_2 [.val (.tuple (dI r)), .val (.int who), .val (.list ((j :: l).map fun j => .int (j : Nat))), .em, .em] = .ok .nx [.val (.tuple (dI r)), .val (.int who), .val (.list ((j :: l).map fun j => .int (j : Nat))), .em, .em] := by
    unfold d_place_of_2
    rw [c_ifS, c_dB, c_dV2, c_dVar]
    simp [- List.map_cons, h2]
  rw [seq_nx h3]
  have h4 : atI ((j :: l).map fun j => PyData.int (j : Nat)) 0 = some (.int (j : Nat)) := atI_nat (j := 0) rfl
  unfold d_place_of_3
  simp [- List.map_cons, h4]
/-- how many taller stand ahead, behind -/
def aheadI (who : Int) (r : List Int) : Nat := ((r.take (placeI who r)).filter fun x => decide (who < x)).length
def behindI (who : Int) (r : List Int) : Nat := ((r.drop (placeI who r + 1)).filter fun x => decide (who < x)).length
theorem filter_dI {r : List Int} {p : Int → Bool} : ((dI r).filter fun d => match d with | .int x => p x | _ => false) = dI (r.filter p) := by
  induction r with
  | nil => rfl
  | cons x r ih =>
    show (PyData.int x :: dI r).filter _ = _
    rw [List.filter_cons, List.filter_cons]
    cases h : p x with
    | false =>
      simp only [h, Bool.false_eq_true, if_false]
      exact ih
    | true =>
      simp only [h, if_true]
      rw [ih]
      rfl
theorem ahead_eq {r : List Int} {who : Int} (hl : r.length ≤ 10000) (hw : who ∈ r) : F_taller_ahead [.val (.tuple (dI r)), .val (.int who)] = .ret (.d (.int (aheadI who r : Nat))) [] := by
  unfold F_taller_ahead
  rw [c_fn2]
  show fin false _ (d_taller_ahead [.val (.tuple (dI r)), .val (.int who), .em]) = _
  unfold d_taller_ahead d_taller_ahead_1
  have hi : dItems (dSl (dVar 0) (Den.ret none) (dPart (dCall F_place_of (dCons (dVar 0) (dCons (dVar 1) (dNil)))))) [.val (.tuple (dI r)), .val (.int who), .em] = .ok (dI (r.take (placeI who r))) [.val (.tuple (dI r)), .val (.int who), .em] := by
    simp [place_eq hl hw, cut_to]
    exact (List.map_take ..).symm
  have h2 := dLc_eq (vs := [2]) (t := gN 2) (ft := dB (dV2 dGt (dVar 2) (dVar 1))) (fe := dVar 2) (p := fun d => match d with | .int x => decide (who < x) | _ => false) (h := id) hi (by simp) (fun d hd => by
    obtain ⟨x, _, rfl⟩ := List.mem_map.mp hd
    exact ⟨[.val (.tuple (dI r)), .val (.int who), .val (.int x)], rfl, rfl, by simp, fun _ => by simp⟩) (small (by rw [dI_len, List.length_take]; omega))
  rw [List.map_id, filter_dI] at h2
  rw [c_dRet, c_dVC, c_dCons, h2]
  simp [aheadI]
theorem behind_eq {r : List Int} {who : Int} (hl : r.length ≤ 10000) (hw : who ∈ r) : F_taller_behind [.val (.tuple (dI r)), .val (.int who)] = .ret (.d (.int (behindI who r : Nat))) [] := by
  unfold F_taller_behind
  rw [c_fn2]
  show fin false _ (d_taller_behind [.val (.tuple (dI r)), .val (.int who), .em]) = _
  unfold d_taller_behind d_taller_behind_1
  have hi : dItems (dSl (dVar 0) (dPart (dV2 dAdd (dCall F_place_of (dCons (dVar 0) (dCons (dVar 1) (dNil)))) (dC (.int 1)))) (Den.ret none)) [.val (.tuple (dI r)), .val (.int who), .em] = .ok (dI (r.drop (placeI who r + 1))) [.val (.tuple (dI r)), .val (.int who), .em] := by
    have e : ((placeI who r : Nat) : Int) + 1 = ((placeI who r + 1 : Nat) : Int) := by omega
    simp only [c_items, c_fix, c_sl, c_dVar, List.getElem?_cons_zero, c_var1, sq_ok, c_sl1, c_part, c_dV2, c_call, c_dCons, c_kC, List.getElem?_cons_succ, c_dNil, c_kC2, c_callO, c_ars1, c_ars0, c_arD, c_ar3, oq_some, c_cl1, c_slsD, c_sls0, c_okL0, if_true, place_eq hl hw, c_cl2D, c_tk0, c_pbD, c_pb0, c_k2, c_dC, c_k2', c_seeD, c_ka2, c_ka2', o_add, okD_, c_kPart, c_sl2, c_ret, c_sl3, c_cutT, e, cut_from, c_fixD, c_kIt]
    exact congrArg (fun l => Rz.ok l _) (List.map_drop ..).symm
  have h2 := dLc_eq (vs := [2]) (t := gN 2) (ft := dB (dV2 dGt (dVar 2) (dVar 1))) (fe := dVar 2) (p := fun d => match d with | .int x => decide (who < x) | _ => false) (h := id) hi (by simp) (fun d hd => by
    obtain ⟨x, _, rfl⟩ := List.mem_map.mp hd
    exact ⟨[.val (.tuple (dI r)), .val (.int who), .val (.int x)], rfl, rfl, by simp, fun _ => by simp⟩) (small (by rw [dI_len, List.length_drop]; omega))
  rw [List.map_id, filter_dI] at h2
  rw [c_dRet, c_dVC, c_dCons, h2]
  simp [behindI]
/-- the folk, the tallest first -/
def folkI (r : List Int) : List Int := (isort leI r).reverse
theorem sort_dI {r : List Int} {b : Bool} : sortD b (dI r) = some (dI (orient b (isort leI r))) := by
  unfold sortD dI
  rw [dInts_of]
theorem folk_eq (r : List Int) : F_folk_of [.val (.tuple (dI r))] = .ret (.d (.tuple (dI (folkI r)))) [] := by
  unfold F_folk_of
  rw [c_fn1]
  show fin false _ (d_folk_of [.val (.tuple (dI r))]) = _
  have h : dSorted true [.tuple (dI r)] = some (.tmp (.lst (dI (folkI r)))) := by
    show (sortD true (dI r)).map _ = _
    rw [sort_dI]
    rfl
  unfold d_folk_of d_folk_of_1
  simp [h]
theorem folk_mem {r : List Int} {x : Int} (h : x ∈ folkI r) : x ∈ r := by
  unfold folkI at h
  exact (isort_perm leI r).mem_iff.mp (List.mem_reverse.mp h)
theorem folk_len (r : List Int) : (folkI r).length = r.length := by
  unfold folkI
  rw [List.length_reverse, (isort_perm leI r).length_eq]
def codeI (r : List Int) : List Nat := (folkI r).map fun who => aheadI who r
def dN (l : List Nat) : List D := l.map fun j => .int (j : Nat)
theorem code_eq {r : List Int} (hl : r.length ≤ 10000) : F_code_of [.val (.tuple (dI r))] = .ret (.d (.tuple (dN (codeI r)))) [] := by
  unfold F_code_of
  rw [c_fn1]
  show fin false _ (d_code_of [.val (.tuple (dI r)), .em]) = _
  unfold d_code_of d_code_of_1
  have hi : dItems (dCall F_folk_of (dCons (dVar 0) (dNil))) [.val (.tuple (dI r)), .em] = .ok (dI (folkI r)) [.val (.tuple (dI r)), .em] := by simp [folk_eq]
  have h2 := dLc_eq (vs := [1]) (t := gN 1) (ft := Den.ret true) (fe := dCall F_taller_ahead (dCons (dVar 0) (dCons (dVar 1) (dNil)))) (p := fun _ => true) (h := fun d => match d with | .int x => .int (aheadI x r : Nat) | _ => .none) hi (by simp) (fun d hd => by
    obtain ⟨x, hx, rfl⟩ := List.mem_map.mp hd
    exact ⟨[.val (.tuple (dI r)), .val (.int x)], rfl, rfl, rfl, fun _ => by simp [ahead_eq hl (folk_mem hx)]⟩) (small (by rw [dI_len, folk_len]; omega))
  have h3 : (((dI (folkI r)).filter fun _ => true).map fun d => match d with | .int x => PyData.int (aheadI x r : Nat) | _ => .none) = dN (codeI r) := by
    rw [List.filter_eq_self.mpr fun _ _ => rfl]
    unfold dI dN codeI
    rw [List.map_map, List.map_map]
    rfl
  rw [h3] at h2
  rw [c_dRet, c_dVC, c_dCons, h2]
  simp
/-- needs to know, as they come -/
def stepK (acc : List (List Int)) (d : D) : List (List Int) := match d with
  | .tuple [.int t, .int a] => (if 0 < a then acc ++ [[a, t - a + 1]] else acc) ++ (if a < t then [[a + 1, t - a]] else [])
  | _ => acc
def rawK (code : List Nat) : List (List Int) := (enumD 0 (dN code)).foldl stepK []
def knowC (code : List Nat) : List (List Int) := sortU ltR (rawK code)
theorem stepK_len (acc : List (List Int)) (d : D) : (stepK acc d).length ≤ acc.length + 2 := by
  unfold stepK
  split
  · rw [List.length_append]
    split <;> split <;> simp
  · omega
theorem know_b1 {r : D} {acc : List (List Int)} {t a : Int} {c : Sl} (hl : acc.length + 2 ≤ 100000) : d_needs_to_know_b1 [.val r, .own none (.lst (acc.map rowD)), .val (.int t), .val (.int a), c] = .ok .nx [.val r, .own none (.lst ((stepK acc (.tuple [.int t, .int a])).map rowD)), .val (.int t), .val (.int a), c] := by
  have m1 : ∀ (xs : List (List Int)) (d : D), xs.length ≤ 100000 → mAppend (.lst (xs.map rowD)) [d] = some (.lst (xs.map rowD ++ [d]), .none) := fun xs d h => m_append (by rw [List.length_map, sizeLine_eq]; omega)
  have e : ∀ x y : Int, PyData.tuple [.int x, .int y] = rowD [x, y] := fun _ _ => rfl
  unfold d_needs_to_know_b1 stepK
  by_cases h1 : 0 < a
  · by_cases h2 : a < t
    · have m2 := m1 (acc ++ [[a, t - a + 1]]) (rowD [a + 1, t - a]) (by rw [List.length_append, List.length_singleton]; omega)
      rw [List.map_append] at m2
      simp [h1, h2, e, m1 acc _ (by omega)]
      simp at m2
      simp [m2, - List.append_assoc, h2]
    · simp [h1, h2, e, m1 acc _ (by omega)]
  · by_cases h2 : a < t
    · simp [h1, h2, e, m1 acc _ (by omega)]
    · simp [h1, h2, e]
theorem foldK_len : ∀ (ds : List D) (acc : List (List Int)), (ds.foldl stepK acc).length ≤ acc.length + 2 * ds.length
  | [], acc => by simp
  | d :: ds, acc => by
    have h1 := foldK_len ds (stepK acc d)
    have h2 := stepK_len acc d
    simp only [List.foldl_cons, List.length_cons]
    omega
theorem know_2 {r : List Int} (hl : r.length ≤ 10000) : ∃ a b c, d_needs_to_know_2 [.val (.tuple (dI r)), .own none (.lst []), .em, .em, .em] = .ok .nx [.val (.tuple (dI r)), .own none (.lst ((rawK (codeI r)).map rowD)), a, b, c] := by
  have hlen : (codeI r).length = r.length := by unfold codeI; rw [List.length_map, folk_len]
  have hi : dItF enumL (dCons (dCall F_code_of (dCons (dVar 0) (dNil))) (dNil)) [.val (.tuple (dI r)), .own none (.lst []), .em, .em, .em] = .ok (enumD 0 (dN (codeI r))) [.val (.tuple (dI r)), .own none (.lst []), .em, .em, .em] := by simp [code_eq hl]
  have hel : (enumD 0 (dN (codeI r))).length = r.length := by rw [enumD_length]; unfold dN; rw [List.length_map, hlen]
  obtain ⟨sl', q1, a, b, c, q2⟩ := for_pre (t := gT (gsCons (gN 2) (gsCons (gN 3) (gsNil)))) (body := d_needs_to_know_b1) (enumD 0 (dN (codeI r))) (fun pre sl => ∃ a b c, sl = [.val (.tuple (dI r)), .own none (.lst ((pre.foldl stepK []).map rowD)), a, b, c]) (sl := [.val (.tuple (dI r)), .own none (.lst []), .em, .em, .em]) ⟨.em, .em, .em, rfl⟩ (fun pre post d sl e ⟨a, b, c, es⟩ => by
    subst es
    have hd : d ∈ enumD 0 (dN (codeI r)) := by rw [e]; simp
    obtain ⟨i, hi'⟩ := List.mem_iff_getElem?.mp hd
    obtain ⟨d0, h1, rfl⟩ := enumD_get _ 0 i d hi'
    unfold dN at h1
    rw [List.getElem?_map] at h1
    cases hx : (codeI r)[i]? with
    | none => rw [hx] at h1; cases h1
    | some v =>
      rw [hx] at h1
      cases h1
      have hp : pre.length ≤ r.length := by rw [← hel, e, List.length_append]; omega
      have hk := foldK_len pre []
      simp only [List.length_nil, Nat.zero_add] at hk
      refine ⟨_, _, rfl, .inl (know_b1 (by omega)), .val (.int ((0 + i : Nat) : Int)), .val (.int (v : Nat)), c, ?_⟩
      rw [List.foldl_append]
      rfl)
  subst q2
  refine ⟨a, b, c, ?_⟩
  unfold d_needs_to_know_2
  rw [c_for, hi, sq_ok, q1]
  rfl
theorem know_eq {r : List Int} (hl : r.length ≤ 31) (hf : rowsFit (rawK (codeI r)) = true) : F_needs_to_know [.val (.tuple (dI r))] = .ret (.d (.list ((knowC (codeI r)).map rowD))) [] := by
  obtain ⟨a, b, c, h2⟩ := know_2 (r := r) (by omega)
  have h1 : d_needs_to_know_1 [.val (.tuple (dI r)), .em, .em, .em, .em] = .ok .nx [.val (.tuple (dI r)), .own none (.lst []), .em, .em, .em] := by
    unfold d_needs_to_know_1
    simp
  have hk := foldK_len (enumD 0 (dN (codeI r))) []
  have hlen : (codeI r).length = r.length := by unfold codeI; rw [List.length_map, folk_len]
  rw [enumD_length, dN, List.length_map, hlen] at hk
  unfold F_needs_to_know
  rw [c_fn1]
  show fin false _ (d_needs_to_know [.val (.tuple (dI r)), .em, .em, .em, .em]) = _
  unfold d_needs_to_know
  rw [seq_nx h1, seq_nx h2]
  unfold d_needs_to_know_3
  have hi : dItems (dVar 1) [.val (.tuple (dI r)), .own none (.lst ((rawK (codeI r)).map rowD)), a, b, c] = .ok ((rawK (codeI r)).map rowD) [.val (.tuple (dI r)), .val (.list ((rawK (codeI r)).map rowD)), a, b, c] := by simp
  have h3 := dSortSet_eq (vs := [4]) (t := gN 4) (ft := Den.ret true) (fe := dVar 4) (p := fun _ => true) (h := id) (rows := rawK (codeI r)) hi (by simp) (fun d hd => ⟨[.val (.tuple (dI r)), .val (.list ((rawK (codeI r)).map rowD)), a, b, .val d], rfl, rfl, rfl, fun _ => by simp⟩) (by rw [List.map_id, List.filter_eq_self.mpr fun _ _ => rfl]) (by rw [List.length_map]; unfold rawK; unfold dN; simp only [List.length_nil] at hk; omega) hf
  rw [c_dRet, h3]
  simp [knowC]
/-- needs to watch -/
def whoI (x y : Int) : Int := if y < x then y else x
def needW (r : List Int) (x y : Int) : List Int := if whoI x y = x then [(aheadI (whoI x y) r : Nat) + 1, (behindI (whoI x y) r : Nat)] else [(aheadI (whoI x y) r : Nat), (behindI (whoI x y) r : Nat) + 1]
def stepW (r : List Int) (acc : List (List Int)) (d : D) : List (List Int) := match d with
  | .tuple [.int x, .int y] => acc ++ [needW r x y]
  | _ => acc
def rawW (r : List Int) : List (List Int) := (zipD (dI r) (dI (r.drop 1))).foldl (stepW r) []
def watchI (r : List Int) : List (List Int) := sortU ltR (rawW r)
theorem watch_b1 {r : List Int} {acc : List (List Int)} {x y : Int} {a b c d : Sl} (hl : acc.length ≤ 100000) (hr : r.length ≤ 10000) (hx : x ∈ r) (hy : y ∈ r) :
    d_needs_to_watch_b1 [.val (.tuple (dI r)), .own none (.lst (acc.map rowD)), .val (.int x), .val (.int y), a, b, c, d] = .ok .nx [.val (.tuple (dI r)), .own none (.lst ((stepW r acc (.tuple [.int x, .int y])).map rowD)), .val (.int x), .val (.int y), .val (.int (whoI x y)), .val (.int (aheadI (whoI x y) r : Nat)), .val (.int (behindI (whoI x y) r : Nat)), d] := by
  have hw : whoI x y ∈ r := by unfold whoI; split <;> assumption
  have m1 : ∀ (d : D), mAppend (.lst (acc.map rowD)) [d] = some (.lst (acc.map rowD ++ [d]), .none) := fun d => m_append (by rw [List.length_map, sizeLine_eq]; omega)
  have e : ∀ x y : Int, PyData.tuple [.int x, .int y] = rowD [x, y] := fun _ _ => rfl
  have em : dMin2 [.int x, .int y] = some (.d (.int (whoI x y))) := rfl
  unfold d_needs_to_watch_b1 stepW needW
  by_cases h1 : whoI x y = x
  · simp [em, - o_min, h1, ahead_eq hr (h1 ▸ hw), behind_eq hr (h1 ▸ hw), e, m1]
  · simp [em, - o_min, h1, ahead_eq hr hw, behind_eq hr hw, e, m1]
theorem foldW_len (r : List Int) : ∀ (ds : List D) (acc : List (List Int)), (ds.foldl (stepW r) acc).length ≤ acc.length + ds.length
  | [], acc => by simp
  | d :: ds, acc => by
    have h1 := foldW_len r ds (stepW r acc d)
    have h2 : (stepW r acc d).length ≤ acc.length + 1 := by unfold stepW; split <;> simp
    simp only [List.foldl_cons, List.length_cons]
    omega
theorem watch_2 {r : List Int} (hl : r.length ≤ 10000) : ∃ a b c d e f, d_needs_to_watch_2 [.val (.tuple (dI r)), .own none (.lst []), .em, .em, .em, .em, .em, .em] = .ok .nx [.val (.tuple (dI r)), .own none (.lst ((rawW r).map rowD)), a, b, c, d, e, f] := by
  have hi : dItF zipL (dCons (dVar 0) (dCons (dFix (dSl (dVar 0) (dPart (dC (.int 1))) (Den.ret none))) (dNil))) [.val (.tuple (dI r)), .own none (.lst []), .em, .em, .em, .em, .em, .em] = .ok (zipD (dI r) (dI (r.drop 1))) [.val (.tuple (dI r)), .own none (.lst []), .em, .em, .em, .em, .em, .em] := by
    have e : AL.cutD (dI r) (some 1) none = dI (r.drop 1) := (cut_from (p := 1)).trans (List.map_drop ..).symm
    simp [e]
  have hzl : (zipD (dI r) (dI (r.drop 1))).length ≤ r.length := by rw [zipD_length, dI_len]; omega
  obtain ⟨sl', q1, a, b, c, d, e, f, q2⟩ := for_pre (t := gT (gsCons (gN 2) (gsCons (gN 3) (gsNil)))) (body := d_needs_to_watch_b1) (zipD (dI r) (dI (r.drop 1))) (fun pre sl => ∃ a b c d e f, sl = [.val (.tuple (dI r)), .own none (.lst ((pre.foldl (stepW r) []).map rowD)), a, b, c, d, e, f]) (sl := [.val (.tuple (dI r)), .own none (.lst []), .em, .em, .em, .em, .em, .em]) ⟨.em, .em, .em, .em, .em, .em, rfl⟩ (fun pre post d0 sl e0 ⟨a, b, c, d, e, f, es⟩ => by
    subst es
    have hd : d0 ∈ zipD (dI r) (dI (r.drop 1)) := by rw [e0]; simp
    obtain ⟨i, hi'⟩ := List.mem_iff_getElem?.mp hd
    obtain ⟨x, y, h1, h2, rfl⟩ := zipD_get _ _ i d0 hi'
    obtain ⟨x', hx', rfl⟩ := List.mem_map.mp (List.mem_iff_getElem?.mpr ⟨i, h1⟩)
    obtain ⟨y', hy', rfl⟩ := List.mem_map.mp (List.mem_iff_getElem?.mpr ⟨i, h2⟩)
    have hp : pre.length ≤ r.length := Nat.le_trans (by rw [e0, List.length_append]; omega) hzl
    have hk := foldW_len r pre []
    simp only [List.length_nil, Nat.zero_add] at hk
    refine ⟨_, _, rfl, .inl (watch_b1 (by omega) hl hx' (List.mem_of_mem_drop hy')), .val (.int x'), .val (.int y'), .val (.int (whoI x' y')), .val (.int (aheadI (whoI x' y') r : Nat)), .val (.int (behindI (whoI x' y') r : Nat)), f, ?_⟩
    rw [List.foldl_append]
    rfl)
  subst q2
  refine ⟨a, b, c, d, e, f, ?_⟩
  unfold d_needs_to_watch_2
  rw [c_for, hi, sq_ok, q1]
  rfl
theorem watch_eq {r : List Int} (hl : r.length ≤ 60) (hf : rowsFit (rawW r) = true) : F_needs_to_watch [.val (.tuple (dI r))] = .ret (.d (.list ((watchI r).map rowD))) [] := by
  obtain ⟨a, b, c, d, e, f, h2⟩ := watch_2 (r := r) (by omega)
  have h1 : d_needs_to_watch_1 [.val (.tuple (dI r)), .em, .em, .em, .em, .em, .em, .em] = .ok .nx [.val (.tuple (dI r)), .own none (.lst []), .em, .em, .em, .em, .em, .em] := by
    unfold d_needs_to_watch_1
    simp
  have hk := foldW_len r (zipD (dI r) (dI (r.drop 1))) []
  have hzl : (zipD (dI r) (dI (r.drop 1))).length ≤ r.length := by rw [zipD_length, dI_len]; omega
  unfold F_needs_to_watch
  rw [c_fn1]
  show fin false _ (d_needs_to_watch [.val (.tuple (dI r)), .em, .em, .em, .em, .em, .em, .em]) = _
  unfold d_needs_to_watch
  rw [seq_nx h1, seq_nx h2]
  unfold d_needs_to_watch_3
  have hi : dItems (dVar 1) [.val (.tuple (dI r)), .own none (.lst ((rawW r).map rowD)), a, b, c, d, e, f] = .ok ((rawW r).map rowD) [.val (.tuple (dI r)), .val (.list ((rawW r).map rowD)), a, b, c, d, e, f] := by simp
  have h3 := dSortSet_eq (vs := [7]) (t := gN 7) (ft := Den.ret true) (fe := dVar 7) (p := fun _ => true) (h := id) (rows := rawW r) hi (by simp) (fun x hd => ⟨[.val (.tuple (dI r)), .val (.list ((rawW r).map rowD)), a, b, c, d, e, .val x], rfl, rfl, rfl, fun _ => by simp⟩) (by rw [List.map_id, List.filter_eq_self.mpr fun _ _ => rfl]) (by rw [List.length_map]; unfold rawW; simp only [List.length_nil] at hk; omega) hf
  rw [c_dRet, h3]
  simp [watchI]
end K61
end
section
set_option Elab.async false
set_option linter.all false
set_option maxRecDepth 100000
set_option maxHeartbeats 4000000
set_option autoImplicit false
/-! Heights in the same order give the same needs. -/
namespace K61
open PySem PySem.Spec PyProof.Rows L2 AL
section
variable {f : Int → Int} (hf : ∀ a b : Int, f a < f b ↔ a < b)
include hf
theorem f_inj {a b : Int} : f a = f b ↔ a = b := by
  constructor
  · intro h
    rcases Int.lt_trichotomy a b with q | q | q
    · have := (hf a b).mpr q; omega
    · exact q
    · have := (hf b a).mpr q; omega
  · rintro rfl; rfl
theorem places_f (who : Int) : ∀ (r : List Int) (k : Nat), placesI (f who) k (r.map f) = placesI who k r
  | [], _ => rfl
  | x :: r, k => by
    rw [List.map_cons]
    unfold placesI
    rw [places_f who r (k + 1)]
    by_cases h : x = who
    · rw [if_pos ((f_inj hf).mpr h), if_pos h]
    · rw [if_neg fun z => h ((f_inj hf).mp z), if_neg h]
theorem place_f (who : Int) (r : List Int) : placeI (f who) (r.map f) = placeI who r := by unfold placeI; rw [places_f hf]
theorem filter_f (who : Int) (r : List Int) : ((r.map f).filter fun x => decide (f who < x)) = (r.filter fun x => decide (who < x)).map f := by
  induction r with
  | nil => rfl
  | cons x r ih =>
    rw [List.map_cons, List.filter_cons, List.filter_cons, ih]
    by_cases h : who < x
    · have h2 := (hf who x).mpr h
      simp [h, h2]
    · have h2 : ¬ f who < f x := fun z => h ((hf who x).mp z)
      simp [h, h2]
theorem ahead_f (who : Int) (r : List Int) : aheadI (f who) (r.map f) = aheadI who r := by
  unfold aheadI
  rw [place_f hf, ← List.map_take, filter_f hf, List.length_map]
theorem behind_f (who : Int) (r : List Int) : behindI (f who) (r.map f) = behindI who r := by
  unfold behindI
  rw [place_f hf, ← List.map_drop, filter_f hf, List.length_map]
theorem le_f (a b : Int) : leI (f a) (f b) = leI a b := by
  unfold leI
  have h := hf b a
  by_cases q : b < a
  · have := h.mpr q
    rw [decide_eq_false (by omega), decide_eq_false (by omega)]
  · have : ¬ f b < f a := fun z => q (h.mp z)
    rw [decide_eq_true (by omega), decide_eq_true (by omega)]
theorem insE_f (x : Int) : ∀ l : List Int, insE leI (f x) (l.map f) = (insE leI x l).map f
  | [] => rfl
  | y :: l => by
    rw [List.map_cons]
    unfold insE
    rw [le_f hf, insE_f x l]
    split <;> rfl
theorem isort_f : ∀ l : List Int, isort leI (l.map f) = (isort leI l).map f
  | [] => rfl
  | x :: l => by
    rw [List.map_cons]
    unfold isort
    rw [isort_f l, insE_f hf]
theorem code_f (r : List Int) : codeI (r.map f) = codeI r := by
  unfold codeI folkI
  rw [isort_f hf, ← List.map_reverse, List.map_map]
  exact List.map_congr_left fun x _ => ahead_f hf x r
theorem need_f (r : List Int) (x y : Int) : needW (r.map f) (f x) (f y) = needW r x y := by
  have hw : whoI (f x) (f y) = f (whoI x y) := by
    unfold whoI
    by_cases h : y < x
    · rw [if_pos ((hf y x).mpr h), if_pos h]
    · rw [if_neg fun z => h ((hf y x).mp z), if_neg h]
  unfold needW
  rw [hw, ahead_f hf, behind_f hf]
  by_cases h : whoI x y = x
  · rw [if_pos ((f_inj hf).mpr h), if_pos h]
  · rw [if_neg fun z => h ((f_inj hf).mp z), if_neg h]
theorem fold_f (r : List Int) : ∀ (xs ys : List Int) (acc : List (List Int)), (zipD (dI (xs.map f)) (dI (ys.map f))).foldl (stepW (r.map f)) acc = (zipD (dI xs) (dI ys)).foldl (stepW r) acc
  | [], _, _ => rfl
  | _ :: _, [], _ => rfl
  | x :: xs, y :: ys, acc => by
    show (zipD (dI (xs.map f)) (dI (ys.map f))).foldl (stepW (r.map f)) (acc ++ [needW (r.map f) (f x) (f y)]) = (zipD (dI xs) (dI ys)).foldl (stepW r) (acc ++ [needW r x y])
    rw [need_f hf, fold_f r xs ys]
theorem rawW_f (r : List Int) : rawW (r.map f) = rawW r := by
  unfold rawW
  rw [← List.map_drop, fold_f hf]
theorem know_f {r : List Int} (hl : r.length ≤ 31) (hc : rowsFit (rawK (codeI r)) = true) : F_needs_to_know [.val (.tuple (dI (r.map f)))] = .ret (.d (.list ((knowC (codeI r)).map rowD))) [] := by
  rw [know_eq (by rw [List.length_map]; exact hl) (by rw [code_f hf]; exact hc), code_f hf]
theorem watch_f {r : List Int} (hl : r.length ≤ 60) (hc : rowsFit (rawW r) = true) : F_needs_to_watch [.val (.tuple (dI (r.map f)))] = .ret (.d (.list ((watchI r).map rowD))) [] := by
  rw [watch_eq (by rw [List.length_map]; exact hl) (by rw [rawW_f hf]; exact hc)]
  unfold watchI
  rw [rawW_f hf]
end
/-- 0, 1, .. n-1 -/
def upI (n : Nat) : List Int := (List.range n).map fun (k : Nat) => (k : Int)
def dueL (n : Nat) : List (List Int) := (List.range (n - 1)).map fun (k : Nat) => [1, (k : Int) + 1]
def dueR (n : Nat) : List (List Int) := (List.range (n - 1)).map fun (k : Nat) => [(k : Int) + 1, 1]
/-- all that is asked of n folk, once for all -/
def allOk (n : Nat) : Bool := rowsFit (rawK (codeI (upI n))) && rowsFit (rawW (upI n)) && rowsFit (rawK (codeI (upI n).reverse)) && rowsFit (rawW (upI n).reverse) &&
  decide (knowC (codeI (upI n)) = dueL n) && decide (watchI (upI n) = dueL n) && decide (knowC (codeI (upI n).reverse) = dueR n) && decide (watchI (upI n).reverse = dueR n)
theorem all_ok : ∀ n : Nat, n < 22 → allOk n = true := by decide +kernel
end K61
end
section
set_option Elab.async false
set_option linter.all false
set_option maxRecDepth 100000
set_option maxHeartbeats 4000000
set_option autoImplicit false
/-! The law of k61. -/
namespace K61
open PySem PySem.Spec PyProof.Rows L2 AL
def hgt (base gap : Int) (k : Int) : Int := base + gap * k
theorem hgt_mono {base gap : Int} (h : 0 < gap) (a b : Int) : hgt base gap a < hgt base gap b ↔ a < b := by
  unfold hgt
  constructor
  · intro q
    apply Int.lt_of_mul_lt_mul_left (a := gap) _ (by omega)
    omega
  · intro q
    have := Int.mul_lt_mul_of_pos_left q h
    omega
def rowsD (l : List (List Int)) : List D := l.map rowD
theorem eqv_rowD (a b : List Int) : PyData.eqv (rowD a) (rowD b) = decide (a = b) := eqv_dI
theorem sh_rows {l : List (List Int)} : Sh 2 (.list (rowsD l)) := sh_list fun d hd => by
  obtain ⟨k, _, rfl⟩ := List.mem_map.mp hd
  exact sh_tup (n := 0) fun e he => sh_dI e he
theorem ne_rows (l : List (List Int)) : dNe (.list (rowsD l)) (.list (rowsD l)) = some (.d (.bool false)) := by
  rw [o_ne (n := 2) sh_rows sh_rows (by decide)]
  show some (O.d (.bool (!PyData.eqvAll (l.map rowD) (l.map rowD)))) = _
  rw [eqv_map eqv_rowD]
  simp
/-! outcomes, checked by reckoning -/
def isT : FRes → Bool
  | .ret (.d (.bool true)) [] => true
  | _ => false
theorem isT_of {r : FRes} (h : isT r = true) : r = .ret (.d (.bool true)) [] := by
  unfold isT at h
  split at h
  · rfl
  · cases h
def isI (n : Int) : FRes → Bool
  | .ret (.d (.int i)) [] => decide (i = n)
  | _ => false
theorem isI_of {n : Int} {r : FRes} (h : isI n r = true) : r = .ret (.d (.int n)) [] := by
  unfold isI at h
  split at h
  · rw [of_decide_eq_true h]
  · cases h
def isL1 : FRes → Bool
  | .ret (.d (.list [_])) [] => true
  | _ => false
theorem isL1_of {r : FRes} (h : isL1 r = true) : ∃ x, r = .ret (.d (.list [x])) [] := by
  unfold isL1 at h
  split at h
  · exact ⟨_, rfl⟩
  · cases h
def isF : FRes → Bool
  | .ret (.d (.tuple [.tuple [.int 1], .tuple []])) [] => true
  | _ => false
def flo : D := .tuple [.tuple [.int 1], .tuple []]
theorem isF_of {r : FRes} (h : isF r = true) : r = .ret (.d flo) [] := by
  unfold isF at h
  split at h
  · rfl
  · cases h
def tabOk (n : Nat) : Bool := isF (F_floors_for [.val (.list (rowsD (dueL n)))]) && isI 1 (F_fewest [.val (.list (rowsD (dueL n)))]) && isL1 (F_apart [.val (.list (rowsD (dueL n)))]) && isI 1 (F_fewest [.val (.list (rowsD (dueR n)))]) &&
  isT (F_law_same 6 [.val (.list [.list (rowsD (dueL n)), flo]), .val (.list [.list (rowsD (dueL n)), flo])]) && isT (F_law_same 6 [.val (.list [.list (rowsD (dueR n)), .list (rowsD (dueR n)), .int 1]), .val (.list [.list (rowsD (dueR n)), .list (rowsD (dueR n)), .int 1])])
theorem tab_ok : ∀ n : Nat, n < 22 → 2 ≤ n → tabOk n = true := by decide +kernel
end K61
end
section
set_option Elab.async false
set_option linter.all false
set_option maxRecDepth 100000
set_option maxHeartbeats 4000000
set_option autoImplicit false
/-! The law of k61, step by step. -/
namespace K61
open PySem PySem.Spec PyProof.Rows L2 AL
theorem pow6 : dPow (.int 10) (.int 6) = some (.d (.int 1000000)) := o_pow (by decide)
theorem right_1 {m : Mu} (p : Pot 1000 m) : ∃ base gap m1, 0 < gap ∧ Pot 998 m1 ∧ d_law_right_1 [.own (some 0) m, .em, .em, .em, .em, .em, .em, .em, .em, .em, .em, .em, .em] = .ok .nx [.own (some 0) m1, .val (.int base), .val (.int gap), .em, .em, .em, .em, .em, .em, .em, .em, .em, .em] := by
  obtain ⟨r1, m1, e1, _, _, p1, _⟩ := draw p 2 (b := 2001) (by decide) (by decide)
  obtain ⟨r2, m2, e2, h2, _, p2, _⟩ := draw p1 2 (b := 1000000) (by decide) (by decide)
  refine ⟨r1 - 1000, 1 + r2, m2, by omega, p2, ?_⟩
  unfold d_law_right_1
  simp [e1, e2, pow6]
theorem range_mem {n : Nat} {d : D} (h : d ∈ rangeD 0 n) : ∃ k : Nat, k < n ∧ d = .int (k : Nat) := by
  unfold rangeD at h
  obtain ⟨k, hk, rfl⟩ := List.mem_map.mp h
  exact ⟨k, List.mem_range.mp hk, by rw [Int.zero_add]⟩
/-- [base + gap * k for k in range(n)] -/
theorem row_comp {n : Nat} (hn : n ≤ 1000) {base gap : Int} {fi : Den (List D)} {sl0 : Sls} {o a3 a4 a5 a6 a7 a8 a9 a10 a11 a12 : Sl} (hi : fi sl0 = .ok (rangeD 0 n) [o, .val (.int base), .val (.int gap), a3, a4, a5, a6, a7, a8, a9, a10, a11, a12]) :
    dLc [12] fi (gN 12) (Den.ret true) (dV2 dAdd (dVar 1) (dV2 dMul (dVar 2) (dVar 12))) sl0 = .ok (.tmp (.lst (dI ((upI n).map (hgt base gap))))) [o, .val (.int base), .val (.int gap), a3, a4, a5, a6, a7, a8, a9, a10, a11, a12] := by
  have h := dLc_eq (vs := [12]) (t := gN 12) (ft := Den.ret true) (fe := dV2 dAdd (dVar 1) (dV2 dMul (dVar 2) (dVar 12))) (p := fun _ => true) (h := fun d => match d with | .int k => .int (hgt base gap k) | _ => .none) hi (by simp) (fun d hd => by
    obtain ⟨k, hk, rfl⟩ := range_mem hd
    have hm : dMul (.int gap) (.int (k : Nat)) = some (.d (.int (gap * k))) := mul_R (by omega)
    exact ⟨[o, .val (.int base), .val (.int gap), a3, a4, a5, a6, a7, a8, a9, a10, a11, .val (.int (k : Nat))], rfl, rfl, rfl, fun _ => by simp [hm, hgt]⟩) (small (by unfold rangeD; rw [List.length_map, List.length_range]; omega))
  rw [h, List.filter_eq_self.mpr fun _ _ => rfl]
  have e : ((rangeD 0 n).map fun d => match d with | .int k => PyData.int (hgt base gap k) | _ => .none) = dI ((upI n).map (hgt base gap)) := by
    unfold rangeD dI upI
    rw [List.map_map, List.map_map, List.map_map]
    refine List.map_congr_left fun k _ => ?_
    show PyData.int (hgt base gap (0 + (k : Nat))) = PyData.int (hgt base gap (k : Nat))
    rw [Int.zero_add]
  rw [e]
section
variable {m : Mu} {base gap : Int}
def line5 (base gap : Int) : List Int := [1, 3, 0, 4, 2].map (hgt base gap)
theorem right_2 : d_law_right_2 [.own (some 0) m, .val (.int base), .val (.int gap), .em, .em, .em, .em, .em, .em, .em, .em, .em, .em] =
    .ok .nx [.own (some 0) m, .val (.int base), .val (.int gap), .val (.int (hgt base gap 0)), .val (.int (hgt base gap 1)), .val (.int (hgt base gap 2)), .val (.int (hgt base gap 3)), .val (.int (hgt base gap 4)), .em, .em, .em, .em, .em] := by
  have hi : dItC dR1 (dCons (dC (.int 5)) (dNil)) [.own (some 0) m, .val (.int base), .val (.int gap), .em, .em, .em, .em, .em, .em, .em, .em, .em, .em] = .ok (rangeD 0 5) [.own (some 0) m, .val (.int base), .val (.int gap), .em, .em, .em, .em, .em, .em, .em, .em, .em, .em] := by
    have : dR1 [.int 5] = some (rangeD 0 5) := rfl
    simp [this]
  have h := row_comp (n := 5) (by decide) hi
  unfold d_law_right_2
  rw [c_asg, c_fix, h]
  rfl
theorem right_3 : d_law_right_3 [.own (some 0) m, .val (.int base), .val (.int gap), .val (.int (hgt base gap 0)), .val (.int (hgt base gap 1)), .val (.int (hgt base gap 2)), .val (.int (hgt base gap 3)), .val (.int (hgt base gap 4)), .em, .em, .em, .em, .em] =
    .ok .nx [.own (some 0) m, .val (.int base), .val (.int gap), .val (.int (hgt base gap 0)), .val (.int (hgt base gap 1)), .val (.int (hgt base gap 2)), .val (.int (hgt base gap 3)), .val (.int (hgt base gap 4)), .val (.tuple (dI (line5 base gap))), .em, .em, .em, .em] := by
  unfold d_law_right_3 line5
  simp [dI]
end
def know5 : List (List Int) := [[1, 1], [1, 3], [2, 1], [2, 3], [3, 2]]
def watch5 : List (List Int) := [[1, 3], [2, 1], [2, 3], [3, 2]]
theorem same5 : isT (F_law_same 6 [.val (.list (rowsD know5)), .val (.list (rowsD know5))]) = true := by decide +kernel
theorem same5w : isT (F_law_same 6 [.val (.list (rowsD watch5)), .val (.list (rowsD watch5))]) = true := by decide +kernel
theorem few5 : isI 3 (F_fewest [.val (.list (rowsD know5))]) = true := by decide +kernel
theorem few5w : isI 3 (F_fewest [.val (.list (rowsD watch5))]) = true := by decide +kernel
def isE : FRes → Bool
  | .ret (.d (.tuple [.tuple [], .tuple []])) [] => true
  | _ => false
theorem isE_of {r : FRes} (h : isE r = true) : r = .ret (.d (.tuple [.tuple [], .tuple []])) [] := by
  unfold isE at h
  split at h
  · rfl
  · cases h
theorem flo0 : isE (F_floors_for [.val (.list [])]) = true := by decide +kernel
theorem fit5 : (rowsFit (rawK (codeI [1, 3, 0, 4, 2])) && rowsFit (rawW [1, 3, 0, 4, 2]) && decide (knowC (codeI [1, 3, 0, 4, 2]) = know5) && decide (watchI [1, 3, 0, 4, 2] = watch5) && rowsFit (rawK (codeI [2])) && rowsFit (rawW [2]) && decide (knowC (codeI [2]) = []) && decide (watchI [2] = [])) = true := by decide +kernel
section
variable {m : Mu} {base gap : Int} (hg : 0 < gap)
include hg
theorem k5 : F_needs_to_know [.val (.tuple (dI (line5 base gap)))] = .ret (.d (.list (rowsD know5))) [] := by
  have h := fit5
  simp only [Bool.and_eq_true, decide_eq_true_eq] at h
  unfold line5
  rw [know_f (hgt_mono hg) (by decide) h.1.1.1.1.1.1.1, h.1.1.1.1.1.2]
  rfl
theorem w5 : F_needs_to_watch [.val (.tuple (dI (line5 base gap)))] = .ret (.d (.list (rowsD watch5))) [] := by
  have h := fit5
  simp only [Bool.and_eq_true, decide_eq_true_eq] at h
  unfold line5
  rw [watch_f (hgt_mono hg) (by decide) h.1.1.1.1.1.1.2, h.1.1.1.1.2]
  rfl
theorem k1' : F_needs_to_know [.val (.tuple [.int (hgt base gap 2)])] = .ret (.d (.list [])) [] := by
  have h := fit5
  simp only [Bool.and_eq_true, decide_eq_true_eq] at h
  show F_needs_to_know [.val (.tuple (dI ([2].map (hgt base gap))))] = _
  rw [know_f (hgt_mono hg) (by decide) h.1.1.1.2, h.1.2]
  rfl
theorem w1 : F_needs_to_watch [.val (.tuple [.int (hgt base gap 2)])] = .ret (.d (.list [])) [] := by
  have h := fit5
  simp only [Bool.and_eq_true, decide_eq_true_eq] at h
  show F_needs_to_watch [.val (.tuple (dI ([2].map (hgt base gap))))] = _
  rw [watch_f (hgt_mono hg) (by decide) h.1.1.2, h.2]
  rfl
abbrev st8 (m : Mu) (base gap : Int) (c r d x : Sl) : Sls := [.own (some 0) m, .val (.int base), .val (.int gap), .val (.int (hgt base gap 0)), .val (.int (hgt base gap 1)), .val (.int (hgt base gap 2)), .val (.int (hgt base gap 3)), .val (.int (hgt base gap 4)), .val (.tuple (dI (line5 base gap))), c, r, d, x]
theorem right_4 : d_law_right_4 (st8 m base gap .em .em .em .em) = .ok .nx (st8 m base gap .em .em .em .em) := by
  have e : F_law_same 6 [.val (.list (rowsD know5)), .val (.list [.tuple [.int 1, .int 1], .tuple [.int 1, .int 3], .tuple [.int 2, .int 1], .tuple [.int 2, .int 3], .tuple [.int 3, .int 2]])] = .ret (.d (.bool true)) [] := isT_of same5
  unfold d_law_right_4
  simp [k5 hg, e]
theorem right_5 : d_law_right_5 (st8 m base gap .em .em .em .em) = .ok .nx (st8 m base gap .em .em .em .em) := by
  have e : F_law_same 6 [.val (.list (rowsD watch5)), .val (.list [.tuple [.int 1, .int 3], .tuple [.int 2, .int 1], .tuple [.int 2, .int 3], .tuple [.int 3, .int 2]])] = .ret (.d (.bool true)) [] := isT_of same5w
  unfold d_law_right_5
  simp [w5 hg, e]
theorem right_6 : d_law_right_6 (st8 m base gap .em .em .em .em) = .ok .nx (st8 m base gap .em .em .em .em) := by
  have e : dNe (.list [.int 3, .int 3]) (.list [.int 3, .int 3]) = some (.d (.bool false)) := o_ne (n := 1) (sh_list (sh_dI (r := [3, 3]))) (sh_list (sh_dI (r := [3, 3]))) (by decide)
  unfold d_law_right_6
  simp [w5 hg, k5 hg, isI_of few5, isI_of few5w, e]
theorem right_7 : d_law_right_7 (st8 m base gap .em .em .em .em) = .ok .nx (st8 m base gap .em .em .em .em) := by
  have e : dNe (.list []) (.list []) = some (.d (.bool false)) := o_ne (n := 1) (sh_list fun d hd => by simp at hd) (sh_list fun d hd => by simp at hd) (by decide)
  have e2 : dNe (.tuple [.tuple [], .tuple []]) (.tuple [.tuple [], .tuple []]) = some (.d (.bool false)) := o_ne (n := 2) ⟨rfl, by decide⟩ ⟨rfl, by decide⟩ (by decide)
  unfold d_law_right_7
  simp [w1 hg, k1' hg, isE_of flo0, e, e2]
end
end K61
end
section
set_option Elab.async false
set_option linter.all false
set_option maxRecDepth 100000
set_option maxHeartbeats 4000000
set_option autoImplicit false
/-! The law of k61, to the end. -/
namespace K61
open PySem PySem.Spec PyProof.Rows L2 AL
section
variable {m : Mu} {base gap : Int}
theorem right_8 (p : Pot 998 m) : ∃ n m1, 2 ≤ n ∧ n < 22 ∧ d_law_right_8 (st8 m base gap .em .em .em .em) = .ok .nx (st8 m1 base gap (.val (.int ((n : Nat) : Int))) .em .em .em) := by
  obtain ⟨r, m1, e, h1, h2, _, _⟩ := draw p 2 (b := 20) (by decide) (by decide)
  refine ⟨(2 + r).toNat, m1, by omega, by omega, ?_⟩
  have q : (((2 + r).toNat : Nat) : Int) = 2 + r := by omega
  rw [q]
  unfold d_law_right_8 st8
  simp [e]
end
theorem big62 : (2 : Int) ^ 62 = 4611686018427387904 := by decide +kernel
theorem dR1_nat {n : Nat} (h : n < 1000) : dR1 [.int (n : Nat)] = some (rangeD 0 n) := by
  unfold dR1
  simp only
  rw [big62, if_pos ⟨by omega, by omega⟩, Int.toNat_natCast]
theorem dR2_nat {n : Nat} (h2 : 1 ≤ n) (h : n < 1000) : dR2 [.int 1, .int (n : Nat)] = some (rangeD 1 (n - 1)) := by
  have q : ((n : Int) - 1).toNat = n - 1 := by omega
  unfold dR2
  simp only
  rw [big62, if_pos ⟨by omega, by omega, by omega, by omega⟩, q]
abbrev st9 (m : Mu) (a b : D) (c r d x : Sl) (h0 h1 h2 h3 h4 l : Sl) : Sls := [.own (some 0) m, .val a, .val b, h0, h1, h2, h3, h4, l, c, r, d, x]
section
variable {m : Mu} {base gap : Int} {n : Nat} {h0 a1 a2 a3 a4 l c r d x : Sl} {u v : D}
theorem itA {k : D} {xs : List D} (h : dR1 [k] = some xs) : dItC dR1 (dCons (dVar 9) (dNil)) (st9 m u v (.val k) r d x h0 a1 a2 a3 a4 l) = .ok xs (st9 m u v (.val k) r d x h0 a1 a2 a3 a4 l) := by
  have e : dCons (dVar 9) (dNil) (st9 m u v (.val k) r d x h0 a1 a2 a3 a4 l) = .ok [.d k] (st9 m u v (.val k) r d x h0 a1 a2 a3 a4 l) := rfl
  rw [c_itC, e]
  show oq (oqS (some [k]) dR1) _ = _
  show oq (dR1 [k]) _ = _
  rw [h]
  rfl
theorem it9 (h : n < 1000) : dItC dR1 (dCons (dVar 9) (dNil)) (st9 m u v (.val (.int (n : Nat))) r d x h0 a1 a2 a3 a4 l) = .ok (rangeD 0 n) (st9 m u v (.val (.int (n : Nat))) r d x h0 a1 a2 a3 a4 l) := itA (dR1_nat h)
theorem itB {k : D} {xs : List D} (h : dR2 [.int 1, k] = some xs) : dItC dR2 (dCons (dC (.int 1)) (dCons (dVar 9) (dNil))) (st9 m u v (.val k) r d x h0 a1 a2 a3 a4 l) = .ok xs (st9 m u v (.val k) r d x h0 a1 a2 a3 a4 l) := by
  have e : dCons (dC (.int 1)) (dCons (dVar 9) (dNil)) (st9 m u v (.val k) r d x h0 a1 a2 a3 a4 l) = .ok [.d (.int 1), .d k] (st9 m u v (.val k) r d x h0 a1 a2 a3 a4 l) := rfl
  rw [c_itC, e]
  show oq (dR2 [.int 1, k]) _ = _
  rw [h]
  rfl
theorem right_9' {w : List D} (h : dLc [12] (dItC dR1 (dCons (dVar 9) (dNil))) (gN 12) (Den.ret true) (dV2 dAdd (dVar 1) (dV2 dMul (dVar 2) (dVar 12))) (st9 m u v c .em d x h0 a1 a2 a3 a4 l) = .ok (.tmp (.lst w)) (st9 m u v c .em d x h0 a1 a2 a3 a4 l)) : d_law_right_9 (st9 m u v c .em d x h0 a1 a2 a3 a4 l) = .ok .nx (st9 m u v c (.val (.tuple w)) d x h0 a1 a2 a3 a4 l) := by
  have e : (dCons (dLc [12] (dItC dR1 (dCons (dVar 9) (dNil))) (gN 12) (Den.ret true) (dV2 dAdd (dVar 1) (dV2 dMul (dVar 2) (dVar 12)))) (dNil)) (st9 m u v c .em d x h0 a1 a2 a3 a4 l) = .ok [.tmp (.lst w)] (st9 m u v c .em d x h0 a1 a2 a3 a4 l) := by
    show (dLc _ _ _ _ _ _).sq _ = _
    rw [h]
    rfl
  unfold d_law_right_9
  show ((dCons _ dNil _).sq _).sq _ = _
  rw [e]
  rfl
theorem rows_at {n : Nat} {d : D} (h : d ∈ rangeD 1 (n - 1)) : ∃ k : Nat, k < n ∧ d = .int ((k : Int) + 1) := by
  unfold rangeD at h
  obtain ⟨k, hk, rfl⟩ := List.mem_map.mp h
  exact ⟨k, by have := List.mem_range.mp hk; omega, by rw [Int.add_comm]⟩
theorem rows_L (n : Nat) : (rangeD 1 (n - 1)).map (fun d => PyData.tuple [.int 1, d]) = rowsD (dueL n) := by
  unfold rangeD rowsD dueL
  rw [List.map_map, List.map_map]
  refine List.map_congr_left fun k _ => ?_
  show PyData.tuple [.int 1, .int (1 + (k : Nat))] = PyData.tuple [.int 1, .int ((k : Nat) + 1)]
  rw [Int.add_comm]
theorem rows_R (n : Nat) : (rangeD 1 (n - 1)).map (fun d => PyData.tuple [d, .int 1]) = rowsD (dueR n) := by
  unfold rangeD rowsD dueR
  rw [List.map_map, List.map_map]
  refine List.map_congr_left fun k _ => ?_
  show PyData.tuple [.int (1 + (k : Nat)), .int 1] = PyData.tuple [.int ((k : Nat) + 1), .int 1]
  rw [Int.add_comm]
theorem range_len {k : Int} {n : Nat} : (rangeD k n).length = n := by
  unfold rangeD
  rw [List.length_map, List.length_range]
theorem right_9 (hn : n < 1000) : d_law_right_9 (st9 m (.int base) (.int gap) (.val (.int (n : Nat))) .em .em .em h0 a1 a2 a3 a4 l) = .ok .nx (st9 m (.int base) (.int gap) (.val (.int (n : Nat))) (.val (.tuple (dI ((upI n).map (hgt base gap))))) .em .em h0 a1 a2 a3 a4 l) :=
  right_9' (row_comp (by omega) (it9 hn))
theorem right_10 (h2 : 1 ≤ n) (hn : n < 1000) : d_law_right_10 (st9 m u v (.val (.int (n : Nat))) r d .em h0 a1 a2 a3 a4 l) = .ok .nx (st9 m u v (.val (.int (n : Nat))) r (.val (.list (rowsD (dueL n)))) .em h0 a1 a2 a3 a4 l) := by
  have e := dLc_eq (vs := [12]) (t := gN 12) (ft := Den.ret true) (fe := dTup (dCons (dC (.int 1)) (dCons (dVar 12) (dNil)))) (p := fun _ => true) (h := fun d => PyData.tuple [.int 1, d]) (itB (m := m) (u := u) (v := v) (h0 := h0) (a1 := a1) (a2 := a2) (a3 := a3) (a4 := a4) (l := l) (r := r) (d := d) (x := .em) (dR2_nat h2 hn)) (by simp) (fun e he => ⟨st9 m u v (.val (.int (n : Nat))) r d (.val e) h0 a1 a2 a3 a4 l, rfl, rfl, rfl, fun _ => rfl⟩) (small (by rw [range_len]; omega))
  rw [List.filter_eq_self.mpr fun _ _ => rfl, rows_L] at e
  generalize rowsD (dueL n) = w at e ⊢
  unfold d_law_right_10
  rw [c_put, c_fix, e]
  rfl
theorem right_13 (h2 : 1 ≤ n) (hn : n < 1000) : d_law_right_13 (st9 m u v (.val (.int (n : Nat))) r d .em h0 a1 a2 a3 a4 l) = .ok .nx (st9 m u v (.val (.int (n : Nat))) r (.val (.list (rowsD (dueR n)))) .em h0 a1 a2 a3 a4 l) := by
  have e := dLc_eq (vs := [12]) (t := gN 12) (ft := Den.ret true) (fe := dTup (dCons (dVar 12) (dCons (dC (.int 1)) (dNil)))) (p := fun _ => true) (h := fun d => PyData.tuple [d, .int 1]) (itB (m := m) (u := u) (v := v) (h0 := h0) (a1 := a1) (a2 := a2) (a3 := a3) (a4 := a4) (l := l) (r := r) (d := d) (x := .em) (dR2_nat h2 hn)) (by simp) (fun e he => ⟨st9 m u v (.val (.int (n : Nat))) r d (.val e) h0 a1 a2 a3 a4 l, rfl, rfl, rfl, fun _ => rfl⟩) (small (by rw [range_len]; omega))
  rw [List.filter_eq_self.mpr fun _ _ => rfl, rows_R] at e
  generalize rowsD (dueR n) = w at e ⊢
  unfold d_law_right_13
  rw [c_put, c_fix, e]
  rfl
end
end K61
end
section
set_option Elab.async false
set_option linter.all false
set_option maxRecDepth 100000
set_option maxHeartbeats 1000000
set_option autoImplicit false
/-! The law of k61: the last questions. -/
namespace K61
open PySem PySem.Spec PyProof.Rows L2 AL
abbrev floT : D := .tuple [.tuple [.int 1], .tuple []]
section
variable {m : Mu} {n : Int} {h0 a1 a2 a3 a4 l c r d x : Sl} {u v row row2 due y : D}
theorem right_11 (hk : F_needs_to_know [.val row] = .ret (.d due) []) (hf : F_floors_for [.val due] = .ret (.d floT) []) (hs : F_law_same 6 [.val (.list [due, floT]), .val (.list [due, floT])] = .ret (.d (.bool true)) []) :
    d_law_right_11 (st9 m u v (.val (.int n)) (.val row) (.val due) .em h0 a1 a2 a3 a4 l) = .ok .nx (st9 m u v (.val (.int n)) (.val row) (.val due) .em h0 a1 a2 a3 a4 l) := by
  have g : dGt (.int n) (.int 2) = some (.d (.bool (decide (2 < n)))) := rfl
  unfold d_law_right_11
  by_cases h : 2 < n
  · simp [hk, hf, hs, g, h]
  · simp [hk, hf, hs, g, h]
theorem right_12 (hk : F_needs_to_watch [.val row] = .ret (.d due) []) (hf : F_fewest [.val due] = .ret (.d (.int 1)) []) (ha : F_apart [.val due] = .ret (.d (.list [y])) []) (hs : dNe due due = some (.d (.bool false))) :
    d_law_right_12 (st9 m u v c (.val row) (.val due) .em h0 a1 a2 a3 a4 l) = .ok .nx (st9 m u v c (.val row) (.val due) .em h0 a1 a2 a3 a4 l) := by
  have g : dNe (.int 1) (.int 1) = some (.d (.bool false)) := rfl
  have g2 : dLen [.list [y]] = some (.d (.int 1)) := rfl
  unfold d_law_right_12
  simp [hk, hf, hs, ha, g, g2]
theorem right_14 (hr : dRevT row = some (.d row2)) (hk : F_needs_to_know [.val row2] = .ret (.d due) []) (hw : F_needs_to_watch [.val row2] = .ret (.d due) []) (hf : F_fewest [.val due] = .ret (.d (.int 1)) []) (hs : F_law_same 6 [.val (.list [due, due, .int 1]), .val (.list [due, due, .int 1])] = .ret (.d (.bool true)) []) :
    d_law_right_14 (st9 m u v c (.val row) (.val due) .em h0 a1 a2 a3 a4 l) = .ok (.rt (.d (.bool true))) (st9 m u v c (.val row) (.val due) .em h0 a1 a2 a3 a4 l) := by
  unfold d_law_right_14
  simp [hr, hk, hf, hs, hw]
end
end K61
end
section
set_option Elab.async false
set_option linter.all false
set_option maxRecDepth 100000
set_option maxHeartbeats 1000000
set_option autoImplicit false
/-! The law of k61 holds. -/
namespace K61
open PySem PySem.Spec PyProof.Rows L2 AL
theorem upI_len (n : Nat) : (upI n).length = n := by
  unfold upI
  rw [List.length_map, List.length_range]
theorem right_eq {m : Mu} (p : Pot 1000 m) : ∃ m', F_law_right [.mu m] = .ret (.d (.bool true)) [m'] := by
  obtain ⟨base, gap, m1, hg, p1, e1⟩ := right_1 p
  obtain ⟨n, m2, h2, h22, e8⟩ := right_8 (base := base) (gap := gap) p1
  have A := all_ok n h22
  have B := tab_ok n h22 h2
  unfold allOk at A
  unfold tabOk at B
  simp only [Bool.and_eq_true, decide_eq_true_eq] at A B
  obtain ⟨⟨⟨⟨⟨⟨⟨A1, A2⟩, A3⟩, A4⟩, A5⟩, A6⟩, A7⟩, A8⟩ := A
  obtain ⟨⟨⟨⟨⟨B1, B2⟩, B3⟩, B4⟩, B5⟩, B6⟩ := B
  obtain ⟨y, hy⟩ := isL1_of B3
  have hm := hgt_mono (base := base) (gap := gap) hg
  have k1 : F_needs_to_know [.val (.tuple (dI ((upI n).map (hgt base gap))))] = .ret (.d (.list (rowsD (dueL n)))) [] := by
    rw [know_f hm (by rw [upI_len]; omega) A1, A5]
    rfl
  have k2 : F_needs_to_watch [.val (.tuple (dI ((upI n).map (hgt base gap))))] = .ret (.d (.list (rowsD (dueL n)))) [] := by
    rw [watch_f hm (by rw [upI_len]; omega) A2, A6]
    rfl
  have k3 : F_needs_to_know [.val (.tuple (dI ((upI n).reverse.map (hgt base gap))))] = .ret (.d (.list (rowsD (dueR n)))) [] := by
    rw [know_f hm (by rw [List.length_reverse, upI_len]; omega) A3, A7]
    rfl
  have k4 : F_needs_to_watch [.val (.tuple (dI ((upI n).reverse.map (hgt base gap))))] = .ret (.d (.list (rowsD (dueR n)))) [] := by
    rw [watch_f hm (by rw [List.length_reverse, upI_len]; omega) A4, A8]
    rfl
  have f1 := isF_of B1
  have f2 := isI_of B2
  have f3 := isI_of B4
  have s1 := isT_of B5
  have s2 := isT_of B6
  have e9 := right_9 (m := m2) (base := base) (gap := gap) (h0 := .val (.int (hgt base gap 0))) (a1 := .val (.int (hgt base gap 1))) (a2 := .val (.int (hgt base gap 2))) (a3 := .val (.int (hgt base gap 3))) (a4 := .val (.int (hgt base gap 4))) (l := .val (.tuple (dI (line5 base gap)))) (n := n) (by omega)
  have hr : dRevT (.tuple (dI ((upI n).map (hgt base gap)))) = some (.d (.tuple (dI (((upI n).reverse).map (hgt base gap))))) := by
    show some (O.d (.tuple (dI ((upI n).map (hgt base gap))).reverse)) = _
    unfold dI
    rw [← List.map_reverse, ← List.map_reverse]
  refine ⟨m2, ?_⟩
  unfold F_law_right
  rw [c_fn1]
  show fin false [.mu m] (d_law_right [.own (some 0) m, .em, .em, .em, .em, .em, .em, .em, .em, .em, .em, .em, .em]) = _
  unfold d_law_right
  rw [seq_nx e1, seq_nx right_2, seq_nx right_3, seq_nx (right_4 hg), seq_nx (right_5 hg), seq_nx (right_6 hg), seq_nx (right_7 hg), seq_nx e8, seq_nx e9, seq_nx (right_10 (by omega) (by omega)), seq_nx (right_11 k1 f1 s1), seq_nx (right_12 k2 f2 hy (ne_rows _)), seq_nx (right_13 (by omega) (by omega)), right_14 hr k3 k4 f3 s2]
  rfl
theorem bools_true : ∀ l : List D, dAll [.list (l.map fun _ => PyData.bool true)] = some (.d (.bool true))
  | [] => rfl
  | _ :: l => by
    have h := bools_true l
    unfold dAll at h ⊢
    simp only at h ⊢
    cases q : dBools (l.map fun _ => PyData.bool true) with
    | none => rw [q] at h; cases h
    | some bs =>
      rw [q] at h
      show Option.map _ (dBools (PyData.bool true :: l.map fun _ => PyData.bool true)) = _
      unfold dBools
      rw [q]
      have h := h
      simp at h ⊢
      exact h
def cnt (l : Int) : Int := if (if l < 4 then l else 4) > 1 then (if l < 4 then l else 4) else 1
theorem cnt_q {ns : List Int} : dCons (dVC dMax2 (dCons (dC (.int 1)) (dCons (dVC dMin2 (dCons (dC (.int 4)) (dCons (dLenS 0) (dNil)))) (dNil)))) (dNil) [.scr ns, .em] = .ok [.d (.int (cnt ns.length))] [.scr ns, .em] := by
  unfold cnt
  simp
theorem cnt_it {fr : List D → Option (List D)} {fa : Den (List O)} {ns : List Int} {d : D} {xs : List D} (hq : fa [.scr ns, .em] = .ok [.d d] [.scr ns, .em]) (hr : fr [d] = some xs) : dItC fr fa [.scr ns, .em] = .ok xs [.scr ns, .em] := by
  rw [c_itC, hq]
  show oq (fr [d]) _ = _
  rw [hr]
  rfl
theorem cnt_nat (l : Int) : ∃ c : Nat, c ≤ 4 ∧ cnt l = (c : Nat) := by
  have h1 : cnt l ≤ 4 := by unfold cnt; split <;> split <;> omega
  have h2 : 1 ≤ cnt l := by unfold cnt; split <;> split <;> omega
  exact ⟨(cnt l).toNat, by omega, by omega⟩
theorem each_true {ns : List Int} {d : D} {c : Nat} (hd : d ∈ rangeD 0 c) : LcAt [1] (gN 1) (Den.ret true) (dFix (dCall F_law_right (dCons (dCall F_law_pot (dCons (dVar 0) (dCons (dVar 1) (dNil)))) (dNil)))) [.scr ns, .em] d true (.bool true) := by
  obtain ⟨k, _, rfl⟩ := range_mem hd
  obtain ⟨m, e1, p⟩ := pot_pot ns k
  obtain ⟨m', e2⟩ := right_eq p
  exact ⟨[.scr ns, .val (.int (k : Nat))], rfl, rfl, rfl, fun _ => by simp [e1, e2]⟩
theorem law_of {fi : Den (List D)} {fe : Den O} {ns : List Int} {c : Nat} (hc : c ≤ 4) (hi : fi [.scr ns, .em] = .ok (rangeD 0 c) [.scr ns, .em]) (hd : ∀ d ∈ rangeD 0 c, LcAt [1] (gN 1) (Den.ret true) (dFix fe) [.scr ns, .em] d true (.bool true)) :
    dLc [1] fi (gN 1) (Den.ret true) fe [.scr ns, .em] = .ok (.tmp (.lst ((rangeD 0 c).map fun _ => PyData.bool true))) [.scr ns, .em] := by
  have e := dLc_eq (p := fun _ => true) (h := fun _ => PyData.bool true) hi (by simp) hd (small (by rw [range_len]; omega))
  rw [List.filter_eq_self.mpr fun _ _ => rfl] at e
  exact e
theorem law_end {fl : Den O} {ns : List Int} {w : List D} (e : fl [.scr ns, .em] = .ok (.tmp (.lst w)) [.scr ns, .em]) (b : dAll [.list w] = some (.d (.bool true))) : dRet (dVC dAll (dCons fl (dNil))) [.scr ns, .em] = .ok (.rt (.d (.bool true))) [.scr ns, .em] := by
  simp [e, b]
theorem law_true (ns : List Int) (h : ns.length ≤ 63) : F_law [.scr ns] = .ret (.d (.bool true)) [] := by
  obtain ⟨c, hc, hz⟩ := cnt_nat ns.length
  have q := cnt_q (ns := ns)
  rw [hz] at q
  have e := law_of hc (cnt_it q (dR1_nat (by omega))) fun d hd => each_true hd
  unfold F_law
  rw [c_fn1]
  show fin false [.scr ns] (d_law [.scr ns, .em]) = _
  unfold d_law d_law_1
  rw [law_end e (bools_true _)]
  rfl
end K61
end
open PySem PySem.W PyProof.Rows in
set_option maxRecDepth 100000 in
set_option maxHeartbeats 0 in
theorem PySem.Challenge.cw_balconyrow_k61_known_needs_holds : PySem.Challenge.rw_balconyrow_k61_known_needs.Holds := by
  w_on; o_law; k_head; (case hw => w_witness2)
  k_fill
  refine AL.walk_law (l := PySem.Challenge.rw_balconyrow_k61_known_needs) (k := 69) (x := "_law_script") rfl rfl ⟨rfl, by decide, by decide⟩ (fun w h Y => PySem.W.kIn_of Y) ?F
  case F =>
    intro w mg fa h KX G hmg
    refine' K61.all_mk KX G hmg ?a0 ?l0 ?c0 ?k0 ?a1 ?l1 ?c1 ?k1 ?a2 ?l2 ?c2 ?k2 ?a3 ?l3 ?c3 ?k3 ?a4 ?l4 ?c4 ?k4 ?a5 ?l5 ?c5 ?k5 ?a6 ?l6 ?c6 ?k6 ?a7 ?l7 ?c7 ?k7 ?a8 ?l8 ?c8 ?k8 ?a9 ?l9 ?c9 ?k9 ?a10 ?l10 ?c10 ?k10 ?a11 ?l11 ?c11 ?k11 ?a12 ?l12 ?c12 ?k12 ?a13 ?l13 ?c13 ?k13 ?a14 ?l14 ?c14 ?k14 ?a15 ?l15 ?c15 ?k15 ?a16 ?l16 ?c16 ?k16 ?a17 ?l17 ?c17 ?k17 ?z0 ?z1 ?z2 ?z3 ?z4 ?z5 ?z6 ?z7 ?z8 ?z9 ?z10 ?z11 ?z12 ?z13 ?z14 K61.law_true
    (case a0 => k_is)
    (case l0 => k_is)
    (case c0 => k_is)
    (case k0 => k_is)
    (case a1 => k_is)
    (case l1 => k_is)
    (case c1 => k_is)
    (case k1 => k_is)
    (case a2 => k_is)
    (case l2 => k_is)
    (case c2 => k_is)
    (case k2 => k_is)
    (case a3 => k_is)
    (case l3 => k_is)
    (case c3 => k_is)
    (case k3 => k_is)
    (case a4 => k_is)
    (case l4 => k_is)
    (case c4 => k_is)
    (case k4 => k_is)
    (case a5 => k_is)
    (case l5 => k_is)
    (case c5 => k_is)
    (case k5 => k_is)
    (case a6 => k_is)
    (case l6 => k_is)
    (case c6 => k_is)
    (case k6 => k_is)
    (case a7 => k_is)
    (case l7 => k_is)
    (case c7 => k_is)
    (case k7 => k_is)
    (case a8 => k_is)
    (case l8 => k_is)
    (case c8 => k_is)
    (case k8 => k_is)
    (case a9 => k_is)
    (case l9 => k_is)
    (case c9 => k_is)
    (case k9 => k_is)
    (case a10 => k_is)
    (case l10 => k_is)
    (case c10 => k_is)
    (case k10 => k_is)
    (case a11 => k_is)
    (case l11 => k_is)
    (case c11 => k_is)
    (case k11 => k_is)
    (case a12 => k_is)
    (case l12 => k_is)
    (case c12 => k_is)
    (case k12 => k_is)
    (case a13 => k_is)
    (case l13 => k_is)
    (case c13 => k_is)
    (case k13 => k_is)
    (case a14 => k_is)
    (case l14 => k_is)
    (case c14 => k_is)
    (case k14 => k_is)
    (case a15 => k_is)
    (case l15 => k_is)
    (case c15 => k_is)
    (case k15 => k_is)
    (case a16 => k_is)
    (case l16 => k_is)
    (case c16 => k_is)
    (case k16 => k_is)
    (case a17 => k_is)
    (case l17 => k_is)
    (case c17 => k_is)
    (case k17 => k_is)
    (case z0 => k_is)
    (case z1 => k_is)
    (case z2 => k_is)
    (case z3 => k_is)
    (case z4 => k_is)
    (case z5 => k_is)
    (case z6 => k_is)
    (case z7 => k_is)
    (case z8 => k_is)
    (case z9 => k_is)
    (case z10 => k_is)
    (case z11 => k_is)
    (case z12 => k_is)
    (case z13 => k_is)
    (case z14 => k_is)