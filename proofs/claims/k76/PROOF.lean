import PyProof.Rows.All
import Wide.All
import OpenK.AllK
import Wide.FinOn
import HandS.ForMost
import HandS.ForExc
import HandS.ExcIs
import HandS.IsInst
import HandS.Wide
import HandS.WideMore
import HandS.WideBits
import HandS.Flow
import HandS.Style
import HandS.Conv
import HandS.Zip
import HandS.SortKw
import HandS.SortInts
import HandS.Rev
import HandS.RevRange
import HandS.RevTup
import HandS.TupAny
import HandS.TupMul
import HandS.Defaults
import HandS.CallSlots
import HandS.HotCalls
import HandS.SetKeys
import HandS.NoneIn
import HandS.Deep
import HandS.Small
import HandS.EndBits
import HandS.HeadHook4
import HandS.HeadEnd
import HandS.Head2
import HandS.Steps
import HandS.StrMore
import HandS.SuiteRaise
import HandS.TryMany
import HandS.Lambda
import HandS.ExcInit
import HandS.WordsDict
import HandS.TryOnly
import PySem.Challenge.RW_weightrooms_k76_weights_back
set_option Elab.async false
set_option linter.all false
set_option maxRecDepth 100000
set_option maxHeartbeats 4000000
/-! A layer over HandS: plain data in the place of addresses; lists that are changed are owned by a slot. -/
namespace WR
open PySem L2
set_option autoImplicit false

/-! ### data -/
inductive D where
  | non
  | bl (b : Bool)
  | int (i : Int)
  | str (x : Str)
  | ty (n : String)
  | obj (a : Addr)
  | exc (C : Addr)
  | tup (xs : List D)
  | lst (xs : List D)
  | dic (ks : List Key) (xs : List D)
  | scr (ns : List Int)

/-- at a an exception of the class at C stands -/
def ExcAt (a C : Addr) (d : Option Addr) (h : Heap) : Prop := ∃ oe vs, h.get? a = some oe ∧ Zc (.ref C) d oe ∧ oe.data = .fields vs

mutual
inductive Rep (K : PySem.W.Frag) (F : Hp) : V → D → Prop
  | non : Rep K F .non .non
  | bl (b : Bool) : Rep K F (.bl b) (.bl b)
  | int (i : Int) : Rep K F (.int i) (.int i)
  | str (x : Str) : Rep K F (.str x) (.str x)
  | ty (n : String) : Rep K F (.ty n) (.ty n)
  | obj (a : Addr) : Rep K F (.ref a) (.obj a)
  | exc {a C : Addr} : F a = some (.ext (ExcAt a C none)) → Rep K F (.ref a) (.exc C)
  | tup {a : Addr} {vs : List V} {ds : List D} : SqT K F a vs → RepL K F vs ds → Rep K F (.ref a) (.tup ds)
  | lst {a : Addr} {vs : List V} {ds : List D} : F a = some (.lst vs) → RepL K F vs ds → Rep K F (.ref a) (.lst ds)
  | scr {a : Addr} {ns : List Int} : SqL K F a (ns.map V.int) → Rep K F (.ref a) (.scr ns)
  | dic {a : Addr} {kvs : List (Key × V)} {ks : List Key} {ds : List D} : F a = some (.dK kvs) → kvs.map (·.1) = ks → RepL K F (kvs.map (·.2)) ds → Rep K F (.ref a) (.dic ks ds)
inductive RepL (K : PySem.W.Frag) (F : Hp) : List V → List D → Prop
  | nil : RepL K F [] []
  | cons {v : V} {vs : List V} {d : D} {ds : List D} : Rep K F v d → RepL K F vs ds → RepL K F (v :: vs) (d :: ds)
end

theorem SqT_mono {K : PySem.W.Frag} {F G : Hp} {a : Addr} {xs : List V} (e : Same F G) (h : SqT K F a xs) : SqT K G a xs := by
  rcases h with (h | ⟨o, h⟩) | h
  · exact .inl (.inl (e _ _ h))
  · exact .inl (.inr ⟨o, e _ _ h⟩)
  · exact .inr h
mutual
theorem Rep.mono {K : PySem.W.Frag} {F G : Hp} (e : Same F G) : ∀ {v : V} {d : D}, Rep K F v d → Rep K G v d
  | _, _, .non => .non
  | _, _, .bl b => .bl b
  | _, _, .int i => .int i
  | _, _, .str x => .str x
  | _, _, .ty n => .ty n
  | _, _, .obj a => .obj a
  | _, _, .exc h => .exc (e _ _ h)
  | _, _, .tup h l => .tup (SqT_mono e h) (RepL.mono e l)
  | _, _, .lst h l => .lst (e _ _ h) (RepL.mono e l)
  | _, _, .scr h => .scr (e.seq h)
  | _, _, .dic h k l => .dic (e _ _ h) k (RepL.mono e l)
theorem RepL.mono {K : PySem.W.Frag} {F G : Hp} (e : Same F G) : ∀ {vs : List V} {ds : List D}, RepL K F vs ds → RepL K G vs ds
  | _, _, .nil => .nil
  | _, _, .cons h l => .cons (Rep.mono e h) (RepL.mono e l)
end
theorem RepL.length {K : PySem.W.Frag} {F : Hp} : ∀ {vs : List V} {ds : List D}, RepL K F vs ds → vs.length = ds.length
  | _, _, .nil => rfl
  | _, _, .cons _ l => congrArg Nat.succ (RepL.length l)
theorem RepL.get {K : PySem.W.Frag} {F : Hp} : ∀ {vs : List V} {ds : List D} {i : Nat} {d : D}, RepL K F vs ds → ds[i]? = some d → ∃ v, vs[i]? = some v ∧ Rep K F v d
  | _, _, _, _, .nil, e => by simp at e
  | _, _, 0, _, .cons h _, e => by simp at e; subst e; exact ⟨_, rfl, h⟩
  | _, _, i + 1, d, .cons _ l, e => by
    obtain ⟨v, h1, h2⟩ := RepL.get (i := i) (d := d) l (by simpa using e)
    exact ⟨v, by simpa using h1, h2⟩
theorem RepL.get' {K : PySem.W.Frag} {F : Hp} : ∀ {vs : List V} {ds : List D} {i : Nat} {v : V}, RepL K F vs ds → vs[i]? = some v → ∃ d, ds[i]? = some d ∧ Rep K F v d
  | _, _, _, _, .nil, e => by simp at e
  | _, _, 0, _, .cons h _, e => by simp at e; subst e; exact ⟨_, rfl, h⟩
  | _, _, i + 1, v, .cons _ l, e => by
    obtain ⟨d, h1, h2⟩ := RepL.get' (i := i) (v := v) l (by simpa using e)
    exact ⟨d, by simpa using h1, h2⟩
theorem RepL.append {K : PySem.W.Frag} {F : Hp} : ∀ {vs us : List V} {ds es : List D}, RepL K F vs ds → RepL K F us es → RepL K F (vs ++ us) (ds ++ es)
  | _, _, _, _, .nil, s => s
  | _, _, _, _, .cons r t, s => .cons r (RepL.append t s)
theorem RepL.take {K : PySem.W.Frag} {F : Hp} : ∀ {vs : List V} {ds : List D} (n : Nat), RepL K F vs ds → RepL K F (vs.take n) (ds.take n)
  | _, _, 0, _ => .nil
  | _, _, _ + 1, .nil => .nil
  | _, _, n + 1, .cons r t => .cons r (RepL.take n t)
theorem RepL.drop {K : PySem.W.Frag} {F : Hp} : ∀ {vs : List V} {ds : List D} (n : Nat), RepL K F vs ds → RepL K F (vs.drop n) (ds.drop n)
  | _, _, 0, r => r
  | _, _, _ + 1, .nil => .nil
  | _, _, n + 1, .cons _ t => RepL.drop n t
theorem RepL.set {K : PySem.W.Frag} {F : Hp} {v : V} {d : D} (r : Rep K F v d) : ∀ {vs : List V} {ds : List D} (i : Nat), RepL K F vs ds → RepL K F (vs.set i v) (ds.set i d)
  | _, _, _, .nil => .nil
  | _, _, 0, .cons _ t => .cons r t
  | _, _, i + 1, .cons q t => .cons q (RepL.set r i t)
theorem RepL.one {K : PySem.W.Frag} {F : Hp} {v : V} {d : D} (h : Rep K F v d) : RepL K F [v] [d] := .cons h .nil
theorem RepL.snoc {K : PySem.W.Frag} {F : Hp} {v : V} {d : D} {vs : List V} {ds : List D} (l : RepL K F vs ds) (h : Rep K F v d) : RepL K F (vs ++ [v]) (ds ++ [d]) := l.append (.one h)
theorem RepL.reverse {K : PySem.W.Frag} {F : Hp} : ∀ {vs : List V} {ds : List D}, RepL K F vs ds → RepL K F vs.reverse ds.reverse
  | _, _, .nil => .nil
  | _, _, .cons r t => by
    rw [List.reverse_cons, List.reverse_cons]
    exact (RepL.reverse t).snoc r
theorem RepL.ints {K : PySem.W.Frag} {F : Hp} : ∀ (ns : List Int), RepL K F (ns.map V.int) (ns.map D.int)
  | [] => .nil
  | _ :: r => .cons (.int _) (RepL.ints r)

/-- an owned list or dict -/
def Owned (K : PySem.W.Frag) (F H : Hp) (p : Addr) : D → Prop
  | .lst ds => ∃ vs, H p = some (.lst vs) ∧ RepL K F vs ds
  | .dic ks ds => ∃ kvs : List (Key × V), H p = some (.dK kvs) ∧ kvs.map (·.1) = ks ∧ RepL K F (kvs.map (·.2)) ds
  | _ => False
theorem Owned.mono {K : PySem.W.Frag} {F F' H H' : Hp} {p : Addr} {d : D} (f : Same F F') (h : ∀ o, H p = some o → H' p = some o) (x : Owned K F H p d) : Owned K F' H' p d := by
  cases d with
  | lst ds => obtain ⟨vs, e, l⟩ := x; exact ⟨vs, h _ e, l.mono f⟩
  | dic ks ds => obtain ⟨kvs, e, k, l⟩ := x; exact ⟨kvs, h _ e, k, l.mono f⟩
  | _ => exact (show False from x).elim
theorem Owned.there {K : PySem.W.Frag} {F H : Hp} {p : Addr} {d : D} (x : Owned K F H p d) : ∃ o, H p = some o := by
  cases d with
  | lst ds => obtain ⟨vs, e, l⟩ := x; exact ⟨_, e⟩
  | dic ks ds => obtain ⟨kvs, e, k, l⟩ := x; exact ⟨_, e⟩
  | _ => exact (show False from x).elim
/-- frozen -/
theorem Owned.rep {K : PySem.W.Frag} {F G H : Hp} {p : Addr} {d : D} (f : Same F G) (h : ∀ o, H p = some o → G p = some o) (x : Owned K F H p d) : Rep K G (.ref p) d := by
  cases d with
  | lst ds => obtain ⟨vs, e, l⟩ := x; exact .lst (h _ e) (l.mono f)
  | dic ks ds => obtain ⟨kvs, e, k, l⟩ := x; exact .dic (h _ e) k (l.mono f)
  | _ => exact (show False from x).elim

/-! ### slots -/
inductive Sl where
  | fz (d : D)
  | ow (d : D)
  | lo (d : D)
def Sl.d : Sl → D
  | .fz d => d
  | .ow d => d
  | .lo d => d
def Sl.own : Sl → Bool
  | .fz _ => false
  | _ => true
abbrev Nv := List (Option Sl)

/-- a def's own ground: what stood at its entry, what of it is frozen, the owned arguments (slot, address) -/
structure Gm where
  H0 : Hp
  F0 : Hp
  ows : List (Nat × Addr)

def SlOk (K : PySem.W.Frag) (G : Gm) (F H : Hp) (v : V) : Sl → Prop
  | .fz d => Rep K F v d
  | .ow d => ∃ p, v = .ref p ∧ F p = none ∧ p ∈ G.ows.map (·.2) ∧ Owned K F H p d
  | .lo d => ∃ p, v = .ref p ∧ F p = none ∧ G.H0 p = none ∧ Owned K F H p d
theorem SlOk.owned {K : PySem.W.Frag} {G : Gm} {F H : Hp} {v : V} {s : Sl} (x : SlOk K G F H v s) (h : s.own = true) : ∃ p, v = .ref p ∧ F p = none ∧ Owned K F H p s.d := by
  cases s with
  | fz d => cases h
  | ow d => obtain ⟨p, e, f, _, o⟩ := x; exact ⟨p, e, f, o⟩
  | lo d => obtain ⟨p, e, f, _, o⟩ := x; exact ⟨p, e, f, o⟩
def OwnAt (σ : St) (ρ : Nv) (b : Addr) : Prop := ∃ (i : Nat) (s : Sl), ρ[i]? = some (some s) ∧ s.own = true ∧ σ[i]? = some (some (.ref b))

structure Ok (K : PySem.W.Frag) (G : Gm) (F : Hp) (σ : St) (H : Hp) (ρ : Nv) : Prop where
  sf : Same F H
  frame : ∀ b o, G.H0 b = some o → b ∉ G.ows.map (·.2) → H b = some o
  fresh : ∀ b o, F b = some o → G.F0 b = some o ∨ G.H0 b = none
  f0 : Same G.F0 F
  len : ρ.length = σ.length
  sl : ∀ (i : Nat) (s : Sl), ρ[i]? = some (some s) → ∃ v, σ[i]? = some (some v) ∧ SlOk K G F H v s
  dist : ∀ (i j : Nat) (p : Addr) (s t : Sl), ρ[i]? = some (some s) → ρ[j]? = some (some t) → s.own = true → t.own = true → σ[i]? = some (some (.ref p)) → σ[j]? = some (some (.ref p)) → i = j
  fx : ∀ q ∈ G.ows, σ[q.1]? = some (some (.ref q.2)) ∧ ∃ d, ρ[q.1]? = some (some (.ow d))

/-- an expression's outcome: a frozen value, a new list that no one else holds, what a slot holds -/
inductive Re where
  | va (d : D)
  | nw (d : D)
  | br (i : Nat)
/-- an exception: its class, what its field holds where it has one -/
abbrev Xc := Addr × Option D
def ReOk (K : PySem.W.Frag) (G : Gm) (F : Hp) (σ : St) (H : Hp) (ρ : Nv) (v : V) : Re → Prop
  | .va d => Rep K F v d
  | .nw d => ∃ p, v = .ref p ∧ F p = none ∧ G.H0 p = none ∧ Owned K F H p d ∧ ¬ OwnAt σ ρ p
  | .br i => ∃ s, ρ[i]? = some (some s) ∧ σ[i]? = some (some v)

/-- readable at the top, what lies in it frozen -/
def Top (K : PySem.W.Frag) (F H : Hp) (v : V) (d : D) : Prop := Rep K F v d ∨ ∃ p, v = .ref p ∧ Owned K F H p d
theorem Top.rep {K : PySem.W.Frag} {F H : Hp} {v : V} {d : D} (sf : Same F H) (x : Top K F H v d) : Rep K H v d := by
  rcases x with x | ⟨p, e, o⟩
  · exact x.mono sf
  · rw [e]; exact Owned.rep sf (fun _ e => e) o
theorem Top.mono {K : PySem.W.Frag} {F F' H H' : Hp} {v : V} {d : D} (f : Same F F') (h : Same H H') (x : Top K F H v d) : Top K F' H' v d := by
  rcases x with x | ⟨p, ev, o⟩
  · exact .inl (x.mono f)
  · exact .inr ⟨p, ev, Owned.mono f (fun _ q => h _ _ q) o⟩
/-- an outcome as data -/
def opd (r : Re) (ρ : Nv) (k : D → Prop) : Prop := match r with
  | .va d => k d
  | .nw d => k d
  | .br i => match ρ[i]? with
    | some (some s) => k s.d
    | _ => False
theorem opd_top {K : PySem.W.Frag} {G : Gm} {F : Hp} {σ : St} {H : Hp} {ρ : Nv} {v : V} {r : Re} {k : D → Prop} (ok : Ok K G F σ H ρ) (x : ReOk K G F σ H ρ v r) (h : opd r ρ k) : ∃ d, Top K F H v d ∧ k d := by
  cases r with
  | va d => exact ⟨d, .inl x, h⟩
  | nw d => obtain ⟨p, e, f, _, o, _⟩ := x; exact ⟨d, .inr ⟨p, e, o⟩, h⟩
  | br i =>
    obtain ⟨s, e1, e4⟩ := x
    obtain ⟨v', e5, so⟩ := ok.sl i s e1
    rw [e4] at e5; cases e5
    have h' : k s.d := by
      simp only [opd, e1] at h
      exact h
    refine ⟨s.d, ?_, h'⟩
    cases s with
    | fz d => exact .inl so
    | ow d => obtain ⟨p, e, _, _, o⟩ := so; exact .inr ⟨p, e, o⟩
    | lo d => obtain ⟨p, e, _, _, o⟩ := so; exact .inr ⟨p, e, o⟩

/-- what an expression may do: the frozen part grows, what no slot owns stays -/
structure Gr (σ : St) (F F' : Hp) (H H' : Hp) (ρ ρ' : Nv) : Prop where
  ff : Same F F'
  hh : ∀ b o, H b = some o → ¬ OwnAt σ ρ b → H' b = some o
  th : ∀ b o, H b = some o → ∃ o', H' b = some o'
  kn : ∀ (i : Nat) (s : Sl), ρ[i]? = some (some s) → ∃ s', ρ'[i]? = some (some s')
  on : ∀ b, OwnAt σ ρ' b → OwnAt σ ρ b
  nf : ∀ b o, H b = some o → F b = none → ¬ OwnAt σ ρ b → F' b = none
theorem Gr.refl {σ : St} {F H : Hp} {ρ : Nv} : Gr σ F F H H ρ ρ := ⟨.refl _, fun _ _ e _ => e, fun _ o e => ⟨o, e⟩, fun _ s e => ⟨s, e⟩, fun _ e => e, fun _ _ _ e _ => e⟩
theorem Gr.trans {σ : St} {F F1 F2 H H1 H2 : Hp} {ρ ρ1 ρ2 : Nv} (a : Gr σ F F1 H H1 ρ ρ1) (b : Gr σ F1 F2 H1 H2 ρ1 ρ2) : Gr σ F F2 H H2 ρ ρ2 where
  ff := a.ff.trans b.ff
  hh := fun c o e n => b.hh c o (a.hh c o e n) fun z => n (a.on c z)
  th := fun c o e => let ⟨o', e'⟩ := a.th c o e; b.th c o' e'
  kn := fun i s e => let ⟨s', e'⟩ := a.kn i s e; b.kn i s' e'
  on := fun c z => a.on c (b.on c z)
  nf := fun c o e f n => b.nf c o (a.hh c o e n) (a.nf c o e f n) fun z => n (a.on c z)
theorem ReOk.mono {K : PySem.W.Frag} {G : Gm} {F F' : Hp} {σ : St} {H H' : Hp} {ρ ρ' : Nv} {v : V} {r : Re} (g : Gr σ F F' H H' ρ ρ') (x : ReOk K G F σ H ρ v r) : ReOk K G F' σ H' ρ' v r := by
  cases r with
  | va d => exact Rep.mono g.ff x
  | nw d =>
    obtain ⟨p, e, f, h0, o, n⟩ := x
    obtain ⟨u, hu⟩ := Owned.there o
    exact ⟨p, e, g.nf p u hu f n, h0, Owned.mono g.ff (fun _ q => g.hh _ _ q n) o, fun z => n (g.on p z)⟩
  | br i =>
    obtain ⟨s, e1, e2⟩ := x
    obtain ⟨s', e3⟩ := g.kn i s e1
    exact ⟨s', e3, e2⟩

theorem Gr.free {σ : St} {F F' H H' : Hp} {ρ ρ' : Nv} (g : Gr σ F F' H H' ρ ρ') {p : Addr} (e : H' p = none) : H p = none := by
  cases q : H p with
  | none => rfl
  | some o =>
    obtain ⟨o', e'⟩ := g.th p o q
    rw [e] at e'; cases e'
/-- a new list is new since H -/
def ReF (H : Hp) (v : V) : Re → Prop
  | .nw _ => ∀ p, v = .ref p → H p = none
  | _ => True
theorem ReF.before {σ : St} {F F' H H' : Hp} {ρ ρ' : Nv} (g : Gr σ F F' H H' ρ ρ') {v : V} {r : Re} (x : ReF H' v r) : ReF H v r := by
  cases r with
  | nw d => exact fun p e => g.free (x p e)
  | _ => trivial

/-! ### growing the heap -/
/-- new objects come, some of them frozen -/
structure New (F F' H H' : Hp) : Prop where
  ff : Same F F'
  hh : Same H H'
  fh : Same F' H'
  nf : ∀ b o, F' b = some o → F b = some o ∨ H b = none
theorem New.refl {F H : Hp} (sf : Same F H) : New F F H H := ⟨.refl _, .refl _, sf, fun _ _ e => .inl e⟩
theorem New.none {F F' H H' : Hp} (n : New F F' H H') {b : Addr} {o : HO} (e : H b = some o) (f : F b = none) : F' b = none := by
  cases q : F' b with
  | none => rfl
  | some u =>
    rcases n.nf b u q with z | z
    · rw [f] at z; cases z
    · rw [e] at z; cases z
theorem New.trans {F F1 F2 H H1 H2 : Hp} (a : New F F1 H H1) (b : New F1 F2 H1 H2) : New F F2 H H2 := ⟨a.ff.trans b.ff, a.hh.trans b.hh, b.fh, fun c o e => by
  rcases b.nf c o e with z | z
  · exact a.nf c o z
  · exact .inr (a.hh.free z)⟩
theorem Ok.grow {K : PySem.W.Frag} {G : Gm} {F F' : Hp} {σ : St} {H H' : Hp} {ρ : Nv} (ok : Ok K G F σ H ρ) (n : New F F' H H') : Ok K G F' σ H' ρ where
  sf := n.fh
  frame := fun b o e h => n.hh b o (ok.frame b o e h)
  fresh := fun b o e => by
    rcases n.nf b o e with z | z
    · exact ok.fresh b o z
    · by_cases hb : b ∈ G.ows.map (·.2)
      · obtain ⟨q, hq, e2⟩ := List.mem_map.mp hb
        obtain ⟨s1, d, s2⟩ := ok.fx q hq
        obtain ⟨v, s3, p, s4, _, _, o⟩ := ok.sl q.1 _ s2
        rw [s1] at s3; cases s3; cases s4
        obtain ⟨u, hu⟩ := Owned.there o
        rw [e2, z] at hu; cases hu
      · cases q : G.H0 b with
        | none => exact .inr rfl
        | some u => rw [ok.frame b u q hb] at z; cases z
  f0 := ok.f0.trans n.ff
  len := ok.len
  sl := fun i s e => by
    obtain ⟨v, e2, x⟩ := ok.sl i s e
    refine ⟨v, e2, ?_⟩
    cases s with
    | fz d => exact Rep.mono n.ff x
    | ow d =>
      obtain ⟨p, e3, e4, e5, o⟩ := x
      obtain ⟨u, hu⟩ := Owned.there o
      exact ⟨p, e3, n.none hu e4, e5, Owned.mono n.ff (fun _ q => n.hh _ _ q) o⟩
    | lo d =>
      obtain ⟨p, e3, e4, e5, o⟩ := x
      obtain ⟨u, hu⟩ := Owned.there o
      exact ⟨p, e3, n.none hu e4, e5, Owned.mono n.ff (fun _ q => n.hh _ _ q) o⟩
  dist := ok.dist
  fx := ok.fx
theorem Gr.new {σ : St} {F F' H H' : Hp} {ρ : Nv} (n : New F F' H H') : Gr σ F F' H H' ρ ρ := ⟨n.ff, fun b o e _ => n.hh b o e, fun b o e => ⟨o, n.hh b o e⟩, fun _ s e => ⟨s, e⟩, fun _ e => e, fun b o e f _ => n.none e f⟩
/-- what an owned thing is: it stands in the heap -/
theorem OwnAt.there {K : PySem.W.Frag} {G : Gm} {F : Hp} {σ : St} {H : Hp} {ρ : Nv} (ok : Ok K G F σ H ρ) {b : Addr} (h : OwnAt σ ρ b) : F b = none ∧ ∃ o, H b = some o := by
  obtain ⟨i, s, e1, e2, e3⟩ := h
  obtain ⟨v, e4, x⟩ := ok.sl i s e1
  rw [e3] at e4; cases e4
  obtain ⟨p, e5, e6, o⟩ := x.owned e2
  cases e5
  exact ⟨e6, Owned.there o⟩
/-- a new outcome -/
def NewR (K : PySem.W.Frag) (F' H H' : Hp) (v : V) : Re → Prop
  | .va d => Rep K F' v d
  | .nw d => ∃ p, v = .ref p ∧ F' p = none ∧ H p = none ∧ Owned K F' H' p d
  | .br _ => False
theorem NewR.ok {K : PySem.W.Frag} {G : Gm} {F F' : Hp} {σ : St} {H H' : Hp} {ρ : Nv} {v : V} {r : Re} (ok : Ok K G F σ H ρ) (n : New F F' H H') (x : NewR K F' H H' v r) : ReOk K G F' σ H' ρ v r := by
  cases r with
  | va d => exact x
  | nw d =>
    obtain ⟨p, e, f, h, o⟩ := x
    have no : ¬ OwnAt σ ρ p := fun z => by
      obtain ⟨_, u, hu⟩ := OwnAt.there ok z
      rw [h] at hu; cases hu
    refine ⟨p, e, f, ?_, o, no⟩
    by_cases hb : p ∈ G.ows.map (·.2)
    · obtain ⟨q, hq, e2⟩ := List.mem_map.mp hb
      obtain ⟨s1, d, s2⟩ := ok.fx q hq
      exact absurd ⟨q.1, _, s2, rfl, by rw [s1, e2]⟩ no
    · cases q : G.H0 p with
      | none => rfl
      | some u => rw [ok.frame p u q hb] at h; cases h
  | br i => exact (show False from x).elim
theorem NewR.fr {K : PySem.W.Frag} {F' H H' : Hp} {v : V} {r : Re} (x : NewR K F' H H' v r) : ReF H v r := by
  cases r with
  | nw d =>
    obtain ⟨p, e, _, h, _⟩ := x
    intro q e'
    rw [e] at e'; cases e'; exact h
  | _ => trivial
theorem new_tup {K : PySem.W.Frag} {F H : Hp} {p : Addr} {vs : List V} {ds : List D} (sf : Same F H) (h : H p = none) (l : RepL K F vs ds) : New F (upd F p (.tup vs)) H (upd H p (.tup vs)) ∧ Rep K (upd F p (.tup vs)) (.ref p) (.tup ds) := by
  have fp : F p = none := sf.free h
  have s1 : Same F (upd F p (.tup vs)) := fun b o e => by rw [upd_ne (ne_of_none e fp)]; exact e
  have s2 : Same H (upd H p (.tup vs)) := fun b o e => by rw [upd_ne (ne_of_none e h)]; exact e
  refine ⟨⟨s1, s2, fun b o e => ?_, fun b o e => ?_⟩, .tup (SqT.of upd_same) (l.mono s1)⟩
  · by_cases hb : b = p
    · subst hb; rw [upd_same] at e ⊢; exact e
    · rw [upd_ne hb] at e ⊢; exact sf b o e
  · by_cases hb : b = p
    · subst hb; exact .inr h
    · rw [upd_ne hb] at e; exact .inl e
theorem new_obj {F H : Hp} {p : Addr} {o : HO} (sf : Same F H) (h : H p = none) : New F F H (upd H p o) ∧ F p = none := by
  have s2 : Same H (upd H p o) := fun b u e => by rw [upd_ne (ne_of_none e h)]; exact e
  exact ⟨⟨.refl _, s2, sf.trans s2, fun b u e => .inl e⟩, sf.free h⟩
theorem new_lst {K : PySem.W.Frag} {F H : Hp} {p : Addr} {vs : List V} {ds : List D} (sf : Same F H) (h : H p = none) (l : RepL K F vs ds) : New F F H (upd H p (.lst vs)) ∧ NewR K F H (upd H p (.lst vs)) (.ref p) (.nw (.lst ds)) := by
  obtain ⟨n, f⟩ := new_obj (o := .lst vs) sf h
  exact ⟨n, p, rfl, f, h, vs, upd_same, l⟩

/-! ### freezing -/
/-- an owned thing that no slot owns any more, frozen -/
theorem Ok.freeze {K : PySem.W.Frag} {G : Gm} {F : Hp} {σ : St} {H : Hp} {ρ : Nv} {p : Addr} {d : D} (ok : Ok K G F σ H ρ) (h0 : G.H0 p = none) (o : Owned K F H p d) (no : ¬ OwnAt σ ρ p) :
    ∃ F', Ok K G F' σ H ρ ∧ Same F F' ∧ Rep K F' (.ref p) d ∧ (∀ b u, F' b = some u → F b = some u ∨ b = p) := by
  obtain ⟨u, hu⟩ := Owned.there o
  have s1 : Same F (upd F p u) := fun b w e => by
    by_cases hb : b = p
    · subst hb; rw [upd_same]; rw [ok.sf b w e] at hu; exact hu.symm
    · rw [upd_ne hb]; exact e
  have back : ∀ b w, upd F p u b = some w → F b = some w ∨ b = p := fun b w e => by
    by_cases hb : b = p
    · exact .inr hb
    · rw [upd_ne hb] at e; exact .inl e
  have none_ : ∀ b, b ≠ p → F b = none → upd F p u b = none := fun b hb e => by rw [upd_ne hb]; exact e
  refine ⟨upd F p u, ⟨fun b w e => ?_, ok.frame, fun b w e => ?_, ok.f0.trans s1, ok.len, fun i s e => ?_, ok.dist, ok.fx⟩, s1, Owned.rep s1 (fun w q => ?_) o, back⟩
  · by_cases hb : b = p
    · subst hb; rw [upd_same] at e; rw [hu]; exact e
    · rw [upd_ne hb] at e; exact ok.sf b w e
  · rcases back b w e with z | z
    · exact ok.fresh b w z
    · rw [z]; exact .inr h0
  · obtain ⟨v, e2, x⟩ := ok.sl i s e
    refine ⟨v, e2, ?_⟩
    cases s with
    | fz d => exact Rep.mono s1 x
    | ow d =>
      obtain ⟨q, e3, e4, e5, o'⟩ := x
      refine ⟨q, e3, none_ q (fun z => ?_) e4, e5, Owned.mono s1 (fun _ q => q) o'⟩
      subst z; subst e3
      exact no ⟨i, _, e, rfl, e2⟩
    | lo d =>
      obtain ⟨q, e3, e4, e5, o'⟩ := x
      refine ⟨q, e3, none_ q (fun z => ?_) e4, e5, Owned.mono s1 (fun _ q => q) o'⟩
      subst z; subst e3
      exact no ⟨i, _, e, rfl, e2⟩
  · rw [hu] at q; cases q; exact upd_same
/-- a slot is forgotten, or told otherwise -/
theorem Ok.drop {K : PySem.W.Frag} {G : Gm} {F : Hp} {σ : St} {H : Hp} {ρ : Nv} {i : Nat} (ok : Ok K G F σ H ρ) (hi : ∀ d, ρ[i]? ≠ some (some (.ow d))) : Ok K G F σ H (ρ.set i none) where
  sf := ok.sf
  frame := ok.frame
  fresh := ok.fresh
  f0 := ok.f0
  len := by simpa using ok.len
  sl := fun j s e => by
    by_cases hj : j = i
    · subst hj
      by_cases hl : j < ρ.length
      · rw [List.getElem?_set_self hl] at e; cases e
      · rw [List.getElem?_eq_none (by simpa using hl)] at e; cases e
    · rw [List.getElem?_set_ne (Ne.symm hj)] at e
      exact ok.sl j s e
  dist := fun j k p s t e1 e2 => by
    have f : ∀ {j : Nat} {s : Sl}, (ρ.set i none)[j]? = some (some s) → ρ[j]? = some (some s) := fun {j s} e => by
      by_cases hj : j = i
      · subst hj
        by_cases hl : j < ρ.length
        · rw [List.getElem?_set_self hl] at e; cases e
        · rw [List.getElem?_eq_none (by simpa using hl)] at e; cases e
      · rw [List.getElem?_set_ne (Ne.symm hj)] at e; exact e
    exact ok.dist j k p s t (f e1) (f e2)
  fx := fun q hq => by
    obtain ⟨a, d, b⟩ := ok.fx q hq
    refine ⟨a, d, ?_⟩
    by_cases hj : q.1 = i
    · rw [hj] at b; exact absurd b (hi d)
    · rw [List.getElem?_set_ne (Ne.symm hj)]; exact b
theorem set_some {α : Type} {ρ : List (Option α)} {i j : Nat} {x : Option α} {s : α} (e : (ρ.set i x)[j]? = some (some s)) : (j = i ∧ x = some s) ∨ (j ≠ i ∧ ρ[j]? = some (some s)) := by
  by_cases hj : j = i
  · subst hj
    by_cases hl : j < ρ.length
    · rw [List.getElem?_set_self hl] at e
      exact .inl ⟨rfl, Option.some.inj e⟩
    · rw [List.getElem?_eq_none (by simpa using hl)] at e; cases e
  · rw [List.getElem?_set_ne (Ne.symm hj)] at e
    exact .inr ⟨hj, e⟩
/-- a slot without an owner is told anew -/
theorem Ok.put {K : PySem.W.Frag} {G : Gm} {F : Hp} {σ : St} {H : Hp} {ρ : Nv} {i : Nat} {v : V} {s : Sl} (ok : Ok K G F σ H ρ) (hi : ∀ d, ρ[i]? ≠ some (some (.ow d))) (ow : ∀ d, s ≠ .ow d) (x : SlOk K G F H v s) (no : s.own = true → ∀ p, v = .ref p → ∀ j t, j ≠ i → ρ[j]? = some (some t) → t.own = true → σ[j]? ≠ some (some (.ref p))) :
    Ok K G F (σ.set i (some v)) H (ρ.set i (some s)) where
  sf := ok.sf
  frame := ok.frame
  fresh := ok.fresh
  f0 := ok.f0
  len := by simpa using ok.len
  sl := fun j t e => by
    rcases set_some e with ⟨rfl, z⟩ | ⟨hj, z⟩
    · cases z
      have hl : j < ρ.length := by
        have := List.getElem?_eq_some_iff.mp e
        obtain ⟨h, _⟩ := this
        simpa using h
      exact ⟨v, List.getElem?_set_self (by rw [← ok.len]; exact hl), x⟩
    · rw [List.getElem?_set_ne (Ne.symm hj)]
      exact ok.sl j t z
  dist := fun j k p s1 t1 e1 e2 o1 o2 h1 h2 => by
    rcases set_some e1 with ⟨rfl, z1⟩ | ⟨hj, z1⟩
    · rcases set_some e2 with ⟨rfl, z2⟩ | ⟨hk, z2⟩
      · rfl
      · cases z1
        rw [List.getElem?_set_ne (Ne.symm hk)] at h2
        rcases set_some h1 with ⟨_, q⟩ | ⟨q, _⟩
        · exact absurd h2 (no o1 p (Option.some.inj q) k t1 hk z2 o2)
        · exact absurd rfl q
    · rcases set_some e2 with ⟨rfl, z2⟩ | ⟨hk, z2⟩
      · cases z2
        rw [List.getElem?_set_ne (Ne.symm hj)] at h1
        rcases set_some h2 with ⟨_, q⟩ | ⟨q, _⟩
        · exact absurd h1 (no o2 p (Option.some.inj q) j s1 hj z1 o1)
        · exact absurd rfl q
      · rw [List.getElem?_set_ne (Ne.symm hj)] at h1
        rw [List.getElem?_set_ne (Ne.symm hk)] at h2
        exact ok.dist j k p s1 t1 z1 z2 o1 o2 h1 h2
  fx := fun q hq => by
    obtain ⟨a, d, b⟩ := ok.fx q hq
    have hj : q.1 ≠ i := fun z => by rw [z] at b; exact hi d b
    exact ⟨by rw [List.getElem?_set_ne (Ne.symm hj)]; exact a, d, by rw [List.getElem?_set_ne (Ne.symm hj)]; exact b⟩
end WR

set_option Elab.async false
set_option linter.all false
set_option maxRecDepth 100000
set_option maxHeartbeats 4000000
set_option autoImplicit false
/-! Judgements over plain data. -/
namespace WR
open PySem L2

abbrev QK := Re → Nv → Prop
abbrev EK := Xc → Nv → Prop
abbrev MX := Nv → QK → EK → Prop
abbrev MT := Nv → (Bool → Nv → Prop) → EK → Prop
abbrev MA := Nv → (List Re → Nv → Prop) → EK → Prop

def XOk (K : PySem.W.Frag) (F H : Hp) : Option D → Option Addr → Prop
  | none, none => True
  | some d, some a => ∃ v, H a = some (.xd [("numbers", v)]) ∧ Rep K F v d
  | _, _ => False
/-- what is promised of exceptions -/
def PostE (K : PySem.W.Frag) (W : WX) (G : Gm) (F : Hp) (σ : St) (H : Hp) (ρ : Nv) (E : EK) : Prop :=
  ∀ (x : Xc) (ρ' : Nv) (F' H' : Hp) (da : Option Addr), Ok K G F' σ H' ρ' → Gr σ F F' H H' ρ ρ' → XOk K F' H' x.2 da → E x ρ' → W (.ref x.1) da σ H'
def PostX (K : PySem.W.Frag) (G : Gm) (F : Hp) (σ : St) (H : Hp) (ρ : Nv) (Q : QK) (Q' : VK) : Prop :=
  ∀ (r : Re) (v : V) (ρ' : Nv) (F' H' : Hp), Ok K G F' σ H' ρ' → Gr σ F F' H H' ρ ρ' → ReOk K G F' σ H' ρ' v r → ReF H v r → Q r ρ' → Q' v H'
def tX (K : PySem.W.Frag) (W : WX) (m : MX) : TE := fun σ H Q' => ∃ (G : Gm) (F : Hp) (ρ : Nv) (Q : QK) (E : EK), Ok K G F σ H ρ ∧ m ρ Q E ∧ PostX K G F σ H ρ Q Q' ∧ PostE K W G F σ H ρ E
def tT (K : PySem.W.Frag) (W : WX) (m : MT) : TT := fun σ H Q' => ∃ (G : Gm) (F : Hp) (ρ : Nv) (Q : Bool → Nv → Prop) (E : EK), Ok K G F σ H ρ ∧ m ρ Q E ∧
  (∀ (b : Bool) (ρ' : Nv) (F' H' : Hp), Ok K G F' σ H' ρ' → Gr σ F F' H H' ρ ρ' → Q b ρ' → Q' b H') ∧ PostE K W G F σ H ρ E
abbrev ReOks (K : PySem.W.Frag) (G : Gm) (Ha : Hp) (F : Hp) (σ : St) (H : Hp) (ρ : Nv) : List V → List Re → Prop := Paired fun v r => ReOk K G F σ H ρ v r ∧ ReF Ha v r
def tA (K : PySem.W.Frag) (W : WX) (m : MA) : TA := fun σ H Q' => ∃ (G : Gm) (F : Hp) (ρ : Nv) (Q : List Re → Nv → Prop) (E : EK), Ok K G F σ H ρ ∧ m ρ Q E ∧
  (∀ (rs : List Re) (vs : List V) (ρ' : Nv) (F' H' : Hp), Ok K G F' σ H' ρ' → Gr σ F F' H H' ρ ρ' → ReOks K G H F' σ H' ρ' vs rs → Q rs ρ' → Q' vs H') ∧ PostE K W G F σ H ρ E
def QX (X : Cx) (W : WX) (e : Expr) (m : MX) : Prop := PE X e (tX X.K W m)
def QT (X : Cx) (W : WX) (e : Expr) (m : MT) : Prop := PT X e (tT X.K W m)
def QW (X : Cx) (W : WX) (e : Expr) (m : MT) : Prop := PW X e (tT X.K W m)
def QA (X : Cx) (W : WX) (es : List Expr) (m : MA) : Prop := PA X es (tA X.K W m)

theorem _root_.L2.PE.imp {X : Cx} {e : Expr} {t t' : TE} (h : PE X e t) (f : ∀ σ H Q, t' σ H Q → t σ H Q) : PE X e t' := ⟨fun pins s σ H Q I hq => h.run pins s σ H Q I (f σ H Q hq)⟩
theorem _root_.L2.PT.imp {X : Cx} {e : Expr} {t t' : TT} (h : PT X e t) (f : ∀ σ H Q, t' σ H Q → t σ H Q) : PT X e t' := ⟨fun pins s σ H Q I hq => h.run pins s σ H Q I (f σ H Q hq)⟩
theorem _root_.L2.PW.imp {X : Cx} {e : Expr} {t t' : TT} (h : PW X e t) (f : ∀ σ H Q, t' σ H Q → t σ H Q) : PW X e t' := ⟨fun wh pins s σ H Q I hq => h.run wh pins s σ H Q I (f σ H Q hq)⟩
theorem _root_.L2.PA.imp {X : Cx} {es : List Expr} {t t' : TA} (h : PA X es t) (f : ∀ σ H Q, t' σ H Q → t σ H Q) : PA X es t' := ⟨fun pos pins s σ H Q I hq => h.run pos pins s σ H Q I (f σ H Q hq)⟩
theorem _root_.L2.PE.or {X : Cx} {e : Expr} {t t' : TE} (h : PE X e t) (h' : PE X e t') : PE X e (fun σ H Q => t σ H Q ∨ t' σ H Q) := ⟨fun pins s σ H Q I hq => hq.elim (h.run pins s σ H Q I) (h'.run pins s σ H Q I)⟩

section
variable {K : PySem.W.Frag} {W : WX} {G : Gm} {F F' : Hp} {σ : St} {H H' : Hp} {ρ ρ' : Nv}
theorem PostE.after {E : EK} (h : PostE K W G F σ H ρ E) (g : Gr σ F F' H H' ρ ρ') : PostE K W G F' σ H' ρ' E := fun x ρ2 F2 H2 da ok g2 xo e => h x ρ2 F2 H2 da ok (g.trans g2) xo e
theorem PostX.after {Q : QK} {Q' : VK} (h : PostX K G F σ H ρ Q Q') (g : Gr σ F F' H H' ρ ρ') : PostX K G F' σ H' ρ' Q Q' := fun r v ρ2 F2 H2 ok g2 re rf q => h r v ρ2 F2 H2 ok (g.trans g2) re (rf.before g) q
theorem PostX.here {Q : QK} {Q' : VK} (h : PostX K G F σ H ρ Q Q') (ok : Ok K G F σ H ρ) {r : Re} {v : V} (re : ReOk K G F σ H ρ v r) (rf : ReF H v r) (q : Q r ρ) : Q' v H := h r v ρ F H ok Gr.refl re rf q
/-- a new outcome of a new heap -/
theorem PostX.new {Q : QK} {Q' : VK} (h : PostX K G F σ H ρ Q Q') (ok : Ok K G F σ H ρ) (n : New F F' H H') {r : Re} {v : V} (x : NewR K F' H H' v r) (q : Q r ρ) : Q' v H' := h r v ρ F' H' (ok.grow n) (.new n) (x.ok ok n) x.fr q
/-- an expression's reading, its end told by plain data -/
theorem tX.mk {m : MX} {Q : QK} {E : EK} {Q' : VK} (ok : Ok K G F σ H ρ) (h : m ρ Q E) (p : PostX K G F σ H ρ Q Q') (e : PostE K W G F σ H ρ E) : tX K W m σ H Q' := ⟨G, F, ρ, Q, E, ok, h, p, e⟩
theorem ReOks.mono {Ha : Hp} {vs : List V} {rs : List Re} (g : Gr σ F F' H H' ρ ρ') : ReOks K G Ha F σ H ρ vs rs → ReOks K G Ha F' σ H' ρ' vs rs := fun x => Paired.mapP x fun _ _ y => ⟨y.1.mono g, y.2⟩
end

section
variable {X : Cx} {W : WX} {a b : Expr} {pos : Pos} {ma mb : MX}
/-! ### names, constants -/
def rdS (ρ : Nv) (i : Nat) (k : Re → Prop) : Prop := match ρ[i]? with
  | some (some (.fz d)) => k (.va d)
  | some (some (.ow _)) => k (.br i)
  | some (some (.lo _)) => k (.br i)
  | _ => False
theorem rdS_ok {K : PySem.W.Frag} {G : Gm} {F : Hp} {σ : St} {H : Hp} {ρ : Nv} {i : Nat} {k : Re → Prop} (ok : Ok K G F σ H ρ) (h : rdS ρ i k) : ∃ v r, σ[i]? = some (some v) ∧ ReOk K G F σ H ρ v r ∧ ReF H v r ∧ k r := by
  unfold rdS at h
  split at h
  · rename_i d e
    obtain ⟨v, e2, x⟩ := ok.sl i _ e
    exact ⟨v, .va d, e2, x, trivial, h⟩
  · rename_i d e
    obtain ⟨v, e2, x⟩ := ok.sl i _ e
    exact ⟨v, .br i, e2, ⟨_, e, e2⟩, trivial, h⟩
  · rename_i d e
    obtain ⟨v, e2, x⟩ := ok.sl i _ e
    exact ⟨v, .br i, e2, ⟨_, e, e2⟩, trivial, h⟩
  · exact h.elim
def mVar (i : Nat) : MX := fun ρ Q _ => rdS ρ i fun r => Q r ρ
theorem q_var (i : Nat) {x : Str} (hN : X.N[i]? = some x := by rfl) (hv : Vis X.env.scope x := by first | exact Or.inl rfl | exact Or.inr (Or.inl rfl) | exact Or.inr (Or.inr rfl)) (hd : (x == ("__debug__" : Str)) = false := by decide)
    (hcd : (x == ("__classdict__" : Str)) = false := by decide) : QX X W (.Name x pos) (mVar i) := (pe_var hN hv hd hcd).imp fun σ H Q' ⟨G, F, ρ, Q, E, ok, hm, hp, _⟩ => by
  obtain ⟨v, r, e, re, rf, q⟩ := rdS_ok ok hm
  exact ⟨v, e, hp.here ok re rf q⟩
def mC (d : D) : MX := fun ρ Q _ => Q (.va d) ρ
theorem q_const {e : Expr} {v : V} {d : D} (h : PE X e (tC v)) (r : ∀ F, Rep X.K F v d) : QX X W e (mC d) := PE.imp h fun σ H Q' ⟨G, F, ρ, Q, E, ok, hm, hp, _⟩ => hp.here ok (r := .va d) (r F) trivial hm
theorem q_int {i j} : QX X W (.Constant (.int i) j pos) (mC (.int i)) := q_const pe_int fun _ => .int i
theorem q_bl {b j} : QX X W (.Constant (.bool b) j pos) (mC (.bl b)) := q_const pe_bl fun _ => .bl b
theorem q_non {j} : QX X W (.Constant .none j pos) (mC .non) := q_const pe_non fun _ => .non
theorem q_str {x j} : QX X W (.Constant (.str x) j pos) (mC (.str x)) := q_const pe_str fun _ => .str x
/-- a module's int, text, tuple; a def, a class -/
theorem q_glob {x : Str} {v : V} {u : Value} {d : D} (hm : X.mg x = some u) (r : RelV v u) (q : ∀ F, Rep X.K F v d) (hg : Gl X x := by rfl) (hd : (x == ("__debug__" : Str)) = false := by decide) : QX X W (.Name x pos) (mC d) := q_const (pe_glob hg hm r hd) q
theorem q_bltn {x : Str} {n : String} (hm : X.mg x = none) (hv : bootBuiltins x = some (.type n)) (hg : Gl X x := by rfl) (hn : x ≠ "__name__" := by decide) (hd : (x == ("__debug__" : Str)) = false := by decide) : QX X W (.Name x pos) (mC (.ty n)) :=
  q_const (pe_bltn (v := .ty n) hg hm hv rfl hn hd) fun _ => .ty n

/-- one of two ways -/
def cIf (t : Bool) (a b : Prop) : Prop := if t = true then a else b
/-- o is there, and k holds of it -/
def atK {α : Type} (o : Option α) (k : α → Prop) : Prop := ∃ d, o = some d ∧ k d
def onBl (r : Re) (k : Bool → Prop) : Prop := match r with
  | .va (.bl b) => k b
  | _ => False
def onInt (r : Re) (k : Int → Prop) : Prop := match r with
  | .va (.int i) => k i
  | _ => False
/-! ### operators -/
def OpS (K : PySem.W.Frag) (f : D → D → (Re → Prop) → Prop) (r : R2) : Prop := ∀ (F H : Hp) (x y : V) (dx dy : D) (Q : Re → Prop) (Q' : VK), Same F H → Top K F H x dx → Top K F H y dy → f dx dy Q →
  (∀ (re : Re) (v : V) (F' H' : Hp), New F F' H H' → NewR K F' H H' v re → Q re → Q' v H') → r x y H Q'
def mBin (f : D → D → (Re → Prop) → Prop) (ma mb : MX) : MX := fun ρ Q E => ma ρ (fun x ρ1 => mb ρ1 (fun y ρ2 => opd x ρ2 fun dx => opd y ρ2 fun dy => f dx dy fun r => Q r ρ2) E) E
theorem tX_bin {K : PySem.W.Frag} {f : D → D → (Re → Prop) → Prop} {r : R2} (hs : OpS K f r) {σ : St} {H : Hp} {Q' : VK} (h : tX K W (mBin f ma mb) σ H Q') : tOp r (tX K W ma) (tX K W mb) σ H Q' := by
  obtain ⟨G, F, ρ, Q, E, ok, hm, hp, he⟩ := h
  refine tX.mk ok hm (fun x v ρ1 F1 H1 ok1 g1 re1 rf1 h1 => ?_) he
  refine tX.mk ok1 h1 (fun y u ρ2 F2 H2 ok2 g2 re2 rf2 h2 => ?_) (he.after g1)
  obtain ⟨dx, tx, h3⟩ := opd_top ok2 (re1.mono g2) h2
  obtain ⟨dy, ty, h4⟩ := opd_top ok2 re2 h3
  exact hs F2 H2 v u dx dy _ Q' ok2.sf tx ty h4 fun re w F3 H3 n x q => (hp.after (g1.trans g2)).new ok2 n x q
theorem q_bin {op : Operator} {f : D → D → (Re → Prop) → Prop} {r : R2} (ho : OpR X (binaryOp op) r) (hs : OpS X.K f r) (ha : QX X W a ma) (hb : QX X W b mb) : QX X W (.BinOp a op b pos) (mBin f ma mb) :=
  (pe_op ho ha hb).imp fun _ _ _ h => tX_bin hs h
theorem q_cmp {op : CmpOp} {f : D → D → (Re → Prop) → Prop} {r : R2} (ho : OpR X (compareOp op) r) (hs : OpS X.K f r) (ha : QX X W a ma) (hb : QX X W b mb) (hm : behindInMarks op b = false) : QX X W (.Compare a [op] [b] pos) (mBin f ma mb) :=
  (pe_cmpR ho ha hb hm).imp fun _ _ _ h => tX_bin hs h
def mTest (m : MX) : MT := fun ρ Q E => m ρ (fun r ρ' => onBl r fun b => Q b ρ') E
theorem tX_test {K : PySem.W.Frag} {m : MX} {t : TE} (h : ∀ σ H Q', tX K W m σ H Q' → t σ H Q') {σ : St} {H : Hp} {Q' : Bool → Hp → Prop} (hq : tT K W (mTest m) σ H Q') : t σ H fun x H1 => ∃ c, x = .bl c ∧ Q' c H1 := by
  obtain ⟨G, F, ρ, Q, E, ok, hm, hp, he⟩ := hq
  refine h _ _ _ (tX.mk ok hm (fun r v ρ1 F1 H1 ok1 g1 re1 rf1 h1 => ?_) he)
  unfold onBl at h1
  split at h1
  · rename_i c
    cases re1
    exact ⟨c, rfl, hp c ρ1 F1 H1 ok1 g1 h1⟩
  · exact h1.elim
theorem q_tcmp {op : CmpOp} {f : D → D → (Re → Prop) → Prop} {r : R2} (ho : OpR X (compareOp op) r) (hs : OpS X.K f r) (ha : QX X W a ma) (hb : QX X W b mb) (hm : behindInMarks op b = false) : QT X W (.Compare a [op] [b] pos) (mTest (mBin f ma mb)) :=
  (pt_cmpR ho ha hb hm).imp fun σ H Q' h => tX_test (fun σ H Q' h => tX_bin hs h) h
/-- an expression that gives a truth, as a test -/
theorem q_tval {e : Expr} {m : MX} (h : QX X W e m) (he : ∀ whole, isTrue e X.env whole = (do let v ← whole; standAt e.pos; holding [v] (truthy v)) := by intro _; rfl) : QT X W e (mTest m) := (pt_val h he).imp fun σ H Q' h => tX_test (fun _ _ _ h => h) h

theorem Top.int {K : PySem.W.Frag} {F H : Hp} {x : V} {i : Int} (h : Top K F H x (.int i)) : x = .int i := by
  rcases h with h | ⟨p, _, o⟩
  · cases h; rfl
  · exact (show False from o).elim
theorem Top.bl {K : PySem.W.Frag} {F H : Hp} {x : V} {i : Bool} (h : Top K F H x (.bl i)) : x = .bl i := by
  rcases h with h | ⟨p, _, o⟩
  · cases h; rfl
  · exact (show False from o).elim
theorem Top.str {K : PySem.W.Frag} {F H : Hp} {x : V} {i : Str} (h : Top K F H x (.str i)) : x = .str i := by
  rcases h with h | ⟨p, _, o⟩
  · cases h; rfl
  · exact (show False from o).elim
theorem Top.non {K : PySem.W.Frag} {F H : Hp} {x : V} (h : Top K F H x .non) : x = .non := by
  rcases h with h | ⟨p, _, o⟩
  · cases h; rfl
  · exact (show False from o).elim
theorem Top.tup {K : PySem.W.Frag} {F H : Hp} {x : V} {ds : List D} (sf : Same F H) (h : Top K F H x (.tup ds)) : ∃ a vs, x = .ref a ∧ SqT K H a vs ∧ RepL K F vs ds := by
  rcases h with h | ⟨p, _, o⟩
  · cases h with
    | tup q l => exact ⟨_, _, rfl, SqT_mono sf q, l⟩
  · exact (show False from o).elim
theorem Top.lst {K : PySem.W.Frag} {F H : Hp} {x : V} {ds : List D} (sf : Same F H) (h : Top K F H x (.lst ds)) : ∃ a vs, x = .ref a ∧ H a = some (.lst vs) ∧ RepL K F vs ds := by
  rcases h with h | ⟨p, e, o⟩
  · cases h with
    | lst q l => exact ⟨_, _, rfl, sf _ _ q, l⟩
  · obtain ⟨vs, h, l⟩ := o
    exact ⟨p, vs, e, h, l⟩
theorem Top.scr {K : PySem.W.Frag} {F H : Hp} {x : V} {ns : List Int} (sf : Same F H) (h : Top K F H x (.scr ns)) : ∃ a, x = .ref a ∧ SqL K H a (ns.map V.int) := by
  rcases h with h | ⟨p, _, o⟩
  · cases h with
    | scr q => exact ⟨_, rfl, sf.seq q⟩
  · exact (show False from o).elim
theorem Top.dic {K : PySem.W.Frag} {F H : Hp} {x : V} {ks : List Key} {ds : List D} (sf : Same F H) (h : Top K F H x (.dic ks ds)) : ∃ (a : Addr) (kvs : List (Key × V)), x = .ref a ∧ H a = some (.dK kvs) ∧ kvs.map (·.1) = ks ∧ RepL K F (kvs.map (·.2)) ds := by
  rcases h with h | ⟨p, e, o⟩
  · cases h with
    | dic q k l => exact ⟨_, _, rfl, sf _ _ q, k, l⟩
  · obtain ⟨kvs, h, k, l⟩ := o
    exact ⟨p, kvs, e, h, k, l⟩

/-- two ints, an int or a truth out -/
def fI (c : Int → Int → Prop) (g : Int → Int → D) : D → D → (Re → Prop) → Prop := fun x y Q => match x, y with
  | .int i, .int j => c i j ∧ Q (.va (g i j))
  | _, _ => False
theorem OpS.rI {K : PySem.W.Frag} {c c' : Int → Int → Prop} {g : Int → Int → D} {v : Int → Int → V} (hc : ∀ i j, c i j → c' i j) (hv : ∀ F i j, Rep K F (v i j) (g i j)) : OpS K (fI c g) (L2.rI c' v) := by
  intro F H x y dx dy Q Q' sf tx ty h k
  unfold fI at h
  split at h
  · rename_i i j
    exact ⟨i, j, tx.int, ty.int, hc i j h.1, k (.va (g i j)) _ F H (.refl sf) (hv F i j) h.2⟩
  · exact h.elim
theorem OpS.rI0 {K : PySem.W.Frag} {g : Int → Int → D} {v : Int → Int → V} (hv : ∀ F i j, Rep K F (v i j) (g i j)) : OpS K (fI (fun _ _ => True) g) (L2.rI0 v) := by
  intro F H x y dx dy Q Q' sf tx ty h k
  unfold fI at h
  split at h
  · rename_i i j
    exact ⟨i, j, tx.int, ty.int, k (.va (g i j)) _ F H (.refl sf) (hv F i j) h.2⟩
  · exact h.elim
end
end WR

set_option Elab.async false
set_option linter.all false
set_option maxRecDepth 100000
set_option maxHeartbeats 4000000
set_option autoImplicit false
/-! Statements over plain data. -/
namespace WR
open PySem L2

structure PEnds where
  nx : Nv → Prop
  rt : Re → Nv → Prop
  bk : Nv → Prop
  ct : Nv → Prop
  ex : EK
abbrev MS := PEnds → Nv → Prop
/-- the ends of a statement, told by plain data, lead to those of the heap -/
structure Co (K : PySem.W.Frag) (W : WX) (G : Gm) (F : Hp) (De : PEnds) (D : Ends) : Prop where
  nx : ∀ (σ' : St) (F' H' : Hp) (ρ' : Nv), Ok K G F' σ' H' ρ' → Same F F' → De.nx ρ' → D.nx σ' H'
  rt : ∀ (r : Re) (v : V) (σ' : St) (F' H' : Hp) (ρ' : Nv), Ok K G F' σ' H' ρ' → Same F F' → ReOk K G F' σ' H' ρ' v r → De.rt r ρ' → D.rt v H'
  bk : ∀ (σ' : St) (F' H' : Hp) (ρ' : Nv), Ok K G F' σ' H' ρ' → Same F F' → De.bk ρ' → D.bk σ' H'
  ct : ∀ (σ' : St) (F' H' : Hp) (ρ' : Nv), Ok K G F' σ' H' ρ' → Same F F' → De.ct ρ' → D.ct σ' H'
  ex : ∀ (x : Xc) (σ' : St) (F' H' : Hp) (ρ' : Nv) (da : Option Addr), Ok K G F' σ' H' ρ' → Same F F' → XOk K F' H' x.2 da → De.ex x ρ' → W (.ref x.1) da σ' H'
theorem Co.mono {K : PySem.W.Frag} {W : WX} {G : Gm} {F F1 : Hp} {De : PEnds} {D : Ends} (c : Co K W G F De D) (s : Same F F1) : Co K W G F1 De D :=
  ⟨fun σ F' H ρ ok z => c.nx σ F' H ρ ok (s.trans z), fun r v σ F' H ρ ok z => c.rt r v σ F' H ρ ok (s.trans z), fun σ F' H ρ ok z => c.bk σ F' H ρ ok (s.trans z), fun σ F' H ρ ok z => c.ct σ F' H ρ ok (s.trans z), fun x σ F' H ρ da ok z => c.ex x σ F' H ρ da ok (s.trans z)⟩
def tS (K : PySem.W.Frag) (W : WX) (m : MS) : TS := fun D σ H => ∃ (G : Gm) (F : Hp) (ρ : Nv) (De : PEnds), Ok K G F σ H ρ ∧ m De ρ ∧ Co K W G F De D
def QS (X : Cx) (W : WX) (st : Stmt) (m : MS) : Prop := PS X st (tS X.K W m)
def QSs (X : Cx) (W : WX) (sts : List Stmt) (m : MS) : Prop := PSs X sts (tS X.K W m)
theorem _root_.L2.PS.imp {X : Cx} {st : Stmt} {t t' : TS} (h : PS X st t) (f : ∀ D σ H, t' D σ H → t D σ H) : PS X st t' := ⟨fun pins s σ H D I hq => h.run pins s σ H D I (f D σ H hq)⟩
theorem _root_.L2.PSs.imp {X : Cx} {st : List Stmt} {t t' : TS} (h : PSs X st t) (f : ∀ D σ H, t' D σ H → t D σ H) : PSs X st t' := ⟨fun pins s σ H D I hq => h.run pins s σ H D I (f D σ H hq)⟩
theorem _root_.L2.PG.imp {X : Cx} {e : Expr} {t t' : TG} (h : PG X e t) (f : ∀ v σ H Q, t' v σ H Q → t v σ H Q) : PG X e t' := ⟨fun pins s σ H v u Q I r hq => h.run pins s σ H v u Q I r (f v σ H Q hq)⟩
section
variable {K : PySem.W.Frag} {W : WX} {G : Gm} {F : Hp} {σ : St} {H : Hp} {ρ : Nv}
/-- an expression within a statement -/
theorem tX.st {m : MX} {De : PEnds} {D : Ends} {Q : QK} {Q' : VK} (ok : Ok K G F σ H ρ) (c : Co K W G F De D) (h : m ρ Q De.ex) (p : ∀ (r : Re) (v : V) (ρ' : Nv) (F' H' : Hp), Ok K G F' σ H' ρ' → Gr σ F F' H H' ρ ρ' → ReOk K G F' σ H' ρ' v r → ReF H v r → Q r ρ' → Q' v H') : tX K W m σ H Q' :=
  ⟨G, F, ρ, Q, De.ex, ok, h, p, fun x ρ' F' H' da ok' g xo e => c.ex x σ F' H' ρ' da ok' g.ff xo e⟩
theorem tT.st {m : MT} {De : PEnds} {D : Ends} {Q : Bool → Nv → Prop} {Q' : Bool → Hp → Prop} (ok : Ok K G F σ H ρ) (c : Co K W G F De D) (h : m ρ Q De.ex) (p : ∀ (b : Bool) (ρ' : Nv) (F' H' : Hp), Ok K G F' σ H' ρ' → Same F F' → Q b ρ' → Q' b H') : tT K W m σ H Q' :=
  ⟨G, F, ρ, Q, De.ex, ok, h, fun b ρ' F' H' ok' g q => p b ρ' F' H' ok' g.ff q, fun x ρ' F' H' da ok' g xo e => c.ex x σ F' H' ρ' da ok' g.ff xo e⟩
end

section
variable {X : Cx} {W : WX} {pos : Pos}
def mNext : MS := fun De ρ => De.nx ρ
def mSeq (m n : MS) : MS := fun De ρ => m { De with nx := n De } ρ
theorem q_nil : QSs X W [] mNext := pss_nil.imp fun D σ H ⟨G, F, ρ, De, ok, h, c⟩ => c.nx σ F H ρ ok (.refl _) h
theorem q_cons {st : Stmt} {rest : List Stmt} {m n : MS} (h1 : QS X W st m) (h2 : QSs X W rest n) : QSs X W (st :: rest) (mSeq m n) := (pss_cons h1 h2).imp fun D σ H ⟨G, F, ρ, De, ok, h, c⟩ =>
  ⟨G, F, ρ, { De with nx := n De }, ok, h, ⟨fun σ' F' H' ρ' ok' s q => ⟨G, F', ρ', De, ok', q, c.mono s⟩, c.rt, c.bk, c.ct, c.ex⟩⟩
theorem q_one {st : Stmt} {m : MS} (h1 : QS X W st m) : QSs X W [st] m := pss_one h1
theorem q_pass : QS X W (.Pass pos) mNext := ps_pass.imp fun D σ H ⟨G, F, ρ, De, ok, h, c⟩ => c.nx σ F H ρ ok (.refl _) h
theorem q_break : QS X W (.Break pos) (fun De ρ => De.bk ρ) := ps_break.imp fun D σ H ⟨G, F, ρ, De, ok, h, c⟩ => c.bk σ F H ρ ok (.refl _) h
theorem q_continue : QS X W (.Continue pos) (fun De ρ => De.ct ρ) := ps_continue.imp fun D σ H ⟨G, F, ρ, De, ok, h, c⟩ => c.ct σ F H ρ ok (.refl _) h
def mExpr (m : MX) : MS := fun De ρ => m ρ (fun _ ρ' => De.nx ρ') De.ex
theorem q_expr {e : Expr} {m : MX} (he : QX X W e m) (hs : swapsWith e none pos.line X.env = pure false := by rfl) : QS X W (.Expr e pos) (mExpr m) := (ps_expr he hs).imp fun D σ H ⟨G, F, ρ, De, ok, h, c⟩ =>
  tX.st ok c h fun r v ρ' F' H' ok' g re rf q => c.nx σ F' H' ρ' ok' g.ff q
def mRet (m : MX) : MS := fun De ρ => m ρ De.rt De.ex
theorem q_ret {e : Expr} {m : MX} (he : QX X W e m) : QS X W (.Return (some e) pos) (mRet m) := (ps_ret he).imp fun D σ H ⟨G, F, ρ, De, ok, h, c⟩ =>
  tX.st ok c h fun r v ρ' F' H' ok' g re rf q => c.rt r v σ F' H' ρ' ok' g.ff re q
def mRetN : MS := fun De ρ => De.rt (.va .non) ρ
theorem q_retN : QS X W (.Return none pos) mRetN := ps_retN.imp fun D σ H ⟨G, F, ρ, De, ok, h, c⟩ => c.rt (.va .non) .non σ F H ρ ok (.refl _) .non h
def mIf (c : MT) (a b : MS) : MS := fun De ρ => c ρ (fun t ρ' => cIf t (a De ρ') (b De ρ')) De.ex
theorem q_if {c : Expr} {a b : List Stmt} {mc : MT} {ma mb : MS} (hc : QT X W c mc) (ha : QSs X W a ma) (hb : QSs X W b mb) : QS X W (.If c a b pos) (mIf mc ma mb) := (ps_if hc ha hb).imp fun D σ H ⟨G, F, ρ, De, ok, h, co⟩ =>
  tT.st ok co h fun t ρ' F' H' ok' s q => by
    cases t with
    | true => exact ⟨G, F', ρ', De, ok', q, co.mono s⟩
    | false => exact ⟨G, F', ρ', De, ok', q, co.mono s⟩

/-! ### stores -/
def notOw (ρ : Nv) (i : Nat) : Prop := match ρ[i]? with
  | some (some (.ow _)) => False
  | _ => True
theorem notOw_ok {ρ : Nv} {i : Nat} (h : notOw ρ i) : ∀ d, ρ[i]? ≠ some (some (.ow d)) := fun d e => by
  unfold notOw at h
  rw [e] at h
  exact h
/-- freeze an outcome: the data, and the slots as they are then -/
def frz (r : Re) (ρ : Nv) (k : D → Nv → Prop) : Prop := match r with
  | .va d => k d ρ
  | .nw d => k d ρ
  | .br i => match ρ[i]? with
    | some (some (.fz d)) => k d ρ
    | some (some (.lo d)) => k d (ρ.set i (some (.fz d)))
    | _ => False
/-- as ReOk; a new list may be frozen already -/
def ReW (K : PySem.W.Frag) (G : Gm) (F : Hp) (σ : St) (H : Hp) (ρ : Nv) (v : V) : Re → Prop
  | .va d => Rep K F v d
  | .nw d => ∃ p, v = .ref p ∧ G.H0 p = none ∧ Owned K F H p d ∧ ¬ OwnAt σ ρ p
  | .br i => ∃ s, ρ[i]? = some (some s) ∧ σ[i]? = some (some v)
theorem ReOk.w {K : PySem.W.Frag} {G : Gm} {F : Hp} {σ : St} {H : Hp} {ρ : Nv} {v : V} {r : Re} (x : ReOk K G F σ H ρ v r) : ReW K G F σ H ρ v r := by
  cases r with
  | va d => exact x
  | nw d => obtain ⟨p, e, f, h, o, n⟩ := x; exact ⟨p, e, h, o, n⟩
  | br i => exact x
theorem ReW.mono {K : PySem.W.Frag} {G : Gm} {F F' : Hp} {σ : St} {H : Hp} {ρ ρ' : Nv} {v : V} {r : Re} (ff : Same F F') (kn : ∀ (i : Nat) (s : Sl), ρ[i]? = some (some s) → ∃ s', ρ'[i]? = some (some s')) (on : ∀ b, OwnAt σ ρ' b → OwnAt σ ρ b) (x : ReW K G F σ H ρ v r) : ReW K G F' σ H ρ' v r := by
  cases r with
  | va d => exact Rep.mono ff x
  | nw d => obtain ⟨p, e, h, o, n⟩ := x; exact ⟨p, e, h, Owned.mono ff (fun _ q => q) o, fun z => n (on p z)⟩
  | br i => obtain ⟨s, e1, e2⟩ := x; obtain ⟨s', e3⟩ := kn i s e1; exact ⟨s', e3, e2⟩
theorem frz_okW {K : PySem.W.Frag} {G : Gm} {Fa Ha : Hp} {ρa : Nv} {F : Hp} {σ : St} {H : Hp} {ρ : Nv} {v : V} {r : Re} {k : D → Nv → Prop} (ok : Ok K G F σ H ρ) (g : Gr σ Fa F Ha H ρa ρ) (re : ReW K G F σ H ρ v r) (rf : ReF Ha v r) (h : frz r ρ k) :
    ∃ d F' ρ', Ok K G F' σ H ρ' ∧ Gr σ Fa F' Ha H ρa ρ' ∧ (Same F F' ∧ (∀ (i : Nat) (s : Sl), ρ[i]? = some (some s) → ∃ s', ρ'[i]? = some (some s')) ∧ (∀ b, OwnAt σ ρ' b → OwnAt σ ρ b)) ∧ Rep K F' v d ∧ k d ρ' := by
  cases r with
  | va d => exact ⟨d, F, ρ, ok, g, ⟨.refl _, fun _ s e => ⟨s, e⟩, fun _ e => e⟩, re, h⟩
  | nw d =>
    obtain ⟨p, rfl, h0, o, no⟩ := re
    obtain ⟨F', ok', s, rp, back⟩ := ok.freeze h0 o no
    refine ⟨d, F', ρ, ok', ⟨g.ff.trans s, g.hh, g.th, g.kn, g.on, fun b u e f' n => ?_⟩, ⟨s, fun _ s e => ⟨s, e⟩, fun _ e => e⟩, rp, h⟩
    cases q : F' b with
    | none => rfl
    | some w =>
      rcases back b w q with z | z
      · rw [g.nf b u e f' n] at z; cases z
      · have := rf p rfl
        rw [z, this] at e; cases e
  | br i =>
    obtain ⟨s, e1, e2⟩ := re
    simp only [frz, e1] at h
    cases s with
    | fz d =>
      obtain ⟨v', e3, x⟩ := ok.sl i _ e1
      rw [e2] at e3; cases e3
      exact ⟨d, F, ρ, ok, g, ⟨.refl _, fun _ s e => ⟨s, e⟩, fun _ e => e⟩, x, h⟩
    | ow d => exact h.elim
    | lo d =>
      obtain ⟨v', e3, p, e4, f, h0, o⟩ := ok.sl i _ e1
      rw [e2] at e3; cases e3; subst e4
      have hi : ∀ d, ρ[i]? ≠ some (some (.ow d)) := fun d z => by rw [e1] at z; cases z
      have okd := ok.drop hi
      have no : ¬ OwnAt σ (ρ.set i none) p := fun ⟨j, t, z1, z2, z3⟩ => by
        rcases set_some z1 with ⟨_, z⟩ | ⟨hj, z⟩
        · cases z
        · exact hj (ok.dist j i p t _ z e1 z2 rfl z3 e2)
      obtain ⟨F', ok', s', rp, back⟩ := okd.freeze h0 o no
      have okp : Ok K G F' (σ.set i (some (.ref p))) H ((ρ.set i none).set i (some (.fz d))) := ok'.put (fun d z => by
        rcases set_some (s := Sl.ow d) z with ⟨_, z⟩ | ⟨z, _⟩
        · cases z
        · exact z rfl) (fun d z => by cases z) rp (fun z => by cases z)
      have es : σ.set i (some (.ref p)) = σ := by
        obtain ⟨hl, hv⟩ := List.getElem?_eq_some_iff.mp e2
        rw [← hv, List.set_getElem_self]
      rw [es, List.set_set] at okp
      have onr : ∀ b, OwnAt σ (ρ.set i (some (.fz d))) b → OwnAt σ ρ b := fun b ⟨j, t, z1, z2, z3⟩ => by
        rcases set_some z1 with ⟨_, z⟩ | ⟨hj, z⟩
        · cases z; cases z2
        · exact ⟨j, t, z, z2, z3⟩
      have knr : ∀ (j : Nat) (t : Sl), ρ[j]? = some (some t) → ∃ t', (ρ.set i (some (.fz d)))[j]? = some (some t') := fun j t z' => by
        by_cases hj : j = i
        · subst hj
          exact ⟨.fz d, List.getElem?_set_self (List.getElem?_eq_some_iff.mp z').1⟩
        · exact ⟨t, by rw [List.getElem?_set_ne (Ne.symm hj)]; exact z'⟩
      refine ⟨d, F', ρ.set i (some (.fz d)), okp, ⟨g.ff.trans s', g.hh, g.th, fun j t z => ?_, fun b z => g.on b (onr b z), fun b u e f' n => ?_⟩, ⟨s', knr, onr⟩, rp, h⟩
      · obtain ⟨t', z'⟩ := g.kn j t z
        exact knr j t' z'
      · cases q : F' b with
        | none => rfl
        | some w =>
          rcases back b w q with z | z
          · rw [g.nf b u e f' n] at z; cases z
          · exact absurd (g.on b (by rw [z]; exact ⟨i, _, e1, rfl, e2⟩)) n
theorem frz_ok {K : PySem.W.Frag} {G : Gm} {Fa Ha : Hp} {ρa : Nv} {F : Hp} {σ : St} {H : Hp} {ρ : Nv} {v : V} {r : Re} {k : D → Nv → Prop} (ok : Ok K G F σ H ρ) (g : Gr σ Fa F Ha H ρa ρ) (re : ReOk K G F σ H ρ v r) (rf : ReF Ha v r) (h : frz r ρ k) :
    ∃ d F' ρ', Ok K G F' σ H ρ' ∧ Gr σ Fa F' Ha H ρa ρ' ∧ Same F F' ∧ Rep K F' v d ∧ k d ρ' := by
  obtain ⟨d, F', ρ', ok', g', ⟨s, _, _⟩, rp, h'⟩ := frz_okW ok g re.w rf h
  exact ⟨d, F', ρ', ok', g', s, rp, h'⟩
def frzL : List Re → Nv → (List D → Nv → Prop) → Prop
  | [], ρ, k => k [] ρ
  | r :: rs, ρ, k => frz r ρ fun d ρ1 => frzL rs ρ1 fun ds ρ2 => k (d :: ds) ρ2
theorem frzL_ok {K : PySem.W.Frag} {G : Gm} {Fa Ha : Hp} {ρa : Nv} {σ : St} {H : Hp} : ∀ {rs : List Re} {vs : List V} {F : Hp} {ρ : Nv} {k : List D → Nv → Prop}, Ok K G F σ H ρ → Gr σ Fa F Ha H ρa ρ → Paired (fun v r => ReW K G F σ H ρ v r ∧ ReF Ha v r) vs rs → frzL rs ρ k →
    ∃ ds F' ρ', Ok K G F' σ H ρ' ∧ Gr σ Fa F' Ha H ρa ρ' ∧ Same F F' ∧ RepL K F' vs ds ∧ k ds ρ'
  | [], _, F, ρ, k, ok, g, .nil, h => ⟨[], F, ρ, ok, g, .refl _, .nil, h⟩
  | r :: rs, _, F, ρ, k, ok, g, .cons re rr, h => by
    obtain ⟨d, F1, ρ1, ok1, g1, ⟨s1, kn1, on1⟩, rp, h1⟩ := frz_okW ok g re.1 re.2 h
    obtain ⟨ds, F2, ρ2, ok2, g2, s2, rl, h2⟩ := frzL_ok (rs := rs) ok1 g1 (Paired.mapP rr fun _ _ y => ⟨y.1.mono s1 kn1 on1, y.2⟩) h1
    exact ⟨d :: ds, F2, ρ2, ok2, g2, s1.trans s2, .cons (rp.mono s2) rl, h2⟩
/-- an outcome is stored into slot i -/
def stS (i : Nat) (r : Re) (ρ : Nv) (k : Nv → Prop) : Prop := match r with
  | .nw d => notOw ρ i ∧ k (ρ.set i (some (.lo d)))
  | r => frz r ρ fun d ρ' => notOw ρ' i ∧ k (ρ'.set i (some (.fz d)))
theorem stS_ok {K : PySem.W.Frag} {G : Gm} {F : Hp} {σ : St} {H : Hp} {ρ : Nv} {v : V} {i : Nat} {r : Re} {k : Nv → Prop} (ok : Ok K G F σ H ρ) (re : ReOk K G F σ H ρ v r) (h : stS i r ρ k) :
    ∃ F' ρ', Ok K G F' (σ.set i (some v)) H ρ' ∧ Same F F' ∧ k ρ' := by
  have gen : (∀ d, r ≠ .nw d) → (frz r ρ fun d ρ' => notOw ρ' i ∧ k (ρ'.set i (some (.fz d)))) → ∃ F' ρ', Ok K G F' (σ.set i (some v)) H ρ' ∧ Same F F' ∧ k ρ' := fun nn h => by
    have rf : ReF H v r := by
      cases r with
      | nw d => exact absurd rfl (nn d)
      | _ => trivial
    obtain ⟨d, F', ρ', ok', g', s', rp, hn, hk⟩ := frz_ok ok Gr.refl re rf h
    exact ⟨F', _, ok'.put (s := .fz d) (notOw_ok hn) (fun d z => by cases z) rp (fun z => by cases z), s', hk⟩
  cases r with
  | va d => exact gen (fun d z => by cases z) h
  | br j => exact gen (fun d z => by cases z) h
  | nw d =>
    obtain ⟨hn, hk⟩ := h
    obtain ⟨p, rfl, f, h0, o, no⟩ := re
    refine ⟨F, _, ok.put (s := .lo d) (notOw_ok hn) (fun d z => by cases z) ⟨p, rfl, f, h0, o⟩ (fun _ q e j t hj z1 z2 z3 => ?_), .refl _, hk⟩
    cases e
    exact no ⟨j, t, z1, z2, z3⟩
def mSet (i : Nat) (m : MX) : MS := fun De ρ => m ρ (fun r ρ' => stS i r ρ' De.nx) De.ex
theorem q_set {i : Nat} {x : Str} {e : Expr} {m : MX} {pos' : Pos} (hN : X.N.Nodup) (he : QX X W e m) (hi : X.N[i]? = some x := by rfl) (hx : Loc X.env.scope x := by first | exact .inl rfl | exact .inr rfl)
    (hs : swapsWith e (some (.Name x pos')) pos.line X.env = pure false := by rfl) (hf : X.fn x = true ∨ X.env.scope.names.lookup x = some .local := by first | exact .inl rfl | exact .inr rfl | assumption) :
    QS X W (.Assign [.Name x pos'] e pos) (mSet i m) := (ps_set hN hi hx he hs hf).imp fun D σ H ⟨G, F, ρ, De, ok, h, c⟩ =>
  tX.st ok c h fun r v ρ' F' H' ok' g re rf q => by
    obtain ⟨F2, ρ2, ok2, s2, k2⟩ := stS_ok ok' re q
    exact c.nx _ F2 H' ρ2 ok2 (g.ff.trans s2) k2

/-! ### while -/
def whB (De : PEnds) (R : Nat → Nv → Prop) (n : Nat) : PEnds := { De with nx := fun ρ2 => ∃ m, m < n ∧ R m ρ2, ct := fun ρ2 => ∃ m, m < n ∧ R m ρ2, bk := De.nx }
def mWhile (c : MT) (b : MS) : MS := fun De ρ => ∃ R : Nat → Nv → Prop, (∃ n, R n ρ) ∧ ∀ n ρ, R n ρ → c ρ (fun t ρ1 => cIf t (b (whB De R n) ρ1) (De.nx ρ1)) De.ex
theorem q_while {c : Expr} {body : List Stmt} {mc : MT} {mb : MS} (hp : PassesOwn (model X.prog X.w) X.A X.env X.xe) (hc : QT X W c mc) (hb : QSs X W body mb) : QS X W (.While c body [] pos) (mWhile mc mb) := (ps_while hp hc hb).imp fun D σ H ⟨G, F, ρ, De, ok, ⟨R, ⟨n, h⟩, st⟩, co⟩ => by
  refine ⟨fun n σ H => ∃ F1 ρ, Ok X.K G F1 σ H ρ ∧ Same F F1 ∧ R n ρ, ⟨n, F, ρ, ok, .refl _, h⟩, ?_⟩
  rintro m σ1 H1 ⟨F1, ρ1, ok1, s1, h1⟩
  refine tT.st ok1 (co.mono s1) (st m ρ1 h1) fun t ρ2 F2 H2 ok2 s2 q => ?_
  cases t with
  | true =>
    refine ⟨fun σ' H' => ∃ F3 ρ3, Ok X.K G F3 σ' H' ρ3 ∧ Same F F3 ∧ ∃ j, j < m ∧ R j ρ3, fun σ' H' ⟨F3, ρ3, z1, z2, j, z3, z4⟩ => ⟨j, z3, F3, ρ3, z1, z2, z4⟩, G, F2, ρ2, _, ok2, q, ?_⟩
    have s12 := s1.trans s2
    exact ⟨fun σ' F' H' ρ' ok' s q => ⟨F', ρ', ok', s12.trans s, q⟩, (co.mono s12).rt, (co.mono s12).nx, fun σ' F' H' ρ' ok' s q => ⟨F', ρ', ok', s12.trans s, q⟩, (co.mono s12).ex⟩
  | false => exact co.nx σ1 F2 H2 ρ2 ok2 (s1.trans s2) q
end
end WR

set_option Elab.async false
set_option linter.all false
set_option maxRecDepth 100000
set_option maxHeartbeats 4000000
set_option autoImplicit false
/-! Operators, displays, subscripts, built-in calls over plain data. -/
namespace WR
open PySem L2
section
variable {X : Cx} {W : WX} {a b : Expr} {pos : Pos} {ma mb : MX}
/-! ### ints and more: +, - .. -/
def fAdd : D → D → (Re → Prop) → Prop := fun x y Q => match x, y with
  | .int i, .int j => Q (.va (.int (i + j)))
  | .str u, .str w => u.length + w.length ≤ sizeLine ∧ Q (.va (.str (u ++ w)))
  | .lst us, .lst ws => us.length + ws.length ≤ sizeLine ∧ Q (.nw (.lst (us ++ ws)))
  | .tup us, .tup ws => us.length + ws.length ≤ sizeLine ∧ Q (.va (.tup (us ++ ws)))
  | _, _ => False
theorem add_snd {K : PySem.W.Frag} : OpS K fAdd (fun x y H Q => (((∃ i j, x = .int i ∧ y = .int j ∧ Q (.int (i + j)) H) ∨ (∃ i j, x = .str i ∧ y = .str j ∧ i.length + j.length ≤ sizeLine ∧ Q (.str (i ++ j)) H)) ∨ rCat x y H Q) ∨ rCatA K x y H Q) := by
  intro F H x y dx dy Q Q' sf tx ty h k
  unfold fAdd at h
  split at h
  · rename_i i j
    exact .inl (.inl (.inl ⟨i, j, tx.int, ty.int, k (.va _) _ F H (.refl sf) (.int _) h⟩))
  · rename_i u w
    exact .inl (.inl (.inr ⟨u, w, tx.str, ty.str, h.1, k (.va _) _ F H (.refl sf) (.str _) h.2⟩))
  · rename_i us ws
    obtain ⟨a, vs, e1, h1, l1⟩ := tx.lst sf
    obtain ⟨b, zs, e2, h2, l2⟩ := ty.lst sf
    refine .inl (.inr ⟨a, b, vs, zs, e1, e2, h1, h2, by rw [l1.length, l2.length]; exact h.1, fun p hp => ?_⟩)
    obtain ⟨n, r⟩ := new_lst sf hp (l1.append l2)
    exact k _ _ F _ n r h.2
  · rename_i us ws
    obtain ⟨a, vs, e1, h1, l1⟩ := tx.tup sf
    obtain ⟨b, zs, e2, h2, l2⟩ := ty.tup sf
    have rx : Rep K F x (.tup us) := by
      rcases tx with z | ⟨p, _, o⟩
      · exact z
      · exact (show False from o).elim
    have ry : Rep K F y (.tup ws) := by
      rcases ty with z | ⟨p, _, o⟩
      · exact z
      · exact (show False from o).elim
    refine .inr ⟨a, b, vs, zs, e1, e2, h1, h2, by rw [l1.length, l2.length]; exact h.1, fun e => ?_, fun _ e => ?_, fun _ _ p hp => ?_⟩
    · subst e; cases l1
      rw [← e2]
      exact k (.va _) _ F H (.refl sf) (show Rep K F y (.tup ([] ++ ws)) from ry) h.2
    · subst e; cases l2
      rw [← e1]
      exact k (.va _) _ F H (.refl sf) (by show Rep K F x (.tup (us ++ [])); rw [List.append_nil]; exact rx) h.2
    · obtain ⟨n, r⟩ := new_tup sf hp (l1.append l2)
      exact k (.va _) _ _ _ n r h.2
  · exact h.elim
theorem q_add (ha : QX X W a ma) (hb : QX X W b mb) : QX X W (.BinOp a .Add b pos) (mBin fAdd ma mb) := q_bin (((op_add.or op_add_str).or op_cat).or op_catA) add_snd ha hb
def fSub := fI (fun _ _ => True) fun i j => .int (i - j)
theorem q_sub (ha : QX X W a ma) (hb : QX X W b mb) : QX X W (.BinOp a .Sub b pos) (mBin fSub ma mb) := q_bin op_sub (.rI0 fun _ _ _ => .int _) ha hb
/-- *: two ints, a list some times -/
def fMul : D → D → (Re → Prop) → Prop := fun x y Q => match x, y with
  | .int i, .int j => CMulW i j ∧ Q (.va (.int (i * j)))
  | .lst us, .int j => -(2 ^ 63) ≤ j ∧ j < 2 ^ 63 ∧ us.length * j.toNat ≤ sizeLine ∧ Q (.nw (.lst (List.replicate j.toNat us).flatten))
  | _, _ => False
theorem RepL.rep {K : PySem.W.Frag} {F : Hp} {vs : List V} {ds : List D} (l : RepL K F vs ds) : ∀ n : Nat, RepL K F (List.replicate n vs).flatten (List.replicate n ds).flatten
  | 0 => .nil
  | n + 1 => by
    rw [List.replicate_succ, List.replicate_succ, List.flatten_cons, List.flatten_cons]
    exact l.append (RepL.rep l n)
theorem mul_snd {K : PySem.W.Frag} : OpS K fMul (fun x y H Q => (∃ i j, x = .int i ∧ y = .int j ∧ CMulW i j ∧ Q (.int (i * j)) H) ∨ rRep x y H Q) := by
  intro F H x y dx dy Q Q' sf tx ty h k
  unfold fMul at h
  split at h
  · rename_i i j
    exact .inl ⟨i, j, tx.int, ty.int, h.1, k (.va _) _ F H (.refl sf) (.int _) h.2⟩
  · rename_i us j
    obtain ⟨a, vs, e1, h1, l1⟩ := tx.lst sf
    refine .inr ⟨a, j, vs, e1, ty.int, h1, h.1, h.2.1, by rw [l1.length]; exact h.2.2.1, fun p hp => ?_⟩
    obtain ⟨n, r⟩ := new_lst sf hp (l1.rep j.toNat)
    exact k _ _ F _ n r h.2.2.2
  · exact h.elim
theorem q_mul (ha : QX X W a ma) (hb : QX X W b mb) : QX X W (.BinOp a .Mult b pos) (mBin fMul ma mb) := q_bin (op_mulW.or op_rep) mul_snd ha hb
def fDiv := fI CDivW fun i j => .int (i / j)
theorem q_div (ha : QX X W a ma) (hb : QX X W b mb) : QX X W (.BinOp a .FloorDiv b pos) (mBin fDiv ma mb) := q_bin op_fdivW (.rI (fun _ _ h => h) fun _ _ _ => .int _) ha hb
def fMod := fI (fun _ j => 0 < j) fun i j => .int (i % j)
theorem q_mod (ha : QX X W a ma) (hb : QX X W b mb) : QX X W (.BinOp a .Mod b pos) (mBin fMod ma mb) := q_bin op_mod (.rI (fun _ _ h => h) fun _ _ _ => .int _) ha hb
def fPow := fI CPow fun i j => .int (i ^ j.toNat)
theorem q_pow (ha : QX X W a ma) (hb : QX X W b mb) : QX X W (.BinOp a .Pow b pos) (mBin fPow ma mb) := q_bin op_pow (.rI (fun _ _ h => h) fun _ _ _ => .int _) ha hb
def fShl := fI CPow fun i j => .int (i * 2 ^ j.toNat)
theorem q_shl (ha : QX X W a ma) (hb : QX X W b mb) : QX X W (.BinOp a .LShift b pos) (mBin fShl ma mb) := q_bin op_shl (.rI (fun _ _ h => h) fun _ _ _ => .int _) ha hb
def fShr := fI (fun _ j => 0 ≤ j) fun i j => .int (i / 2 ^ j.toNat)
theorem q_shr (ha : QX X W a ma) (hb : QX X W b mb) : QX X W (.BinOp a .RShift b pos) (mBin fShr ma mb) := q_bin op_shr (.rI (fun _ _ h => h) fun _ _ _ => .int _) ha hb
def fAnd := fI (fun _ _ => True) fun i j => .int (Builtin.bitAnd i j)
theorem q_bitand (ha : QX X W a ma) (hb : QX X W b mb) : QX X W (.BinOp a .BitAnd b pos) (mBin fAnd ma mb) := q_bin op_and (.rI0 fun _ _ _ => .int _) ha hb

/-! ### comparisons -/
/-- <, <= ..: two ints, two texts -/
def fLt : D → D → (Re → Prop) → Prop := fun x y Q => match x, y with
  | .int i, .int j => Q (.va (.bl (decide (i < j))))
  | .str u, .str w => Q (.va (.bl (decide (u.cps.toList < w.cps.toList))))
  | _, _ => False
theorem lt_snd {K : PySem.W.Frag} : OpS K fLt (fun x y H Q => (∃ i j, x = .int i ∧ y = .int j ∧ Q (.bl (decide (i < j))) H) ∨ (∃ i j, x = .str i ∧ y = .str j ∧ Q (.bl (decide (i.cps.toList < j.cps.toList))) H)) := by
  intro F H x y dx dy Q Q' sf tx ty h k
  unfold fLt at h
  split at h
  · rename_i i j
    exact .inl ⟨i, j, tx.int, ty.int, k (.va _) _ F H (.refl sf) (.bl _) h⟩
  · rename_i i j
    exact .inr ⟨i, j, tx.str, ty.str, k (.va _) _ F H (.refl sf) (.bl _) h⟩
  · exact h.elim
theorem q_lt (ha : QX X W a ma) (hb : QX X W b mb) : QX X W (.Compare a [.Lt] [b] pos) (mBin fLt ma mb) := q_cmp (op_lt.or op_lt_str) lt_snd ha hb (nomark _)
theorem q_tlt (ha : QX X W a ma) (hb : QX X W b mb) : QT X W (.Compare a [.Lt] [b] pos) (mTest (mBin fLt ma mb)) := q_tcmp (op_lt.or op_lt_str) lt_snd ha hb (nomark _)
def fLe := fI (fun _ _ => True) fun i j => .bl (decide (i ≤ j))
theorem q_le (ha : QX X W a ma) (hb : QX X W b mb) : QX X W (.Compare a [.LtE] [b] pos) (mBin fLe ma mb) := q_cmp op_le (.rI0 fun _ _ _ => .bl _) ha hb (nomark _)
theorem q_tle (ha : QX X W a ma) (hb : QX X W b mb) : QT X W (.Compare a [.LtE] [b] pos) (mTest (mBin fLe ma mb)) := q_tcmp op_le (.rI0 fun _ _ _ => .bl _) ha hb (nomark _)
def fGt := fI (fun _ _ => True) fun i j => .bl (decide (j < i))
theorem q_gt (ha : QX X W a ma) (hb : QX X W b mb) : QX X W (.Compare a [.Gt] [b] pos) (mBin fGt ma mb) := q_cmp op_gt (.rI0 fun _ _ _ => .bl _) ha hb (nomark _)
theorem q_tgt (ha : QX X W a ma) (hb : QX X W b mb) : QT X W (.Compare a [.Gt] [b] pos) (mTest (mBin fGt ma mb)) := q_tcmp op_gt (.rI0 fun _ _ _ => .bl _) ha hb (nomark _)
def fGe := fI (fun _ _ => True) fun i j => .bl (decide (j ≤ i))
theorem q_ge (ha : QX X W a ma) (hb : QX X W b mb) : QX X W (.Compare a [.GtE] [b] pos) (mBin fGe ma mb) := q_cmp op_ge (.rI0 fun _ _ _ => .bl _) ha hb (nomark _)
theorem q_tge (ha : QX X W a ma) (hb : QX X W b mb) : QT X W (.Compare a [.GtE] [b] pos) (mTest (mBin fGe ma mb)) := q_tcmp op_ge (.rI0 fun _ _ _ => .bl _) ha hb (nomark _)
/-! ### == -/
mutual
def D.py : D → PyData
  | .non => .none
  | .bl b => .bool b
  | .int i => .int i
  | .str x => .str x
  | .tup xs => .tuple (pyL xs)
  | .lst xs => .list (pyL xs)
  | .scr ns => .list (ns.map .int)
  | _ => .none
def pyL : List D → List PyData
  | [] => []
  | x :: xs => x.py :: pyL xs
end
mutual
/-- what == is asked of here -/
def D.plain : D → Bool
  | .non => true
  | .bl _ => true
  | .int _ => true
  | .str x => PyData.strOk x
  | .tup xs => plainL xs
  | .lst xs => plainL xs
  | .scr _ => true
  | _ => false
def plainL : List D → Bool
  | [] => true
  | x :: xs => x.plain && plainL xs
end
mutual
theorem Rep.dp {K : PySem.W.Frag} {F : Hp} : ∀ {v : V} {d : D}, Rep K F v d → d.plain = true → Dp K F v d.py
  | _, _, .non, _ => by unfold D.py; exact .non
  | _, _, .bl b, _ => by unfold D.py; exact .bl b
  | _, _, .int i, _ => by unfold D.py; exact .int i
  | _, _, .str x, _ => by unfold D.py; exact .str x
  | _, _, .ty n, h => by unfold D.plain at h; cases h
  | _, _, .obj a, h => by unfold D.plain at h; cases h
  | _, _, .exc e, h => by unfold D.plain at h; cases h
  | _, _, .tup q l, h => by unfold D.plain at h; unfold D.py; exact .tup q (RepL.dp l h)
  | _, _, .lst q l, h => by unfold D.plain at h; unfold D.py; exact .lst (SqL.of q) (RepL.dp l h)
  | _, _, .dic _ _ _, h => by unfold D.plain at h; cases h
  | _, _, .scr (ns := ns) q, h => by
    unfold D.py
    refine .lst q ?_
    clear q h
    induction ns with
    | nil => exact .nil
    | cons n r ih => exact .cons (.int n) ih
theorem RepL.dp {K : PySem.W.Frag} {F : Hp} : ∀ {vs : List V} {ds : List D}, RepL K F vs ds → plainL ds = true → DpAll K F vs (pyL ds)
  | _, _, .nil, _ => by unfold pyL; exact .nil
  | _, _, .cons r l, h => by
    unfold plainL at h
    rw [Bool.and_eq_true] at h
    unfold pyL
    exact .cons (Rep.dp r h.1) (RepL.dp l h.2)
end
theorem lay_ints : ∀ ns : List Int, PyData.canLayAll0 (ns.map PyData.int) = true
  | [] => by unfold List.map PyData.canLayAll0; rfl
  | n :: r => by rw [List.map_cons]; unfold PyData.canLayAll0; rw [lay_ints r, Bool.and_true]; unfold PyData.canLay0; rfl
mutual
theorem D.lay : ∀ (d : D), d.plain = true → d.py.canLay0 = true
  | .non, _ => by unfold D.py PyData.canLay0; rfl
  | .bl _, _ => by unfold D.py PyData.canLay0; rfl
  | .int _, _ => by unfold D.py PyData.canLay0; rfl
  | .str x, h => by unfold D.py PyData.canLay0; unfold D.plain at h; exact h
  | .tup xs, h => by unfold D.py PyData.canLay0; unfold D.plain at h; exact layL xs h
  | .lst xs, h => by unfold D.py PyData.canLay0; unfold D.plain at h; exact layL xs h
  | .scr ns, _ => by
    unfold D.py PyData.canLay0
    exact lay_ints ns
  | .ty _, h => by unfold D.plain at h; cases h
  | .obj _, h => by unfold D.plain at h; cases h
  | .exc _, h => by unfold D.plain at h; cases h
  | .dic _ _, h => by unfold D.plain at h; cases h
theorem layL : ∀ (ds : List D), plainL ds = true → PyData.canLayAll0 (pyL ds) = true
  | [], _ => by unfold pyL PyData.canLayAll0; rfl
  | x :: xs, h => by
    unfold plainL at h
    rw [Bool.and_eq_true] at h
    unfold pyL PyData.canLayAll0
    rw [D.lay x h.1, layL xs h.2]; rfl
end
/-- Python's == -/
def deq (x y : D) : Bool := PyData.eqv x.py y.py
def fEq : D → D → (Re → Prop) → Prop := fun x y Q => x.plain = true ∧ y.plain = true ∧ min x.py.depth y.py.depth ≤ 100 ∧ Q (.va (.bl (deq x y)))
def fNe : D → D → (Re → Prop) → Prop := fun x y Q => x.plain = true ∧ y.plain = true ∧ min x.py.depth y.py.depth ≤ 100 ∧ Q (.va (.bl (!deq x y)))
def rEqG (K : PySem.W.Frag) : R2 := fun x y H Q => ∃ d e, Dp K H x d ∧ Dp K H y e ∧ d.canLay0 = true ∧ e.canLay0 = true ∧ min d.depth e.depth ≤ 100 ∧ Q (.bl (PyData.eqv d e)) H
def rNeG (K : PySem.W.Frag) : R2 := fun x y H Q => ∃ d e, Dp K H x d ∧ Dp K H y e ∧ d.canLay0 = true ∧ e.canLay0 = true ∧ min d.depth e.depth ≤ 100 ∧ Q (.bl (!PyData.eqv d e)) H
theorem op_eqG {k : Nat} (hr : Room k X.A) : OpR X (compareOp .Eq) (rEqG X.K) := by
  intro pins s σ H x y v u Q I rx ry h
  obtain ⟨d, e, hd, he, sd, se, dp, q⟩ := h
  obtain ⟨as, r1⟩ := Dp.reads I d x v hd rx
  obtain ⟨bs, r2⟩ := Dp.reads I e y u he ry
  exact SeqAt.compareEq_reads r1 r2 sd se (by have := hr.un; omega) ⟨.bl _, H, I, rfl, q⟩
theorem op_neG {k : Nat} (hr : Room k X.A) : OpR X (compareOp .NotEq) (rNeG X.K) := by
  intro pins s σ H x y v u Q I rx ry h
  obtain ⟨d, e, hd, he, sd, se, dp, q⟩ := h
  obtain ⟨as, r1⟩ := Dp.reads I d x v hd rx
  obtain ⟨bs, r2⟩ := Dp.reads I e y u he ry
  exact SeqAt.compareNe_reads r1 r2 sd se (by have := hr.un; omega) ⟨.bl _, H, I, rfl, q⟩
theorem eq_snd {K : PySem.W.Frag} : OpS K fEq (rEqG K) := fun F H x y dx dy Q Q' sf tx ty ⟨h1, h2, h3, h4⟩ k =>
  ⟨dx.py, dy.py, (tx.rep sf).dp h1, (ty.rep sf).dp h2, D.lay _ h1, D.lay _ h2, h3, k (.va _) _ F H (.refl sf) (.bl _) h4⟩
theorem ne_snd {K : PySem.W.Frag} : OpS K fNe (rNeG K) := fun F H x y dx dy Q Q' sf tx ty ⟨h1, h2, h3, h4⟩ k =>
  ⟨dx.py, dy.py, (tx.rep sf).dp h1, (ty.rep sf).dp h2, D.lay _ h1, D.lay _ h2, h3, k (.va _) _ F H (.refl sf) (.bl _) h4⟩
theorem q_eq {k : Nat} (hr : Room k X.A) (ha : QX X W a ma) (hb : QX X W b mb) : QX X W (.Compare a [.Eq] [b] pos) (mBin fEq ma mb) := q_cmp (op_eqG hr) eq_snd ha hb (nomark _)
theorem q_teq {k : Nat} (hr : Room k X.A) (ha : QX X W a ma) (hb : QX X W b mb) : QT X W (.Compare a [.Eq] [b] pos) (mTest (mBin fEq ma mb)) := q_tcmp (op_eqG hr) eq_snd ha hb (nomark _)
theorem q_ne {k : Nat} (hr : Room k X.A) (ha : QX X W a ma) (hb : QX X W b mb) : QX X W (.Compare a [.NotEq] [b] pos) (mBin fNe ma mb) := q_cmp (op_neG hr) ne_snd ha hb (nomark _)
theorem q_tne {k : Nat} (hr : Room k X.A) (ha : QX X W a ma) (hb : QX X W b mb) : QT X W (.Compare a [.NotEq] [b] pos) (mTest (mBin fNe ma mb)) := q_tcmp (op_neG hr) ne_snd ha hb (nomark _)
/-! ### is None -/
def D.isNon : D → Bool
  | .non => true
  | _ => false
def mIsN (n : Bool) (m : MX) : MX := fun ρ Q E => m ρ (fun r ρ1 => opd r ρ1 fun d => Q (.va (.bl (d.isNon != n))) ρ1) E
theorem Top.isNon {K : PySem.W.Frag} {F H : Hp} {x : V} {d : D} (h : Top K F H x d) : decide (x = .non) = d.isNon := by
  rcases h with h | ⟨p, e, o⟩
  · cases h <;> rfl
  · subst e
    cases d with
    | lst _ => rfl
    | dic _ _ => rfl
    | _ => exact (show False from o).elim
theorem q_isN {j p2} (ha : QX X W a ma) : QX X W (.Compare a [.Is] [.Constant .none j p2] pos) (mIsN false ma) := (pe_cmp (pc_isN ha)).imp fun σ H Q' ⟨G, F, ρ, Q, E, ok, hm, hp, he⟩ =>
  tX.mk ok hm (fun r v ρ1 F1 H1 ok1 g1 re1 rf1 h1 => by
    obtain ⟨d, td, h2⟩ := opd_top ok1 re1 h1
    rw [td.isNon]
    exact hp (.va (.bl (d.isNon != false))) _ ρ1 F1 H1 ok1 g1 (by cases d.isNon <;> exact .bl _) trivial h2) he
theorem q_notN {j p2} (ha : QX X W a ma) : QX X W (.Compare a [.IsNot] [.Constant .none j p2] pos) (mIsN true ma) := (pe_cmp (pc_notN ha)).imp fun σ H Q' ⟨G, F, ρ, Q, E, ok, hm, hp, he⟩ =>
  tX.mk ok hm (fun r v ρ1 F1 H1 ok1 g1 re1 rf1 h1 => by
    obtain ⟨d, td, h2⟩ := opd_top ok1 re1 h1
    rw [td.isNon]
    exact hp (.va (.bl (d.isNon != true))) _ ρ1 F1 H1 ok1 g1 (by cases d.isNon <;> exact .bl _) trivial h2) he
/-! ### and, or, not, if else -/
def mAnd (t u : MT) : MT := fun ρ Q E => t ρ (fun c ρ1 => cIf c (u ρ1 Q E) (Q false ρ1)) E
def mOr (t u : MT) : MT := fun ρ Q E => t ρ (fun c ρ1 => cIf c (Q true ρ1) (u ρ1 Q E)) E
def mNot (t : MT) : MT := fun ρ Q E => t ρ (fun c ρ1 => Q (!c) ρ1) E
variable {mt mu : MT} {rest : List Expr}
theorem w_and1 (ha : QT X W a mt) : QW X W (.BoolOp .And [a] pos) mt := pw_and1 ha
theorem w_or1 (ha : QT X W a mt) : QW X W (.BoolOp .Or [a] pos) mt := pw_or1 ha
theorem w_and (ha : QT X W a mt) (hb : QW X W (.BoolOp .And (b :: rest) pos) mu) : QW X W (.BoolOp .And (a :: b :: rest) pos) (mAnd mt mu) := (pw_and ha hb).imp fun σ H Q' ⟨G, F, ρ, Q, E, ok, hm, hp, he⟩ =>
  ⟨G, F, ρ, _, E, ok, hm, fun c ρ1 F1 H1 ok1 g1 h1 => by
    cases c with
    | true => exact ⟨G, F1, ρ1, Q, E, ok1, h1, fun c2 ρ2 F2 H2 ok2 g2 h2 => hp c2 ρ2 F2 H2 ok2 (g1.trans g2) h2, he.after g1⟩
    | false => exact hp false ρ1 F1 H1 ok1 g1 h1, he⟩
theorem w_or (ha : QT X W a mt) (hb : QW X W (.BoolOp .Or (b :: rest) pos) mu) : QW X W (.BoolOp .Or (a :: b :: rest) pos) (mOr mt mu) := (pw_or ha hb).imp fun σ H Q' ⟨G, F, ρ, Q, E, ok, hm, hp, he⟩ =>
  ⟨G, F, ρ, _, E, ok, hm, fun c ρ1 F1 H1 ok1 g1 h1 => by
    cases c with
    | true => exact hp true ρ1 F1 H1 ok1 g1 h1
    | false => exact ⟨G, F1, ρ1, Q, E, ok1, h1, fun c2 ρ2 F2 H2 ok2 g2 h2 => hp c2 ρ2 F2 H2 ok2 (g1.trans g2) h2, he.after g1⟩, he⟩
theorem q_w {e : Expr} (h : QW X W e mt) : QT X W e mt := PW.pt h
theorem q_tnot (ha : QT X W a mt) : QT X W (.UnaryOp .Not a pos) (mNot mt) := (pt_not ha).imp fun σ H Q' ⟨G, F, ρ, Q, E, ok, hm, hp, he⟩ =>
  ⟨G, F, ρ, _, E, ok, hm, fun c ρ1 F1 H1 ok1 g1 h1 => hp (!c) ρ1 F1 H1 ok1 g1 h1, he⟩
/-- .. as values, all truths but the last -/
def mAndV (m n : MX) : MX := fun ρ Q E => m ρ (fun r ρ1 => onBl r fun c => cIf c (n ρ1 Q E) (Q (.va (.bl false)) ρ1)) E
def mOrV (m n : MX) : MX := fun ρ Q E => m ρ (fun r ρ1 => onBl r fun c => cIf c (Q (.va (.bl true)) ρ1) (n ρ1 Q E)) E
def mNotV (m : MX) : MX := fun ρ Q E => m ρ (fun r ρ1 => onBl r fun c => Q (.va (.bl (!c))) ρ1) E
theorem onBl_ok {K : PySem.W.Frag} {G : Gm} {F : Hp} {σ : St} {H : Hp} {ρ : Nv} {v : V} {r : Re} {k : Bool → Prop} (re : ReOk K G F σ H ρ v r) (h : onBl r k) : ∃ c, v = .bl c ∧ k c := by
  unfold onBl at h
  split at h
  · cases re; exact ⟨_, rfl, h⟩
  · exact h.elim
theorem q_one1 {op} (h : QX X W a ma) : QX X W (.BoolOp op [a] pos) ma := pe_one h
theorem q_and (ha : QX X W a ma) (hb : QX X W (.BoolOp .And (b :: rest) pos) mb) : QX X W (.BoolOp .And (a :: b :: rest) pos) (mAndV ma mb) := (pe_and ha hb).imp fun σ H Q' ⟨G, F, ρ, Q, E, ok, hm, hp, he⟩ =>
  tX.mk ok hm (fun r v ρ1 F1 H1 ok1 g1 re1 rf1 h1 => by
    obtain ⟨c, e, h2⟩ := onBl_ok re1 h1
    refine ⟨c, e, ?_⟩
    cases c with
    | true => exact tX.mk ok1 h2 (hp.after g1) (he.after g1)
    | false => exact hp (.va (.bl false)) _ ρ1 F1 H1 ok1 g1 (.bl _) trivial h2) he
theorem q_or (ha : QX X W a ma) (hb : QX X W (.BoolOp .Or (b :: rest) pos) mb) : QX X W (.BoolOp .Or (a :: b :: rest) pos) (mOrV ma mb) := (pe_or ha hb).imp fun σ H Q' ⟨G, F, ρ, Q, E, ok, hm, hp, he⟩ =>
  tX.mk ok hm (fun r v ρ1 F1 H1 ok1 g1 re1 rf1 h1 => by
    obtain ⟨c, e, h2⟩ := onBl_ok re1 h1
    refine ⟨c, e, ?_⟩
    cases c with
    | true => exact hp (.va (.bl true)) _ ρ1 F1 H1 ok1 g1 (.bl _) trivial h2
    | false => exact tX.mk ok1 h2 (hp.after g1) (he.after g1)) he
theorem q_not (ha : QX X W a ma) : QX X W (.UnaryOp .Not a pos) (mNotV ma) := (pe_not ha).imp fun σ H Q' ⟨G, F, ρ, Q, E, ok, hm, hp, he⟩ =>
  tX.mk ok hm (fun r v ρ1 F1 H1 ok1 g1 re1 rf1 h1 => by
    obtain ⟨c, e, h2⟩ := onBl_ok re1 h1
    exact ⟨c, e, hp (.va (.bl (!c))) _ ρ1 F1 H1 ok1 g1 (.bl _) trivial h2⟩) he
def mIfE (t : MT) (m n : MX) : MX := fun ρ Q E => t ρ (fun c ρ1 => cIf c (m ρ1 Q E) (n ρ1 Q E)) E
theorem q_ifE {c : Expr} (hc : QT X W c mt) (ha : QX X W a ma) (hb : QX X W b mb) : QX X W (.IfExp c a b pos) (mIfE mt ma mb) := (pe_ifExp hc ha hb).imp fun σ H Q' ⟨G, F, ρ, Q, E, ok, hm, hp, he⟩ =>
  ⟨G, F, ρ, _, E, ok, hm, fun c ρ1 F1 H1 ok1 g1 h1 => by
    cases c with
    | true => exact tX.mk ok1 h1 (hp.after g1) (he.after g1)
    | false => exact tX.mk ok1 h1 (hp.after g1) (he.after g1), he⟩
def mNeg (m : MX) : MX := fun ρ Q E => m ρ (fun r ρ1 => onInt r fun i => Q (.va (.int (-i))) ρ1) E
theorem q_neg (ha : QX X W a ma) : QX X W (.UnaryOp .USub a pos) (mNeg ma) := (pe_un un_neg ha).imp fun σ H Q' ⟨G, F, ρ, Q, E, ok, hm, hp, he⟩ =>
  tX.mk ok hm (fun r v ρ1 F1 H1 ok1 g1 re1 rf1 h1 => by
    unfold onInt at h1
    split at h1
    · cases re1
      exact ⟨_, rfl, hp (.va _) _ ρ1 F1 H1 ok1 g1 (.int _) trivial h1⟩
    · exact h1.elim) he

/-! ### arguments, displays -/
def mNilA : MA := fun ρ Q _ => Q [] ρ
def mConsA (m : MX) (n : MA) : MA := fun ρ Q E => m ρ (fun r ρ1 => n ρ1 (fun rs ρ2 => Q (r :: rs) ρ2) E) E
variable {e : Expr} {es : List Expr} {mx : MX} {mas : MA}
theorem qa_nil : QA X W [] mNilA := pa_nil.imp fun σ H Q' ⟨G, F, ρ, Q, E, ok, hm, hp, he⟩ => hp [] [] ρ F H ok .refl .nil hm
theorem qa_cons (ha : QX X W e mx) (hr : QA X W es mas) (hs : starEach (e :: es) X.env = (false, eval e X.env) :: starEach es X.env := by rfl) : QA X W (e :: es) (mConsA mx mas) := (pa_cons ha hr hs).imp fun σ H Q' ⟨G, F, ρ, Q, E, ok, hm, hp, he⟩ =>
  tX.mk ok hm (fun r v ρ1 F1 H1 ok1 g1 re1 rf1 h1 => ⟨G, F1, ρ1, _, E, ok1, h1, fun rs vs ρ2 F2 H2 ok2 g2 res h2 =>
    hp (r :: rs) (v :: vs) ρ2 F2 H2 ok2 (g1.trans g2) (.cons ⟨re1.mono g2, rf1⟩ (Paired.mapP res fun _ _ y => ⟨y.1, y.2.before g1⟩)) h2, he.after g1⟩) he
def mTup (m : MA) : MX := fun ρ Q E => m ρ (fun rs ρ1 => frzL rs ρ1 fun ds ρ2 => ds.length ≤ sizeLine ∧ Q (.va (.tup ds)) ρ2) E
def mLst (m : MA) : MX := fun ρ Q E => m ρ (fun rs ρ1 => frzL rs ρ1 fun ds ρ2 => ds.length ≤ sizeLine ∧ Q (.nw (.lst ds)) ρ2) E
theorem q_tup {x1} (h : QA X W es mas) : QX X W (.Tuple es x1 pos) (mTup mas) := (pe_tup h).imp fun σ H Q' ⟨G, F, ρ, Q, E, ok, hm, hp, he⟩ =>
  ⟨G, F, ρ, _, E, ok, hm, fun rs vs ρ1 F1 H1 ok1 g1 res h1 => by
    obtain ⟨ds, F2, ρ2, ok2, g2, s2, rl, hl, h2⟩ := frzL_ok ok1 g1 (Paired.mapP res fun _ _ y => ⟨y.1.w, y.2⟩) h1
    refine ⟨by rw [rl.length]; exact hl, fun p hq => ?_⟩
    obtain ⟨n, r⟩ := new_tup ok2.sf hq rl
    exact (hp.after g2).new ok2 n (r := .va _) r h2, he⟩
theorem q_lst (h : QA X W es mas) : QX X W (.List es pos) (mLst mas) := (pe_lst h).imp fun σ H Q' ⟨G, F, ρ, Q, E, ok, hm, hp, he⟩ =>
  ⟨G, F, ρ, _, E, ok, hm, fun rs vs ρ1 F1 H1 ok1 g1 res h1 => by
    obtain ⟨ds, F2, ρ2, ok2, g2, s2, rl, hl, h2⟩ := frzL_ok ok1 g1 (Paired.mapP res fun _ _ y => ⟨y.1.w, y.2⟩) h1
    refine ⟨by rw [rl.length]; exact hl, fun p hq => ?_⟩
    obtain ⟨n, r⟩ := new_lst ok2.sf hq rl
    exact (hp.after g2).new ok2 n r h2, he⟩

/-! ### subscripts -/
theorem RepL.atI {K : PySem.W.Frag} {F : Hp} {vs : List V} {ds : List D} {i : Int} {d : D} (l : RepL K F vs ds) (h : atI ds i = some d) : ∃ v, L2.atI vs i = some v ∧ Rep K F v d := by
  unfold L2.atI at h ⊢
  rw [l.length]
  cases e : ixN ds.length i with
  | none => rw [e] at h; cases h
  | some j =>
    rw [e] at h
    exact l.get h
/-- a[i] -/
def fIx : D → D → (Re → Prop) → Prop := fun x y Q => match x, y with
  | .lst ds, .int i => ∃ d, atI ds i = some d ∧ Q (.va d)
  | .tup ds, .int i => ∃ d, atI ds i = some d ∧ Q (.va d)
  | .scr ns, .int i => ∃ n, atI ns i = some n ∧ Q (.va (.int n))
  | .str z, .int i => z.length ≤ sizeLine ∧ ∃ c, atI z.cps.toList i = some c ∧ Q (.va (.str ⟨#[c]⟩))
  | _, _ => False
theorem atI_map {α β : Type} {f : α → β} {xs : List α} {i : Int} {x : α} (h : atI xs i = some x) : atI (xs.map f) i = some (f x) := by
  unfold atI at h ⊢
  rw [List.length_map]
  cases e : ixN xs.length i with
  | none => rw [e] at h; cases h
  | some j =>
    rw [e] at h
    have h' : xs[j]? = some x := h
    show (xs.map f)[j]? = some (f x)
    rw [List.getElem?_map, h']; rfl
theorem ix_snd {K : PySem.W.Frag} : OpS K fIx (fun x y H Q => (rIxL K x y H Q ∨ rIxT K x y H Q) ∨ rIxS x y H Q) := by
  intro F H x y dx dy Q Q' sf tx ty h k
  unfold fIx at h
  split at h
  · rename_i ds i
    obtain ⟨d, h1, h2⟩ := h
    obtain ⟨a, vs, e, hl, l⟩ := tx.lst sf
    obtain ⟨v, h3, r⟩ := l.atI h1
    exact .inl (.inl ⟨a, vs, i, v, e, ty.int, SqL.of hl, h3, k (.va d) _ F H (.refl sf) r h2⟩)
  · rename_i ds i
    obtain ⟨d, h1, h2⟩ := h
    obtain ⟨a, vs, e, hl, l⟩ := tx.tup sf
    obtain ⟨v, h3, r⟩ := l.atI h1
    exact .inl (.inr ⟨a, vs, i, v, e, ty.int, hl, h3, k (.va d) _ F H (.refl sf) r h2⟩)
  · rename_i ns i
    obtain ⟨n, h1, h2⟩ := h
    obtain ⟨a, e, hl⟩ := tx.scr sf
    exact .inl (.inl ⟨a, _, i, .int n, e, ty.int, hl, atI_map h1, k (.va _) _ F H (.refl sf) (.int n) h2⟩)
  · rename_i z i
    obtain ⟨hz, c, h1, h2⟩ := h
    exact .inr ⟨z, i, c, tx.str, ty.int, hz, h1, k (.va _) _ F H (.refl sf) (.str _) h2⟩
  · exact h.elim
theorem q_ix (ha : QX X W a ma) (hb : QX X W b mb) (hs : PlainIx b := by intro _ _; rfl) : QX X W (.Subscript a b pos) (mBin fIx ma mb) := (pe_ix ((ix_list.or ix_tup).or ix_str) ha hb hs).imp fun _ _ _ h => tX_bin ix_snd h
/-! ### slices -/
def MO := Nv → (Option Int → Nv → Prop) → EK → Prop
def tO (K : PySem.W.Frag) (W : WX) (m : MO) : TO := fun σ H Q' => ∃ (G : Gm) (F : Hp) (ρ : Nv) (Q : Option Int → Nv → Prop) (E : EK), Ok K G F σ H ρ ∧ m ρ Q E ∧
  (∀ (b : Option Int) (ρ' : Nv) (F' H' : Hp), Ok K G F' σ H' ρ' → Gr σ F F' H H' ρ ρ' → Q b ρ' → Q' b H') ∧ PostE K W G F σ H ρ E
def QO (X : Cx) (W : WX) (e : Option Expr) (m : MO) : Prop := PO X e (tO X.K W m)
theorem _root_.L2.PO.imp {X : Cx} {e : Option Expr} {t t' : TO} (h : PO X e t) (f : ∀ σ H Q, t' σ H Q → t σ H Q) : PO X e t' := ⟨fun pins s σ H Q I hq => h.run pins s σ H Q I (f σ H Q hq)⟩
def mNoPart : MO := fun ρ Q _ => Q none ρ
def mPart (m : MX) : MO := fun ρ Q E => m ρ (fun r ρ1 => onInt r fun i => Q (some i) ρ1) E
theorem qo_none : QO X W none mNoPart := po_none.imp fun σ H Q' ⟨G, F, ρ, Q, E, ok, hm, hp, he⟩ => hp none ρ F H ok .refl hm
theorem qo_some (h : QX X W e mx) : QO X W (some e) (mPart mx) := (po_some h).imp fun σ H Q' ⟨G, F, ρ, Q, E, ok, hm, hp, he⟩ =>
  tX.mk ok hm (fun r v ρ1 F1 H1 ok1 g1 re1 rf1 h1 => by
    unfold onInt at h1
    split at h1
    · cases re1
      exact ⟨_, rfl, hp _ ρ1 F1 H1 ok1 g1 h1⟩
    · exact h1.elim) he
/-- the items from lo to hi -/
def cutD {α : Type} (xs : List α) (lo hi : Option Int) : List α := (xs.drop (HT.sIx xs.length 0 lo)).take (HT.sIx xs.length xs.length hi - HT.sIx xs.length 0 lo)
theorem RepL.cut {K : PySem.W.Frag} {F : Hp} {vs : List V} {ds : List D} (l : RepL K F vs ds) (lo hi : Option Int) : RepL K F (cutV vs lo hi) (cutD ds lo hi) := by
  unfold cutV cutD
  rw [l.length]
  exact (l.drop _).take _
def fSl (x : D) (lo hi : Option Int) (Q : Re → Prop) : Prop := match x with
  | .lst ds => Q (.nw (.lst (cutD ds lo hi)))
  | .tup ds => Q (.va (.tup (cutD ds lo hi)))
  | .scr ns => Q (.nw (.lst ((cutD ns lo hi).map .int)))
  | .str z => z.length ≤ sizeLine ∧ Q (.va (.str (cutS z lo hi)))
  | _ => False
def mSl (m : MX) (l h : MO) : MX := fun ρ Q E => m ρ (fun r ρ1 => l ρ1 (fun lo ρ2 => h ρ2 (fun hi ρ3 => opd r ρ3 fun d => fSl d lo hi fun x => Q x ρ3) E) E) E
theorem sl_snd {K : PySem.W.Frag} {F H : Hp} {x : V} {d : D} {lo hi : Option Int} {Q : Re → Prop} {Q' : VK} (sf : Same F H) (tx : Top K F H x d) (h : fSl d lo hi Q) (k : ∀ (re : Re) (v : V) (F' H' : Hp), New F F' H H' → NewR K F' H H' v re → Q re → Q' v H') :
    (rSlL K x lo hi H Q' ∨ rSlA K x lo hi H Q') ∨ rSlS x lo hi H Q' := by
  unfold fSl at h
  split at h
  · obtain ⟨a, vs, e, hl, l⟩ := tx.lst sf
    refine .inl (.inl ⟨a, vs, e, SqL.of hl, fun p hp => ?_⟩)
    obtain ⟨n, r⟩ := new_lst sf hp (l.cut lo hi)
    exact k _ _ F _ n r h
  · rename_i ds
    obtain ⟨a, vs, e, hl, l⟩ := tx.tup sf
    have rx : Rep K F x (.tup ds) := by
      rcases tx with z | ⟨p, _, o⟩
      · exact z
      · exact (show False from o).elim
    refine .inl (.inr ⟨a, vs, e, hl, fun c => ?_, fun _ p hp => ?_⟩)
    · have ec : cutD ds lo hi = ds := by
        have := l.length
        unfold cutD
        rw [← this, c.1, c.2, List.drop_zero, Nat.sub_zero, this, List.take_length]
      rw [ec] at h
      rw [← e]
      exact k (.va _) _ F H (.refl sf) rx h
    · obtain ⟨n, r⟩ := new_tup sf hp (l.cut lo hi)
      exact k (.va _) _ _ _ n r h
  · rename_i ns
    obtain ⟨a, e, hl⟩ := tx.scr sf
    refine .inl (.inl ⟨a, _, e, hl, fun p hp => ?_⟩)
    have l := (RepL.ints (K := K) (F := F) ns).cut lo hi
    have ec : cutD (ns.map D.int) lo hi = (cutD ns lo hi).map D.int := by
      unfold cutD
      rw [List.length_map, ← List.map_drop, ← List.map_take]
    rw [ec] at l
    obtain ⟨n, r⟩ := new_lst sf hp l
    exact k _ _ F _ n r h
  · exact .inr ⟨_, tx.str, h.1, k (.va _) _ F H (.refl sf) (.str _) h.2⟩
  · exact h.elim
theorem q_sl {lo hi : Option Expr} {ml mh : MO} {p2 : Pos} (ha : QX X W a ma) (hl : QO X W lo ml) (hh : QO X W hi mh) : QX X W (.Subscript a (.Slice lo hi none p2) pos) (mSl ma ml mh) := (pe_slice ((sl_list.or sl_tupA).or sl_str) ha hl hh).imp fun σ H Q' ⟨G, F, ρ, Q, E, ok, hm, hp, he⟩ =>
  tX.mk ok hm (fun r v ρ1 F1 H1 ok1 g1 re1 rf1 h1 => ⟨G, F1, ρ1, _, E, ok1, h1, fun lo ρ2 F2 H2 ok2 g2 h2 => ⟨G, F2, ρ2, _, E, ok2, h2, fun hi ρ3 F3 H3 ok3 g3 h3 => by
    obtain ⟨d, td, h4⟩ := opd_top ok3 (re1.mono (g2.trans g3)) h3
    exact sl_snd ok3.sf td h4 fun re w F4 H4 n x q => (hp.after ((g1.trans g2).trans g3)).new ok3 n x q, he.after (g1.trans g2)⟩, he.after g1⟩) he

/-! ### calls of built-ins -/
abbrev Tops (K : PySem.W.Frag) (F H : Hp) : List V → List D → Prop := Paired fun v d => Top K F H v d
def opds : List Re → Nv → (List D → Prop) → Prop
  | [], _, k => k []
  | r :: rs, ρ, k => opd r ρ fun d => opds rs ρ fun ds => k (d :: ds)
theorem opds_top {K : PySem.W.Frag} {G : Gm} {Ha F : Hp} {σ : St} {H : Hp} {ρ : Nv} (ok : Ok K G F σ H ρ) : ∀ {vs : List V} {rs : List Re} {k : List D → Prop}, ReOks K G Ha F σ H ρ vs rs → opds rs ρ k → ∃ ds, Tops K F H vs ds ∧ k ds
  | _, [], k, .nil, h => ⟨[], .nil, h⟩
  | _, r :: rs, k, .cons x l, h => by
    obtain ⟨d, t, h1⟩ := opd_top ok x.1 h
    obtain ⟨ds, ts, h2⟩ := opds_top ok l h1
    exact ⟨d :: ds, .cons t ts, h2⟩
def CallS (K : PySem.W.Frag) (f : List D → (Re → Prop) → Prop) (r : List V → Hp → VK → Prop) : Prop := ∀ (F H : Hp) (xs : List V) (ds : List D) (Q : Re → Prop) (Q' : VK), Same F H → Tops K F H xs ds → f ds Q →
  (∀ (re : Re) (v : V) (F' H' : Hp), New F F' H H' → NewR K F' H H' v re → Q re → Q' v H') → r xs H Q'
def mCallB (f : List D → (Re → Prop) → Prop) (m : MA) : MX := fun ρ Q E => m ρ (fun rs ρ1 => opds rs ρ1 fun ds => f ds fun r => Q r ρ1) E
theorem tX_callB {K : PySem.W.Frag} {f : List D → (Re → Prop) → Prop} {r : List V → Hp → VK → Prop} (hs : CallS K f r) {σ : St} {H : Hp} {Q' : VK} (h : tX K W (mCallB f mas) σ H Q') : tCB r (tA K W mas) σ H Q' := by
  obtain ⟨G, F, ρ, Q, E, ok, hm, hp, he⟩ := h
  refine ⟨G, F, ρ, _, E, ok, hm, fun rs vs ρ1 F1 H1 ok1 g1 res h1 => ?_, he⟩
  obtain ⟨ds, ts, h2⟩ := opds_top ok1 res h1
  exact hs F1 H1 vs ds _ Q' ok1.sf ts h2 fun re w F3 H3 n x q => (hp.after g1).new ok1 n x q
theorem q_callB {x : Str} {p : Pos} {id : String} {f : List D → (Re → Prop) → Prop} {r : List V → Hp → VK → Prop} (hc : CallR X (.builtin id) r) (hs : CallS X.K f r) (hm : X.mg x = none) (ha : QA X W (e :: es) mas) (hv : bootBuiltins x = some (.builtin id) := by decide +kernel) (hg : Gl X x := by rfl) (hn : x ≠ "__name__" := by decide) (hdb : (x == ("__debug__" : Str)) = false := by decide)
    (hse : starEach (e :: es) X.env = (false, eval e X.env) :: starEach es X.env := by rfl) (hpl : (backTo pos (starEach es X.env)).any (·.1) = false := by rfl) : QX X W (.Call (.Name x p) (e :: es) [] pos) (mCallB f mas) :=
  (pe_callB hc hg hm hv ha hn hdb hse hpl).imp fun _ _ _ h => tX_callB hs h
theorem q_callTy {x : Str} {p : Pos} {T : String} {f : List D → (Re → Prop) → Prop} {r : List V → Hp → VK → Prop} (hc : CallR X (.type T) r) (hs : CallS X.K f r) (hm : X.mg x = none) (ha : QA X W (e :: es) mas) (hv : bootBuiltins x = some (.type T) := by decide +kernel) (hg : Gl X x := by rfl) (hn : x ≠ "__name__" := by decide) (hdb : (x == ("__debug__" : Str)) = false := by decide)
    (hse : starEach (e :: es) X.env = (false, eval e X.env) :: starEach es X.env := by rfl) (hpl : (backTo pos (starEach es X.env)).any (·.1) = false := by rfl) : QX X W (.Call (.Name x p) (e :: es) [] pos) (mCallB f mas) :=
  (pe_callTy hc hg hm hv ha hn hdb hse hpl).imp fun _ _ _ h => tX_callB hs h
theorem Tops.one {K : PySem.W.Frag} {F H : Hp} {xs : List V} {d : D} (h : Tops K F H xs [d]) : ∃ x, xs = [x] ∧ Top K F H x d := by
  cases h with
  | cons a b => cases b; exact ⟨_, rfl, a⟩
theorem Tops.two {K : PySem.W.Frag} {F H : Hp} {xs : List V} {d e : D} (h : Tops K F H xs [d, e]) : ∃ x y, xs = [x, y] ∧ Top K F H x d ∧ Top K F H y e := by
  cases h with
  | cons a b =>
    cases b with
    | cons b c => cases c; exact ⟨_, _, rfl, a, b⟩
def fLen : List D → (Re → Prop) → Prop := fun ds Q => match ds with
  | [.lst xs] => Q (.va (.int xs.length))
  | [.tup xs] => Q (.va (.int xs.length))
  | [.scr xs] => Q (.va (.int xs.length))
  | [.str z] => z.length ≤ sizeLine ∧ Q (.va (.int z.length))
  | _ => False
theorem len_snd {K : PySem.W.Frag} : CallS K fLen (fun xs H Q => (∃ p ys, xs = [.ref p] ∧ (SqL K H p ys ∨ SqT K H p ys) ∧ Q (.int (ys.length : Nat)) H) ∨ (∃ z : Str, xs = [.str z] ∧ z.length ≤ sizeLine ∧ Q (.int (z.length : Nat)) H)) := by
  intro F H xs ds Q Q' sf ts h k
  unfold fLen at h
  split at h
  · obtain ⟨x, rfl, tx⟩ := ts.one
    obtain ⟨a, vs, e, hl, l⟩ := tx.lst sf
    exact .inl ⟨a, vs, by rw [e], .inl (SqL.of hl), by rw [l.length]; exact k (.va _) _ F H (.refl sf) (.int _) h⟩
  · obtain ⟨x, rfl, tx⟩ := ts.one
    obtain ⟨a, vs, e, hl, l⟩ := tx.tup sf
    exact .inl ⟨a, vs, by rw [e], .inr hl, by rw [l.length]; exact k (.va _) _ F H (.refl sf) (.int _) h⟩
  · obtain ⟨x, rfl, tx⟩ := ts.one
    obtain ⟨a, e, hl⟩ := tx.scr sf
    exact .inl ⟨a, _, by rw [e], .inl hl, by rw [List.length_map]; exact k (.va _) _ F H (.refl sf) (.int _) h⟩
  · obtain ⟨x, rfl, tx⟩ := ts.one
    exact .inr ⟨_, by rw [tx.str], h.1, k (.va _) _ F H (.refl sf) (.int _) h.2⟩
  · exact h.elim
theorem q_len {p : Pos} (hm : X.mg "len" = none) (ha : QA X W [e] mas) (hg : Gl X "len" := by rfl) (hse : starEach [e] X.env = (false, eval e X.env) :: starEach [] X.env := by rfl) : QX X W (.Call (.Name "len" p) [e] [] pos) (mCallB fLen mas) := q_callB (call_len_seq.or call_len_str) len_snd hm ha (hg := hg) (hse := hse)
def fAbs : List D → (Re → Prop) → Prop := fun ds Q => match ds with
  | [.int i] => Q (.va (.int (i.natAbs : Nat)))
  | _ => False
theorem abs_snd {K : PySem.W.Frag} : CallS K fAbs (fun xs H Q => ∃ i, xs = [.int i] ∧ Q (.int (if i < 0 then -i else i)) H) := by
  intro F H xs ds Q Q' sf ts h k
  unfold fAbs at h
  split at h
  · rename_i i
    obtain ⟨x, rfl, tx⟩ := ts.one
    refine ⟨i, by rw [tx.int], ?_⟩
    have e : (if i < 0 then -i else i) = (i.natAbs : Int) := by split <;> omega
    rw [e]
    exact k (.va _) _ F H (.refl sf) (.int _) h
  · exact h.elim
theorem q_abs {p : Pos} (hm : X.mg "abs" = none) (ha : QA X W [e] mas) (hg : Gl X "abs" := by rfl) (hse : starEach [e] X.env = (false, eval e X.env) :: starEach [] X.env := by rfl) : QX X W (.Call (.Name "abs" p) [e] [] pos) (mCallB fAbs mas) := q_callB call_abs abs_snd hm ha (hg := hg) (hse := hse)
def f2I (g : Int → Int → Int) : List D → (Re → Prop) → Prop := fun ds Q => match ds with
  | [.int i, .int j] => Q (.va (.int (g i j)))
  | _ => False
theorem f2I_snd {K : PySem.W.Frag} {g g' : Int → Int → Int} (hg : ∀ i j, g' i j = g i j) : CallS K (f2I g) (fun xs H Q => ∃ i j, xs = [.int i, .int j] ∧ Q (.int (g' i j)) H) := by
  intro F H xs ds Q Q' sf ts h k
  unfold f2I at h
  split at h
  · rename_i i j
    obtain ⟨x, y, rfl, tx, ty⟩ := ts.two
    refine ⟨i, j, by rw [tx.int, ty.int], ?_⟩
    rw [hg]
    exact k (.va _) _ F H (.refl sf) (.int _) h
  · exact h.elim
theorem q_max2 {e2 : Expr} {p : Pos} (hc : X.calm = true) (hm : X.mg "max" = none) (ha : QA X W [e, e2] mas) (hg : Gl X "max" := by rfl) (hse : starEach [e, e2] X.env = (false, eval e X.env) :: starEach [e2] X.env := by rfl) (hpl : (backTo pos (starEach [e2] X.env)).any (·.1) = false := by rfl) : QX X W (.Call (.Name "max" p) [e, e2] [] pos) (mCallB (f2I max) mas) :=
  q_callB (call_max2 hc) (f2I_snd fun i j => by show (if j > i then j else i) = max i j; split <;> omega) hm ha (hg := hg) (hse := hse) (hpl := hpl)
theorem q_min2 {e2 : Expr} {p : Pos} (hc : X.calm = true) (hm : X.mg "min" = none) (ha : QA X W [e, e2] mas) (hg : Gl X "min" := by rfl) (hse : starEach [e, e2] X.env = (false, eval e X.env) :: starEach [e2] X.env := by rfl) (hpl : (backTo pos (starEach [e2] X.env)).any (·.1) = false := by rfl) : QX X W (.Call (.Name "min" p) [e, e2] [] pos) (mCallB (f2I min) mas) :=
  q_callB (call_min2 hc) (f2I_snd fun i j => by show (if j < i then j else i) = min i j; split <;> omega) hm ha (hg := hg) (hse := hse) (hpl := hpl)
/-- lists of ints, of truths -/
def toInts : List D → Option (List Int)
  | [] => some []
  | .int i :: r => (toInts r).map (i :: ·)
  | _ => none
theorem toInts_map (ns : List Int) : toInts (ns.map .int) = some ns := by
  induction ns with
  | nil => rfl
  | cons n r ih => simp only [List.map_cons, toInts, ih, Option.map_some]
theorem toInts_eq : ∀ {ds : List D} {ns : List Int}, toInts ds = some ns → ds = ns.map .int
  | [], ns, h => by cases h; rfl
  | .int i :: r, ns, h => by
    simp only [toInts, Option.map_eq_some_iff] at h
    obtain ⟨m, h1, rfl⟩ := h
    rw [toInts_eq h1]; rfl
  | .non :: _, _, h => by cases h
  | .bl _ :: _, _, h => by cases h
  | .str _ :: _, _, h => by cases h
  | .ty _ :: _, _, h => by cases h
  | .obj _ :: _, _, h => by cases h
  | .exc _ :: _, _, h => by cases h
  | .tup _ :: _, _, h => by cases h
  | .lst _ :: _, _, h => by cases h
  | .dic _ _ :: _, _, h => by cases h
  | .scr _ :: _, _, h => by cases h
def toBls : List D → Option (List Bool)
  | [] => some []
  | .bl i :: r => (toBls r).map (i :: ·)
  | _ => none
theorem toBls_map (ns : List Bool) : toBls (ns.map .bl) = some ns := by
  induction ns with
  | nil => rfl
  | cons n r ih => simp only [List.map_cons, toBls, ih, Option.map_some]
theorem toBls_eq : ∀ {ds : List D} {ns : List Bool}, toBls ds = some ns → ds = ns.map .bl
  | [], ns, h => by cases h; rfl
  | .bl i :: r, ns, h => by
    simp only [toBls, Option.map_eq_some_iff] at h
    obtain ⟨m, h1, rfl⟩ := h
    rw [toBls_eq h1]; rfl
  | .non :: _, _, h => by cases h
  | .int _ :: _, _, h => by cases h
  | .str _ :: _, _, h => by cases h
  | .ty _ :: _, _, h => by cases h
  | .obj _ :: _, _, h => by cases h
  | .exc _ :: _, _, h => by cases h
  | .tup _ :: _, _, h => by cases h
  | .lst _ :: _, _, h => by cases h
  | .dic _ _ :: _, _, h => by cases h
  | .scr _ :: _, _, h => by cases h
theorem RepL.ofInts {K : PySem.W.Frag} {F : Hp} : ∀ {vs : List V} {ns : List Int}, RepL K F vs (ns.map D.int) → vs = ns.map V.int
  | _, [], .nil => rfl
  | _, _ :: _, .cons r l => by cases r; rw [RepL.ofInts l]; rfl
theorem RepL.ofBls {K : PySem.W.Frag} {F : Hp} : ∀ {vs : List V} {ns : List Bool}, RepL K F vs (ns.map D.bl) → vs = ns.map V.bl
  | _, [], .nil => rfl
  | _, _ :: _, .cons r l => by cases r; rw [RepL.ofBls l]; rfl
/-- a list of ints: (ns, then what is made of it) -/
def onInts (ds : List D) (k : List Int → Prop) : Prop := match ds with
  | [.lst xs] => (match toInts xs with
    | some ns => k ns
    | none => False)
  | [.scr ns] => k ns
  | _ => False
theorem onInts_ok {K : PySem.W.Frag} {F H : Hp} {xs : List V} {ds : List D} {k : List Int → Prop} (sf : Same F H) (ts : Tops K F H xs ds) (h : onInts ds k) : ∃ a ns, xs = [.ref a] ∧ SqL K H a (ns.map V.int) ∧ k ns := by
  unfold onInts at h
  split at h
  · obtain ⟨x, rfl, tx⟩ := ts.one
    obtain ⟨a, vs, e, hl, l⟩ := tx.lst sf
    split at h
    · rename_i ns e2
      rw [toInts_eq e2] at l
      exact ⟨a, ns, by rw [e], by rw [← l.ofInts]; exact SqL.of hl, h⟩
    · exact h.elim
  · obtain ⟨x, rfl, tx⟩ := ts.one
    obtain ⟨a, e, hl⟩ := tx.scr sf
    exact ⟨a, _, by rw [e], hl, h⟩
  · exact h.elim
def fSum : List D → (Re → Prop) → Prop := fun ds Q => onInts ds fun ns => Q (.va (.int ns.sum))
theorem q_sum {p : Pos} (hc : X.calm = true) (hm : X.mg "sum" = none) (ha : QA X W [e] mas) (hg : Gl X "sum" := by rfl) (hse : starEach [e] X.env = (false, eval e X.env) :: starEach [] X.env := by rfl) : QX X W (.Call (.Name "sum" p) [e] [] pos) (mCallB fSum mas) :=
  q_callB (cr_sum hc) (fun F H xs ds Q Q' sf ts h k => by
    obtain ⟨a, ns, e, hl, q⟩ := onInts_ok sf ts h
    exact ⟨a, ns, e, hl, k (.va _) _ F H (.refl sf) (.int _) q⟩) hm ha (hg := hg) (hse := hse)
def fMaxL : List D → (Re → Prop) → Prop := fun ds Q => onInts ds fun ns => 0 < ns.length ∧ ∀ m, m ∈ ns → (∀ y, y ∈ ns → y ≤ m) → Q (.va (.int m))
theorem q_maxL {p : Pos} (hc : X.calm = true) (hm : X.mg "max" = none) (ha : QA X W [e] mas) (hg : Gl X "max" := by rfl) (hse : starEach [e] X.env = (false, eval e X.env) :: starEach [] X.env := by rfl) : QX X W (.Call (.Name "max" p) [e] [] pos) (mCallB fMaxL mas) :=
  q_callB (cr_max hc) (fun F H xs ds Q Q' sf ts h k => by
    obtain ⟨a, ns, e, hl, h1, q⟩ := onInts_ok sf ts h
    exact ⟨a, ns, e, hl, h1, fun m m1 m2 => k (.va _) _ F H (.refl sf) (.int _) (q m m1 m2)⟩) hm ha (hg := hg) (hse := hse)
def fMinL : List D → (Re → Prop) → Prop := fun ds Q => onInts ds fun ns => 0 < ns.length ∧ ∀ m, m ∈ ns → (∀ y, y ∈ ns → m ≤ y) → Q (.va (.int m))
theorem q_minL {p : Pos} (hc : X.calm = true) (hm : X.mg "min" = none) (ha : QA X W [e] mas) (hg : Gl X "min" := by rfl) (hse : starEach [e] X.env = (false, eval e X.env) :: starEach [] X.env := by rfl) : QX X W (.Call (.Name "min" p) [e] [] pos) (mCallB fMinL mas) :=
  q_callB (cr_min hc) (fun F H xs ds Q Q' sf ts h k => by
    obtain ⟨a, ns, e, hl, h1, q⟩ := onInts_ok sf ts h
    exact ⟨a, ns, e, hl, h1, fun m m1 m2 => k (.va _) _ F H (.refl sf) (.int _) (q m m1 m2)⟩) hm ha (hg := hg) (hse := hse)
def onBls (ds : List D) (k : List Bool → Prop) : Prop := match ds with
  | [.lst xs] => (match toBls xs with
    | some ns => k ns
    | none => False)
  | _ => False
theorem onBls_ok {K : PySem.W.Frag} {F H : Hp} {xs : List V} {ds : List D} {k : List Bool → Prop} (sf : Same F H) (ts : Tops K F H xs ds) (h : onBls ds k) : ∃ a ns, xs = [.ref a] ∧ SqL K H a (ns.map V.bl) ∧ k ns := by
  unfold onBls at h
  split at h
  · obtain ⟨x, rfl, tx⟩ := ts.one
    obtain ⟨a, vs, e, hl, l⟩ := tx.lst sf
    split at h
    · rename_i ns e2
      rw [toBls_eq e2] at l
      exact ⟨a, ns, by rw [e], by rw [← l.ofBls]; exact SqL.of hl, h⟩
    · exact h.elim
  · exact h.elim
def fAll : List D → (Re → Prop) → Prop := fun ds Q => onBls ds fun bs => Q (.va (.bl (bs.all id)))
theorem q_all {p : Pos} (hc : X.calm = true) (hm : X.mg "all" = none) (ha : QA X W [e] mas) (hg : Gl X "all" := by rfl) (hse : starEach [e] X.env = (false, eval e X.env) :: starEach [] X.env := by rfl) : QX X W (.Call (.Name "all" p) [e] [] pos) (mCallB fAll mas) :=
  q_callB (cr_all hc) (fun F H xs ds Q Q' sf ts h k => by
    obtain ⟨a, ns, e, hl, q⟩ := onBls_ok sf ts h
    exact ⟨a, ns, e, hl, k (.va _) _ F H (.refl sf) (.bl _) q⟩) hm ha (hg := hg) (hse := hse)
def fAny : List D → (Re → Prop) → Prop := fun ds Q => onBls ds fun bs => Q (.va (.bl (bs.any id)))
theorem q_any {p : Pos} (hc : X.calm = true) (hm : X.mg "any" = none) (ha : QA X W [e] mas) (hg : Gl X "any" := by rfl) (hse : starEach [e] X.env = (false, eval e X.env) :: starEach [] X.env := by rfl) : QX X W (.Call (.Name "any" p) [e] [] pos) (mCallB fAny mas) :=
  q_callB (cr_any hc) (fun F H xs ds Q Q' sf ts h k => by
    obtain ⟨a, ns, e, hl, q⟩ := onBls_ok sf ts h
    exact ⟨a, ns, e, hl, k (.va _) _ F H (.refl sf) (.bl _) q⟩) hm ha (hg := hg) (hse := hse)
/-- list(..), tuple(..) -/
def fList : List D → (Re → Prop) → Prop := fun ds Q => match ds with
  | [.lst xs] => Q (.nw (.lst xs))
  | [.tup xs] => Q (.nw (.lst xs))
  | [.scr ns] => Q (.nw (.lst (ns.map .int)))
  | _ => False
theorem q_list {p : Pos} (hm : X.mg "list" = none) (ha : QA X W [e] mas) (hg : Gl X "list" := by rfl) (hse : starEach [e] X.env = (false, eval e X.env) :: starEach [] X.env := by rfl) : QX X W (.Call (.Name "list" p) [e] [] pos) (mCallB fList mas) :=
  q_callTy call_list_of (fun F H xs ds Q Q' sf ts h k => by
    unfold fList at h
    split at h
    · obtain ⟨x, rfl, tx⟩ := ts.one
      obtain ⟨a, vs, e, hl, l⟩ := tx.lst sf
      refine ⟨a, vs, by rw [e], .inl (SqL.of hl), fun q hq => ?_⟩
      obtain ⟨n, r⟩ := new_lst sf hq l
      exact k _ _ F _ n r h
    · obtain ⟨x, rfl, tx⟩ := ts.one
      obtain ⟨a, vs, e, hl, l⟩ := tx.tup sf
      refine ⟨a, vs, by rw [e], .inr hl, fun q hq => ?_⟩
      obtain ⟨n, r⟩ := new_lst sf hq l
      exact k _ _ F _ n r h
    · obtain ⟨x, rfl, tx⟩ := ts.one
      obtain ⟨a, e, hl⟩ := tx.scr sf
      refine ⟨a, _, by rw [e], .inl hl, fun q hq => ?_⟩
      obtain ⟨n, r⟩ := new_lst sf hq (.ints _)
      exact k _ _ F _ n r h
    · exact h.elim) hm ha (hg := hg) (hse := hse)
def fTuple : List D → (Re → Prop) → Prop := fun ds Q => match ds with
  | [.lst xs] => Q (.va (.tup xs))
  | [.tup xs] => Q (.va (.tup xs))
  | [.scr ns] => Q (.va (.tup (ns.map .int)))
  | _ => False
theorem q_tuple {p : Pos} (hm : X.mg "tuple" = none) (ha : QA X W [e] mas) (hg : Gl X "tuple" := by rfl) (hse : starEach [e] X.env = (false, eval e X.env) :: starEach [] X.env := by rfl) : QX X W (.Call (.Name "tuple" p) [e] [] pos) (mCallB fTuple mas) :=
  q_callTy call_tuple_of (fun F H xs ds Q Q' sf ts h k => by
    unfold fTuple at h
    split at h
    · obtain ⟨x, rfl, tx⟩ := ts.one
      obtain ⟨a, vs, e, hl, l⟩ := tx.lst sf
      refine ⟨a, vs, by rw [e], .inl ⟨SqL.of hl, fun q hq => ?_⟩⟩
      obtain ⟨n, r⟩ := new_tup sf hq l
      exact k (.va _) _ _ _ n r h
    · rename_i xs
      obtain ⟨x, rfl, tx⟩ := ts.one
      obtain ⟨a, vs, e, hl, l⟩ := tx.tup sf
      have rx : Rep X.K F x (.tup xs) := by
        rcases tx with z | ⟨p, _, o⟩
        · exact z
        · exact (show False from o).elim
      rw [e] at rx
      exact ⟨a, vs, by rw [e], .inr ⟨hl, k (.va _) _ F H (.refl sf) rx h⟩⟩
    · obtain ⟨x, rfl, tx⟩ := ts.one
      obtain ⟨a, e, hl⟩ := tx.scr sf
      refine ⟨a, _, by rw [e], .inl ⟨hl, fun q hq => ?_⟩⟩
      obtain ⟨n, r⟩ := new_tup sf hq (.ints _)
      exact k (.va _) _ _ _ n r h
    · exact h.elim) hm ha (hg := hg) (hse := hse)
end
end WR

set_option Elab.async false
set_option linter.all false
set_option maxRecDepth 100000
set_option maxHeartbeats 4000000
set_option autoImplicit false
/-! Defs: promises over plain data, calls. -/
namespace WR
open PySem L2

/-- a def that changes none of its arguments -/
abbrev P0 := List D → (Re → Prop) → (Xc → Prop) → Prop
/-- a def that changes the list (dict) at one place of its arguments; the others, then that one's content -/
abbrev P1 := List D → D → (Re → D → Prop) → (Xc → D → Prop) → Prop
def sp0 (K : PySem.W.Frag) (p : P0) : Sp := fun vs H Q E => ∃ (F : Hp) (ds : List D) (Qp : Re → Prop) (Ep : Xc → Prop), Same F H ∧ RepL K F vs ds ∧ p ds Qp Ep ∧
  (∀ (r : Re) (v : V) (F' H' : Hp), New F F' H H' → NewR K F' H H' v r → Qp r → Q v H') ∧ (∀ (x : Xc) (da : Option Addr) (F' H' : Hp), New F F' H H' → XOk K F' H' x.2 da → Ep x → E (.ref x.1) da H')
structure New1 (q : Addr) (F F' H H' : Hp) : Prop where
  ff : Same F F'
  hh : ∀ b o, H b = some o → b ≠ q → H' b = some o
  fh : Same F' H'
  nf : ∀ b o, F' b = some o → F b = some o ∨ H b = none
def sp1 (K : PySem.W.Frag) (j : Nat) (p : P1) : Sp := fun vs H Q E => ∃ (F : Hp) (ds : List D) (q : Addr) (o : D) (Qp : Re → D → Prop) (Ep : Xc → D → Prop), Same F H ∧ vs[j]? = some (.ref q) ∧ F q = none ∧ Owned K F H q o ∧ RepL K F (vs.eraseIdx j) ds ∧ p ds o Qp Ep ∧
  (∀ (r : Re) (o' : D) (v : V) (F' H' : Hp), New1 q F F' H H' → Owned K F' H' q o' → NewR K F' H H' v r → Qp r o' → Q v H') ∧
  (∀ (x : Xc) (o' : D) (da : Option Addr) (F' H' : Hp), New1 q F F' H H' → Owned K F' H' q o' → XOk K F' H' x.2 da → Ep x o' → E (.ref x.1) da H')

/-! ### a def's body -/
def retR (r : Re) (ρ : Nv) (k : Re → Prop) : Prop := match r with
  | .va d => k (.va d)
  | .nw d => k (.nw d)
  | .br i => match ρ[i]? with
    | some (some (.lo d)) => k (.nw d)
    | some (some (.fz d)) => k (.va d)
    | _ => False
theorem retR_ok {K : PySem.W.Frag} {G : Gm} {F : Hp} {σ : St} {H : Hp} {ρ : Nv} {v : V} {r : Re} {k : Re → Prop} (ok : Ok K G F σ H ρ) (re : ReOk K G F σ H ρ v r) (h : retR r ρ k) : ∃ r', NewR K F G.H0 H v r' ∧ k r' := by
  cases r with
  | va d => exact ⟨.va d, re, h⟩
  | nw d => obtain ⟨p, e, f, h0, o, _⟩ := re; exact ⟨.nw d, ⟨p, e, f, h0, o⟩, h⟩
  | br i =>
    obtain ⟨s, e1, e2⟩ := re
    simp only [retR, e1] at h
    obtain ⟨v', e3, x⟩ := ok.sl i s e1
    rw [e2] at e3; cases e3
    cases s with
    | fz d => exact ⟨.va d, x, h⟩
    | ow d => exact h.elim
    | lo d => obtain ⟨p, e, f, h0, o⟩ := x; exact ⟨.nw d, ⟨p, e, f, h0, o⟩, h⟩
def in0 (N : List Str) (ds : List D) : Nv := ds.map (fun d => some (.fz d)) ++ List.replicate (N.length - ds.length) none
def ends0 (Q : Re → Prop) (E : Xc → Prop) : PEnds := { nx := fun _ => Q (.va .non), rt := fun r ρ => retR r ρ Q, bk := fun _ => False, ct := fun _ => False, ex := fun x _ => E x }
theorem start_get {N : List Str} {vs : List V} {i : Nat} {v : V} (h : vs[i]? = some v) : (L2.start N vs)[i]? = some (some v) := by
  obtain ⟨hi, e⟩ := List.getElem?_eq_some_iff.mp h
  unfold L2.start
  rw [List.getElem?_append_left (by simpa using hi), List.getElem?_map, h]; rfl
theorem rep_none {α : Type} {n i : Nat} {s : α} : (List.replicate n (none : Option α))[i]? ≠ some (some s) := fun h => by
  rw [List.getElem?_replicate] at h
  split at h
  · cases h
  · cases h
theorem in0_get {N : List Str} {ds : List D} {i : Nat} {s : Sl} (h : (in0 N ds)[i]? = some (some s)) : ∃ d, ds[i]? = some d ∧ s = .fz d := by
  unfold in0 at h
  by_cases hi : i < ds.length
  · rw [List.getElem?_append_left (by simpa using hi), List.getElem?_map] at h
    cases e : ds[i]? with
    | none => rw [e] at h; cases h
    | some d => rw [e] at h; cases h; exact ⟨d, rfl, rfl⟩
  · rw [List.getElem?_append_right (by simpa using hi)] at h
    exact absurd h rep_none
theorem ok_in0 {K : PySem.W.Frag} {F H : Hp} {vs : List V} {ds : List D} {N : List Str} (sf : Same F H) (l : RepL K F vs ds) : Ok K ⟨H, F, []⟩ F (L2.start N vs) H (in0 N ds) where
  sf := sf
  frame := fun b o e _ => e
  fresh := fun b o e => .inl e
  f0 := .refl _
  len := by unfold in0 L2.start; simp [l.length]
  sl := fun i s e => by
    obtain ⟨d, e1, rfl⟩ := in0_get e
    obtain ⟨v, e2, r⟩ := l.get e1
    exact ⟨v, start_get e2, r⟩
  dist := fun i j p s t e1 e2 o1 => by
    obtain ⟨d, _, rfl⟩ := in0_get e1
    cases o1
  fx := fun q hq => by cases hq
section
variable {P : Program} {w : World} {K : PySem.W.Frag} {mg : Str → Option Value} {base : Heap} {x qual : Str} {params : Arguments} {body : List Stmt} {scope : Scope} {dvs : List V} {kws : List (Str × V)} {f : Addr} {fd : FuncData} {N ps : List Str} {k : Nat}
/-- the wish of a def's body about exceptions -/
abbrev wE (E : XK) : WX := fun cls d _ H => E cls d H
theorem ok0 {p : P0} {m : MS} (F : FunD K x qual params body scope dvs kws f fd) (S : FnScope N ps scope) (len : ∀ ds Q E, p ds Q E → ds.length = ps.length)
    (hq : ∀ (cdv : Value) (A : Around) (outer : List Env) (s : Shared) (H : Hp) (E : XK), Room k (A.deeper (PyProof.Rows.envOfC qual scope s.heap.objs.size f cdv)) → QSs (cxOf (L2.CX P w) P w K mg base N qual scope f cdv A outer s H E) (wE E) body m)
    (hm : ∀ ds Q E, p ds Q E → m (ends0 Q E) (in0 N ds)) : FnOk P w K mg base (L2.CX P w) (k + 1) f fd ps (sp0 K p) := by
  refine FunD.ok F S (fun vs H Q E ⟨F, ds, _, _, _, l, h, _, _⟩ => by rw [l.length]; exact len _ _ _ h) fun cdv A outer s H vs Q E hr h => ⟨_, hq cdv A outer s H E hr, ?_⟩
  obtain ⟨F, ds, Qp, Ep, sf, l, hp, kq, ke⟩ := h
  have nw : ∀ {σ' : St} {F' H' : Hp} {ρ' : Nv}, Ok K ⟨H, F, []⟩ F' σ' H' ρ' → New F F' H H' := fun ok' => ⟨ok'.f0, fun b o e => ok'.frame b o e (by simp), ok'.sf, ok'.fresh⟩
  refine ⟨⟨H, F, []⟩, F, in0 N ds, ends0 Qp Ep, ok_in0 sf l, hm _ _ _ hp, ?_⟩
  refine ⟨fun σ' F' H' ρ' ok' s q => kq (.va .non) .non F' H' (nw ok') .non q, fun r v σ' F' H' ρ' ok' s re q => ?_, fun _ _ _ _ _ _ q => q, fun _ _ _ _ _ _ q => q, fun x σ' F' H' ρ' da ok' s xo q => ke x da F' H' (nw ok') xo q⟩
  obtain ⟨r', x', q'⟩ := retR_ok ok' re q
  exact kq r' v F' H' (nw ok') x' q'
/-- .. with an owned argument at place j -/
def in1 (N : List Str) (j : Nat) (ds : List D) (o : D) : Nv := ((ds.map fun d => some (Sl.fz d)).insertIdx j (some (.ow o))) ++ List.replicate (N.length - (ds.length + 1)) none
def ownD (ρ : Nv) (j : Nat) (k : D → Prop) : Prop := match ρ[j]? with
  | some (some (.ow d)) => k d
  | _ => False
def ends1 (j : Nat) (Q : Re → D → Prop) (E : Xc → D → Prop) : PEnds := { nx := fun ρ => ownD ρ j fun o => Q (.va .non) o, rt := fun r ρ => ownD ρ j fun o => retR r ρ fun r' => Q r' o, bk := fun _ => False, ct := fun _ => False, ex := fun x ρ => ownD ρ j fun o => E x o }
theorem ownD_ok {ρ : Nv} {j : Nat} {k : D → Prop} (h : ownD ρ j k) : ∃ d, ρ[j]? = some (some (.ow d)) ∧ k d := by
  unfold ownD at h
  split at h
  · exact ⟨_, by assumption, h⟩
  · exact h.elim
end
theorem in1_get {N : List Str} {j : Nat} {ds : List D} {o : D} (hj : j ≤ ds.length) {i : Nat} {s : Sl} (h : (in1 N j ds o)[i]? = some (some s)) : (i = j ∧ s = .ow o) ∨ (i < j ∧ ∃ d, ds[i]? = some d ∧ s = .fz d) ∨ (j < i ∧ ∃ d, ds[i - 1]? = some d ∧ s = .fz d) := by
  unfold in1 at h
  have hl : ((ds.map fun d => some (Sl.fz d)).insertIdx j (some (Sl.ow o))).length = ds.length + 1 := by
    rw [List.length_insertIdx_of_le_length (by simpa using hj)]; simp
  by_cases hi : i < ds.length + 1
  · rw [List.getElem?_append_left (by rw [hl]; exact hi), List.getElem?_insertIdx] at h
    split at h
    · rename_i c
      rw [List.getElem?_map] at h
      cases e : ds[i]? with
      | none => rw [e] at h; cases h
      | some d => rw [e] at h; cases h; exact .inr (.inl ⟨c, d, rfl, rfl⟩)
    · split at h
      · rename_i c1 c2
        split at h
        · cases h; exact .inl ⟨c2, rfl⟩
        · cases h
      · rename_i c1 c2
        rw [List.getElem?_map] at h
        cases e : ds[i - 1]? with
        | none => rw [e] at h; cases h
        | some d => rw [e] at h; cases h; exact .inr (.inr ⟨by omega, d, rfl, rfl⟩)
  · rw [List.getElem?_append_right (by rw [hl]; omega)] at h
    exact absurd h rep_none
theorem in1_at {N : List Str} {j : Nat} {ds : List D} {o : D} (hj : j ≤ ds.length) : (in1 N j ds o)[j]? = some (some (.ow o)) := by
  unfold in1
  rw [List.getElem?_append_left (by rw [List.length_insertIdx_of_le_length (by simpa using hj)]; simp; omega), List.getElem?_insertIdx, if_neg (Nat.lt_irrefl _), if_pos rfl, if_pos (by simpa using hj)]
theorem ok_in1 {K : PySem.W.Frag} {F H : Hp} {vs : List V} {ds : List D} {N : List Str} {j : Nat} {q : Addr} {o : D} (sf : Same F H) (hv : vs[j]? = some (.ref q)) (fq : F q = none) (ow : Owned K F H q o) (l : RepL K F (vs.eraseIdx j) ds) : Ok K ⟨H, F, [(j, q)]⟩ F (L2.start N vs) H (in1 N j ds o) := by
  have hjv : j < vs.length := (List.getElem?_eq_some_iff.mp hv).1
  have hl : ds.length + 1 = vs.length := by
    have := l.length
    rw [List.length_eraseIdx_of_lt hjv] at this
    omega
  have hj : j ≤ ds.length := by omega
  refine ⟨sf, fun b o e _ => e, fun b o e => .inl e, .refl _, ?_, fun i s e => ?_, fun i i' p s t e1 e2 o1 o2 _ _ => ?_, fun z hz => ?_⟩
  · unfold in1 L2.start
    rw [List.length_append, List.length_insertIdx_of_le_length (by simpa using hj)]
    simp [hl]
  · rcases in1_get hj e with ⟨rfl, rfl⟩ | ⟨hi, d, e1, rfl⟩ | ⟨hi, d, e1, rfl⟩
    · exact ⟨_, start_get hv, q, rfl, fq, by simp, ow⟩
    · obtain ⟨v, e2, r⟩ := l.get e1
      rw [List.getElem?_eraseIdx, if_pos hi] at e2
      exact ⟨v, start_get e2, r⟩
    · obtain ⟨v, e2, r⟩ := l.get e1
      rw [List.getElem?_eraseIdx, if_neg (by omega)] at e2
      have e3 : i - 1 + 1 = i := by omega
      rw [e3] at e2
      exact ⟨v, start_get e2, r⟩
  · have f : ∀ {i : Nat} {s : Sl}, (in1 N j ds o)[i]? = some (some s) → s.own = true → i = j := fun {i s} e h => by
      rcases in1_get hj e with ⟨rfl, rfl⟩ | ⟨hi, d, e1, rfl⟩ | ⟨hi, d, e1, rfl⟩
      · rfl
      · cases h
      · cases h
    rw [f e1 o1, f e2 o2]
  · have e : z = (j, q) := by simpa using hz
    subst e
    exact ⟨start_get hv, o, in1_at hj⟩
section
variable {P : Program} {w : World} {K : PySem.W.Frag} {mg : Str → Option Value} {base : Heap} {x qual : Str} {params : Arguments} {body : List Stmt} {scope : Scope} {dvs : List V} {kws : List (Str × V)} {f : Addr} {fd : FuncData} {N ps : List Str} {k : Nat}
theorem ok1 {j : Nat} {p : P1} {m : MS} (F : FunD K x qual params body scope dvs kws f fd) (S : FnScope N ps scope) (len : ∀ ds o Q E, p ds o Q E → ds.length + 1 = ps.length)
    (hq : ∀ (cdv : Value) (A : Around) (outer : List Env) (s : Shared) (H : Hp) (E : XK), Room k (A.deeper (PyProof.Rows.envOfC qual scope s.heap.objs.size f cdv)) → QSs (cxOf (L2.CX P w) P w K mg base N qual scope f cdv A outer s H E) (wE E) body m)
    (hm : ∀ ds o Q E, p ds o Q E → m (ends1 j Q E) (in1 N j ds o)) : FnOk P w K mg base (L2.CX P w) (k + 1) f fd ps (sp1 K j p) := by
  refine FunD.ok F S (fun vs H Q E ⟨F, ds, q, o, _, _, _, hv, _, _, l, h, _, _⟩ => ?_) fun cdv A outer s H vs Q E hr h => ⟨_, hq cdv A outer s H E hr, ?_⟩
  · have hjv : j < vs.length := (List.getElem?_eq_some_iff.mp hv).1
    have := l.length
    rw [List.length_eraseIdx_of_lt hjv] at this
    have := len _ _ _ _ h
    omega
  obtain ⟨F, ds, q, o, Qp, Ep, sf, hv, fq, ow, l, hp, kq, ke⟩ := h
  have nw : ∀ {σ' : St} {F' H' : Hp} {ρ' : Nv}, Ok K ⟨H, F, [(j, q)]⟩ F' σ' H' ρ' → New1 q F F' H H' := fun ok' => ⟨ok'.f0, fun b u e n => ok'.frame b u e (by simpa using n), ok'.sf, ok'.fresh⟩
  have owd : ∀ {σ' : St} {F' H' : Hp} {ρ' : Nv} {o' : D}, Ok K ⟨H, F, [(j, q)]⟩ F' σ' H' ρ' → ρ'[j]? = some (some (.ow o')) → Owned K F' H' q o' := fun {σ' F' H' ρ' o'} ok' e => by
    obtain ⟨e1, _⟩ := ok'.fx (j, q) (by simp)
    obtain ⟨v, e2, p', e3, _, _, o2⟩ := ok'.sl j _ e
    have e1' : σ'[j]? = some (some (V.ref q)) := e1
    rw [e1'] at e2; cases e2; cases e3
    exact o2
  refine ⟨⟨H, F, [(j, q)]⟩, F, in1 N j ds o, ends1 j Qp Ep, ok_in1 sf hv fq ow l, hm _ _ _ _ hp, ?_⟩
  refine ⟨fun σ' F' H' ρ' ok' s z => ?_, fun r v σ' F' H' ρ' ok' s re z => ?_, fun _ _ _ _ _ _ z => z, fun _ _ _ _ _ _ z => z, fun x σ' F' H' ρ' da ok' s xo z => ?_⟩
  · obtain ⟨o', e, z⟩ := ownD_ok z
    exact kq (.va .non) o' .non F' H' (nw ok') (owd ok' e) .non z
  · obtain ⟨o', e, z⟩ := ownD_ok z
    obtain ⟨r', x', z'⟩ := retR_ok ok' re z
    exact kq r' o' v F' H' (nw ok') (owd ok' e) x' z'
  · obtain ⟨o', e, z⟩ := ownD_ok z
    exact ke x o' da F' H' (nw ok') (owd ok' e) xo z
end

/-! ### calls -/
section
variable {X : Cx} {W : WX} {k : Nat} {f : Addr} {fd : FuncData} {ps : List Str} {x : Str} {p pos : Pos} {e : Expr} {es : List Expr} {mas : MA}
def mCall (psp : P0) (m : MA) : MX := fun ρ Q E => m ρ (fun rs ρ1 => frzL rs ρ1 fun ds ρ2 => psp ds (fun r => Q r ρ2) (fun x => E x ρ2)) E
theorem q_call {psp : P0} (Fn : FnOk X.prog X.w X.K X.mg X.base (L2.CX X.prog X.w) k f fd ps (sp0 X.K psp)) (hr : Room k X.A) (hm : X.mg x = some (.ref f)) (hk : PySem.W.keepIn X.K (.ref f) = true) (hb : Binds X.K fd ps []) (tk : Takes X W)
    (ha : QA X W (e :: es) mas) (hg : Gl X x := by rfl) (hdb : (x == ("__debug__" : Str)) = false := by decide) (he : starEach (e :: es) X.env = (false, eval e X.env) :: starEach es X.env := by rfl) (hpl : (backTo pos (starEach es X.env)).any (·.1) = false := by rfl) :
    QX X W (.Call (.Name x p) (e :: es) [] pos) (mCall psp mas) := (pe_callS Fn hr hg hm hk hb (fun σ => passAt tk σ) ha hdb he hpl).imp fun σ H Q' ⟨G, F, ρ, Q, E, ok, hm, hp, he⟩ =>
  ⟨G, F, ρ, _, E, ok, hm, fun rs vs ρ1 F1 H1 ok1 g1 res h1 => by
    obtain ⟨ds, F2, ρ2, ok2, g2, s2, rl, h2⟩ := frzL_ok ok1 g1 (Paired.mapP res fun _ _ y => ⟨y.1.w, y.2⟩) h1
    refine ⟨F2, ds, _, _, ok2.sf, rl, h2, fun r v F3 H3 n x q => (hp.after g2).new ok2 n x q, fun x da F3 H3 n xo q => ?_⟩
    exact he x ρ2 F3 H3 da (ok2.grow n) (g2.trans (.new n)) xo q, he⟩
/-- .. where the j-th argument is a slot's own list, which is changed -/
def frzO (j : Nat) (rs : List Re) (ρ : Nv) (k : List D → Nat → Nv → Prop) : Prop := match rs[j]? with
  | some (.br i) => frzL (rs.eraseIdx j) ρ fun ds ρ2 => k ds i ρ2
  | _ => False
/-- slot i's own content: read, and told anew -/
def ownS (ρ : Nv) (i : Nat) (k : D → (D → Nv) → Prop) : Prop := match ρ[i]? with
  | some (some (.ow d)) => k d fun d' => ρ.set i (some (.ow d'))
  | some (some (.lo d)) => k d fun d' => ρ.set i (some (.lo d'))
  | _ => False
/-- the slot's own object is changed -/
theorem Ok.chg {K : PySem.W.Frag} {G : Gm} {F F' : Hp} {σ : St} {H H' : Hp} {ρ : Nv} {i : Nat} {q : Addr} {d' : D} {s s' : Sl} (ok : Ok K G F σ H ρ) (hi : ρ[i]? = some (some s)) (ho : s.own = true) (hs : s' = (match s with | .ow _ => .ow d' | .lo _ => .lo d' | .fz _ => s)) (hq : σ[i]? = some (some (.ref q)))
    (n : New1 q F F' H H') (o' : Owned K F' H' q d') : Ok K G F' σ H' (ρ.set i (some s')) ∧ Gr σ F F' H H' ρ (ρ.set i (some s')) := by
  have own_i : OwnAt σ ρ q := ⟨i, s, hi, ho, hq⟩
  have fq : F q = none := (OwnAt.there ok own_i).1
  have hil : i < ρ.length := (List.getElem?_eq_some_iff.mp hi).1
  have so : s'.own = s.own := by
    subst hs
    cases s with
    | fz d => rfl
    | ow d => rfl
    | lo d => rfl
  have none_ : ∀ b u, H b = some u → F b = none → F' b = none := fun b u e f => by
    cases z : F' b with
    | none => rfl
    | some w =>
      rcases n.nf b w z with y | y
      · rw [f] at y; cases y
      · rw [e] at y; cases y
  have onr : ∀ b, OwnAt σ (ρ.set i (some s')) b → OwnAt σ ρ b := fun b ⟨j, t, z1, z2, z3⟩ => by
    rcases set_some z1 with ⟨rfl, z⟩ | ⟨hj, z⟩
    · exact ⟨j, s, hi, ho, z3⟩
    · exact ⟨j, t, z, z2, z3⟩
  have qows : ∀ z ∈ G.ows, z.2 = q → z.1 = i := fun z hz e => by
    obtain ⟨a, d, b⟩ := ok.fx z hz
    exact ok.dist z.1 i q _ s b hi rfl ho (by rw [a, e]) hq
  have hh : ∀ b u, H b = some u → ¬ OwnAt σ ρ b → H' b = some u := fun b u e no => n.hh b u e fun z => no (by rw [z]; exact own_i)
  refine ⟨⟨n.fh, fun b u e nb => ?_, fun b u e => ?_, ok.f0.trans n.ff, by simpa using ok.len, fun j t e => ?_, fun j l p t1 t2 e1 e2 o1 o2 h1 h2 => ?_, fun z hz => ?_⟩,
    ⟨n.ff, hh, fun b u e => ?_, fun j t e => ?_, onr, fun b u e f _ => none_ b u e f⟩⟩
  · refine n.hh b u (ok.frame b u e nb) fun z => ?_
    -- q is local or an owned argument: not of the entry's other things
    obtain ⟨v, e2, x⟩ := ok.sl i s hi
    rw [hq] at e2; cases e2
    cases s with
    | fz d => cases ho
    | ow d => obtain ⟨p, e3, _, e4, _⟩ := x; cases e3; exact nb (by rw [z]; exact e4)
    | lo d => obtain ⟨p, e3, _, e4, _⟩ := x; cases e3; rw [z, e4] at e; cases e
  · rcases n.nf b u e with z | z
    · exact ok.fresh b u z
    · cases y : G.H0 b with
      | none => exact .inr rfl
      | some w =>
        by_cases hb : b ∈ G.ows.map (·.2)
        · obtain ⟨z2, hz2, e2⟩ := List.mem_map.mp hb
          obtain ⟨a, d, c⟩ := ok.fx z2 hz2
          obtain ⟨_, w', hw⟩ := OwnAt.there ok ⟨z2.1, _, c, rfl, a⟩
          rw [e2, z] at hw; cases hw
        · rw [ok.frame b w y hb] at z; cases z
  · rcases set_some e with ⟨rfl, z⟩ | ⟨hj, z⟩
    · cases z
      obtain ⟨v, e2, x⟩ := ok.sl j s hi
      rw [hq] at e2; cases e2
      refine ⟨_, hq, ?_⟩
      have f' : F' q = none := by
        obtain ⟨w, hw⟩ := (OwnAt.there ok own_i).2
        exact none_ q w hw fq
      cases s with
      | fz d => cases ho
      | ow d => obtain ⟨p, e3, _, e4, _⟩ := x; cases e3; subst hs; exact ⟨q, rfl, f', e4, o'⟩
      | lo d => obtain ⟨p, e3, _, e4, _⟩ := x; cases e3; subst hs; exact ⟨q, rfl, f', e4, o'⟩
    · obtain ⟨v, e2, x⟩ := ok.sl j t z
      refine ⟨v, e2, ?_⟩
      cases t with
      | fz d => exact Rep.mono n.ff x
      | ow d =>
        obtain ⟨p, e3, e4, e5, o⟩ := x
        subst e3
        have pq : p ≠ q := fun y => hj (ok.dist j i q _ s z hi rfl ho (by rw [← y]; exact e2) hq)
        obtain ⟨w, hw⟩ := Owned.there o
        exact ⟨p, rfl, none_ p w hw e4, e5, Owned.mono n.ff (fun u y => n.hh p u y pq) o⟩
      | lo d =>
        obtain ⟨p, e3, e4, e5, o⟩ := x
        subst e3
        have pq : p ≠ q := fun y => hj (ok.dist j i q _ s z hi rfl ho (by rw [← y]; exact e2) hq)
        obtain ⟨w, hw⟩ := Owned.there o
        exact ⟨p, rfl, none_ p w hw e4, e5, Owned.mono n.ff (fun u y => n.hh p u y pq) o⟩
  · have g : ∀ {j : Nat} {t : Sl}, (ρ.set i (some s'))[j]? = some (some t) → t.own = true → ∃ t', ρ[j]? = some (some t') ∧ t'.own = true := fun {j t} e o => by
      rcases set_some e with ⟨rfl, z⟩ | ⟨hj, z⟩
      · exact ⟨s, hi, ho⟩
      · exact ⟨t, z, o⟩
    obtain ⟨t1', e1', o1'⟩ := g e1 o1
    obtain ⟨t2', e2', o2'⟩ := g e2 o2
    exact ok.dist j l p t1' t2' e1' e2' o1' o2' h1 h2
  · obtain ⟨a, d, b⟩ := ok.fx z hz
    refine ⟨a, ?_⟩
    by_cases hj : z.1 = i
    · rw [hj] at b ⊢
      rw [hi] at b; cases b
      subst hs
      exact ⟨d', List.getElem?_set_self hil⟩
    · exact ⟨d, by rw [List.getElem?_set_ne (Ne.symm hj)]; exact b⟩
  · by_cases hb : b = q
    · subst hb
      exact Owned.there o'
    · exact ⟨u, n.hh b u e hb⟩
  · by_cases hj : j = i
    · subst hj
      exact ⟨s', List.getElem?_set_self hil⟩
    · exact ⟨t, by rw [List.getElem?_set_ne (Ne.symm hj)]; exact e⟩
theorem ownS_ok {K : PySem.W.Frag} {G : Gm} {F : Hp} {σ : St} {H : Hp} {ρ : Nv} {i : Nat} {v : V} {k : D → (D → Nv) → Prop} (ok : Ok K G F σ H ρ) (hv : σ[i]? = some (some v)) (h : ownS ρ i k) :
    ∃ q d n, v = .ref q ∧ F q = none ∧ Owned K F H q d ∧ k d n ∧ OwnAt σ ρ q ∧ ∀ {F' H' : Hp} {d' : D}, New1 q F F' H H' → Owned K F' H' q d' → Ok K G F' σ H' (n d') ∧ Gr σ F F' H H' ρ (n d') := by
  unfold ownS at h
  split at h
  · rename_i d e
    obtain ⟨v', e2, q, rfl, f, _, o⟩ := ok.sl i _ e
    rw [hv] at e2; cases e2
    exact ⟨q, d, _, rfl, f, o, h, ⟨i, _, e, rfl, hv⟩, fun n o' => ok.chg e rfl rfl hv n o'⟩
  · rename_i d e
    obtain ⟨v', e2, q, rfl, f, _, o⟩ := ok.sl i _ e
    rw [hv] at e2; cases e2
    exact ⟨q, d, _, rfl, f, o, h, ⟨i, _, e, rfl, hv⟩, fun n o' => ok.chg e rfl rfl hv n o'⟩
  · exact h.elim
def mCallO (j : Nat) (psp : P1) (m : MA) : MX := fun ρ Q E => m ρ (fun rs ρ1 => frzO j rs ρ1 fun ds i ρ2 => ownS ρ2 i fun o put => psp ds o (fun r o' => Q r (put o')) (fun x o' => E x (put o'))) E
theorem Paired.erase {α β : Type} {R : α → β → Prop} : ∀ {as : List α} {bs : List β} (j : Nat), Paired R as bs → Paired R (as.eraseIdx j) (bs.eraseIdx j)
  | _, _, _, .nil => .nil
  | _, _, 0, .cons _ t => t
  | _, _, j + 1, .cons r t => .cons r (Paired.erase j t)
theorem Paired.get2 {α β : Type} {R : α → β → Prop} : ∀ {as : List α} {bs : List β} {j : Nat} {b : β}, Paired R as bs → bs[j]? = some b → ∃ a, as[j]? = some a ∧ R a b
  | _, _, _, _, .nil, e => by simp at e
  | _, _, 0, _, .cons r _, e => by simp at e; subst e; exact ⟨_, rfl, r⟩
  | _, _, j + 1, b, .cons _ t, e => by
    obtain ⟨a, h1, h2⟩ := Paired.get2 (j := j) (b := b) t (by simpa using e)
    exact ⟨a, by simpa using h1, h2⟩
theorem q_callO {j : Nat} {psp : P1} (Fn : FnOk X.prog X.w X.K X.mg X.base (L2.CX X.prog X.w) k f fd ps (sp1 X.K j psp)) (hr : Room k X.A) (hm : X.mg x = some (.ref f)) (hk : PySem.W.keepIn X.K (.ref f) = true) (hb : Binds X.K fd ps []) (tk : Takes X W)
    (ha : QA X W (e :: es) mas) (hg : Gl X x := by rfl) (hdb : (x == ("__debug__" : Str)) = false := by decide) (he : starEach (e :: es) X.env = (false, eval e X.env) :: starEach es X.env := by rfl) (hpl : (backTo pos (starEach es X.env)).any (·.1) = false := by rfl) :
    QX X W (.Call (.Name x p) (e :: es) [] pos) (mCallO j psp mas) := (pe_callS Fn hr hg hm hk hb (fun σ => passAt tk σ) ha hdb he hpl).imp fun σ H Q' ⟨G, F, ρ, Q, E, ok, hm, hp, he⟩ =>
  ⟨G, F, ρ, _, E, ok, hm, fun rs vs ρ1 F1 H1 ok1 g1 res h1 => by
    unfold frzO at h1
    split at h1
    · rename_i i ei
      obtain ⟨v, ev, ⟨s, es1, es2⟩, _⟩ := Paired.get2 res ei
      obtain ⟨ds, F2, ρ2, ok2, g2, s2, rl, h2⟩ := frzL_ok ok1 g1 (Paired.erase j (Paired.mapP res fun _ _ y => ⟨y.1.w, y.2⟩)) h1
      obtain ⟨q, o, put, rfl, fq, ow, h3, _, back⟩ := ownS_ok ok2 es2 h2
      refine ⟨F2, ds, q, o, _, _, ok2.sf, ev, fq, ow, rl, h3, fun r o' w F3 H3 n ow' x z => ?_, fun x o' da F3 H3 n ow' xo z => ?_⟩
      · obtain ⟨ok3, g3⟩ := back n ow'
        have nx : ReOk X.K G F3 σ H3 (put o') w r := by
          cases r with
          | va d => exact x
          | nw d =>
            obtain ⟨p2, e2, f2, h20, o2⟩ := x
            have no : ¬ OwnAt σ ρ2 p2 := fun y => by
              obtain ⟨_, u, hu⟩ := OwnAt.there ok2 y
              rw [h20] at hu; cases hu
            have nr := NewR.ok (r := .nw d) (v := w) ok2 (F' := F2) (H' := H1) (New.refl ok2.sf)
            refine ⟨p2, e2, f2, ?_, o2, fun y => no (g3.on p2 y)⟩
            by_cases hb : p2 ∈ G.ows.map (·.2)
            · obtain ⟨z2, hz2, e3⟩ := List.mem_map.mp hb
              obtain ⟨a, d2, c⟩ := ok2.fx z2 hz2
              exact absurd ⟨z2.1, _, c, rfl, by rw [a, e3]⟩ no
            · cases y : G.H0 p2 with
              | none => rfl
              | some u => rw [ok2.frame p2 u y hb] at h20; cases h20
          | br i => exact (show False from x).elim
        exact hp r w (put o') F3 H3 ok3 (g2.trans g3) nx (ReF.before g2 x.fr) z
      · obtain ⟨ok3, g3⟩ := back n ow'
        exact he x (put o') F3 H3 da ok3 (g2.trans g3) xo z
    · exact h1.elim, he⟩
end
end WR

set_option Elab.async false
set_option linter.all false
set_option maxRecDepth 100000
set_option maxHeartbeats 4000000
set_option autoImplicit false
/-! Targets, loops, comprehensions, stores. -/
namespace WR
open PySem L2
/-! ### targets -/
abbrev MG := D → Nv → (Nv → Prop) → Prop
/-- only the slots at vs are stored, none of them to an owned list -/
structure Ch (vs : List Nat) (σ σ' : St) (ρ ρ' : Nv) : Prop where
  len : σ'.length = σ.length
  st : ∀ i, i ∉ vs → σ'[i]? = σ[i]?
  nv : ∀ i, i ∉ vs → ρ'[i]? = ρ[i]?
  own : ∀ i ∈ vs, ∀ s, ρ'[i]? = some (some s) → s.own = false ∨ ρ[i]? = some (some s) ∧ σ'[i]? = σ[i]?
theorem Ch.refl {vs : List Nat} {σ : St} {ρ : Nv} : Ch vs σ σ ρ ρ := ⟨rfl, fun _ _ => rfl, fun _ _ => rfl, fun _ _ _ e => .inr ⟨e, rfl⟩⟩
theorem Ch.trans {vs ws : List Nat} {σ σ1 σ2 : St} {ρ ρ1 ρ2 : Nv} (a : Ch vs σ σ1 ρ ρ1) (b : Ch ws σ1 σ2 ρ1 ρ2) : Ch (vs ++ ws) σ σ2 ρ ρ2 where
  len := b.len.trans a.len
  st := fun i h => (b.st i fun z => h (List.mem_append_right _ z)).trans (a.st i fun z => h (List.mem_append_left _ z))
  nv := fun i h => (b.nv i fun z => h (List.mem_append_right _ z)).trans (a.nv i fun z => h (List.mem_append_left _ z))
  own := fun i h s e => by
    by_cases hw : i ∈ ws
    · rcases b.own i hw s e with z | ⟨z, z'⟩
      · exact .inl z
      · by_cases hv : i ∈ vs
        · rcases a.own i hv s z with y | ⟨y, y'⟩
          · exact .inl y
          · exact .inr ⟨y, z'.trans y'⟩
        · exact .inr ⟨(a.nv i hv).symm.trans z, z'.trans (a.st i hv)⟩
    · rw [b.nv i hw] at e
      by_cases hv : i ∈ vs
      · rcases a.own i hv s e with y | ⟨y, y'⟩
        · exact .inl y
        · exact .inr ⟨y, (b.st i hw).trans y'⟩
      · exact .inr ⟨(a.nv i hv).symm.trans e, (b.st i hw).trans (a.st i hv)⟩
def tG (K : PySem.W.Frag) (vs : List Nat) (g : MG) : TG := fun v σ H Q' => ∃ (G : Gm) (F : Hp) (ρ : Nv) (d : D) (Q : Nv → Prop), Ok K G F σ H ρ ∧ Rep K F v d ∧ g d ρ Q ∧ (∀ (σ' : St) (ρ' : Nv), Ok K G F σ' H ρ' → Ch vs σ σ' ρ ρ' → Q ρ' → Q' σ' H)
def QG (X : Cx) (tg : Expr) (vs : List Nat) (g : MG) : Prop := PG X tg (tG X.K vs g)
abbrev MGs := List D → Nv → (Nv → Prop) → Prop
def tGs (K : PySem.W.Frag) (is : List Nat) (g : MGs) : TGs := fun vs σ H Q' => ∃ (G : Gm) (F : Hp) (ρ : Nv) (ds : List D) (Q : Nv → Prop), Ok K G F σ H ρ ∧ RepL K F vs ds ∧ g ds ρ Q ∧ (∀ (σ' : St) (ρ' : Nv), Ok K G F σ' H ρ' → Ch is σ σ' ρ ρ' → Q ρ' → Q' σ' H)
def QGs (X : Cx) (tgs : List Expr) (is : List Nat) (g : MGs) : Prop := PGs X tgs (tGs X.K is g)
theorem _root_.L2.PGs.imp {X : Cx} {e : List Expr} {t t' : TGs} (h : PGs X e t) (f : ∀ v σ H Q, t' v σ H Q → t v σ H Q) : PGs X e t' := ⟨fun pins s σ H v u Q I r hq => h.run pins s σ H v u Q I r (f v σ H Q hq)⟩
theorem _root_.L2.PI.imp {X : Cx} {tg e : Expr} {t t' : TI} (h : PI X tg e t) (f : ∀ σ H Q, t' σ H Q → t σ H Q) : PI X tg e t' := ⟨fun pins s σ H Q I hq => h.run pins s σ H Q I (f σ H Q hq)⟩
theorem _root_.L2.PI.or {X : Cx} {tg e : Expr} {t t' : TI} (h : PI X tg e t) (h' : PI X tg e t') : PI X tg e (fun σ H Q => t σ H Q ∨ t' σ H Q) := ⟨fun pins s σ H Q I hq => hq.elim (h.run pins s σ H Q I) (h'.run pins s σ H Q I)⟩
section
variable {X : Cx} {W : WX} {pos : Pos}
def gNm (i : Nat) : MG := fun d ρ Q => notOw ρ i ∧ Q (ρ.set i (some (.fz d)))
theorem g_name {i : Nat} {x : Str} (hN : X.N.Nodup) (hi : X.N[i]? = some x := by rfl) (hx : Loc X.env.scope x := by first | exact .inl rfl | exact .inr rfl) (hf : X.fn x = true ∨ X.env.scope.names.lookup x = some .local := by first | exact .inl rfl | exact .inr rfl | assumption) : QG X (.Name x pos) [i] (gNm i) :=
  (pg_name hN hi hx hf).imp fun v σ H Q' ⟨G, F, ρ, d, Q, ok, r, ⟨hn, hq⟩, k⟩ => k _ _ (ok.put (s := .fz d) (notOw_ok hn) (fun d z => by cases z) r (fun z => by cases z)) ⟨by simp, fun j hj => List.getElem?_set_ne (fun z => hj (by simp [z])), fun j hj => List.getElem?_set_ne (fun z => hj (by simp [z])), fun j hj s e => by
    have ej : j = i := by simpa using hj
    rcases set_some e with ⟨_, z⟩ | ⟨z, _⟩
    · cases z; exact .inl rfl
    · exact absurd ej z⟩ hq
def gsNil : MGs := fun ds ρ Q => ds = [] ∧ Q ρ
def gsCons (g : MG) (h : MGs) : MGs := fun ds ρ Q => match ds with
  | d :: r => g d ρ fun ρ1 => h r ρ1 Q
  | [] => False
theorem gs_nil : QGs X [] [] gsNil := pgs_nil.imp fun vs σ H Q' ⟨G, F, ρ, ds, Q, ok, r, ⟨e, hq⟩, k⟩ => by
  subst e
  cases r
  exact ⟨rfl, k σ ρ ok .refl hq⟩
theorem gs_cons {e : Expr} {es : List Expr} {g : MG} {h : MGs} {is js : List Nat} (h1 : QG X e is g) (h2 : QGs X es js h) (hs : (assignEach (e :: es) X.env).map (·.2) = assign e X.env :: (assignEach es X.env).map (·.2) := by rfl) : QGs X (e :: es) (is ++ js) (gsCons g h) := (pgs_cons h1 h2 hs).imp fun vs σ H Q' ⟨G, F, ρ, ds, Q, ok, r, hq, k⟩ => by
  unfold gsCons at hq
  split at hq
  · cases r with
    | cons r1 r2 => exact ⟨_, _, rfl, G, F, ρ, _, _, ok, r1, hq, fun σ1 ρ1 ok1 c1 q1 => ⟨G, F, ρ1, _, Q, ok1, r2, q1, fun σ2 ρ2 ok2 c2 q2 => k σ2 ρ2 ok2 (c1.trans c2) q2⟩⟩
  · exact hq.elim
def gTp (n : Nat) (h : MGs) : MG := fun d ρ Q => match d with
  | .tup ds => ds.length = n ∧ h ds ρ Q
  | _ => False
theorem g_tup {es : List Expr} {k : Nat} {h : MGs} {n : Nat} {is : List Nat} (hc : X.calm = true) (hg : QGs X es is h) (hn : (assignEach es X.env).length = n := by rfl) (hst : (assignEach es X.env).findIdx? (·.1) = none := by rfl) : QG X (.Tuple es k pos) is (gTp n h) := (pg_tup hc hg hn hst).imp fun v σ H Q' ⟨G, F, ρ, d, Q, ok, r, hq, kk⟩ => by
  unfold gTp at hq
  split at hq
  · cases r with
    | tup q l => exact ⟨_, _, rfl, SqT_mono ok.sf q, by rw [l.length]; exact hq.1, G, F, ρ, _, Q, ok, l, hq.2, kk⟩
  · exact hq.elim
/-- target = e, e frozen -/
def mAsg (m : MX) (g : MG) : MS := fun De ρ => m ρ (fun r ρ1 => frz r ρ1 fun d ρ2 => g d ρ2 De.nx) De.ex
theorem q_asg {tg e : Expr} {m : MX} {g : MG} {is : List Nat} (he : QX X W e m) (hg : QG X tg is g) (hs : swapsWithSole [tg] e pos.line X.env = pure false := by rfl) (hw : swappedStores [tg] e X.env = pure none := by rfl)
    (h1 : (assignEach [tg] X.env).map (·.2) = [assign tg X.env] := by rfl) : QS X W (.Assign [tg] e pos) (mAsg m g) := (ps_asg he hg hs hw h1).imp fun D σ H ⟨G, F, ρ, De, ok, h, c⟩ =>
  tX.st ok c h fun r v ρ1 F1 H1 ok1 g1 re1 rf1 q1 => by
    obtain ⟨d, F2, ρ2, ok2, g2, s2, rp, q2⟩ := frz_ok ok1 g1 re1 rf1 q1
    exact ⟨G, F2, ρ2, d, _, ok2, rp, q2, fun σ' ρ' ok' _ q' => c.nx σ' F2 H1 ρ' ok' g2.ff q'⟩
/-- a, b = e1, e2 -/
def on2 {α : Type} (rs : List α) (k : α → α → Prop) : Prop := match rs with
  | [r, s] => k r s
  | _ => False
def mPar (i j : Nat) (m : MA) : MS := fun De ρ => m ρ (fun rs ρ1 => on2 rs fun r s => frzL [r, s] ρ1 fun ds ρ2 => on2 ds fun d e => notOw ρ2 i ∧ notOw (ρ2.set i (some (.fz d))) j ∧ De.nx ((ρ2.set i (some (.fz d))).set j (some (.fz e)))) De.ex
theorem q_par {i j : Nat} {x y : Str} {a b : Expr} {m : MA} {px py pt : Pos} {kt k2 pt2} (hc : X.calm = true) (hN : X.N.Nodup) (ha : QA X W [a, b] m) (hi : X.N[i]? = some x := by rfl) (hj : X.N[j]? = some y := by rfl) (hij : i ≠ j := by decide)
    (hx : X.env.scope.names.lookup x = some .local := by rfl) (hy : X.env.scope.names.lookup y = some .local := by rfl)
    (hw : swappedStores [.Tuple [.Name x px, .Name y py] kt pt] (.Tuple [a, b] k2 pt2) X.env = pure (some [x, y]) := by rfl)
    (hs : swapsWithSole [.Tuple [.Name x px, .Name y py] kt pt] (.Tuple [a, b] k2 pt2) pos.line X.env = pure false := by rfl) :
    QS X W (.Assign [.Tuple [.Name x px, .Name y py] kt pt] (.Tuple [a, b] k2 pt2) pos) (mPar i j m) := (ps_par hc hN hi hj hij hx hy ha hw hs).imp fun D σ H ⟨G, F, ρ, De, ok, h, c⟩ =>
  ⟨G, F, ρ, _, De.ex, ok, h, fun rs vs ρ1 F1 H1 ok1 g1 res h1 => by
    unfold on2 at h1
    split at h1
    · rename_i r s
      obtain ⟨ds, F2, ρ2, ok2, g2, s2, rl, h2⟩ := frzL_ok ok1 g1 (Paired.mapP res fun _ _ y => ⟨y.1.w, y.2⟩) h1
      cases rl with
      | nil => exact h2.elim
      | cons r1 rl =>
        cases rl with
        | nil => exact h2.elim
        | cons r2 rl =>
          cases rl with
          | nil =>
            obtain ⟨n1, n2, q⟩ := h2
            have oka := ok2.put (s := .fz _) (notOw_ok n1) (fun d z => by cases z) r1 (fun z => by cases z)
            have okb := oka.put (s := .fz _) (notOw_ok n2) (fun d z => by cases z) r2 (fun z => by cases z)
            exact ⟨_, _, rfl, c.nx _ F2 H1 _ okb g2.ff q⟩
          | cons _ _ => exact h2.elim
    · exact h1.elim, fun x ρ' F' H' da ok' g xo e => c.ex x σ F' H' ρ' da ok' g.ff xo e⟩

/-! ### what is walked -/
structure Walks (K : PySem.W.Frag) (F : Hp) (J : It) (xs : List D) : Prop where
  go : ∀ (i : Nat) (H : Hp), Same F H → i < xs.length → J.go i H
  stop : ∀ (i : Nat) (H : Hp), Same F H → i = xs.length → J.stop i H
  yld : ∀ (i : Nat) (H : Hp) (x : V) (H' F1 : Hp), Same F F1 → Same F1 H → i < xs.length → J.yld i H x H' → ∃ F2, New F1 F2 H H' ∧ ∃ d, xs[i]? = some d ∧ Rep K F2 x d
abbrev MI := Nv → (List D → Nv → Prop) → EK → Prop
def tI (K : PySem.W.Frag) (W : WX) (m : MI) : TI := fun σ H R => ∃ (G : Gm) (F : Hp) (ρ : Nv) (Q : List D → Nv → Prop) (E : EK), Ok K G F σ H ρ ∧ m ρ Q E ∧
  (∀ (xs : List D) (ρ' : Nv) (F' H' : Hp) (J : It), Ok K G F' σ H' ρ' → Gr σ F F' H H' ρ ρ' → Walks K F' J xs → Q xs ρ' → R J H') ∧ PostE K W G F σ H ρ E
def QI (X : Cx) (W : WX) (tg iter : Expr) (m : MI) : Prop := PI X tg iter (tI X.K W m)
variable {tg : Expr}
/-- a list, a tuple, as a value -/
def itD (d : D) (k : List D → Prop) : Prop := match d with
  | .lst xs => k xs
  | .tup xs => k xs
  | .scr ns => k (ns.map .int)
  | .str z => k (z.cps.toList.map fun c => .str ⟨#[c]⟩)
  | _ => False
def mIt (m : MX) : MI := fun ρ Q E => m ρ (fun r ρ1 => frz r ρ1 fun d ρ2 => itD d fun xs => Q xs ρ2) E
theorem walks_list {K : PySem.W.Frag} {F : Hp} {a : Addr} {vs : List V} {ds : List D} (h : SqL K F a vs) (l : RepL K F vs ds) : Walks K F (Itl K a) ds where
  go := fun i H s hi => by
    have hv : i < vs.length := by rw [l.length]; exact hi
    exact ⟨vs, vs[i], s.seq h, List.getElem?_eq_getElem hv⟩
  stop := fun i H s hi => ⟨vs, s.seq h, by rw [l.length]; omega⟩
  yld := fun i H x H' F1 s1 s2 hi ⟨e, y⟩ => by
    subst e
    refine ⟨F1, .refl s2, ?_⟩
    have e2 := y vs ((s1.trans s2).seq h)
    obtain ⟨d, e3, r⟩ := l.get' e2
    exact ⟨d, e3, r.mono s1⟩
theorem walks_tup {K : PySem.W.Frag} {F : Hp} {a : Addr} {vs : List V} {ds : List D} (h : SqT K F a vs) (l : RepL K F vs ds) : Walks K F (Itt K a) ds where
  go := fun i H s hi => by
    have hv : i < vs.length := by rw [l.length]; exact hi
    exact ⟨vs, vs[i], SqT_mono s h, List.getElem?_eq_getElem hv⟩
  stop := fun i H s hi => ⟨vs, SqT_mono s h, by rw [l.length]; omega⟩
  yld := fun i H x H' F1 s1 s2 hi ⟨e, y⟩ => by
    subst e
    refine ⟨F1, .refl s2, ?_⟩
    have e2 := y vs (SqT_mono (s1.trans s2) h)
    obtain ⟨d, e3, r⟩ := l.get' e2
    exact ⟨d, e3, r.mono s1⟩
def iSeq (K : PySem.W.Frag) (tl : TE) : TI := fun σ H R => tl σ H fun x H1 => (∃ a, x = .ref a ∧ (((∃ xs, SqL K H1 a xs) ∧ R (Itl K a) H1) ∨ ((∃ xs, SqT K H1 a xs) ∧ R (Itt K a) H1))) ∨ ∃ z : Str, x = .str z ∧ R (Its z) H1
theorem pi_seq {l : Expr} {tl : TE} (hl : PE X l tl) : PI X tg l (iSeq X.K tl) := by
  refine ⟨fun pins s σ H R I h => ?_⟩
  refine thn (hl.run pins s σ H _ I h) fun v s1 ⟨x, H1, I1, r1, q1⟩ => ?_
  rcases q1 with ⟨a, e, q1⟩ | ⟨z, e, q⟩
  · subst e
    cases r1
    rcases q1 with ⟨⟨xs, hq⟩, q⟩ | ⟨⟨xs, hq⟩, q⟩
    · obtain ⟨its, rv, p, hz⟩ := I1.list hq
      refine wpAny_pyIter_list p.isList ?_
      refine ⟨s1.heap.objs.size, [s1.heap.objs.size], _, _, H1, rfl, I1.kept (t' := s1.toks) fun b o e => Heap.get?_push_of_some _ e, turn_list a _, ⟨_, Heap.get?_push_size _ rfl, rfl, rfl⟩, fun b hb => ?_, q⟩
      have e : b = s1.heap.objs.size := by simpa using hb
      subst e
      exact I1.fpOk (Nat.le_refl _) (I1.hok.fresh (Nat.le_refl _))
    · obtain ⟨its, rv, p, hz⟩ := I1.tuple hq
      refine wpAny_pyIter_tuple (show s1.heap.IsTuple a its.toArray from p) ?_
      refine ⟨s1.heap.objs.size, [s1.heap.objs.size], _, _, H1, rfl, I1.kept (t' := s1.toks) fun b o e => Heap.get?_push_of_some _ e, turn_tuple a _, ⟨_, Heap.get?_push_size _ rfl, rfl, rfl⟩, fun b hb => ?_, q⟩
      have e : b = s1.heap.objs.size := by simpa using hb
      subst e
      exact I1.fpOk (Nat.le_refl _) (I1.hok.fresh (Nat.le_refl _))
  · subst e
    obtain ⟨t, rfl⟩ := r1
    cases ha : z.cps.all (· < 128)
    · exact wpAny_pyIter_wide ha (pi_one (tk := s1.toks) I1 _ (turn_str _ z t "str_iterator" (.inr rfl)) ⟨_, Heap.get?_push_size _ rfl, rfl, rfl⟩ q)
    · exact wpAny_pyIter_ascii ha (pi_one (tk := s1.toks) I1 _ (turn_str _ z t "str_ascii_iterator" (.inl rfl)) ⟨_, Heap.get?_push_size _ rfl, rfl, rfl⟩ q)
theorem walks_str {K : PySem.W.Frag} {F : Hp} (z : Str) : Walks K F (Its z) (z.cps.toList.map fun c => D.str ⟨#[c]⟩) where
  go := fun i H s hi => by show i < z.cps.size; simpa using hi
  stop := fun i H s hi => by show z.cps.size ≤ i; simp at hi; exact Nat.le_of_eq hi.symm
  yld := fun i H x H' F1 s1 s2 hi ⟨e, c, ec, ev⟩ => by
    subst e; subst ev
    refine ⟨F1, .refl s2, .str ⟨#[c]⟩, ?_, .str _⟩
    rw [List.getElem?_map, Array.getElem?_toList, ec]; rfl
theorem qi_val {e : Expr} {m : MX} (he : QX X W e m) : QI X W tg e (mIt m) := (pi_seq he).imp fun σ H R ⟨G, F, ρ, Q, E, ok, hm, hp, hE⟩ =>
  tX.mk ok hm (fun r v ρ1 F1 H1 ok1 g1 re1 rf1 h1 => by
    obtain ⟨d, F2, ρ2, ok2, g2, s2, rp, h2⟩ := frz_ok ok1 g1 re1 rf1 h1
    unfold itD at h2
    split at h2
    · cases rp with
      | lst q l => exact .inl ⟨_, rfl, .inl ⟨⟨_, ok2.sf.seq (SqL.of q)⟩, hp _ ρ2 F2 H1 _ ok2 g2 (walks_list (SqL.of q) l) h2⟩⟩
    · cases rp with
      | tup q l => exact .inl ⟨_, rfl, .inr ⟨⟨_, SqT_mono ok2.sf q⟩, hp _ ρ2 F2 H1 _ ok2 g2 (walks_tup q l) h2⟩⟩
    · cases rp with
      | scr q => exact .inl ⟨_, rfl, .inl ⟨⟨_, ok2.sf.seq q⟩, hp _ ρ2 F2 H1 _ ok2 g2 (walks_list q (.ints _)) h2⟩⟩
    · cases rp with
      | str z => exact .inr ⟨_, rfl, hp _ ρ2 F2 H1 _ ok2 g2 (walks_str _) h2⟩
    · exact h2.elim) hE
/-- lo, lo + 1, .. -/
def rngD (lo : Int) (n : Nat) : List D := (List.range n).map fun k => .int (lo + (k : Nat))
theorem walks_rng {K : PySem.W.Frag} {F : Hp} (lo : Int) (n : Nat) : Walks K F (Itr lo n) (rngD lo n) where
  go := fun i H s hi => by show i < n; simpa [rngD] using hi
  stop := fun i H s hi => by show n ≤ i; simp [rngD] at hi; exact Nat.le_of_eq hi.symm
  yld := fun i H x H' F1 s1 s2 hi ⟨e, ev⟩ => by
    subst e; subst ev
    have hi' : i < n := by simpa [rngD] using hi
    refine ⟨F1, .refl s2, .int (lo + i), ?_, .int _⟩
    simp [rngD, hi']
def onI1 (rs : List Re) (k : Int → Prop) : Prop := match rs with
  | [.va (.int j)] => k j
  | _ => False
def onI2 (rs : List Re) (k : Int → Int → Prop) : Prop := match rs with
  | [.va (.int i), .va (.int j)] => k i j
  | _ => False
def onI3 (rs : List Re) (k : Int → Int → Int → Prop) : Prop := match rs with
  | [.va (.int i), .va (.int j), .va (.int c)] => k i j c
  | _ => False
def mRng1 (m : MA) : MI := fun ρ Q E => m ρ (fun rs ρ1 => onI1 rs fun j => -(2 ^ 62) ≤ j ∧ j < 2 ^ 62 ∧ Q (rngD 0 j.toNat) ρ1) E
def mRng2 (m : MA) : MI := fun ρ Q E => m ρ (fun rs ρ1 => onI2 rs fun i j => (-(2 ^ 62) ≤ i ∧ i < 2 ^ 62 ∧ -(2 ^ 62) ≤ j ∧ j < 2 ^ 62) ∧ Q (rngD i (j - i).toNat) ρ1) E
variable {mas : MA}
theorem qi_rng1 {a : Expr} {p : Pos} (hm : X.mg "range" = none) (ha : QA X W [a] mas) (hg : Gl X "range" := by rfl) (hs : starEach [a] X.env = [(false, eval a X.env)] := by rfl) : QI X W tg (.Call (.Name "range" p) [a] [] pos) (mRng1 mas) := (pi_range1 hg hm ha hs).imp fun σ H R ⟨G, F, ρ, Q, E, ok, hm, hp, hE⟩ =>
  ⟨G, F, ρ, _, E, ok, hm, fun rs vs ρ1 F1 H1 ok1 g1 res h1 => by
    unfold onI1 at h1
    split at h1
    · cases res with
      | cons x l =>
        cases l
        cases x.1
        exact ⟨_, rfl, h1.1, h1.2.1, hp _ ρ1 F1 H1 _ ok1 g1 (walks_rng 0 _) h1.2.2⟩
    · exact h1.elim, hE⟩
theorem qi_rng2 {a b : Expr} {p : Pos} (hm : X.mg "range" = none) (ha : QA X W [a, b] mas) (hg : Gl X "range" := by rfl) (hs : starEach [a, b] X.env = [(false, eval a X.env), (false, eval b X.env)] := by rfl) (hs2 : starEach [b] X.env = [(false, eval b X.env)] := by rfl) : QI X W tg (.Call (.Name "range" p) [a, b] [] pos) (mRng2 mas) := (pi_range2 hg hm ha hs hs2).imp fun σ H R ⟨G, F, ρ, Q, E, ok, hm, hp, hE⟩ =>
  ⟨G, F, ρ, _, E, ok, hm, fun rs vs ρ1 F1 H1 ok1 g1 res h1 => by
    unfold onI2 at h1
    split at h1
    · cases res with
      | cons x l =>
        cases l with
        | cons y l =>
          cases l
          cases x.1
          cases y.1
          exact ⟨_, _, rfl, h1.1, hp _ ρ1 F1 H1 _ ok1 g1 (walks_rng _ _) h1.2⟩
    · exact h1.elim, hE⟩

/-! ### for -/
def forL (g : MG) (b : MS) (De : PEnds) : List D → Nv → Prop
  | [], ρ => De.nx ρ
  | x :: xs, ρ => g x ρ fun ρ1 => b { De with nx := forL g b De xs, ct := forL g b De xs, bk := De.nx } ρ1
def mFor (mi : MI) (g : MG) (b : MS) : MS := fun De ρ => mi ρ (fun xs ρ1 => forL g b De xs ρ1) De.ex
theorem q_for {iter : Expr} {body : List Stmt} {mi : MI} {g : MG} {is : List Nat} {mb : MS} (hp : PassesOwn (model X.prog X.w) X.A X.env X.xe) (hc : X.calm = true) (hi : QI X W tg iter mi) (hg : QG X tg is g) (hb : QSs X W body mb)
    (hs : ∀ x, foldedSetIterable iter X.env x = pure x := by intro _; rfl) : QS X W (.For tg iter body [] pos) (mFor mi g mb) := (ps_for hp hc hi hg hb hs).imp fun D σ H ⟨G, F, ρ, De, ok, h, co⟩ =>
  ⟨G, F, ρ, _, De.ex, ok, h, fun xs ρ1 F1 H1 J ok1 g1 wk h1 => by
    have co1 := co.mono g1.ff
    refine ⟨fun i m σ H => m = xs.length - i ∧ i ≤ xs.length ∧ ∃ F2 ρ2, Ok X.K G F2 σ H ρ2 ∧ Same F1 F2 ∧ forL g mb De (xs.drop i) ρ2, ⟨xs.length, by simp, Nat.zero_le _, F1, ρ1, ok1, .refl _, h1⟩, ?_⟩
    rintro i m σ2 H2 ⟨rfl, hi, F2, ρ2, ok2, s2, h2⟩
    by_cases hl : i < xs.length
    · refine .inr ⟨wk.go i H2 (s2.trans ok2.sf) hl, fun σ' H' => ∃ F3 ρ3, Ok X.K G F3 σ' H' ρ3 ∧ Same F1 F3 ∧ forL g mb De (xs.drop (i + 1)) ρ3, fun σ' H' z => ⟨xs.length - (i + 1), by omega, rfl, hl, z⟩, fun x H' y => ?_⟩
      obtain ⟨F3, n, d, ed, r⟩ := wk.yld i H2 x H' F2 s2 ok2.sf hl y
      have ok3 := ok2.grow n
      rw [List.drop_eq_getElem_cons hl] at h2
      have ed2 : xs[i] = d := by
        rw [List.getElem?_eq_getElem hl] at ed
        exact Option.some.inj ed
      rw [ed2] at h2
      refine ⟨G, F3, ρ2, d, _, ok3, r, h2, fun σ4 ρ4 ok4 _ q4 => ⟨G, F3, ρ4, _, ok4, q4, ?_⟩⟩
      have s3 := s2.trans n.ff
      exact ⟨fun σ' F' H' ρ' ok' s q => ⟨F', ρ', ok', s3.trans s, q⟩, (co1.mono s3).rt, (co1.mono s3).nx, fun σ' F' H' ρ' ok' s q => ⟨F', ρ', ok', s3.trans s, q⟩, (co1.mono s3).ex⟩
    · have e : i = xs.length := by omega
      subst e
      rw [List.drop_length] at h2
      exact .inl ⟨wk.stop _ H2 (s2.trans ok2.sf) rfl, co1.nx σ2 F2 H2 ρ2 ok2 s2 h2⟩, fun x ρ' F' H' da ok' g xo e => co.ex x σ F' H' ρ' da ok' g.ff xo e⟩

/-! ### comprehensions -/
def wipN : Nv → List Nat → Nv
  | ρ, [] => ρ
  | ρ, v :: vs => (wipN ρ vs).set v none
/-- back from the block: the block's own names are the def's again -/
def bckN (ρ0 ρ : Nv) : List Nat → Nv
  | [] => ρ
  | v :: vs => (bckN ρ0 ρ vs).set v (ρ0[v]?.getD none)
/-- the def's slots of those names are not owned lists -/
def clnN (ρ : Nv) : List Nat → Prop
  | [] => True
  | v :: vs => (match ρ[v]? with
    | some (some (.ow _)) => False
    | some (some (.lo _)) => False
    | _ => True) ∧ clnN ρ vs
/-- one turn behind another: the list so far -/
def lcL (g : MG) (t : MT) (e : MX) (vs : List Nat) (Q : List D → Nv → Prop) : List D → List D → Nv → Prop
  | [], acc, ρ => Q acc ρ
  | x :: xs, acc, ρ => g x (wipN ρ vs) fun ρ1 => t ρ1 (fun b ρ2 => cIf b (e ρ2 (fun r ρ3 => frz r ρ3 fun d ρ4 => acc.length < sizeLine ∧ clnN ρ4 vs ∧ lcL g t e vs Q xs (acc ++ [d]) (wipN ρ4 vs)) (fun _ _ => False)) (clnN ρ2 vs ∧ lcL g t e vs Q xs acc (wipN ρ2 vs))) (fun _ _ => False)
def mLc (mi : MI) (g : MG) (t : MT) (e : MX) (vs : List Nat) : MX := fun ρ Q E => mi ρ (fun xs ρ1 => clnN ρ1 vs ∧ lcL g t e vs (fun acc ρ2 => Q (.nw (.lst acc)) (bckN ρ1 ρ2 vs)) xs [] (wipN ρ1 vs)) E
theorem wipN_some {ρ : Nv} {i : Nat} {s : Sl} : ∀ {vs : List Nat}, (wipN ρ vs)[i]? = some (some s) → ρ[i]? = some (some s) ∧ i ∉ vs
  | [], h => ⟨h, by simp⟩
  | v :: vs, h => by
    unfold wipN at h
    rcases set_some h with ⟨_, z⟩ | ⟨z, h2⟩
    · cases z
    · obtain ⟨h3, h4⟩ := wipN_some h2
      exact ⟨h3, by simp only [List.mem_cons, not_or]; exact ⟨z, h4⟩⟩
theorem wipN_out {ρ : Nv} {i : Nat} : ∀ {vs : List Nat}, i ∉ vs → (wipN ρ vs)[i]? = ρ[i]?
  | [], _ => rfl
  | v :: vs, h => by
    have h' : i ≠ v ∧ i ∉ vs := by simpa [not_or] using h
    unfold wipN
    rw [List.getElem?_set_ne (Ne.symm h'.1), wipN_out h'.2]
theorem wipN_len (ρ : Nv) : ∀ vs : List Nat, (wipN ρ vs).length = ρ.length
  | [] => rfl
  | v :: vs => by unfold wipN; rw [List.length_set, wipN_len ρ vs]
theorem wipe_out {σ : St} {i : Nat} : ∀ {vs : List Nat}, i ∉ vs → (wipe σ vs)[i]? = σ[i]?
  | [], _ => rfl
  | v :: vs, h => by
    have h' : i ≠ v ∧ i ∉ vs := by simpa [not_or] using h
    unfold wipe
    rw [List.getElem?_set_ne (Ne.symm h'.1), wipe_out h'.2]
theorem bckN_some {ρ0 ρ : Nv} {i : Nat} {s : Sl} : ∀ {vs : List Nat}, (bckN ρ0 ρ vs)[i]? = some (some s) → (i ∈ vs ∧ ρ0[i]? = some (some s)) ∨ (i ∉ vs ∧ ρ[i]? = some (some s))
  | [], h => .inr ⟨by simp, h⟩
  | v :: vs, h => by
    unfold bckN at h
    rcases set_some h with ⟨rfl, z⟩ | ⟨z, h2⟩
    · refine .inl ⟨by simp, ?_⟩
      cases e : ρ0[i]? with
      | none => rw [e] at z; cases z
      | some o => rw [e] at z; exact congrArg some z
    · rcases bckN_some h2 with ⟨h3, h4⟩ | ⟨h3, h4⟩
      · exact .inl ⟨List.mem_cons_of_mem _ h3, h4⟩
      · exact .inr ⟨by simp only [List.mem_cons, not_or]; exact ⟨z, h3⟩, h4⟩
theorem bckN_out {ρ0 ρ : Nv} {i : Nat} : ∀ {vs : List Nat}, i ∉ vs → (bckN ρ0 ρ vs)[i]? = ρ[i]?
  | [], _ => rfl
  | v :: vs, h => by
    have h' : i ≠ v ∧ i ∉ vs := by simpa [not_or] using h
    unfold bckN
    rw [List.getElem?_set_ne (Ne.symm h'.1), bckN_out h'.2]
theorem bckN_in {ρ0 ρ : Nv} {i : Nat} {s : Sl} (hl : ρ0.length = ρ.length) (h : ρ0[i]? = some (some s)) : ∀ {vs : List Nat}, i ∈ vs → (bckN ρ0 ρ vs)[i]? = some (some s)
  | v :: vs, hi => by
    unfold bckN
    by_cases hv : i = v
    · subst hv
      have hb : ∀ vs, (bckN ρ0 ρ vs).length = ρ.length := fun vs => by
        induction vs with
        | nil => rfl
        | cons a b ih => unfold bckN; rw [List.length_set, ih]
      have hlt : i < ρ0.length := (List.getElem?_eq_some_iff.mp h).1
      rw [List.getElem?_set_self (by rw [hb, ← hl]; exact hlt), h]; rfl
    · rw [List.getElem?_set_ne (Ne.symm hv)]
      have hi' : i ∈ vs := by simpa [hv] using hi
      exact bckN_in hl h hi'
theorem bckN_len {ρ0 ρ : Nv} : ∀ (vs : List Nat), (bckN ρ0 ρ vs).length = ρ.length
  | [] => rfl
  | a :: b => by unfold bckN; rw [List.length_set, bckN_len b]
theorem clnN_ok {ρ : Nv} {i : Nat} {s : Sl} : ∀ {vs : List Nat}, clnN ρ vs → i ∈ vs → ρ[i]? = some (some s) → s.own = false
  | v :: vs, h, hi, e => by
    obtain ⟨h1, h2⟩ := h
    by_cases hv : i = v
    · subst hv
      rw [e] at h1
      cases s with
      | fz d => rfl
      | ow d => exact h1.elim
      | lo d => exact h1.elim
    · exact clnN_ok h2 (by simpa [hv] using hi) e
section
variable {K : PySem.W.Frag} {G : Gm} {F F' : Hp} {σ : St} {H H' : Hp} {ρ ρ' : Nv} {vs : List Nat}
/-- slots are forgotten, none of them owned -/
theorem Ok.wipe (ok : Ok K G F σ H ρ) (hc : ∀ i ∈ vs, ∀ s, ρ[i]? = some (some s) → s.own = false) : Ok K G F (L2.wipe σ vs) H (wipN ρ vs) where
  sf := ok.sf
  frame := ok.frame
  fresh := ok.fresh
  f0 := ok.f0
  len := by rw [wipN_len, wipe_length]; exact ok.len
  sl := fun i s e => by
    obtain ⟨e1, hi⟩ := wipN_some e
    rw [wipe_out hi]
    exact ok.sl i s e1
  dist := fun i j p s t e1 e2 o1 o2 h1 h2 => by
    obtain ⟨e1', hi⟩ := wipN_some e1
    obtain ⟨e2', hj⟩ := wipN_some e2
    rw [wipe_out hi] at h1
    rw [wipe_out hj] at h2
    exact ok.dist i j p s t e1' e2' o1 o2 h1 h2
  fx := fun q hq => by
    obtain ⟨a, d, b⟩ := ok.fx q hq
    have hn : q.1 ∉ vs := fun z => by have := hc q.1 z _ b; cases this
    exact ⟨by rw [wipe_out hn]; exact a, d, by rw [wipN_out hn]; exact b⟩
theorem Ok.unwipe (ok : Ok K G F σ H ρ) (hc : clnN ρ vs) (ok' : Ok K G F' (L2.wipe σ vs) H' ρ') (s : Same F F') : Ok K G F' σ H' (bckN ρ ρ' vs) where
  sf := ok'.sf
  frame := ok'.frame
  fresh := ok'.fresh
  f0 := ok'.f0
  len := by rw [bckN_len, ok'.len, wipe_length]
  sl := fun i t e => by
    rcases bckN_some e with ⟨hi, e1⟩ | ⟨hi, e1⟩
    · obtain ⟨v, e2, x⟩ := ok.sl i t e1
      have := clnN_ok hc hi e1
      cases t with
      | fz d => exact ⟨v, e2, Rep.mono s x⟩
      | ow d => cases this
      | lo d => cases this
    · obtain ⟨v, e2, x⟩ := ok'.sl i t e1
      rw [wipe_out hi] at e2
      exact ⟨v, e2, x⟩
  dist := fun i j p s t e1 e2 o1 o2 h1 h2 => by
    have f : ∀ {i : Nat} {s : Sl}, (bckN ρ ρ' vs)[i]? = some (some s) → s.own = true → ρ'[i]? = some (some s) ∧ i ∉ vs := fun {i s} e o => by
      rcases bckN_some e with ⟨hi, e1⟩ | ⟨hi, e1⟩
      · rw [clnN_ok hc hi e1] at o; cases o
      · exact ⟨e1, hi⟩
    obtain ⟨e1', hi⟩ := f e1 o1
    obtain ⟨e2', hj⟩ := f e2 o2
    exact ok'.dist i j p s t e1' e2' o1 o2 (by rw [wipe_out hi]; exact h1) (by rw [wipe_out hj]; exact h2)
  fx := fun q hq => by
    obtain ⟨a, d, b⟩ := ok'.fx q hq
    obtain ⟨a0, d0, b0⟩ := ok.fx q hq
    have hn : q.1 ∉ vs := fun z => by have := clnN_ok hc z b0; cases this
    exact ⟨a0, d, by rw [bckN_out hn]; exact b⟩
/-- an object that is neither frozen nor a slot's own is changed -/
theorem Ok.other {p : Addr} {o : HO} (ok : Ok K G F σ H ρ) (fp : F p = none) (h0 : G.H0 p = none) (no : ¬ OwnAt σ ρ p) : Ok K G F σ (upd H p o) ρ where
  sf := fun b u e => by rw [upd_ne (fun z => by rw [z, fp] at e; cases e)]; exact ok.sf b u e
  frame := fun b u e nb => by rw [upd_ne (fun z => by rw [z, h0] at e; cases e)]; exact ok.frame b u e nb
  fresh := ok.fresh
  f0 := ok.f0
  len := ok.len
  sl := fun i s e => by
    obtain ⟨v, e2, x⟩ := ok.sl i s e
    refine ⟨v, e2, ?_⟩
    cases s with
    | fz d => exact x
    | ow d =>
      obtain ⟨q, e3, e4, e5, w⟩ := x
      subst e3
      have hq : q ≠ p := fun z => no ⟨i, _, e, rfl, by rw [← z]; exact e2⟩
      exact ⟨q, rfl, e4, e5, Owned.mono (.refl _) (fun u y => by rw [upd_ne hq]; exact y) w⟩
    | lo d =>
      obtain ⟨q, e3, e4, e5, w⟩ := x
      subst e3
      have hq : q ≠ p := fun z => no ⟨i, _, e, rfl, by rw [← z]; exact e2⟩
      exact ⟨q, rfl, e4, e5, Owned.mono (.refl _) (fun u y => by rw [upd_ne hq]; exact y) w⟩
  dist := ok.dist
  fx := ok.fx
end
end
end WR

set_option Elab.async false
set_option linter.all false
set_option maxRecDepth 100000
set_option maxHeartbeats 4000000
set_option autoImplicit false
/-! Comprehensions. -/
namespace WR
open PySem L2
/-- nothing is let out -/
abbrev wN : WX := fun _ _ _ _ => False
theorem takes_wN {X : Cx} : Takes X wN := fun u s' ⟨a, B, sI, pins, σ, H, cls, d, e, I, nb, up, sky, na, os, ag, w⟩ => w.elim
section
variable {X : Cx} {W : WX} {pos : Pos}
theorem wipe_in {σ : St} {i : Nat} : ∀ {vs : List Nat}, i ∈ vs → (L2.wipe σ vs)[i]? = if i < σ.length then some none else none
  | v :: vs, h => by
    unfold L2.wipe
    by_cases hv : i = v
    · subst hv
      by_cases hl : i < σ.length
      · rw [List.getElem?_set_self (by rw [wipe_length]; exact hl), if_pos hl]
      · rw [List.getElem?_eq_none (by rw [List.length_set, wipe_length]; omega), if_neg hl]
    · rw [List.getElem?_set_ne (Ne.symm hv), wipe_in (by simpa [hv] using h)]
theorem wipe_congr {σ τ : St} {vs : List Nat} (hl : σ.length = τ.length) (h : ∀ i, i ∉ vs → σ[i]? = τ[i]?) : L2.wipe σ vs = L2.wipe τ vs := by
  refine List.ext_getElem? fun i => ?_
  by_cases hi : i ∈ vs
  · rw [wipe_in hi, wipe_in hi, hl]
  · rw [WR.wipe_out hi, WR.wipe_out hi, h i hi]
theorem wipe_wipe {σ : St} {vs : List Nat} : L2.wipe (L2.wipe σ vs) vs = L2.wipe σ vs := wipe_congr (wipe_length _ _) fun i hi => WR.wipe_out hi
theorem ownAt_wipe {σ : St} {ρ : Nv} {vs : List Nat} {b : Addr} (h : OwnAt (L2.wipe σ vs) (wipN ρ vs) b) : OwnAt σ ρ b := by
  obtain ⟨i, s, e1, e2, e3⟩ := h
  obtain ⟨e4, hi⟩ := wipN_some e1
  exact ⟨i, s, e4, e2, by rw [← WR.wipe_out hi]; exact e3⟩
/-- a test of none or one -/
def QTs (X : Cx) (W : WX) (es : List Expr) (m : MT) : Prop := PTs X es (tT X.K W m)
theorem _root_.L2.PTs.imp {X : Cx} {e : List Expr} {t t' : TT} (h : PTs X e t) (f : ∀ σ H Q, t' σ H Q → t σ H Q) : PTs X e t' := ⟨fun pins s σ H Q I hq => h.run pins s σ H Q I (f σ H Q hq)⟩
def mYes : MT := fun ρ Q _ => Q true ρ
theorem qts_nil : QTs X W [] mYes := pts_nil.imp fun σ H Q' ⟨G, F, ρ, Q, E, ok, hm, hp, _⟩ => hp true ρ F H ok .refl hm
theorem qts_one {c : Expr} {m : MT} (h : QT X W c m) : QTs X W [c] m := pts_one h
variable {tg : Expr}
/-- one turn: from the block's ground to itself -/
theorem turn_gr {K : PySem.W.Frag} {G : Gm} {vs is : List Nat} {F F' H H' : Hp} {σ' σ2 : St} {ρ ρ3 ρ5 : Nv} (hsub : ∀ i ∈ is, i ∈ vs) (hw : ∀ i ∈ vs, ∀ x, σ'[i]? ≠ some (some x)) (c : Ch is σ' σ2 (wipN ρ vs) ρ3) (g : Gr σ2 F F' H H' ρ3 ρ5) : Gr σ' F F' H H' (wipN ρ vs) (wipN ρ5 vs) ∧ (∀ b, OwnAt σ2 ρ3 b → OwnAt σ' (wipN ρ vs) b) := by
  have back : ∀ b, OwnAt σ2 ρ3 b → OwnAt σ' (wipN ρ vs) b := fun b ⟨i, s, e1, e2, e3⟩ => by
    by_cases hi : i ∈ is
    · rcases c.own i hi s e1 with z | ⟨z, _⟩
      · rw [z] at e2; cases e2
      · exact absurd (hsub i hi) (wipN_some z).2
    · exact ⟨i, s, by rw [← c.nv i hi]; exact e1, e2, by rw [← c.st i hi]; exact e3⟩
  refine ⟨⟨g.ff, fun b o e n => g.hh b o e fun z => n (back b z), g.th, fun i s e => ?_, fun b ⟨i, s, e1, e2, e3⟩ => ?_, fun b o e f n => g.nf b o e f fun z => n (back b z)⟩, back⟩
  · obtain ⟨e1, hi⟩ := wipN_some e
    have hi' : i ∉ is := fun z => hi (hsub i z)
    obtain ⟨s', e2⟩ := g.kn i s (by rw [c.nv i hi']; exact e)
    exact ⟨s', by rw [wipN_out hi]; exact e2⟩
  · obtain ⟨e4, hi⟩ := wipN_some e1
    have hi' : i ∉ is := fun z => hi (hsub i z)
    exact back b (g.on b ⟨i, s, e4, e2, by rw [c.st i hi']; exact e3⟩)
theorem lc_snd {mi : MI} {g : MG} {is : List Nat} {mt : MT} {me : MX} {own : List (Str × Nat)} {σ : St} {H : Hp} {Q' : VK} (hsub : ∀ i ∈ is, i ∈ own.map (·.2)) (h : tX X.K W (mLc mi g mt me (own.map (·.2))) σ H Q') :
    tLc (tI X.K W mi) (tG X.K is g) (tT X.K wN mt) (tX X.K wN me) (own.map (·.2)) σ H Q' := by
  obtain ⟨G, F, ρ, Q, E, ok0, hm, hp, hE⟩ := h
  refine ⟨G, F, ρ, _, E, ok0, hm, fun xs ρ1 F1 H1 J ok1 g1 wk ⟨cln, h1⟩ D hD => ?_, hE⟩
  generalize own.map (·.2) = vs at *
  have hw : ∀ i ∈ vs, ∀ x, (L2.wipe σ vs)[i]? ≠ some (some x) := fun i hi x e => (wipe_some e).2 hi
  have okw : Ok X.K G F1 (L2.wipe σ vs) H1 (wipN ρ1 vs) := ok1.wipe fun i hi s e => clnN_ok cln hi e
  have noD : ¬ OwnAt (L2.wipe σ vs) (wipN ρ1 vs) D := fun z => by
    obtain ⟨_, o, e⟩ := OwnAt.there okw z
    rw [hD] at e; cases e
  have fD : F1 D = none := ok1.sf.free hD
  have h0D : G.H0 D = none := by
    by_cases hb : D ∈ G.ows.map (·.2)
    · obtain ⟨q, hq, e2⟩ := List.mem_map.mp hb
      obtain ⟨s1, d, s2⟩ := ok1.fx q hq
      obtain ⟨_, u, hu⟩ := OwnAt.there ok1 ⟨q.1, _, s2, rfl, by rw [s1, e2]⟩
      rw [hD] at hu; cases hu
    · cases q : G.H0 D with
      | none => rfl
      | some u => rw [ok1.frame D u q hb] at hD; cases hD
  obtain ⟨nD, _⟩ := new_obj (o := .lst []) ok1.sf hD
  refine ⟨fun i m H2 => m = xs.length - i ∧ i ≤ xs.length ∧ ∃ F2 ρ2 acc accV, Ok X.K G F2 (L2.wipe σ vs) H2 ρ2 ∧ Gr (L2.wipe σ vs) F1 F2 H1 H2 (wipN ρ1 vs) ρ2 ∧ F2 D = none ∧ H2 D = some (.lst accV) ∧ RepL X.K F2 accV acc ∧ lcL g mt me vs (fun acc ρ2 => Q (.nw (.lst acc)) (bckN ρ1 ρ2 vs)) (xs.drop i) acc ρ2,
    ⟨xs.length, by simp, Nat.zero_le _, F1, _, [], [], okw.grow nD, .new nD, fD, upd_same, .nil, h1⟩, ?_⟩
  rintro i m H2 ⟨rfl, hil, F2, ρ2, acc, accV, ok2, g2, f2D, h2D, rl, h2⟩
  by_cases hl : i < xs.length
  · refine .inr ⟨wk.go i H2 (g2.ff.trans ok2.sf) hl, fun H' => ∃ F3 ρ3 acc3 accV3, Ok X.K G F3 (L2.wipe σ vs) H' ρ3 ∧ Gr (L2.wipe σ vs) F1 F3 H1 H' (wipN ρ1 vs) ρ3 ∧ F3 D = none ∧ H' D = some (.lst accV3) ∧ RepL X.K F3 accV3 acc3 ∧ lcL g mt me vs (fun acc ρ2 => Q (.nw (.lst acc)) (bckN ρ1 ρ2 vs)) (xs.drop (i + 1)) acc3 ρ3,
      fun H' z => ⟨xs.length - (i + 1), by omega, rfl, hl, z⟩, fun x H3 y => ?_⟩
    obtain ⟨F3, n, d, ed, r⟩ := wk.yld i H2 x H3 F2 g2.ff ok2.sf hl y
    rw [List.drop_eq_getElem_cons hl] at h2
    have ed2 : xs[i] = d := by
      rw [List.getElem?_eq_getElem hl] at ed
      exact Option.some.inj ed
    rw [ed2] at h2
    have nv2 : ∀ i ∈ vs, ∀ s, ρ2[i]? ≠ some (some s) := fun i hi s e => by
      obtain ⟨v, e2, _⟩ := ok2.sl i s e
      exact hw i hi v e2
    have ok3 : Ok X.K G F3 (L2.wipe σ vs) H3 (wipN ρ2 vs) := by
      have := (ok2.grow n).wipe (vs := vs) fun i hi s e => absurd e (nv2 i hi s)
      rw [wipe_wipe] at this
      exact this
    have g3 : Gr (L2.wipe σ vs) F1 F3 H1 H3 (wipN ρ1 vs) (wipN ρ2 vs) := by
      have a := g2.trans (Gr.new (σ := L2.wipe σ vs) (ρ := ρ2) n)
      refine ⟨a.ff, a.hh, a.th, fun i s e => ?_, fun b z => a.on b ?_, a.nf⟩
      · obtain ⟨s', e'⟩ := a.kn i s e
        have hi : i ∉ vs := (wipN_some e).2
        exact ⟨s', by rw [wipN_out hi]; exact e'⟩
      · obtain ⟨i, s, e1, e2, e3⟩ := z
        exact ⟨i, s, (wipN_some e1).1, e2, e3⟩
    have h3D : H3 D = some (.lst accV) := n.hh _ _ h2D
    have f3D : F3 D = none := n.none h2D f2D
    have no3 : ¬ OwnAt (L2.wipe σ vs) (wipN ρ2 vs) D := fun z => noD (g3.on D z)
    refine ⟨G, F3, wipN ρ2 vs, d, _, ok3, r, h2, fun σ4 ρ4 ok4 c4 q4 => ?_⟩
    have ws : L2.wipe σ4 vs = L2.wipe σ vs := by
      have e1 : L2.wipe σ4 vs = L2.wipe (L2.wipe σ vs) vs := wipe_congr c4.len fun j hj => c4.st j fun z => hj (hsub j z)
      rw [e1, wipe_wipe]
    have fin : ∀ {F5 H5 : Hp} {ρ5 : Nv}, Ok X.K G F5 σ4 H5 ρ5 → Gr σ4 F3 F5 H3 H5 ρ4 ρ5 → clnN ρ5 vs → Ok X.K G F5 (L2.wipe σ vs) H5 (wipN ρ5 vs) ∧ Gr (L2.wipe σ vs) F1 F5 H1 H5 (wipN ρ1 vs) (wipN ρ5 vs) ∧ F5 D = none ∧ H5 D = some (.lst accV) := fun {F5 H5 ρ5} ok5 g5 cl5 => by
      have o5 := ok5.wipe (vs := vs) fun i hi s e => clnN_ok cl5 hi e
      rw [ws] at o5
      obtain ⟨g6, bk⟩ := turn_gr (K := X.K) (G := G) (vs := vs) (ρ := ρ2) hsub hw c4 g5
      have no4 : ¬ OwnAt σ4 ρ4 D := fun z => no3 (bk D z)
      exact ⟨o5, g3.trans g6, g5.nf D _ h3D f3D no4, g5.hh D _ h3D no4⟩
    refine ⟨ws, G, F3, ρ4, _, fun _ _ => False, ok4, q4, fun b ρ5 F5 H5 ok5 g5 q5 => ?_, fun x ρ' F' H' da _ _ _ z => z⟩
    cases b with
    | true =>
      refine ⟨G, F5, ρ5, _, fun _ _ => False, ok5, q5, fun r6 v6 ρ6 F6 H6 ok6 g6 re6 rf6 q6 => ?_, fun x ρ' F' H' da _ _ _ z => z⟩
      obtain ⟨d7, F7, ρ7, ok7, g7, s7, rp7, hz, cl7, q7⟩ := frz_ok ok6 g6 re6 rf6 q6
      obtain ⟨o8, g8, f8, h8⟩ := fin ok7 (g5.trans g7) cl7
      have no8 : ¬ OwnAt (L2.wipe σ vs) (wipN ρ7 vs) D := fun z => noD (g8.on D z)
      refine ⟨accV, h8, by rw [rl.length]; exact hz, F7, _, _, _, o8.other f8 h0D no8, ?_, f8, upd_same, (rl.mono (n.ff.trans (g5.trans g7).ff)).snoc rp7, q7⟩
      have hne : ∀ {b : Addr} {o : HO}, H1 b = some o → b ≠ D := fun e => ne_of_none e hD
      exact ⟨g8.ff, fun b o e nn => by rw [upd_ne (hne e)]; exact g8.hh b o e nn, fun b o e => by rw [upd_ne (hne e)]; exact g8.th b o e, g8.kn, g8.on, g8.nf⟩
    | false =>
      obtain ⟨cl5, q5⟩ := q5
      obtain ⟨o8, g8, f8, h8⟩ := fin ok5 g5 cl5
      exact ⟨F5, _, acc, accV, o8, g8, f8, h8, rl.mono (n.ff.trans g5.ff), q5⟩
  · have e : i = xs.length := by omega
    subst e
    rw [List.drop_length] at h2
    refine .inl ⟨wk.stop _ H2 (g2.ff.trans ok2.sf) rfl, ?_⟩
    have okb : Ok X.K G F2 σ H2 (bckN ρ1 ρ2 vs) := ok1.unwipe cln ok2 g2.ff
    have no2 : ¬ OwnAt (L2.wipe σ vs) ρ2 D := fun z => noD (g2.on D z)
    have onb : ∀ b, OwnAt σ (bckN ρ1 ρ2 vs) b → OwnAt σ ρ1 b := fun b ⟨i, s, e1, e2, e3⟩ => by
      rcases bckN_some e1 with ⟨hi, z⟩ | ⟨hi, z⟩
      · exact ⟨i, s, z, e2, e3⟩
      · exact ownAt_wipe (g2.on b ⟨i, s, z, e2, by rw [WR.wipe_out hi]; exact e3⟩)
    have g4 : Gr σ F1 F2 H1 H2 ρ1 (bckN ρ1 ρ2 vs) := ⟨g2.ff, fun b o e nn => g2.hh b o e fun z => nn (ownAt_wipe z), g2.th, fun i s e => by
      by_cases hi : i ∈ vs
      · exact ⟨s, bckN_in (by rw [ok2.len, wipe_length, ok1.len]) e hi⟩
      · obtain ⟨s', e'⟩ := g2.kn i s (by rw [wipN_out hi]; exact e)
        exact ⟨s', by rw [bckN_out hi]; exact e'⟩, onb, fun b o e f nn => g2.nf b o e f fun z => nn (ownAt_wipe z)⟩
    have noD' : ¬ OwnAt σ (bckN ρ1 ρ2 vs) D := fun z => by
      obtain ⟨_, u, hu⟩ := OwnAt.there ok1 (onb D z)
      rw [hD] at hu; cases hu
    exact hp (.nw (.lst acc)) (.ref D) _ F2 H2 okb (g1.trans g4) ⟨D, rfl, f2D, h0D, ⟨accV, h2D, rl⟩, noD'⟩ (fun p e => by cases e; exact g1.free hD) h2
theorem q_lc {elt iter : Expr} {ifs : List Expr} {scope : Scope} {own : List (Str × Nat)} {mi : MI} {g : MG} {is : List Nat} {mt : MT} {me : MX} (hc : X.calm = true) (hN : X.N.Nodup) (hi : QI X W tg iter mi) (ok : BlkOk X.N X.env.scope scope own)
    (hg : ∀ (s : Shared) (H : Hp) (C : Addr) (cl : List (Str × Addr)) (fp : List Addr), QG (X.blk s H scope (compEnvC scope cl C X.env) fp) tg is g) (ht : ∀ (s : Shared) (H : Hp) (C : Addr) (cl : List (Str × Addr)) (fp : List Addr), QTs (X.blk s H scope (compEnvC scope cl C X.env) fp) wN ifs mt)
    (he : ∀ (s : Shared) (H : Hp) (C : Addr) (cl : List (Str × Addr)) (fp : List Addr), QX (X.blk s H scope (compEnvC scope cl C X.env) fp) wN elt me) (hsub : ∀ i ∈ is, i ∈ own.map (·.2) := by decide) (hs : ∀ x, foldedSetIterable iter X.env x = pure x := by intro _; rfl) :
    QX X W (.ListComp elt [⟨tg, iter, ifs, 0⟩] scope pos) (mLc mi g mt me (own.map (·.2))) := (pe_lc (g := tG X.K is g) (tt := tT X.K wN mt) (te := tX X.K wN me) hc hN hi ok hg ht he hs).imp fun σ H Q' h => lc_snd hsub h
/-- name = [..] -/
theorem q_setLc {i : Nat} {y : Str} {py spos : Pos} {elt iter : Expr} {ifs : List Expr} {scope : Scope} {own : List (Str × Nat)} {mi : MI} {g : MG} {is : List Nat} {mt : MT} {me : MX} (hc : X.calm = true) (hN : X.N.Nodup) (hi : QI X W tg iter mi) (ok : BlkOk X.N X.env.scope scope own)
    (hg : ∀ (s : Shared) (H : Hp) (C : Addr) (cl : List (Str × Addr)) (fp : List Addr), QG (X.blk s H scope (compEnvC scope cl C X.env) fp) tg is g) (ht : ∀ (s : Shared) (H : Hp) (C : Addr) (cl : List (Str × Addr)) (fp : List Addr), QTs (X.blk s H scope (compEnvC scope cl C X.env) fp) wN ifs mt)
    (he : ∀ (s : Shared) (H : Hp) (C : Addr) (cl : List (Str × Addr)) (fp : List Addr), QX (X.blk s H scope (compEnvC scope cl C X.env) fp) wN elt me) (hsw : swapsWith (.ListComp elt [⟨tg, iter, ifs, 0⟩] scope pos) (some (.Name y py)) spos.line X.env = pure true) (hsub : ∀ i ∈ is, i ∈ own.map (·.2) := by decide) (hy : X.N[i]? = some y := by rfl) (hyl : X.env.scope.names.lookup y = some .local := by rfl) (hs : ∀ x, foldedSetIterable iter X.env x = pure x := by intro _; rfl) :
    QS X W (.Assign [.Name y py] (.ListComp elt [⟨tg, iter, ifs, 0⟩] scope pos) spos) (mSet i (mLc mi g mt me (own.map (·.2)))) := (ps_setLc (g := tG X.K is g) (tt := tT X.K wN mt) (te := tX X.K wN me) hc hN hy hyl hsw hi ok hg ht he hs).imp fun D σ H ⟨G, F, ρ, De, ok, h, c⟩ =>
  lc_snd hsub (tX.st ok c h fun r v ρ' F' H' ok' g re rf q => by
    obtain ⟨F2, ρ2, ok2, s2, k2⟩ := stS_ok ok' re q
    exact c.nx _ F2 H' ρ2 ok2 (g.ff.trans s2) k2)
end
end WR

set_option Elab.async false
set_option linter.all false
set_option maxRecDepth 100000
set_option maxHeartbeats 4000000
set_option autoImplicit false
/-! Exceptions: raise, try .. except X as e, isinstance. -/
namespace WR
open PySem PySem.Spec PyProof.Rows L2
section
variable {X : Cx} {x n : Str} {c : Value} {i : Nat} {body suite : List Stmt} {b₀ : Stmt} {np pos pos' : Pos} {tb : WX → TS} {ts : TS} {Wout : WX}
/-- what 'except x as n' wishes: the caught one stands in the heap as such -/
def wAsE (K : PySem.W.Frag) (c : Value) (i : Nat) (ts : TS) (Wout : WX) (D : Ends) : WX := fun cls d σ H =>
  ∃ b C, cls = .ref C ∧ PySem.W.exmOne K cls c = some b ∧ (b = true → ∀ a, H a = none → ts { nx := fun σ' H' => D.nx (σ'.set i none) H', rt := D.rt, bk := fun σ' H' => D.bk (σ'.set i none) H', ct := fun σ' H' => D.ct (σ'.set i none) H' } (σ.set i (some (.ref a))) (upd H a (.ext (ExcAt a C d)))) ∧
    (b = false → Wout cls d σ H)
theorem Inv_suiteE {X : Cx} {pins : List (Addr × Obj)} {σ : L2.St} {H : Hp} {s : Shared} (I : Inv X pins σ H s) {a : Addr} : Inv (X.suite a (X.pn ++ pins)) [] σ H s :=
  ⟨I.ok.suite _ _, I.os, I.bare, I.base, I.loc, I.cell, I.free, I.freeC, fun p hp => I.pin p (by rw [List.append_nil] at hp; exact hp), I.hok, I.len⟩
theorem Inv_unsuiteE {X : Cx} {pins : List (Addr × Obj)} {σ : L2.St} {H : Hp} {s : Shared} {a : Addr} {pn' : List (Addr × Obj)} (I : Inv (X.suite a (X.pn ++ pins)) pn' σ H s) (ok : X.Ok) : Inv X pins σ H s :=
  ⟨ok, I.os, I.bare, I.base, I.loc, I.cell, I.free, I.freeC, fun p hp => I.pin p (List.mem_append_left _ hp), I.hok, I.len⟩
/-- a new thing is tracked -/
theorem Inv_track {X : Cx} {pins : List (Addr × Obj)} {σ : L2.St} {H : Hp} {s sI : Shared} (J : Inv X pins σ H sI) (I : Inv X pins σ H s) (hex : X.ex = []) {a : Addr} {φ : Heap → Prop} (an : sI.heap.get? a = none) (na : H a = none) (nL : a ≠ X.env.locals)
    (hφ : φ s.heap ∧ (∃ o, s.heap.get? a = some o) ∧ ∀ h1 h2 : Heap, φ h1 → (∀ o, h1.get? a = some o → h2.get? a = some o) → φ h2) : Inv X pins σ (upd H a (.ext φ)) s := by
  have ne : ∀ {b : Addr} {o : HO}, H b = some o → b ≠ a := fun e => ne_of_none e na
  have old : ∀ b o, X.s_0.heap.get? b = some o → b ≠ a := fun b o e z => by
    obtain ⟨o', q⟩ := J.base.there b o e (by rw [hex]; simp)
    rw [z, an] at q; cases q
  refine ⟨I.ok, I.os, I.bare, ⟨I.base.keep, I.base.slot, fun b o e n hx => ?_, I.base.there, fun b xs e => ?_, fun b o u e => ?_, fun b ps e => ?_⟩, I.loc, I.cell, ?_, fun y c e => ?_, fun p hp => ?_, fun b o e => ?_, I.len⟩
  · rw [upd_ne (old b o e)]; exact I.base.free b o e n hx
  · have := I.base.tups b xs e; rw [upd_ne (ne this)]; exact this
  · have := I.base.frzs b o u e; rw [upd_ne (ne this)]; exact this
  · obtain ⟨m, q⟩ := I.base.tbls b ps e; exact ⟨m, by rw [upd_ne (ne q)]; exact q⟩
  · rw [upd_ne (Ne.symm nL)]; exact I.free
  · have hc : c ≠ a := fun z => by
      obtain ⟨v, q⟩ := J.cell y c e
      rw [z] at q
      obtain ⟨oc, q1, _⟩ := q
      rw [an] at q1; cases q1
    rw [upd_ne hc]; exact I.freeC y c e
  · obtain ⟨q1, q2, q3, q4, q5⟩ := I.pin p hp
    have hp' : p.1 ≠ a := fun z => by
      have := (J.pin p hp).1
      rw [z, an] at this; cases this
    exact ⟨q1, by rw [upd_ne hp']; exact q2, q3, q4, q5⟩
  · by_cases hb : b = a
    · subst hb
      rw [upd_same] at e; cases e
      exact hφ
    · rw [upd_ne hb] at e
      exact (I.hok b o e).stay (fun _ _ _ q => q) (fun c q => by rw [upd_ne (ne q)]; exact q) fun c xs q => by rw [upd_ne (ne q)]; exact q
theorem ps_try_asE (hs : X.stack = X.env :: X.outer) (hf : X.env.frame = some X.env.locals) (hex : X.ex = []) (hN : X.N.Nodup) (hi : X.N[i]? = some n) (hln : X.env.kindOf n = some .local) (hc : Names X x c) (tk : Takes X Wout)
    (hb : ∀ (W : WX) (pn : List (Addr × Obj)) (xe : Value → Shared → Prop), Takes (X.tr pn xe) W → PassesOwn (model X.prog X.w) X.A X.env xe → PSs (X.tr pn xe) body (tb W))
    (hsu : ∀ (a : Addr) (pn : List (Addr × Obj)), PSs (X.suite a pn) (b₀ :: suite) ts) :
    PS X (.Try body [.ExceptHandler (some (.Name x np)) (some n) (b₀ :: suite) pos'] [] [] pos) (fun D σ H => tb (wAsE X.K c i ts Wout D) D σ H) := by
  refine ⟨fun pins s σ H D I h => ?_⟩
  have ok := I.ok
  have hfr : X.A.frames = some (X.env :: X.outer) := by rw [ok.frames, hs]
  have hloc : Loc X.env.scope n := .inl hln
  refine wpAny_Try_except ?_
  refine wpAny_mono ((hb (wAsE X.K c i ts Wout D) (X.pn ++ pins) (fun e s₁ => wpAny (model X.prog X.w) X.A (noteFrame e X.env) (fun _ s₂ => wpAny (model X.prog X.w) X.A (setFlight e none) (fun _ s₃ =>
    wpAny (model X.prog X.w) X.A (handleBy e X.env [.ExceptHandler (some (.Name x np)) (some n) (b₀ :: suite) pos']) (SP X pins D) X.xe s₃) X.xe s₂) X.xe s₁) (fun u s' xx => ?_) PassesOwn.looking).run [] s σ H D (I.toTry _) h) (fun f s1 hsp => ?_) (fun e s1 he => he)
  · obtain ⟨a, B, sI, pins', σ', H', cls, d, rfl, J', nb, up, sky, na, os, ag, b, C, rfl, hb1, hyes, hno⟩ := xx
    have J : Inv X pins σ' H' sI := J'.ofTry ok
    have sky' : Sky B (X.env :: X.outer) a (Zc (.ref C) d) X.env.locals s'.heap := by rw [← hs]; exact sky
    show wpAny (model X.prog X.w) X.A (noteFrame (.ref a) X.env) _ _ _
    refine Sky.land Zc.steady hfr hf sky' fun h3 fl3 up3 => ?_
    have J3 : Inv X pins σ' H' { s' with heap := h3 } := J.landed nb fl3.1 (up.trans up3) os ag
    obtain ⟨oe3, vs3, he3, hz3, hd3⟩ := fl3.there
    have notFr : ∀ {h : Heap} {o : Obj} {vs : Array Value}, h.FunFrames B (X.env :: X.outer) → h.get? a = some o → o.data = .fields vs → a ∉ frs (X.env :: X.outer) := fun {h o vs} ff e dd hm => by
      obtain ⟨_, o', e', hnf⟩ := ff.mem hm
      rw [e] at e'; cases e'
      exact hnf _ dd
    have nfr := notFr fl3.2.2.1 he3 hd3
    have nL : a ≠ X.env.locals := fun z => nfr (List.mem_filterMap.mpr ⟨X.env, List.mem_cons_self, by rw [hf, z]⟩)
    have nF : a ∉ X.fs := fun hm => by
      obtain ⟨e, he, q⟩ := List.mem_filterMap.mp hm
      exact nfr (List.mem_filterMap.mpr ⟨e, List.mem_cons_of_mem _ he, q⟩)
    have an : sI.heap.get? a = none := by
      cases q : sI.heap.get? a with
      | none => rfl
      | some o =>
        have := nb a o q (by rw [hs]; exact nfr)
        rw [fl3.2.1] at this; cases this
    have S3 := J3.suite he3 hd3 na nL nF
    refine wpAny_handleBy_cons (codeAny_handlers_test ?_) (by intro q; cases q)
    have LT : PySem.W.Looks (model X.prog X.w) h3 (typeOf (.ref a)) (.ref C) := fun A Q E s k q => wpAny_typeOf_ref (k _ _ he3) (by rw [hz3.1]; exact q)
    have LM := PySem.W.exm_one (M := model X.prog X.w) (J3.kIn) LT hb1
    have test : ∀ {Q : Value → Shared → Prop} {E : Value → Shared → Prop}, Q c { s' with heap := h3 } → wpAny (model X.prog X.w) (X.A.mark (some (.ref a))) (eval (.Name x np) X.env) Q E { s' with heap := h3 } := fun {Q E} q => by
      obtain ⟨hg, hdbg, hm | ⟨hm, hv, hnn⟩⟩ := hc
      · exact ld_glob (X := X.suite a ((a, oe3) :: (X.pn ++ pins))) S3 hg hm q hdbg
      · exact ld_blt (X := X.suite a ((a, oe3) :: (X.pn ++ pins))) S3 hg hm hv q hnn hdbg
    refine test (LM.here ?_)
    cases b with
    | true =>
      refine codeAny_handlers_suite_as ?_
      refine HandSPX.lands_againZ fl3 fun h4 fl4 up4 => ?_
      have J4 : Inv X pins σ' H' { s' with heap := h4 } := J.landed nb fl4.1 ((up.trans up3).trans up4) os ag
      obtain ⟨oe4, vs4, he4, hz4, hd4⟩ := fl4.there
      have J5 : Inv X pins σ' (upd H' a (.ext (ExcAt a C d))) { s' with heap := h4 } := Inv_track J J4 hex an na nL ⟨⟨oe4, vs4, he4, hz4, hd4⟩, ⟨oe4, he4⟩, fun h1 h2 ⟨o, vs, e1, e2, e3⟩ k => ⟨o, vs, k o e1, e2, e3⟩⟩
      have S4 := Inv_suiteE J5 (a := a)
      refine store_ok (X := X.suite a (X.pn ++ pins)) (v := .ref a) S4 hN hi hloc rfl (fun s5 S5 => ?_) (.inr hln)
      refine wpAny_mono ((hsu a (X.pn ++ pins)).run [] s5 _ _ _ S5 (hyes rfl a na)) (fun f s6 hsp => ?_) (fun _ _ z => False.elim z)
      have end_ : ∀ {σ6 : L2.St} {H6 : Hp} {Q : Shared → Prop}, Inv (X.suite a (X.pn ++ pins)) [] σ6 H6 s6 → (∀ s7, Inv X pins (σ6.set i none) H6 s7 → Q s7) →
          wpAny (model X.prog X.w) X.A (do bindName X.env n .none; unbindBehindTheSuite X.env n pos') (fun _ s7 => Q s7) X.xe s6 := fun {σ6 H6 Q} S6 hq => gone_ok (Inv_unsuiteE S6 ok) hN hi hln hq
      cases f with
      | next =>
        obtain ⟨σ6, H6, S6, q6⟩ := hsp
        exact end_ S6 fun s7 J7 => ⟨_, _, J7, q6⟩
      | brk =>
        obtain ⟨σ6, H6, S6, q6⟩ := hsp
        exact end_ S6 fun s7 J7 => ⟨_, _, J7, q6⟩
      | cont =>
        obtain ⟨σ6, H6, S6, q6⟩ := hsp
        exact end_ S6 fun s7 J7 => ⟨_, _, J7, q6⟩
      | ret u =>
        obtain ⟨v6, σ6, H6, S6, r6, q6⟩ := hsp
        exact end_ S6 fun s7 J7 => ⟨_, _, _, J7, r6, q6⟩
    | false =>
      show wpAny _ X.A (handleBy (.ref a) X.env []) _ _ _
      refine wpAny_handleBy_nil ?_
      obtain ⟨k1, k2, k3, oe, vs, T, oT, ts', he, hz, hd, h1, hr⟩ := id fl3
      unfold PySem.passOn
      refine wpAny_bind (wpAny_field he hd h1 ?_)
      rw [if_neg (show ¬ ((Value.ref T == Value.none) = true) from by simp)]
      have fin : wpAny (model X.prog X.w) X.A (setFlight (.ref a) X.env.frame) (fun _ s4 => wpAny (model X.prog X.w) X.A (throw (.ref a) : Sem Flow) (SP X pins D) X.xe s4) X.xe { s' with heap := h3 } := by
        rw [hf]
        refine HandSPX.setFlight_upZ fl3 fun h4 hh4 up4 => wpAny_throw (tk _ _ ?_)
        exact ⟨a, B, sI, pins, σ', H', _, d, rfl, J, nb, (up.trans up3).trans up4, .inr (.inr (by rw [hs]; exact hh4)), na, os, ag, hno rfl⟩
      first
        | exact wpAny_bind (wpAny_pure (wpAny_bind fin))
        | exact wpAny_bind fin
  · cases f with
    | next =>
      obtain ⟨σ', H', J', q⟩ := hsp
      exact wpAny_execs_nil ⟨σ', H', J'.ofTry ok, q⟩
    | brk =>
      obtain ⟨σ', H', J', q⟩ := hsp
      exact ⟨σ', H', J'.ofTry ok, q⟩
    | cont =>
      obtain ⟨σ', H', J', q⟩ := hsp
      exact ⟨σ', H', J'.ofTry ok, q⟩
    | ret u =>
      obtain ⟨v, σ', H', J', r, q⟩ := hsp
      exact ⟨v, σ', H', J'.ofTry ok, r, q⟩
end
theorem new_ext {F H : Hp} {p : Addr} {o : HO} (sf : Same F H) (h : H p = none) : New F (upd F p o) H (upd H p o) := by
  have fp : F p = none := sf.free h
  have s1 : Same F (upd F p o) := fun b u e => by rw [upd_ne (ne_of_none e fp)]; exact e
  have s2 : Same H (upd H p o) := fun b u e => by rw [upd_ne (ne_of_none e h)]; exact e
  refine ⟨s1, s2, fun b u e => ?_, fun b u e => ?_⟩
  · by_cases hb : b = p
    · subst hb; rw [upd_same] at e ⊢; exact e
    · rw [upd_ne hb] at e ⊢; exact sf b u e
  · by_cases hb : b = p
    · subst hb; exact .inr h
    · rw [upd_ne hb] at e; exact .inl e
theorem Ok.gone {K : PySem.W.Frag} {G : Gm} {F : Hp} {σ : L2.St} {H : Hp} {ρ : Nv} {i : Nat} (ok : Ok K G F σ H ρ) (hi : ∀ d, ρ[i]? ≠ some (some (.ow d))) : Ok K G F (σ.set i none) H (ρ.set i none) where
  sf := ok.sf
  frame := ok.frame
  fresh := ok.fresh
  f0 := ok.f0
  len := by simpa using ok.len
  sl := fun j s e => by
    rcases set_some e with ⟨_, z⟩ | ⟨hj, z⟩
    · cases z
    · rw [List.getElem?_set_ne (Ne.symm hj)]
      exact ok.sl j s z
  dist := fun j k p s t e1 e2 o1 o2 h1 h2 => by
    rcases set_some e1 with ⟨_, z⟩ | ⟨hj, z1⟩
    · cases z
    · rcases set_some e2 with ⟨_, z⟩ | ⟨hk, z2⟩
      · cases z
      · rw [List.getElem?_set_ne (Ne.symm hj)] at h1
        rw [List.getElem?_set_ne (Ne.symm hk)] at h2
        exact ok.dist j k p s t z1 z2 o1 o2 h1 h2
  fx := fun q hq => by
    obtain ⟨a, d, b⟩ := ok.fx q hq
    have hj : q.1 ≠ i := fun z => by rw [z] at b; exact hi d b
    exact ⟨by rw [List.getElem?_set_ne (Ne.symm hj)]; exact a, d, by rw [List.getElem?_set_ne (Ne.symm hj)]; exact b⟩
section
variable {X : Cx} {W : WX} {x n : Str} {i : Nat} {body suite : List Stmt} {b₀ : Stmt} {np pos pos' : Pos}
def mTry (K : PySem.W.Frag) (c : Addr) (i : Nat) (mb ms : MS) : MS := fun De ρ => mb { De with ex := fun x ρ1 => atK (PySem.W.exmOne K (.ref x.1) (.ref c)) fun b => cIf b (x.2 = none ∧ notOw ρ1 i ∧ ms { nx := fun ρ2 => notOw ρ2 i ∧ De.nx (ρ2.set i none), rt := De.rt, bk := fun ρ2 => notOw ρ2 i ∧ De.bk (ρ2.set i none), ct := fun ρ2 => notOw ρ2 i ∧ De.ct (ρ2.set i none), ex := fun _ _ => False } (ρ1.set i (some (.fz (.exc x.1))))) (De.ex x ρ1) } ρ
theorem q_try {c : Addr} {mb ms : MS} (hN : X.N.Nodup) (gc : X.mg x = some (.ref c)) (tk : Takes X W)
    (hb : ∀ (W : WX) (pn : List (Addr × Obj)) (xe : Value → Shared → Prop), Takes (X.tr pn xe) W → PassesOwn (model X.prog X.w) X.A X.env xe → QSs (X.tr pn xe) W body mb)
    (hsu : ∀ (a : Addr) (pn : List (Addr × Obj)), QSs (X.suite a pn) wN (b₀ :: suite) ms) (hi : X.N[i]? = some n := by rfl)
    (hs : X.stack = X.env :: X.outer := by rfl) (hf : X.env.frame = some X.env.locals := by rfl) (hex : X.ex = [] := by rfl) (hln : X.env.kindOf n = some .local := by rfl) (hg : Gl X x := by rfl) (hdb : (x == ("__debug__" : Str)) = false := by decide) :
    QS X W (.Try body [.ExceptHandler (some (.Name x np)) (some n) (b₀ :: suite) pos'] [] [] pos) (mTry X.K c i mb ms) :=
  (ps_try_asE (tb := fun W => tS X.K W mb) (ts := tS X.K wN ms) hs hf hex hN hi hln ⟨hg, hdb, .inl gc⟩ tk hb hsu).imp fun D σ H ⟨G, F, ρ, De, ok, h, co⟩ => by
    refine ⟨G, F, ρ, _, ok, h, ⟨co.nx, co.rt, co.bk, co.ct, fun xx σ1 F1 H1 ρ1 da ok1 s1 xo ⟨b, hb1, hy⟩ => ⟨b, xx.1, rfl, hb1, fun hbt a na => ?_, fun hbf => co.ex xx σ1 F1 H1 ρ1 da ok1 s1 xo (by rw [hbf] at hy; exact hy)⟩⟩⟩
    rw [hbt] at hy
    obtain ⟨x2, no, hm⟩ := hy
    have eda : da = none := by
      rw [x2] at xo
      cases da with
      | none => rfl
      | some _ => exact (show False from xo).elim
    subst eda
    have nn := new_ext (o := .ext (ExcAt a xx.1 none)) ok1.sf na
    have okp := (ok1.grow nn).put (i := i) (v := .ref a) (s := .fz (.exc xx.1)) (notOw_ok no) (fun d z => by cases z) (.exc upd_same) (fun z => by cases z)
    refine ⟨G, _, _, _, okp, hm, ?_⟩
    have s2 := s1.trans nn.ff
    exact ⟨fun σ' F' H' ρ' ok' s ⟨q1, q2⟩ => co.nx _ F' H' _ (ok'.gone (notOw_ok q1)) (s2.trans s) q2, fun r v σ' F' H' ρ' ok' s re q => co.rt r v σ' F' H' ρ' ok' (s2.trans s) re q, fun σ' F' H' ρ' ok' s ⟨q1, q2⟩ => co.bk _ F' H' _ (ok'.gone (notOw_ok q1)) (s2.trans s) q2, fun σ' F' H' ρ' ok' s ⟨q1, q2⟩ => co.ct _ F' H' _ (ok'.gone (notOw_ok q1)) (s2.trans s) q2, fun _ _ _ _ _ _ _ _ _ z => z.elim⟩
/-! ### raise -/
/-- what an own class of exceptions must say -/
structure ExcF (K : PySem.W.Frag) (C : Addr) : Prop where
  x : PySem.W.excIn K C HandSPX.veTail "ValueError.__new__" = true
  k : PySem.W.keepIn K (.ref C) = true
  b : PySem.W.subIn K (.ref C) (.type "BaseException") = some true
  t : PySem.W.typeIn K (.ref C) = some (.type "type")
def mRaise (C : Addr) : MS := fun De ρ => De.ex (C, none) ρ
theorem q_raise {C : Addr} {m : Str} {j : Nat} {p p2 p3 : Pos} (e : ExcF X.K C) (gc : X.mg x = some (.ref C)) (hc : X.calm = true) (tk : Takes X W) (hg : Gl X x := by rfl) (hdb : (x == ("__debug__" : Str)) = false := by decide) :
    QS X W (.Raise (some (.Call (.Name x p) [.Constant (.str m) j p2] [] p3)) none pos) (mRaise C) := (ps_raise hc tk (pmk_own PySem.F.excBase_ValueError e.x gc e.k (raises_own e.b e.t) hg hdb)).imp fun D σ H ⟨G, F, ρ, De, ok, h, co⟩ => co.ex (C, none) σ F H ρ none ok (.refl _) trivial h
end
end WR

set_option Elab.async false
set_option linter.all false
set_option maxRecDepth 100000
set_option maxHeartbeats 4000000
set_option autoImplicit false
/-! isinstance, stores into owned lists, methods of owned lists, calls that are handed a new list. -/
namespace WR
open PySem L2
/-! ### isinstance -/
def tyNm : D → Option String
  | .non => some "NoneType"
  | .bl _ => some "bool"
  | .int _ => some "int"
  | .str _ => some "str"
  | .tup _ => some "tuple"
  | .lst _ => some "list"
  | .scr _ => some "list"
  | .dic _ _ => some "dict"
  | _ => none
def instB (a n : String) : Bool := a == n || (a == "bool" && n == "int")
abbrev isiA : List String := ["NoneType", "bool", "int", "str", "tuple", "list", "dict"]
abbrev isiN : List String := ["int", "bool", "str", "tuple", "list", "dict"]
theorem isi_tab : (isiA.all fun a => isiN.all fun n => decide (kitB a n = some (instB a n))) = true := by decide +kernel
theorem isi_eq {a n : String} (ha : a ∈ isiA) (hn : n ∈ isiN) : kitB a n = some (instB a n) := of_decide_eq_true (List.all_eq_true.mp (List.all_eq_true.mp isi_tab a ha) n hn)
theorem tyNm_mem {d : D} {a : String} (h : tyNm d = some a) : a ∈ isiA := by
  cases d <;> simp [tyNm] at h <;> subst h <;> simp [isiA]
def clsL : List D → Option (List Value)
  | [] => some []
  | .ty n :: r => (clsL r).map (.type n :: ·)
  | .obj C :: r => (clsL r).map (.ref C :: ·)
  | _ => none
def fIsi (K : PySem.W.Frag) : List D → (Re → Prop) → Prop := fun ds Q => match ds with
  | [.exc C, .obj E] => ExcC K C ∧ ∃ b, PySem.W.kitOne K (.ref C) (.ref E) = some b ∧ Q (.va (.bl b))
  | [.exc C, .ty n] => ExcC K C ∧ ∃ b, PySem.W.kitOne K (.ref C) (.type n) = some b ∧ Q (.va (.bl b))
  | [.exc C, .tup cs] => ExcC K C ∧ ∃ us b, clsL cs = some us ∧ PySem.W.kitAny K (.ref C) us = some b ∧ Q (.va (.bl b))
  | [x, .ty n] => (match tyNm x with
    | some a => n ∈ isiN ∧ Q (.va (.bl (instB a n)))
    | none => False)
  | _ => False
section
variable {X : Cx} {W : WX} {pos : Pos}
/-- a caught exception -/
def rIsX (K : PySem.W.Frag) : List V → Hp → VK → Prop := fun xs H Q => ∃ (a C : Addr) (c : V) (b : Bool), xs = [.ref a, c] ∧ H a = some (.ext (ExcAt a C none)) ∧ ExcC K C ∧ ((∃ u, ClsV c u ∧ PySem.W.kitOne K (.ref C) u = some b) ∨ ∃ tp cs us, c = .ref tp ∧ SqT K H tp cs ∧ Paired ClsV cs us ∧ PySem.W.kitAny K (.ref C) us = some b) ∧ Q (.bl b) H
theorem call_isX : CallR X (.builtin "isinstance") (rIsX X.K) := by
  intro pins s σ H xs us Q I r h
  obtain ⟨a, D, c, b, rfl, hH, C, hc, q⟩ := h
  obtain ⟨u1, u2, rfl, r1, r2⟩ := vals2 r
  cases (show u1 = Value.ref a from r1)
  obtain ⟨⟨oe, vs, hget, hz, hv⟩, _⟩ := (show ObjOk X.prog X.w H s.heap a (.ext (ExcAt a D none)) from I.hok a _ hH)
  have J : PySem.W.InstAt s.heap a oe D none := by
    obtain ⟨oc, od, oda, osl⟩ := oe
    obtain ⟨h1, h2⟩ := hz
    dsimp only at h1 h2 hv
    subst h1 h2 hv
    exact ⟨hget, rfl, rfl, trivial⟩
  rcases hc with ⟨u, k, e⟩ | ⟨tp, cs, ws, rfl, hT, k, e⟩
  · have e2 := k.eq r2
    subst e2
    exact PySem.W.kia_one (PySem.W.handS_kitx_exc C.hg C.hk C.hs C.hd C.ha C.hn C.ht C.hm) I.kIn J e (fun z => nomatch z) fun tk => ⟨.bl b, H, I.tok tk, rfl, q⟩
  · cases (show u2 = Value.ref tp from r2)
    obtain ⟨its, rv, ⟨o, h1, h2, n, h3⟩, hz2⟩ := I.tuple hT
    have e3 := ClsV.all k rv
    subst e3
    obtain ⟨oc, od, dt, sl⟩ := o
    simp only at h2 h3
    subst h2 h3
    exact PySem.W.kia_tup (PySem.W.handS_kitx_exc C.hg C.hk C.hs C.hd C.ha C.hn C.ht C.hm) I.kIn J h1 e (fun z => nomatch z) fun tk => ⟨.bl b, H, I.tok tk, rfl, q⟩
theorem SqT.tyx {K : PySem.W.Frag} {H : Hp} {a : Addr} {vs : List V} (h : SqT K H a vs) : TyX K H (.ref a) (.type "tuple") := by
  rcases h with (h | ⟨o, h⟩) | ⟨o, its, n, h, c, _⟩
  · exact .base (.tup h)
  · exact .fTuple h
  · exact .kTuple h c
theorem SqL.tyx {K : PySem.W.Frag} {H : Hp} {a : Addr} {vs : List V} (h : SqL K H a vs) : TyX K H (.ref a) (.type "list") := by
  rcases h with (h | ⟨o, h⟩) | ⟨o, its, n, h, c, _⟩
  · exact .base (.lst h)
  · exact .base (.frz h)
  · exact .kList h c
theorem Top.tyx {K : PySem.W.Frag} {F H : Hp} {v : V} {d : D} {a : String} (sf : Same F H) (h : Top K F H v d) (e : tyNm d = some a) : TyX K H v (.type a) := by
  cases d with
  | non => cases e; rw [h.non]; exact .base .non
  | bl b => cases e; rw [h.bl]; exact .base (.bl _)
  | int i => cases e; rw [h.int]; exact .base (.int _)
  | str z => cases e; rw [h.str]; exact .base (.str _)
  | ty n => cases e
  | obj a => cases e
  | exc C => cases e
  | tup xs => cases e; obtain ⟨a, vs, rfl, q, _⟩ := h.tup sf; exact SqT.tyx q
  | lst xs => cases e; obtain ⟨a, vs, rfl, q, _⟩ := h.lst sf; exact .base (.lst q)
  | dic ks xs => cases e; obtain ⟨a, kvs, rfl, q, _⟩ := h.dic sf; exact .base (.dK q)
  | scr ns => cases e; obtain ⟨a, rfl, q⟩ := h.scr sf; exact SqL.tyx q
theorem Rep.cls {K : PySem.W.Frag} {F : Hp} : ∀ {vs : List V} {ds : List D} {us : List Value}, RepL K F vs ds → clsL ds = some us → Paired ClsV vs us
  | _, _, _, .nil, h => by cases h; exact .nil
  | _, _, _, .cons r l, h => by
    cases r with
    | ty n =>
      simp only [clsL, Option.map_eq_some_iff] at h
      obtain ⟨m, h1, rfl⟩ := h
      exact .cons (.ty n) (Rep.cls l h1)
    | obj a =>
      simp only [clsL, Option.map_eq_some_iff] at h
      obtain ⟨m, h1, rfl⟩ := h
      exact .cons (.own a) (Rep.cls l h1)
    | _ => cases h
theorem isi_snd {K : PySem.W.Frag} : CallS K (fIsi K) (fun xs H Q => rIsi K xs H Q ∨ rIsX K xs H Q) := by
  intro F H xs ds Q Q' sf ts h k
  have ex : ∀ {v : V} {C : Addr}, Top K F H v (.exc C) → ∃ a, v = .ref a ∧ H a = some (.ext (ExcAt a C none)) := fun {v C} t => by
    rcases t with t | ⟨p, _, o⟩
    · cases t with
      | exc q => exact ⟨_, rfl, sf _ _ q⟩
    · exact (show False from o).elim
  unfold fIsi at h
  split at h
  · obtain ⟨x, y, rfl, tx, ty⟩ := ts.two
    obtain ⟨C, b, e, q⟩ := h
    obtain ⟨a, rfl, ha⟩ := ex tx
    rcases ty with t | ⟨p, _, o⟩
    · cases t
      exact .inr ⟨a, _, _, b, rfl, ha, C, .inl ⟨_, .own _, e⟩, k (.va _) _ F H (.refl sf) (.bl _) q⟩
    · exact (show False from o).elim
  · obtain ⟨x, y, rfl, tx, ty⟩ := ts.two
    obtain ⟨C, b, e, q⟩ := h
    obtain ⟨a, rfl, ha⟩ := ex tx
    rcases ty with t | ⟨p, _, o⟩
    · cases t
      exact .inr ⟨a, _, _, b, rfl, ha, C, .inl ⟨_, .ty _, e⟩, k (.va _) _ F H (.refl sf) (.bl _) q⟩
    · exact (show False from o).elim
  · obtain ⟨x, y, rfl, tx, ty⟩ := ts.two
    obtain ⟨C, us, b, hc, e, q⟩ := h
    obtain ⟨a, rfl, ha⟩ := ex tx
    rcases ty with t | ⟨p, _, o⟩
    · cases t with
      | tup q1 l =>
        exact .inr ⟨a, _, _, b, rfl, ha, C, .inr ⟨_, _, us, rfl, SqT_mono sf q1, Rep.cls l hc, e⟩, k (.va _) _ F H (.refl sf) (.bl _) q⟩
    · exact (show False from o).elim
  · obtain ⟨x, y, rfl, tx, ty⟩ := ts.two
    split at h
    · rename_i a e
      rcases ty with t | ⟨p, _, o⟩
      · cases t
        exact .inl ⟨x, _, _, _, _, rfl, .ty _, tx.tyx sf e, kit_ty (isi_eq (tyNm_mem e) h.1), k (.va _) _ F H (.refl sf) (.bl _) h.2⟩
      · exact (show False from o).elim
    · exact h.elim
  · exact h.elim
theorem q_isi {p : Pos} {e e2 : Expr} {mas : MA} (hm : X.mg "isinstance" = none) (ha : QA X W [e, e2] mas) (hg : Gl X "isinstance" := by rfl) (hse : starEach [e, e2] X.env = (false, eval e X.env) :: starEach [e2] X.env := by rfl) (hpl : (backTo pos (starEach [e2] X.env)).any (·.1) = false := by rfl) : QX X W (.Call (.Name "isinstance" p) [e, e2] [] pos) (mCallB (fIsi X.K) mas) :=
  q_callB (call_isi.or call_isX) isi_snd hm ha (hg := hg) (hse := hse) (hpl := hpl)

/-! ### xs[k] = e -/
theorem onInt_ok {K : PySem.W.Frag} {G : Gm} {F : Hp} {σ : L2.St} {H : Hp} {ρ : Nv} {v : V} {r : Re} {k : Int → Prop} (re : ReOk K G F σ H ρ v r) (h : onInt r k) : ∃ c, v = .int c ∧ k c := by
  unfold onInt at h
  split at h
  · cases re; exact ⟨_, rfl, h⟩
  · exact h.elim
def setD (o : D) (k : Int) (d : D) (Q : D → Prop) : Prop := match o with
  | .lst ds => ∃ j, ixN ds.length k = some j ∧ Q (.lst (ds.set j d))
  | _ => False
def mSetIx (i : Nat) (mk me : MX) : MS := fun De ρ => me ρ (fun r ρ1 => frz r ρ1 fun d ρ2 => rdS ρ2 i fun _ => mk ρ2 (fun rk ρ3 => onInt rk fun k => ownS ρ3 i fun o put => setD o k d fun o' => De.nx (put o')) De.ex) De.ex
theorem upd_new1 {F H : Hp} {q : Addr} {o : HO} (sf : Same F H) (fq : F q = none) : New1 q F F H (upd H q o) :=
  ⟨.refl _, fun b u e n => by rw [upd_ne n]; exact e, fun b u e => by rw [upd_ne (fun z => by rw [z, fq] at e; cases e)]; exact sf b u e, fun b u e => .inl e⟩
theorem q_setIx {i : Nat} {x : Str} {ek e : Expr} {mk me : MX} {p p2 : Pos} (hk : QX X W ek mk) (he : QX X W e me) (hN : X.N[i]? = some x := by rfl) (hv : Vis X.env.scope x := by first | exact Or.inl rfl | exact Or.inr (Or.inl rfl) | exact Or.inr (Or.inr rfl)) (hd : (x == ("__debug__" : Str)) = false := by decide)
    (hcd : (x == ("__classdict__" : Str)) = false := by decide) (ha : ∀ v, assign (.Subscript (.Name x p) ek p2) X.env v = (do
      let ov ← holding [v] (eval (.Name x p) X.env)
      let iv ← holding [v, ov] (eval ek X.env)
      standAt p2
      holding [v, ov, iv] (setItem ov iv v)
      release [v, ov, iv] []) := by intro _; rfl) (hs : swapsWithSole [.Subscript (.Name x p) ek p2] e pos.line X.env = pure false := by rfl) (hw : swappedStores [.Subscript (.Name x p) ek p2] e X.env = pure none := by rfl)
    (h1 : (assignEach [.Subscript (.Name x p) ek p2] X.env).map (·.2) = [assign (.Subscript (.Name x p) ek p2) X.env] := by rfl) : QS X W (.Assign [.Subscript (.Name x p) ek p2] e pos) (mSetIx i mk me) :=
  (ps_asg he (pg_sub (pe_var hN hv hd hcd) hk set_list ha) hs hw h1).imp fun D σ H ⟨G, F, ρ, De, ok, h, c⟩ =>
  tX.st ok c h fun r v ρ1 F1 H1 ok1 g1 re1 rf1 q1 => by
    obtain ⟨d, F2, ρ2, ok2, g2, s2, rp, q2⟩ := frz_ok ok1 g1 re1 rf1 q1
    obtain ⟨u, ru, eu, reu, rfu, q3⟩ := rdS_ok ok2 q2
    refine ⟨u, eu, tX.st ok2 (c.mono g2.ff) q3 fun rk vk ρ3 F3 H3 ok3 g3 rek rfk q4 => ?_⟩
    obtain ⟨k, rfl, q5⟩ := onInt_ok rek q4
    obtain ⟨q, o, put, e1, fq, ow, q6, _, back⟩ := ownS_ok ok3 eu q5
    subst e1
    unfold setD at q6
    split at q6
    · obtain ⟨j, hj, q7⟩ := q6
      obtain ⟨vs, hq, l⟩ := ow
      refine ⟨q, vs, k, j, rfl, rfl, hq, by rw [l.length]; exact hj, ?_⟩
      have n1 := upd_new1 (o := .lst (vs.set j v)) ok3.sf fq
      obtain ⟨ok4, g4⟩ := back (d' := .lst _) n1 ⟨_, upd_same, RepL.set (rp.mono g3.ff) j l⟩
      exact c.nx σ F3 _ _ ok4 (g2.ff.trans (g3.ff.trans g4.ff)) q7
    · exact q6.elim

/-! ### methods of a slot's own list -/
def MthS (K : PySem.W.Frag) (f : D → List D → (Re → D → Prop) → Prop) (r : V → List V → Hp → VK → Prop) : Prop := ∀ (F H : Hp) (q : Addr) (o : D) (ds : List D) (vs : List V) (Qp : Re → D → Prop) (Q' : VK), Same F H → F q = none → Owned K F H q o → RepL K F vs ds → f o ds Qp →
  (∀ (re : Re) (o' : D) (v : V) (F' H' : Hp), New1 q F F' H H' → Owned K F' H' q o' → NewR K F' H H' v re → Qp re o' → Q' v H') → r (.ref q) vs H Q'
def kindD (T : String) (o : D) : Prop := match o with
  | .lst _ => T = "list"
  | .dic _ _ => T = "dict"
  | _ => False
theorem kind_ty {K : PySem.W.Frag} {F H : Hp} {q : Addr} {o : D} {T : String} (ow : Owned K F H q o) (h : kindD T o) : tyV K T (.ref q) H := by
  cases o with
  | lst xs => obtain ⟨vs, e, _⟩ := ow; exact .inl ⟨h, _, SqL.of e⟩
  | dic ks xs => obtain ⟨kvs, e, _⟩ := ow; exact .inr (.inr (.inl ⟨h, .inl ⟨_, e⟩⟩))
  | _ => exact (show False from h).elim
def mMth (i : Nat) (T : String) (f : D → List D → (Re → D → Prop) → Prop) (ma : MA) : MX := fun ρ Q E => ownS ρ i fun o0 _ => kindD T o0 ∧ ma ρ (fun rs ρ1 => frzL rs ρ1 fun ds ρ2 => ownS ρ2 i fun o put => f o ds fun r o' => Q r (put o')) E
def mMth0 (i : Nat) (T : String) (f : D → List D → (Re → D → Prop) → Prop) : MX := fun ρ Q E => ownS ρ i fun o put => kindD T o ∧ f o [] fun r o' => Q r (put o')
theorem newR_put {K : PySem.W.Frag} {G : Gm} {F F' : Hp} {σ : L2.St} {H H' : Hp} {ρ ρ' : Nv} {v : V} {r : Re} (ok : Ok K G F σ H ρ) (on : ∀ b, OwnAt σ ρ' b → OwnAt σ ρ b) (x : NewR K F' H H' v r) : ReOk K G F' σ H' ρ' v r := by
  cases r with
  | va d => exact x
  | nw d =>
    obtain ⟨p, e, f, h, o⟩ := x
    have no : ¬ OwnAt σ ρ p := fun z => by
      obtain ⟨_, u, hu⟩ := OwnAt.there ok z
      rw [h] at hu; cases hu
    refine ⟨p, e, f, ?_, o, fun z => no (on p z)⟩
    by_cases hb : p ∈ G.ows.map (·.2)
    · obtain ⟨q, hq, e2⟩ := List.mem_map.mp hb
      obtain ⟨s1, d, s2⟩ := ok.fx q hq
      exact absurd ⟨q.1, _, s2, rfl, by rw [s1, e2]⟩ no
    · cases q : G.H0 p with
      | none => rfl
      | some u => rw [ok.frame p u q hb] at h; cases h
  | br i => exact (show False from x).elim
theorem ownS_there {ρ : Nv} {i : Nat} {k : D → (D → Nv) → Prop} (h : ownS ρ i k) : ∃ s, ρ[i]? = some (some s) ∧ s.own = true := by
  unfold ownS at h
  split at h
  · exact ⟨_, by assumption, rfl⟩
  · exact ⟨_, by assumption, rfl⟩
  · exact h.elim
variable {i : Nat} {x : Str} {e : Expr} {es : List Expr} {mas : MA} {p apos cpos : Pos} {T id : String} {name : Str} {f : D → List D → (Re → D → Prop) → Prop} {r : V → List V → Hp → VK → Prop}
theorem ownS_slot {K : PySem.W.Frag} {G : Gm} {F : Hp} {σ : L2.St} {H : Hp} {ρ : Nv} {i : Nat} {k : D → (D → Nv) → Prop} (ok : Ok K G F σ H ρ) (h : ownS ρ i k) : ∃ v, σ[i]? = some (some v) := by
  obtain ⟨s, e, _⟩ := ownS_there h
  obtain ⟨v, e2, _⟩ := ok.sl i s e
  exact ⟨v, e2⟩
theorem q_mth (pa : PlainAttrs T) (slot : Slot T name id) (hty : typeOf (.builtin id) = pure (.type "method_descriptor")) (hm : MtR X id r) (hs : MthS X.K f r) (ha : QA X W (e :: es) mas)
    (hN : X.N[i]? = some x := by rfl) (hv : Vis X.env.scope x := by first | exact Or.inl rfl | exact Or.inr (Or.inl rfl) | exact Or.inr (Or.inr rfl)) (hd : (x == ("__debug__" : Str)) = false := by decide) (hcd : (x == ("__classdict__" : Str)) = false := by decide)
    (hbase : attributeBase (.Name x p) name X.env (eval (.Name x p) X.env) = eval (.Name x p) X.env := by rfl)
    (hfew : ((backTo cpos (starEach (e :: es) X.env)).all (fun x => !x.1) && (backToKw cpos (keywordEach [] X.env)).all (fun x => x.1.isSome)
      && decide ((e :: es).length + ([] : List Keyword).length + (if ([] : List Keyword).isEmpty then 0 else 1) < 30)) = true := by rfl)
    (hline : (apos.endLine == cpos.line) = true := by rfl) (hse : starEach (e :: es) X.env = (false, eval e X.env) :: starEach es X.env := by rfl) (hplain : (backTo cpos (starEach es X.env)).any (·.1) = false := by rfl) :
    QX X W (.Call (.Attribute (.Name x p) name apos) (e :: es) [] cpos) (mMth i T f mas) := (pe_bm pa slot hty hm (pe_var hN hv hd hcd) ha hbase hfew hline hse hplain).imp fun σ H Q' ⟨G, F, ρ, Q, E, ok, hm, hp, he⟩ => by
  obtain ⟨u, eu⟩ := ownS_slot ok hm
  obtain ⟨q0, o0, put0, e0, fq0, ow0, ⟨kd, h0⟩, _, _⟩ := ownS_ok ok eu hm
  subst e0
  refine ⟨_, eu, kind_ty ow0 kd, G, F, ρ, _, E, ok, h0, fun rs vs ρ1 F1 H1 ok1 g1 res h1 => ?_, he⟩
  obtain ⟨ds, F2, ρ2, ok2, g2, s2, rl, h2⟩ := frzL_ok ok1 g1 (Paired.mapP res fun _ _ y => ⟨y.1.w, y.2⟩) h1
  obtain ⟨q, o, put, e1, fq, ow, h3, _, back⟩ := ownS_ok ok2 eu h2
  cases e1
  refine hs F2 H1 q0 o ds vs _ Q' ok2.sf fq ow rl h3 fun re o' v F3 H3 n ow' nr z => ?_
  obtain ⟨ok3, g3⟩ := back n ow'
  exact hp re v (put o') F3 H3 ok3 (g2.trans g3) (newR_put ok2 g3.on nr) (ReF.before g2 nr.fr) z
theorem q_mth0 (pa : PlainAttrs T) (slot : Slot T name id) (hty : typeOf (.builtin id) = pure (.type "method_descriptor")) (hm : MtR X id r) (hs : MthS X.K f r)
    (hN : X.N[i]? = some x := by rfl) (hv : Vis X.env.scope x := by first | exact Or.inl rfl | exact Or.inr (Or.inl rfl) | exact Or.inr (Or.inr rfl)) (hd : (x == ("__debug__" : Str)) = false := by decide) (hcd : (x == ("__classdict__" : Str)) = false := by decide)
    (hbase : attributeBase (.Name x p) name X.env (eval (.Name x p) X.env) = eval (.Name x p) X.env := by rfl) (hline : (apos.endLine == cpos.line) = true := by rfl) :
    QX X W (.Call (.Attribute (.Name x p) name apos) [] [] cpos) (mMth0 i T f) := (pe_bm0 pa slot hty hm (pe_var hN hv hd hcd) hbase hline).imp fun σ H Q' ⟨G, F, ρ, Q, E, ok, hm, hp, he⟩ => by
  obtain ⟨u, eu⟩ := ownS_slot ok hm
  obtain ⟨q, o, put, e1, fq, ow, ⟨kd, h3⟩, _, back⟩ := ownS_ok ok eu hm
  cases e1
  refine ⟨_, eu, kind_ty ow kd, ?_⟩
  refine hs F H q o [] [] _ Q' ok.sf fq ow .nil h3 fun re o' v F3 H3 n ow' nr z => ?_
  obtain ⟨ok3, g3⟩ := back n ow'
  exact hp re v (put o') F3 H3 ok3 g3 (newR_put ok g3.on nr) nr.fr z
def fAppend : D → List D → (Re → D → Prop) → Prop := fun o ds Q => match o, ds with
  | .lst xs, [d] => xs.length < sizeLine ∧ Q (.va .non) (.lst (xs ++ [d]))
  | _, _ => False
theorem append_snd {K : PySem.W.Frag} : MthS K fAppend rAppend := fun F H q o ds vs Qp Q' sf fq ow rl h k => by
  unfold fAppend at h
  split at h
  · obtain ⟨us, e, l⟩ := ow
    cases rl with
    | cons r1 r2 =>
      cases r2
      exact ⟨q, us, _, rfl, rfl, e, by rw [l.length]; exact h.1, k (.va .non) (.lst _) .non F _ (upd_new1 sf fq) ⟨_, upd_same, l.snoc r1⟩ .non h.2⟩
  · exact h.elim
def fExtend : D → List D → (Re → D → Prop) → Prop := fun o ds Q => match o, ds with
  | .lst xs, [.lst ys] => xs.length + ys.length ≤ sizeLine ∧ Q (.va .non) (.lst (xs ++ ys))
  | _, _ => False
theorem extend_snd {K : PySem.W.Frag} : MthS K fExtend rExtend := fun F H q o ds vs Qp Q' sf fq ow rl h k => by
  unfold fExtend at h
  split at h
  · obtain ⟨us, e, l⟩ := ow
    cases rl with
    | cons r1 r2 =>
      cases r2
      cases r1 with
      | lst e2 l2 => exact ⟨q, _, us, _, rfl, rfl, e, sf _ _ e2, by rw [l.length, l2.length]; exact h.1, k (.va .non) (.lst _) .non F _ (upd_new1 sf fq) ⟨_, upd_same, l.append l2⟩ .non h.2⟩
  · exact h.elim
theorem RepL.dropLast {K : PySem.W.Frag} {F : Hp} {vs : List V} {ds : List D} (l : RepL K F vs ds) : RepL K F vs.dropLast ds.dropLast := by
  rw [List.dropLast_eq_take, List.dropLast_eq_take, l.length]
  exact l.take _
theorem RepL.erase {K : PySem.W.Frag} {F : Hp} : ∀ {vs : List V} {ds : List D} (j : Nat), RepL K F vs ds → RepL K F (vs.eraseIdx j) (ds.eraseIdx j)
  | _, _, _, .nil => .nil
  | _, _, 0, .cons _ t => t
  | _, _, j + 1, .cons r t => .cons r (RepL.erase j t)
def fPop : D → List D → (Re → D → Prop) → Prop := fun o ds Q => match o, ds with
  | .lst xs, [] => ∃ y, xs[xs.length - 1]? = some y ∧ Q (.va y) (.lst xs.dropLast)
  | _, _ => False
theorem pop_snd {K : PySem.W.Frag} : MthS K fPop rPop := fun F H q o ds vs Qp Q' sf fq ow rl h k => by
  unfold fPop at h
  split at h
  · obtain ⟨us, e, l⟩ := ow
    obtain ⟨y, hy, h2⟩ := h
    obtain ⟨v, hv, r⟩ := l.get hy
    cases rl
    exact ⟨q, us, v, rfl, rfl, e, by rw [l.length]; exact hv, k (.va y) (.lst _) v F _ (upd_new1 sf fq) ⟨_, upd_same, l.dropLast⟩ r h2⟩
  · exact h.elim
def fPopAt : D → List D → (Re → D → Prop) → Prop := fun o ds Q => match o, ds with
  | .lst xs, [.int i] => -(2 ^ 63) ≤ i ∧ i < 2 ^ 63 ∧ ∃ k y, seqIndex? i xs.length = some k ∧ xs[k]? = some y ∧ Q (.va y) (.lst (xs.eraseIdx k))
  | _, _ => False
theorem popAt_snd {K : PySem.W.Frag} : MthS K fPopAt rPopAt := fun F H q o ds vs Qp Q' sf fq ow rl h k => by
  unfold fPopAt at h
  split at h
  · obtain ⟨us, e, l⟩ := ow
    obtain ⟨h1, h2, j, y, hj, hy, h3⟩ := h
    obtain ⟨v, hv, r⟩ := l.get hy
    cases rl with
    | cons r1 r2 =>
      cases r2
      cases r1
      exact ⟨q, us, _, j, v, rfl, rfl, e, h1, h2, by rw [l.length]; exact hj, hv, k (.va y) (.lst _) v F _ (upd_new1 sf fq) ⟨_, upd_same, l.erase j⟩ r h3⟩
  · exact h.elim
def fReverse : D → List D → (Re → D → Prop) → Prop := fun o ds Q => match o, ds with
  | .lst xs, [] => Q (.va .non) (.lst xs.reverse)
  | _, _ => False
theorem reverse_snd {K : PySem.W.Frag} : MthS K fReverse rReverse := fun F H q o ds vs Qp Q' sf fq ow rl h k => by
  unfold fReverse at h
  split at h
  · obtain ⟨us, e, l⟩ := ow
    cases rl
    exact ⟨q, us, rfl, rfl, e, k (.va .non) (.lst _) .non F _ (upd_new1 sf fq) ⟨_, upd_same, l.reverse⟩ .non h⟩
  · exact h.elim
def fClear : D → List D → (Re → D → Prop) → Prop := fun o ds Q => match o, ds with
  | .lst xs, [] => Q (.va .non) (.lst [])
  | _, _ => False
theorem clear_snd {K : PySem.W.Frag} : MthS K fClear rClear := fun F H q o ds vs Qp Q' sf fq ow rl h k => by
  unfold fClear at h
  split at h
  · obtain ⟨us, e, l⟩ := ow
    cases rl
    exact ⟨q, us, rfl, rfl, e, k (.va .non) (.lst _) .non F _ (upd_new1 sf fq) ⟨_, upd_same, .nil⟩ .non h⟩
  · exact h.elim
def fInsert : D → List D → (Re → D → Prop) → Prop := fun o ds Q => match o, ds with
  | .lst xs, [.int i, d] => xs.length < sizeLine ∧ 0 ≤ i ∧ i < 2 ^ 63 ∧ Q (.va .non) (.lst (xs.take i.toNat ++ [d] ++ xs.drop i.toNat))
  | _, _ => False
theorem insert_snd {K : PySem.W.Frag} : MthS K fInsert (fun x vs H Q => ∃ (l : Addr) (xs : List V) (i : Int) (y : V), x = .ref l ∧ vs = [.int i, y] ∧ H l = some (.lst xs) ∧ xs.length < sizeLine ∧ 0 ≤ i ∧ i < 2 ^ 63 ∧
    Q .non (upd H l (.lst (xs.take i.toNat ++ [y] ++ xs.drop i.toNat)))) := fun F H q o ds vs Qp Q' sf fq ow rl h k => by
  unfold fInsert at h
  split at h
  · obtain ⟨us, e, l⟩ := ow
    cases rl with
    | cons r1 r2 =>
      cases r2 with
      | cons r2 r3 =>
        cases r3
        cases r1
        exact ⟨q, us, _, _, rfl, rfl, e, by rw [l.length]; exact h.1, h.2.1, h.2.2.1, k (.va .non) (.lst _) .non F _ (upd_new1 sf fq) ⟨_, upd_same, ((l.take _).append (.one r2)).append (l.drop _)⟩ .non h.2.2.2⟩
  · exact h.elim
theorem q_append (ha : QA X W [e] mas) (hN : X.N[i]? = some x := by rfl) (hv : Vis X.env.scope x := by first | exact Or.inl rfl | exact Or.inr (Or.inl rfl) | exact Or.inr (Or.inr rfl)) (hd : (x == ("__debug__" : Str)) = false := by decide) (hcd : (x == ("__classdict__" : Str)) = false := by decide) (hline : (apos.endLine == cpos.line) = true := by rfl) (hse : starEach [e] X.env = (false, eval e X.env) :: starEach [] X.env := by rfl)
    (hfew : ((backTo cpos (starEach [e] X.env)).all (fun x => !x.1) && (backToKw cpos (keywordEach [] X.env)).all (fun x => x.1.isSome) && decide ([e].length + ([] : List Keyword).length + (if ([] : List Keyword).isEmpty then 0 else 1) < 30)) = true := by rfl) : QX X W (.Call (.Attribute (.Name x p) "append" apos) [e] [] cpos) (mMth i "list" fAppend mas) :=
  q_mth PySem.F.plainAttrs_list PySem.F.slot_list_append PySem.F.type_list_append mt_append append_snd ha hN hv hd hcd (hfew := hfew) (hline := hline) (hse := hse)
theorem q_extend (ha : QA X W [e] mas) (hN : X.N[i]? = some x := by rfl) (hv : Vis X.env.scope x := by first | exact Or.inl rfl | exact Or.inr (Or.inl rfl) | exact Or.inr (Or.inr rfl)) (hd : (x == ("__debug__" : Str)) = false := by decide) (hcd : (x == ("__classdict__" : Str)) = false := by decide) (hline : (apos.endLine == cpos.line) = true := by rfl) (hse : starEach [e] X.env = (false, eval e X.env) :: starEach [] X.env := by rfl)
    (hfew : ((backTo cpos (starEach [e] X.env)).all (fun x => !x.1) && (backToKw cpos (keywordEach [] X.env)).all (fun x => x.1.isSome) && decide ([e].length + ([] : List Keyword).length + (if ([] : List Keyword).isEmpty then 0 else 1) < 30)) = true := by rfl) : QX X W (.Call (.Attribute (.Name x p) "extend" apos) [e] [] cpos) (mMth i "list" fExtend mas) :=
  q_mth PySem.F.plainAttrs_list PySem.F.slot_list_extend PySem.F.type_list_extend mt_extend extend_snd ha hN hv hd hcd (hfew := hfew) (hline := hline) (hse := hse)
theorem q_pop (hN : X.N[i]? = some x := by rfl) (hv : Vis X.env.scope x := by first | exact Or.inl rfl | exact Or.inr (Or.inl rfl) | exact Or.inr (Or.inr rfl)) (hd : (x == ("__debug__" : Str)) = false := by decide) (hcd : (x == ("__classdict__" : Str)) = false := by decide) (hline : (apos.endLine == cpos.line) = true := by rfl) : QX X W (.Call (.Attribute (.Name x p) "pop" apos) [] [] cpos) (mMth0 i "list" fPop) :=
  q_mth0 PySem.F.plainAttrs_list PySem.F.slot_list_pop PySem.F.type_list_pop mt_pop pop_snd hN hv hd hcd (hline := hline)
theorem q_reverse (hN : X.N[i]? = some x := by rfl) (hv : Vis X.env.scope x := by first | exact Or.inl rfl | exact Or.inr (Or.inl rfl) | exact Or.inr (Or.inr rfl)) (hd : (x == ("__debug__" : Str)) = false := by decide) (hcd : (x == ("__classdict__" : Str)) = false := by decide) (hline : (apos.endLine == cpos.line) = true := by rfl) : QX X W (.Call (.Attribute (.Name x p) "reverse" apos) [] [] cpos) (mMth0 i "list" fReverse) :=
  q_mth0 PySem.F.plainAttrs_list PySem.F.slot_list_reverse PySem.F.type_list_reverse mt_reverse reverse_snd hN hv hd hcd (hline := hline)
theorem q_clear (hN : X.N[i]? = some x := by rfl) (hv : Vis X.env.scope x := by first | exact Or.inl rfl | exact Or.inr (Or.inl rfl) | exact Or.inr (Or.inr rfl)) (hd : (x == ("__debug__" : Str)) = false := by decide) (hcd : (x == ("__classdict__" : Str)) = false := by decide) (hline : (apos.endLine == cpos.line) = true := by rfl) : QX X W (.Call (.Attribute (.Name x p) "clear" apos) [] [] cpos) (mMth0 i "list" fClear) :=
  q_mth0 PySem.F.plainAttrs_list PySem.F.slot_list_clear PySem.F.type_list_clear mt_clear clear_snd hN hv hd hcd (hline := hline)
theorem q_popAt (ha : QA X W [e] mas) (hN : X.N[i]? = some x := by rfl) (hv : Vis X.env.scope x := by first | exact Or.inl rfl | exact Or.inr (Or.inl rfl) | exact Or.inr (Or.inr rfl)) (hd : (x == ("__debug__" : Str)) = false := by decide) (hcd : (x == ("__classdict__" : Str)) = false := by decide) (hline : (apos.endLine == cpos.line) = true := by rfl) (hse : starEach [e] X.env = (false, eval e X.env) :: starEach [] X.env := by rfl)
    (hfew : ((backTo cpos (starEach [e] X.env)).all (fun x => !x.1) && (backToKw cpos (keywordEach [] X.env)).all (fun x => x.1.isSome) && decide ([e].length + ([] : List Keyword).length + (if ([] : List Keyword).isEmpty then 0 else 1) < 30)) = true := by rfl) : QX X W (.Call (.Attribute (.Name x p) "pop" apos) [e] [] cpos) (mMth i "list" fPopAt mas) :=
  q_mth PySem.F.plainAttrs_list PySem.F.slot_list_pop PySem.F.type_list_pop mt_popAt popAt_snd ha hN hv hd hcd (hfew := hfew) (hline := hline) (hse := hse)
theorem q_insert {e2 : Expr} (ha : QA X W [e, e2] mas) (hN : X.N[i]? = some x := by rfl) (hv : Vis X.env.scope x := by first | exact Or.inl rfl | exact Or.inr (Or.inl rfl) | exact Or.inr (Or.inr rfl)) (hd : (x == ("__debug__" : Str)) = false := by decide) (hcd : (x == ("__classdict__" : Str)) = false := by decide) (hline : (apos.endLine == cpos.line) = true := by rfl) (hse : starEach [e, e2] X.env = (false, eval e X.env) :: starEach [e2] X.env := by rfl) (hplain : (backTo cpos (starEach [e2] X.env)).any (·.1) = false := by rfl)
    (hfew : ((backTo cpos (starEach [e, e2] X.env)).all (fun x => !x.1) && (backToKw cpos (keywordEach [] X.env)).all (fun x => x.1.isSome) && decide ([e, e2].length + ([] : List Keyword).length + (if ([] : List Keyword).isEmpty then 0 else 1) < 30)) = true := by rfl) : QX X W (.Call (.Attribute (.Name x p) "insert" apos) [e, e2] [] cpos) (mMth i "list" fInsert mas) :=
  q_mth PySem.F.plainAttrs_list PySem.F.slot_list_insert PySem.F.type_list_insert mt_insert insert_snd ha hN hv hd hcd (hfew := hfew) (hline := hline) (hse := hse) (hplain := hplain)
/-! ### a call that is handed a new list -/
def vaL : List Re → Option (List D)
  | [] => some []
  | .va d :: r => (vaL r).map (d :: ·)
  | _ => none
theorem vaL_ok {K : PySem.W.Frag} {G : Gm} {Ha F : Hp} {σ : L2.St} {H : Hp} {ρ : Nv} : ∀ {vs : List V} {rs : List Re} {ds : List D}, ReOks K G Ha F σ H ρ vs rs → vaL rs = some ds → RepL K F vs ds
  | _, [], _, .nil, h => by cases h; exact .nil
  | _, .va d :: rs, _, .cons x l, h => by
    simp only [vaL, Option.map_eq_some_iff] at h
    obtain ⟨m, h1, rfl⟩ := h
    exact .cons x.1 (vaL_ok l h1)
  | _, .nw _ :: _, _, .cons _ _, h => by cases h
  | _, .br _ :: _, _, .cons _ _, h => by cases h
def onVa (rs : List Re) (k : List D → Prop) : Prop := match vaL rs with
  | some ds => k ds
  | none => False
def onNw (r : Option Re) (k : D → Prop) : Prop := match r with
  | some (.nw o) => k o
  | _ => False
def mCallN (j : Nat) (psp : P1) (m : MA) : MX := fun ρ Q E => m ρ (fun rs ρ1 => onNw rs[j]? fun o => onVa (rs.eraseIdx j) fun ds => psp ds o (fun r _ => Q r ρ1) (fun x _ => E x ρ1)) E
theorem Ok.oth1 {K : PySem.W.Frag} {G : Gm} {F F' : Hp} {σ : L2.St} {H H' : Hp} {ρ : Nv} {q : Addr} (ok : Ok K G F σ H ρ) (fq : F q = none) (h0 : G.H0 q = none) (no : ¬ OwnAt σ ρ q) (n : New1 q F F' H H') : Ok K G F' σ H' ρ := by
  have none_ : ∀ b u, H b = some u → F b = none → F' b = none := fun b u e f => by
    cases z : F' b with
    | none => rfl
    | some w =>
      rcases n.nf b w z with y | y
      · rw [f] at y; cases y
      · rw [e] at y; cases y
  refine ⟨n.fh, fun b u e nb => n.hh b u (ok.frame b u e nb) (fun z => by rw [z, h0] at e; cases e), fun b u e => ?_, ok.f0.trans n.ff, ok.len, fun i s e => ?_, ok.dist, ok.fx⟩
  · rcases n.nf b u e with z | z
    · exact ok.fresh b u z
    · cases y : G.H0 b with
      | none => exact .inr rfl
      | some w =>
        by_cases hb : b ∈ G.ows.map (·.2)
        · obtain ⟨z2, hz2, e2⟩ := List.mem_map.mp hb
          obtain ⟨a, d, c⟩ := ok.fx z2 hz2
          obtain ⟨_, w', hw⟩ := OwnAt.there ok ⟨z2.1, _, c, rfl, a⟩
          rw [e2, z] at hw; cases hw
        · rw [ok.frame b w y hb] at z; cases z
  · obtain ⟨v, e2, x⟩ := ok.sl i s e
    refine ⟨v, e2, ?_⟩
    cases s with
    | fz d => exact Rep.mono n.ff x
    | ow d =>
      obtain ⟨p, e3, e4, e5, o⟩ := x
      subst e3
      have pq : p ≠ q := fun y => no ⟨i, _, e, rfl, by rw [← y]; exact e2⟩
      obtain ⟨w, hw⟩ := Owned.there o
      exact ⟨p, rfl, none_ p w hw e4, e5, Owned.mono n.ff (fun u y => n.hh p u y pq) o⟩
    | lo d =>
      obtain ⟨p, e3, e4, e5, o⟩ := x
      subst e3
      have pq : p ≠ q := fun y => no ⟨i, _, e, rfl, by rw [← y]; exact e2⟩
      obtain ⟨w, hw⟩ := Owned.there o
      exact ⟨p, rfl, none_ p w hw e4, e5, Owned.mono n.ff (fun u y => n.hh p u y pq) o⟩
theorem q_callN {k j : Nat} {f : Addr} {fd : FuncData} {ps : List Str} {psp : P1} (Fn : FnOk X.prog X.w X.K X.mg X.base (L2.CX X.prog X.w) k f fd ps (sp1 X.K j psp)) (hr : Room k X.A) (hm : X.mg x = some (.ref f)) (hk : PySem.W.keepIn X.K (.ref f) = true) (hb : Binds X.K fd ps []) (tk : Takes X W)
    (ha : QA X W (e :: es) mas) (hg : Gl X x := by rfl) (hdb : (x == ("__debug__" : Str)) = false := by decide) (he : starEach (e :: es) X.env = (false, eval e X.env) :: starEach es X.env := by rfl) (hpl : (backTo pos (starEach es X.env)).any (·.1) = false := by rfl) :
    QX X W (.Call (.Name x p) (e :: es) [] pos) (mCallN j psp mas) := (pe_callS Fn hr hg hm hk hb (fun σ => passAt tk σ) ha hdb he hpl).imp fun σ H Q' ⟨G, F, ρ, Q, E, ok, hm, hp, he⟩ =>
  ⟨G, F, ρ, _, E, ok, hm, fun rs vs ρ1 F1 H1 ok1 g1 res h1 => by
    unfold onNw at h1
    split at h1
    · rename_i o ei
      obtain ⟨v, ev, ⟨q, rfl, fq, h0, ow, no⟩, rf⟩ := Paired.get2 res ei
      have hq : H q = none := rf q rfl
      unfold onVa at h1
      split at h1
      · rename_i ds eds
        have rl := vaL_ok (Paired.erase j res) eds
        have gg : ∀ {F3 H3 : Hp}, New1 q F1 F3 H1 H3 → Gr σ F F3 H H3 ρ ρ1 := fun {F3 H3} n => ⟨g1.ff.trans n.ff, fun b u e nn => n.hh b u (g1.hh b u e nn) (ne_of_none e hq), fun b u e => by
            obtain ⟨u', e'⟩ := g1.th b u e
            exact ⟨u', n.hh b u' e' (ne_of_none e hq)⟩, g1.kn, g1.on, fun b u e f nn => by
            have e1 := g1.hh b u e nn
            have f1 := g1.nf b u e f nn
            cases z : F3 b with
            | none => rfl
            | some w =>
              rcases n.nf b w z with y | y
              · rw [f1] at y; cases y
              · rw [e1] at y; cases y⟩
        refine ⟨F1, ds, q, o, _, _, ok1.sf, ev, fq, ow, rl, h1, fun r o' w F3 H3 n ow' x z => ?_, fun x o' da F3 H3 n ow' xo z => ?_⟩
        · exact hp r w ρ1 F3 H3 (ok1.oth1 fq h0 no n) (gg n) (newR_put ok1 (fun _ z => z) x) (ReF.before g1 x.fr) z
        · exact he x ρ1 F3 H3 da (ok1.oth1 fq h0 no n) (gg n) xo z
      · exact h1.elim
    · exact h1.elim, he⟩
end
end WR

set_option Elab.async false
set_option linter.all false
set_option maxRecDepth 100000
set_option maxHeartbeats 4000000
set_option autoImplicit false
/-! Defs by name, classes by name. -/
namespace WR
open PySem L2
/-- the def at f keeps its promise -/
def Fok (P : Program) (w : World) (K : PySem.W.Frag) (mg : Str → Option Value) (base : Heap) (k : Nat) (f : Addr) (ps : List Str) (sp : Sp) : Prop :=
  ∃ fd, FnOk P w K mg base (L2.CX P w) k f fd ps sp ∧ Binds K fd ps [] ∧ PySem.W.keepIn K (.ref f) = true ∧ ∀ (s : Shared) (us : List Value), us.length = ps.length → BindsTo s fd ⟨us, []⟩ (ps.zip us)
abbrev FnA (K : PySem.W.Frag) (x : Str) (st : Stmt) : Prop := ∃ fd, FunD K x x (defArgs st) (defBody st) (defScope st) [] [] (He.ga K x) fd
section
variable {P : Program} {w : World} {K : PySem.W.Frag} {mg : Str → Option Value} {base : Heap} {x : Str} {st : Stmt} {N ps : List Str} {k : Nat}
abbrev CxA (P : Program) (w : World) (K : PySem.W.Frag) (mg : Str → Option Value) (base : Heap) (N : List Str) (x : Str) (sc : Scope) (cdv : Value) (A : Around) (outer : List Env) (s : Shared) (H : Hp) (E : XK) : Cx := cxOf (L2.CX P w) P w K mg base N x sc (He.ga K x) cdv A outer s H E
theorem fok0 {p : P0} {m : MS} (F : FnA K x st) (S : FnScope N ps (defScope st)) (hb : ∀ (kV doc pm : Value) (an : Option Addr) (cdv ct : Value) (us : List Value), us.length = ps.length → bindArgs (PySem.W.fnOf x x (defArgs st) (defBody st) (defScope st) .none kV doc pm an cdv ct) ⟨us, []⟩ = pure (ps.zip us))
    (len : ∀ ds Q E, p ds Q E → ds.length = ps.length)
    (hq : ∀ (cdv : Value) (A : Around) (outer : List Env) (s : Shared) (H : Hp) (E : XK), Room k (A.deeper (PyProof.Rows.envOfC x (defScope st) s.heap.objs.size (He.ga K x) cdv)) → QSs (CxA P w K mg base N x (defScope st) cdv A outer s H E) (wE E) (defBody st) m)
    (hm : ∀ ds Q E, p ds Q E → m (ends0 Q E) (in0 N ds)) : Fok P w K mg base (k + 1) (He.ga K x) ps (sp0 K p) := by
  obtain ⟨fd, F⟩ := F
  exact ⟨fd, ok0 F S len hq hm, F.bindsN hb, F.kp, F.bindsA hb⟩
theorem fok1 {j : Nat} {p : P1} {m : MS} (F : FnA K x st) (S : FnScope N ps (defScope st)) (hb : ∀ (kV doc pm : Value) (an : Option Addr) (cdv ct : Value) (us : List Value), us.length = ps.length → bindArgs (PySem.W.fnOf x x (defArgs st) (defBody st) (defScope st) .none kV doc pm an cdv ct) ⟨us, []⟩ = pure (ps.zip us))
    (len : ∀ ds o Q E, p ds o Q E → ds.length + 1 = ps.length)
    (hq : ∀ (cdv : Value) (A : Around) (outer : List Env) (s : Shared) (H : Hp) (E : XK), Room k (A.deeper (PyProof.Rows.envOfC x (defScope st) s.heap.objs.size (He.ga K x) cdv)) → QSs (CxA P w K mg base N x (defScope st) cdv A outer s H E) (wE E) (defBody st) m)
    (hm : ∀ ds o Q E, p ds o Q E → m (ends1 j Q E) (in1 N j ds o)) : Fok P w K mg base (k + 1) (He.ga K x) ps (sp1 K j p) := by
  obtain ⟨fd, F⟩ := F
  exact ⟨fd, ok1 F S len hq hm, F.bindsN hb, F.kp, F.bindsA hb⟩
theorem Fok.imp0 {f : Addr} {p p' : P0} (h : Fok P w K mg base k f ps (sp0 K p)) (i : ∀ ds Q E, p' ds Q E → p ds Q E) : Fok P w K mg base k f ps (sp0 K p') := by
  obtain ⟨fd, F, b, kp, ba⟩ := h
  refine ⟨fd, ⟨fun vs H Q E ⟨F0, ds, Qp, Ep, h1, h2, h3, h4⟩ => F.len vs H Q E ⟨F0, ds, Qp, Ep, h1, h2, i _ _ _ h3, h4⟩, fun A outer s H args us vs Q E a b c d ⟨F0, ds, Qp, Ep, h1, h2, h3, h4⟩ => F.run A outer s H args us vs Q E a b c d ⟨F0, ds, Qp, Ep, h1, h2, i _ _ _ h3, h4⟩⟩, b, kp, ba⟩
end
section
variable {X : Cx} {W : WX} {k : Nat} {f : Addr} {ps : List Str} {x : Str} {p pos : Pos} {e : Expr} {es : List Expr} {mas : MA}
theorem c_call {psp : P0} (Fn : Fok X.prog X.w X.K X.mg X.base k f ps (sp0 X.K psp)) (hr : Room k X.A) (hm : X.mg x = some (.ref f)) (tk : Takes X W)
    (ha : QA X W (e :: es) mas) (hg : Gl X x := by rfl) (hdb : (x == ("__debug__" : Str)) = false := by decide) (he : starEach (e :: es) X.env = (false, eval e X.env) :: starEach es X.env := by rfl) (hpl : (backTo pos (starEach es X.env)).any (·.1) = false := by rfl) :
    QX X W (.Call (.Name x p) (e :: es) [] pos) (mCall psp mas) := by
  obtain ⟨fd, F, b, kp, _⟩ := Fn
  exact q_call F hr hm kp b tk ha hg hdb he hpl
theorem c_callO {j : Nat} {psp : P1} (Fn : Fok X.prog X.w X.K X.mg X.base k f ps (sp1 X.K j psp)) (hr : Room k X.A) (hm : X.mg x = some (.ref f)) (tk : Takes X W)
    (ha : QA X W (e :: es) mas) (hg : Gl X x := by rfl) (hdb : (x == ("__debug__" : Str)) = false := by decide) (he : starEach (e :: es) X.env = (false, eval e X.env) :: starEach es X.env := by rfl) (hpl : (backTo pos (starEach es X.env)).any (·.1) = false := by rfl) :
    QX X W (.Call (.Name x p) (e :: es) [] pos) (mCallO j psp mas) := by
  obtain ⟨fd, F, b, kp, _⟩ := Fn
  exact q_callO F hr hm kp b tk ha hg hdb he hpl
theorem c_callN {j : Nat} {psp : P1} (Fn : Fok X.prog X.w X.K X.mg X.base k f ps (sp1 X.K j psp)) (hr : Room k X.A) (hm : X.mg x = some (.ref f)) (tk : Takes X W)
    (ha : QA X W (e :: es) mas) (hg : Gl X x := by rfl) (hdb : (x == ("__debug__" : Str)) = false := by decide) (he : starEach (e :: es) X.env = (false, eval e X.env) :: starEach es X.env := by rfl) (hpl : (backTo pos (starEach es X.env)).any (·.1) = false := by rfl) :
    QX X W (.Call (.Name x p) (e :: es) [] pos) (mCallN j psp mas) := by
  obtain ⟨fd, F, b, kp, _⟩ := Fn
  exact q_callN F hr hm kp b tk ha hg hdb he hpl
end
/-! ### own classes -/
def excCB (K : PySem.W.Frag) (D : Addr) : Bool := He.eqO (PySem.W.findIn K (.ref D) "__getattribute__") (some (some (.builtin "BaseException.__getattribute__"))) && (He.eqO (PySem.W.findIn K (.ref D) "__getattr__") (some none) && (decide (PySem.W.subIn K (.ref D) (.type "BaseException") = some true) && (PySem.W.hasDictIn K D &&
  (He.eqO (PySem.W.findIn K (.ref D) "__class__") (some (some (.builtin "object.__class__"))) && (He.eqO (PySem.W.specialIn K (.builtin "object.__class__") "__get__") (some (some (.builtin "getset_descriptor.__get__"))) && (decide (PySem.W.takesIn K (.builtin "object.__class__") = some true) && decide (PySem.W.mroIn K D (.type "object") = some true)))))))
theorem excCB_ok {K : PySem.W.Frag} {D : Addr} (h : excCB K D = true) : ExcC K D := by
  unfold excCB at h
  simp only [Bool.and_eq_true, decide_eq_true_eq] at h
  obtain ⟨h1, h2, h3, h4, h5, h6, h7, h8⟩ := h
  exact ⟨He.eqO_ok h1, He.eqO_ok h2, h3, h4, He.eqO_ok h5, He.eqO_ok h6, h7, h8⟩
/-- own classes of exceptions, each with its own ancestors -/
abbrev Cls0 := List (Str × List Str)
def isUnder (c : Str × List Str) (d : Str) : Bool := decide (c.1 = d) || decide (d ∈ c.2)
def clsB (K : PySem.W.Frag) (cs : Cls0) : Bool := cs.all fun c => excCB K (He.ga K c.1) && ((He.Fa.exc c.1).ok K && (decide (PySem.W.kitOne K (.ref (He.ga K c.1)) (.type "ValueError") = some true) && cs.all fun d =>
  decide (PySem.W.exmOne K (.ref (He.ga K c.1)) (.ref (He.ga K d.1)) = some (isUnder c d.1)) && decide (PySem.W.kitOne K (.ref (He.ga K c.1)) (.ref (He.ga K d.1)) = some (isUnder c d.1))))
structure ClsOk (K : PySem.W.Frag) (cs : Cls0) : Prop where
  c : ∀ c ∈ cs, ExcC K (He.ga K c.1)
  f : ∀ c ∈ cs, ExcF K (He.ga K c.1)
  v : ∀ c ∈ cs, PySem.W.kitOne K (.ref (He.ga K c.1)) (.type "ValueError") = some true
  m : ∀ c ∈ cs, ∀ d ∈ cs, PySem.W.exmOne K (.ref (He.ga K c.1)) (.ref (He.ga K d.1)) = some (isUnder c d.1)
  i : ∀ c ∈ cs, ∀ d ∈ cs, PySem.W.kitOne K (.ref (He.ga K c.1)) (.ref (He.ga K d.1)) = some (isUnder c d.1)
theorem clsB_ok {K : PySem.W.Frag} {cs : Cls0} (h : clsB K cs = true) : ClsOk K cs := by
  unfold clsB at h
  rw [List.all_eq_true] at h
  refine ⟨fun c hc => ?_, fun c hc => ?_, fun c hc => ?_, fun c hc d hd => ?_, fun c hc d hd => ?_⟩ <;> have h1 := h c hc <;> simp only [Bool.and_eq_true, decide_eq_true_eq, List.all_eq_true] at h1 <;> obtain ⟨h2, h3, h4, h5⟩ := h1
  · exact excCB_ok h2
  · obtain ⟨a, b, c, d⟩ := He.exc_ok h3
    exact ⟨a, b, c, d⟩
  · exact h4
  · exact (h5 d hd).1
  · exact (h5 d hd).2
theorem ClsOk.m' {K : PySem.W.Frag} {cs : Cls0} (h : ClsOk K cs) {c d : Str × List Str} {b : Bool} (hc : c ∈ cs) (hd : d ∈ cs) (hb : isUnder c d.1 = b) : PySem.W.exmOne K (.ref (He.ga K c.1)) (.ref (He.ga K d.1)) = some b := by rw [h.m c hc d hd, hb]
theorem ClsOk.i' {K : PySem.W.Frag} {cs : Cls0} (h : ClsOk K cs) {c d : Str × List Str} {b : Bool} (hc : c ∈ cs) (hd : d ∈ cs) (hb : isUnder c d.1 = b) : PySem.W.kitOne K (.ref (He.ga K c.1)) (.ref (He.ga K d.1)) = some b := by rw [h.i c hc d hd, hb]
theorem ClsOk.any0 {K : PySem.W.Frag} {cs : Cls0} (h : ClsOk K cs) {c : Str × List Str} (hc : c ∈ cs) : ∀ (ds : Cls0), (∀ d ∈ ds, d ∈ cs ∧ isUnder c d.1 = false) → PySem.W.kitAny K (.ref (He.ga K c.1)) (ds.map fun d => .ref (He.ga K d.1)) = some false
  | [], _ => rfl
  | d :: ds, hd => kitAny_cons (h.i' hc (hd d List.mem_cons_self).1 (hd d List.mem_cons_self).2) (fun _ => ClsOk.any0 h hc ds fun e he => hd e (List.mem_cons_of_mem _ he)) (fun z => by cases z)
/-- the law's own def: nothing is let out -/
abbrev CxN (P : Program) (w : World) (K : PySem.W.Frag) (mg : Str → Option Value) (base : Heap) (N : List Str) (x : Str) (sc : Scope) (cdv : Value) (A : Around) (outer : List Env) (s : Shared) (H : Hp) (E : XK) : Cx := (cxOf L2.CX0 P w K mg base N x sc (He.ga K x) cdv A outer s H E).nox
theorem okN {P : Program} {w : World} {K : PySem.W.Frag} {mg : Str → Option Value} {base : Heap} {x : Str} {params : Arguments} {body : List Stmt} {scope : Scope} {fd : FuncData} {N ps : List Str} {k : Nat} {p : P0} {m : MS} (F : FunD K x x params body scope [] [] (He.ga K x) fd) (S : FnScope N ps scope) (len : ∀ ds Q E, p ds Q E → ds.length = ps.length)
    (hq : ∀ (cdv : Value) (A : Around) (outer : List Env) (s : Shared) (H : Hp) (E : XK), Room k (A.deeper (PyProof.Rows.envOfC x scope s.heap.objs.size (He.ga K x) cdv)) → QSs (CxN P w K mg base N x scope cdv A outer s H E) wN body m)
    (hm : ∀ ds Q E, p ds Q E → m (ends0 Q fun _ => False) (in0 N ds)) : FnOk P w K mg base L2.CX0 (k + 1) (He.ga K x) fd ps (sp0 K p) := by
  refine FunD.ok F S (fun vs H Q E ⟨F, ds, _, _, _, l, h, _, _⟩ => by rw [l.length]; exact len _ _ _ h) fun cdv A outer s H vs Q E hr h => ⟨_, PSs.nox (hq cdv A outer s H E hr), ?_⟩
  obtain ⟨F, ds, Qp, Ep, sf, l, hp, kq, ke⟩ := h
  have nw : ∀ {σ' : L2.St} {F' H' : Hp} {ρ' : Nv}, Ok K ⟨H, F, []⟩ F' σ' H' ρ' → New F F' H H' := fun ok' => ⟨ok'.f0, fun b o e => ok'.frame b o e (by simp), ok'.sf, ok'.fresh⟩
  refine ⟨⟨H, F, []⟩, F, in0 N ds, ends0 Qp fun _ => False, ok_in0 sf l, hm _ _ _ hp, ?_⟩
  refine ⟨fun σ' F' H' ρ' ok' s q => kq (.va .non) .non F' H' (nw ok') .non q, fun r v σ' F' H' ρ' ok' s re q => ?_, fun _ _ _ _ _ _ q => q, fun _ _ _ _ _ _ q => q, fun x σ' F' H' ρ' da ok' s xo q => q⟩
  obtain ⟨r', x', q'⟩ := retR_ok ok' re q
  exact kq r' v F' H' (nw ok') x' q'
/-- // by any divisor but nought -/
def CDivM (_ j : Int) : Prop := j ≠ 0 ∧ j.natAbs.log2 < 9000
theorem op_fdivM {X : Cx} : OpR X (binaryOp .FloorDiv) (L2.rI CDivM fun i j => .int (i.fdiv j)) := opI fun _ _ _ _ _ _ _ hc q => PyProof.Rows.floordiv_int hc.1 q (.inl (PyProof.noPylong_of_log2 hc.2))
def fDivN := fI CDivM fun i j => .int (i.fdiv j)
theorem q_divN {X : Cx} {W : WX} {a b : Expr} {pos : Pos} {ma mb : MX} (ha : QX X W a ma) (hb : QX X W b mb) : QX X W (.BinOp a .FloorDiv b pos) (mBin fDivN ma mb) := q_bin op_fdivM (.rI (fun _ _ h => h) fun _ _ _ => .int _) ha hb
/-! ### is True, is False -/
def fIsB : D → D → (Re → Prop) → Prop := fun x y Q => match x, y with
  | .bl a, .bl b => Q (.va (.bl (decide (a = b))))
  | _, _ => False
def fNotB : D → D → (Re → Prop) → Prop := fun x y Q => match x, y with
  | .bl a, .bl b => Q (.va (.bl (!decide (a = b))))
  | _, _ => False
theorem isB_snd {K : PySem.W.Frag} : OpS K fIsB rIsB := by
  intro F H x y dx dy Q Q' sf tx ty h k
  unfold fIsB at h
  split at h
  · exact ⟨_, _, tx.bl, ty.bl, k (.va _) _ F H (.refl sf) (.bl _) h⟩
  · exact h.elim
theorem notB_snd {K : PySem.W.Frag} : OpS K fNotB rNotB := by
  intro F H x y dx dy Q Q' sf tx ty h k
  unfold fNotB at h
  split at h
  · exact ⟨_, _, tx.bl, ty.bl, k (.va _) _ F H (.refl sf) (.bl _) h⟩
  · exact h.elim
section
variable {X : Cx} {W : WX} {a b : Expr} {pos : Pos} {ma mb : MX}
theorem q_isB (ha : QX X W a ma) (hb : QX X W b mb) : QX X W (.Compare a [.Is] [b] pos) (mBin fIsB ma mb) := q_cmp op_isBl isB_snd ha hb (nomark _)
theorem q_tisB (ha : QX X W a ma) (hb : QX X W b mb) : QT X W (.Compare a [.Is] [b] pos) (mTest (mBin fIsB ma mb)) := q_tcmp op_isBl isB_snd ha hb (nomark _)
theorem q_notB (ha : QX X W a ma) (hb : QX X W b mb) : QX X W (.Compare a [.IsNot] [b] pos) (mBin fNotB ma mb) := q_cmp op_notBl notB_snd ha hb (nomark _)
theorem q_tnotB (ha : QX X W a ma) (hb : QX X W b mb) : QT X W (.Compare a [.IsNot] [b] pos) (mTest (mBin fNotB ma mb)) := q_tcmp op_notBl notB_snd ha hb (nomark _)
/-! ### int(..) of an int, of a truth -/
variable {e : Expr} {mas : MA}
def fInt : List D → (Re → Prop) → Prop := fun ds Q => match ds with
  | [.int i] => Q (.va (.int i))
  | [.bl b] => Q (.va (.int (if b = true then 1 else 0)))
  | _ => False
theorem int_snd {K : PySem.W.Frag} : CallS K fInt (fun xs H Q => (∃ i, xs = [.int i] ∧ Q (.int i) H) ∨ ∃ k, xs = [.bl k] ∧ Q (.int (if k then 1 else 0)) H) := by
  intro F H xs ds Q Q' sf ts h k
  unfold fInt at h
  split at h
  · obtain ⟨x, rfl, tx⟩ := ts.one
    exact .inl ⟨_, by rw [tx.int], k (.va _) _ F H (.refl sf) (.int _) h⟩
  · obtain ⟨x, rfl, tx⟩ := ts.one
    exact .inr ⟨_, by rw [tx.bl], k (.va _) _ F H (.refl sf) (.int _) h⟩
  · exact h.elim
theorem q_intc {p : Pos} (hm : X.mg "int" = none) (ha : QA X W [e] mas) (hg : Gl X "int" := by rfl) (hse : starEach [e] X.env = (false, eval e X.env) :: starEach [] X.env := by rfl) : QX X W (.Call (.Name "int" p) [e] [] pos) (mCallB fInt mas) := q_callTy call_int1 int_snd hm ha (hg := hg) (hse := hse)
end
end WR

set_option Elab.async false
set_option linter.all false
set_option maxRecDepth 100000
set_option maxHeartbeats 4000000
set_option autoImplicit false
/-! Plain data: ==, sizes, fractions, draws. -/
namespace WR
open PySem L2
/-! ### == -/
mutual
/-- ints, texts, None, tuples, lists -/
def D.cl : D → Bool
  | .int _ => true
  | .str _ => true
  | .non => true
  | .tup xs => clL xs
  | .lst xs => clL xs
  | _ => false
def clL : List D → Bool
  | [] => true
  | x :: xs => x.cl && clL xs
end
theorem eqvAll_nil (y : D) (ys : List D) : PyData.eqvAll [] (pyL (y :: ys)) = false := by unfold pyL PyData.eqvAll; rfl
mutual
theorem eqv_iff : ∀ (x y : D), x.cl = true → y.cl = true → (PyData.eqv x.py y.py = true ↔ x = y)
  | .int i, y, _, hy => by
    cases y <;> simp_all [D.cl, D.py, PyData.eqv]
  | .str i, y, _, hy => by
    cases y <;> simp_all [D.cl, D.py, PyData.eqv]
  | .non, y, _, hy => by
    cases y <;> simp_all [D.cl, D.py, PyData.eqv]
  | .tup xs, y, hx, hy => by
    cases y with
    | tup ys =>
      simp only [D.cl] at hx hy
      simp only [D.py, PyData.eqv, D.tup.injEq]
      exact eqvAll_iff xs ys hx hy
    | _ => simp_all [D.cl, D.py, PyData.eqv]
  | .lst xs, y, hx, hy => by
    cases y with
    | lst ys =>
      simp only [D.cl] at hx hy
      simp only [D.py, PyData.eqv, D.lst.injEq]
      exact eqvAll_iff xs ys hx hy
    | _ => simp_all [D.cl, D.py, PyData.eqv]
  | .bl _, _, h, _ => by simp [D.cl] at h
  | .ty _, _, h, _ => by simp [D.cl] at h
  | .obj _, _, h, _ => by simp [D.cl] at h
  | .exc _, _, h, _ => by simp [D.cl] at h
  | .dic _ _, _, h, _ => by simp [D.cl] at h
  | .scr _, _, h, _ => by simp [D.cl] at h
theorem eqvAll_iff : ∀ (xs ys : List D), clL xs = true → clL ys = true → (PyData.eqvAll (pyL xs) (pyL ys) = true ↔ xs = ys)
  | [], [], _, _ => by simp [pyL, PyData.eqvAll]
  | [], y :: ys, _, _ => by simp [pyL, PyData.eqvAll]
  | x :: xs, [], _, _ => by simp [pyL, PyData.eqvAll]
  | x :: xs, y :: ys, hx, hy => by
    simp only [clL, Bool.and_eq_true] at hx hy
    simp only [pyL, PyData.eqvAll, Bool.and_eq_true, List.cons.injEq]
    rw [eqv_iff x y hx.1 hy.1, eqvAll_iff xs ys hx.2 hy.2]
end
theorem deq_iff {x y : D} (hx : x.cl = true) (hy : y.cl = true) : deq x y = true ↔ x = y := eqv_iff x y hx hy
theorem deq_int (i j : Int) : deq (.int i) (.int j) = decide (i = j) := by
  unfold deq D.py PyData.eqv
  rw [Bool.eq_iff_iff]; simp
theorem deq_str (i j : Str) : deq (.str i) (.str j) = decide (i = j) := by
  unfold deq D.py PyData.eqv
  rw [Bool.eq_iff_iff]; simp
theorem deq_tup (xs ys : List D) : deq (.tup xs) (.tup ys) = PyData.eqvAll (pyL xs) (pyL ys) := by
  unfold deq
  rw [show D.py (.tup xs) = .tuple (pyL xs) by simp [D.py], show D.py (.tup ys) = .tuple (pyL ys) by simp [D.py]]
  simp [PyData.eqv]
theorem deq_lst (xs ys : List D) : deq (.lst xs) (.lst ys) = PyData.eqvAll (pyL xs) (pyL ys) := by
  unfold deq
  rw [show D.py (.lst xs) = .list (pyL xs) by simp [D.py], show D.py (.lst ys) = .list (pyL ys) by simp [D.py]]
  simp [PyData.eqv]
mutual
/-- how deep -/
def D.dep : D → Nat
  | .tup xs => depL xs + 1
  | .lst xs => depL xs + 1
  | .scr _ => 1
  | _ => 0
def depL : List D → Nat
  | [] => 0
  | x :: xs => max x.dep (depL xs)
end
theorem depth_ints : ∀ ns : List Int, PyData.depthAll (ns.map PyData.int) = 0
  | [] => by simp [PyData.depthAll]
  | n :: r => by simp [PyData.depthAll, PyData.depth, depth_ints r]
mutual
theorem D.py_dep : ∀ x : D, x.py.depth = x.dep
  | .non => by simp [D.py, D.dep, PyData.depth]
  | .bl _ => by simp [D.py, D.dep, PyData.depth]
  | .int _ => by simp [D.py, D.dep, PyData.depth]
  | .str _ => by simp [D.py, D.dep, PyData.depth]
  | .ty _ => by simp [D.py, D.dep, PyData.depth]
  | .obj _ => by simp [D.py, D.dep, PyData.depth]
  | .exc _ => by simp [D.py, D.dep, PyData.depth]
  | .dic _ _ => by simp [D.py, D.dep, PyData.depth]
  | .scr ns => by simp [D.py, D.dep, PyData.depth, depth_ints]
  | .tup xs => by simp only [D.py, D.dep, PyData.depth]; rw [pyL_dep xs]
  | .lst xs => by simp only [D.py, D.dep, PyData.depth]; rw [pyL_dep xs]
theorem pyL_dep : ∀ xs : List D, PyData.depthAll (pyL xs) = depL xs
  | [] => by simp [pyL, depL, PyData.depthAll]
  | x :: xs => by simp only [pyL, depL, PyData.depthAll]; rw [D.py_dep x, pyL_dep xs]
end
/-! ### sizes -/
def Bs (n : Nat) (x : Int) : Prop := x.natAbs < 2 ^ n
theorem Bs.mono {m n : Nat} {x : Int} (h : Bs m x) (l : m ≤ n) : Bs n x := Nat.lt_of_lt_of_le h (Nat.pow_le_pow_right (by decide) l)
theorem Bs.mul {m n : Nat} {x y : Int} (h : Bs m x) (k : Bs n y) : Bs (m + n) (x * y) := wide_lt h k
theorem Bs.add {m n : Nat} {x y : Int} (h : Bs m x) (k : Bs n y) : Bs (max m n + 1) (x + y) := by
  have h1 := Bs.mono h (Nat.le_max_left m n)
  have k1 := Bs.mono k (Nat.le_max_right m n)
  unfold Bs at *
  rw [Nat.pow_succ]
  omega
theorem Bs.neg {n : Nat} {x : Int} (h : Bs n x) : Bs n (-x) := by unfold Bs at *; omega
theorem Bs.sub {m n : Nat} {x y : Int} (h : Bs m x) (k : Bs n y) : Bs (max m n + 1) (x - y) := by
  have := Bs.add h k.neg
  rw [← Int.sub_eq_add_neg] at this
  exact this
theorem Bs.div {n : Nat} {x d : Int} (h : Bs n x) (hd : 0 < d) : Bs n (x / d) := by
  unfold Bs at *
  refine Nat.lt_of_le_of_lt ?_ h
  have := Int.natAbs_ediv_le_natAbs x d
  exact this
theorem Bs.cmul {m n : Nat} {x y : Int} (h : Bs m x) (k : Bs n y) (l : m + n ≤ 999990) : CMulW x y := wide_mul (Bs.mono h (Nat.le_succ m)) (Bs.mono k (Nat.le_succ n)) (Nat.succ_pos _) (Nat.succ_pos _) (by omega)
theorem Bs.cdiv {n : Nat} {x y : Int} (hy : 0 < y) (k : Bs n y) (l : n ≤ 8999) : CDivW x y := wide_div hy (Bs.mono k (Nat.le_succ n)) (Nat.succ_pos _) (by omega)
theorem Bs.of_le {n : Nat} {x : Int} {b : Int} (h : -b ≤ x) (h' : x ≤ b) (k : b.natAbs < 2 ^ n) : Bs n x := by unfold Bs; omega
theorem pow_cast (n : Nat) : ((2 ^ n : Nat) : Int) = 2 ^ n := by rw [Int.natCast_pow]; rfl
theorem Bs.lt {n : Nat} {x : Int} (h : Bs n x) : -(2 ^ n) < x ∧ x < 2 ^ n := by
  unfold Bs at h
  have h1 : (x.natAbs : Int) < ((2 ^ n : Nat) : Int) := Int.ofNat_lt.mpr h
  rw [pow_cast] at h1
  omega
theorem Bs.of_lt {n : Nat} {x : Int} (h : -(2 ^ n) < x) (h' : x < 2 ^ n) : Bs n x := by
  unfold Bs
  refine Int.ofNat_lt.mp ?_
  rw [pow_cast]
  omega
theorem Bs.gcd {n : Nat} {a b : Int} (hb : b ≠ 0) (h : Bs n b) : Bs n (Int.gcd a b : Nat) := by
  unfold Bs at *
  have : Int.gcd a b ≤ b.natAbs := Nat.gcd_le_right _ (by omega)
  omega
/-! ### fractions -/
/-- a fraction as the program has it -/
def fD (q : Rat) : D := .tup [.int q.num, .int q.den]
theorem fD_inj {p q : Rat} (h : fD p = fD q) : p = q := by
  unfold fD at h
  simp only [D.tup.injEq, List.cons.injEq, D.int.injEq, and_true] at h
  exact Rat.ext h.1 (by omega)
theorem fD_cl (q : Rat) : (fD q).cl = true := by simp [fD, D.cl, clL]
theorem fD_plain (q : Rat) : (fD q).plain = true := by simp [fD, D.plain, plainL]
theorem fD_dep (q : Rat) : (fD q).dep = 1 := by simp [fD, D.dep, depL]
theorem deq_fD (p q : Rat) : deq (fD p) (fD q) = decide (p = q) := by
  rw [Bool.eq_iff_iff, deq_iff (fD_cl p) (fD_cl q), decide_eq_true_eq]
  exact ⟨fD_inj, fun h => by rw [h]⟩
/-- lowest terms by the divisor -/
theorem divInt_pos {t b : Int} (hb : 0 < b) : (Rat.divInt t b).num = t / (Int.gcd t b : Nat) ∧ ((Rat.divInt t b).den : Int) = b / (Int.gcd t b : Nat) := by
  obtain ⟨n, rfl⟩ := Int.eq_ofNat_of_zero_le (Int.le_of_lt hb)
  have hn : n ≠ 0 := by intro h; subst h; exact absurd hb (by decide)
  rw [Rat.divInt_ofNat, Rat.mkRat_def, dif_neg hn, Rat.normalize_eq]
  refine ⟨rfl, ?_⟩
  show ((n / t.natAbs.gcd n : Nat) : Int) = _
  rw [Int.natCast_ediv]
  rfl
theorem divInt_neg {t b : Int} (hb : b < 0) : (Rat.divInt t b).num = (0 - t) / (Int.gcd (0 - t) (0 - b) : Nat) ∧ ((Rat.divInt t b).den : Int) = (0 - b) / (Int.gcd (0 - t) (0 - b) : Nat) := by
  have e : Rat.divInt t b = Rat.divInt (0 - t) (0 - b) := by
    rw [← Rat.neg_divInt_neg]
    congr 1 <;> omega
  rw [e]
  exact divInt_pos (by omega)
/-- sizes of fractions -/
def Rb (n : Nat) (q : Rat) : Prop := Bs n q.num ∧ Bs n q.den
theorem Rb.mono {m n : Nat} {q : Rat} (h : Rb m q) (l : m ≤ n) : Rb n q := ⟨h.1.mono l, h.2.mono l⟩
theorem Rb.divInt {n : Nat} {t b : Int} (ht : Bs n t) (hb : Bs n b) (h0 : b ≠ 0) : Rb n (Rat.divInt t b) := by
  rcases Int.lt_or_gt_of_ne h0 with h | h
  · obtain ⟨e1, e2⟩ := divInt_neg (t := t) h
    have e0 : ∀ x : Int, 0 - x = -x := fun x => by omega
    have hg : (0 : Int) < (Int.gcd (0 - t) (0 - b) : Nat) := by have := Int.gcd_pos_of_ne_zero_right (0 - t) (b := 0 - b) (by omega); omega
    exact ⟨by rw [e1, e0]; rw [e0, e0] at hg; exact ht.neg.div (by rw [e0]; exact hg), by rw [e2, e0]; rw [e0, e0] at hg; exact hb.neg.div (by rw [e0]; exact hg)⟩
  · obtain ⟨e1, e2⟩ := divInt_pos (t := t) h
    have hg : (0 : Int) < (Int.gcd t b : Nat) := by have := Int.gcd_pos_of_ne_zero_right t (b := b) (by omega); omega
    exact ⟨by rw [e1]; exact ht.div hg, by rw [e2]; exact hb.div hg⟩
theorem den_pos (q : Rat) : (0 : Int) < q.den := by have := q.den_pos; omega
theorem dens_ne (p q : Rat) : (p.den : Int) * q.den ≠ 0 := Int.mul_ne_zero (by have := den_pos p; omega) (by have := den_pos q; omega)
theorem rat_add (p q : Rat) : p + q = Rat.divInt (p.num * q.den + q.num * p.den) (p.den * q.den) := by rw [Rat.add_def' p q, ← Rat.divInt_ofNat, Int.natCast_mul]
theorem rat_sub (p q : Rat) : p - q = Rat.divInt (p.num * q.den - q.num * p.den) (p.den * q.den) := by rw [Rat.sub_def' p q, ← Rat.divInt_ofNat, Int.natCast_mul]
theorem rat_mul (p q : Rat) : p * q = Rat.divInt (p.num * q.num) (p.den * q.den) := by rw [Rat.mul_def' p q, ← Rat.divInt_ofNat, Int.natCast_mul]
theorem rat_div (p q : Rat) : p / q = Rat.divInt (p.num * q.den) (p.den * q.num) := by rw [Rat.div_def, ← Rat.divInt_mul_divInt, Rat.num_divInt_den, ← Rat.inv_divInt, Rat.num_divInt_den]
theorem Rb.add {m n : Nat} {p q : Rat} (hp : Rb m p) (hq : Rb n q) : Rb (m + n + 1) (p + q) := by
  rw [rat_add]
  have h1 := (hp.1.mul hq.2).add (hq.1.mul hp.2)
  exact Rb.divInt (h1.mono (by omega)) ((hp.2.mul hq.2).mono (by omega)) (dens_ne p q)
theorem Rb.sub {m n : Nat} {p q : Rat} (hp : Rb m p) (hq : Rb n q) : Rb (m + n + 1) (p - q) := by
  rw [rat_sub]
  have h1 := (hp.1.mul hq.2).sub (hq.1.mul hp.2)
  exact Rb.divInt (h1.mono (by omega)) ((hp.2.mul hq.2).mono (by omega)) (dens_ne p q)
theorem Rb.mul {m n : Nat} {p q : Rat} (hp : Rb m p) (hq : Rb n q) : Rb (m + n) (p * q) := by
  rw [rat_mul]
  exact Rb.divInt (hp.1.mul hq.1) (hp.2.mul hq.2) (dens_ne p q)
theorem Rb.div {m n : Nat} {p q : Rat} (hp : Rb m p) (hq : Rb n q) (h : q ≠ 0) : Rb (m + n) (p / q) := by
  rw [rat_div]
  have hn : q.num ≠ 0 := fun z => h (Rat.num_eq_zero.mp z)
  exact Rb.divInt (hp.1.mul hq.2) (hp.2.mul hq.1) (Int.mul_ne_zero (by have := den_pos p; omega) hn)
/-! ### draws -/
/-- a feed of draws, n of which are still to be had -/
def Fd (n : Nat) (o : D) : Prop := ∃ x c k : Int, o = .lst [.int x, .int c, .int k] ∧ 0 ≤ c ∧ 0 ≤ k ∧ k < 2 ^ 60 ∧ c + n ≤ 2 ^ 60
theorem Fd.mono {m n : Nat} {o : D} (h : Fd m o) (l : n ≤ m) : Fd n o := by
  obtain ⟨x, c, k, e, h1, h2, h3, h4⟩ := h
  exact ⟨x, c, k, e, h1, h2, h3, by omega⟩
theorem Fd.start {x k : Int} (h : 0 ≤ k) (h' : k < 2 ^ 60) : Fd 1000000000000 (.lst [.int x, .int 0, .int k]) := ⟨x, 0, k, rfl, Int.le_refl _, h, h', by decide⟩
/-! ### for the simplifier -/
theorem atI0 {α : Type} {a : α} {l : List α} : atI (a :: l) 0 = some a := by simp [atI, ixN]
theorem atI1 {α : Type} {a b : α} {l : List α} : atI (a :: b :: l) 1 = some b := by
  have : atI (a :: b :: l) ((1 : Nat) : Int) = some b := atI_nat (by simp)
  exact this
theorem atI2 {α : Type} {a b c : α} {l : List α} : atI (a :: b :: c :: l) 2 = some c := by
  have : atI (a :: b :: c :: l) ((2 : Nat) : Int) = some c := atI_nat (by simp)
  exact this
theorem atI3 {α : Type} {a b c d : α} {l : List α} : atI (a :: b :: c :: d :: l) 3 = some d := by
  have : atI (a :: b :: c :: d :: l) ((3 : Nat) : Int) = some d := atI_nat (by simp)
  exact this
theorem atI4 {α : Type} {a b c d e : α} {l : List α} : atI (a :: b :: c :: d :: e :: l) 4 = some e := by
  have : atI (a :: b :: c :: d :: e :: l) ((4 : Nat) : Int) = some e := atI_nat (by simp)
  exact this
theorem ixN0 {n : Nat} : ixN (n + 1) 0 = some 0 := by simp [ixN]
theorem ixN1 {n : Nat} : ixN (n + 1 + 1) 1 = some 1 := by simp [ixN]; omega
theorem ixN2 {n : Nat} : ixN (n + 1 + 1 + 1) 2 = some 2 := by
  unfold ixN
  rw [if_pos (by decide), if_pos (by omega)]; rfl
theorem sz1 : (0 + 1 ≤ sizeLine) = True := by simp [sizeLine]
theorem sz2 : (0 + 1 + 1 ≤ sizeLine) = True := by simp [sizeLine]
theorem sz3 : (0 + 1 + 1 + 1 ≤ sizeLine) = True := by simp [sizeLine]
theorem sz4 : (0 + 1 + 1 + 1 + 1 ≤ sizeLine) = True := by simp [sizeLine]
theorem sz5 : (0 + 1 + 1 + 1 + 1 + 1 ≤ sizeLine) = True := by simp [sizeLine]
theorem sz6 : (0 + 1 + 1 + 1 + 1 + 1 + 1 ≤ sizeLine) = True := by simp [sizeLine]
theorem sz7 : (0 + 1 + 1 + 1 + 1 + 1 + 1 + 1 ≤ sizeLine) = True := by simp [sizeLine]
theorem sz8 : (0 + 1 + 1 + 1 + 1 + 1 + 1 + 1 + 1 ≤ sizeLine) = True := by simp [sizeLine]
theorem sz0 : (0 ≤ sizeLine) = True := by simp [sizeLine]
theorem fEq_int {i j : Int} {Q : Re → Prop} : fEq (.int i) (.int j) Q = Q (.va (.bl (decide (i = j)))) := by
  unfold fEq; rw [deq_int]; simp [D.plain, D.py, PyData.depth]
theorem fNe_int {i j : Int} {Q : Re → Prop} : fNe (.int i) (.int j) Q = Q (.va (.bl (!decide (i = j)))) := by
  unfold fNe; rw [deq_int]; simp [D.plain, D.py, PyData.depth]
theorem fEq_fD {p q : Rat} {Q : Re → Prop} : fEq (fD p) (fD q) Q = Q (.va (.bl (decide (p = q)))) := by
  unfold fEq; rw [deq_fD, fD_plain, fD_plain, D.py_dep, D.py_dep, fD_dep, fD_dep]; simp
theorem fNe_fD {p q : Rat} {Q : Re → Prop} : fNe (fD p) (fD q) Q = Q (.va (.bl (!decide (p = q)))) := by
  unfold fNe; rw [deq_fD, fD_plain, fD_plain, D.py_dep, D.py_dep, fD_dep, fD_dep]; simp
theorem cpow10 {j : Int} (h : 0 ≤ j) (h' : j ≤ 1000000) : CPow 10 j = True := by
  unfold CPow; simp [h, h']
theorem cpow2 {j : Int} (h : 0 ≤ j) (h' : j ≤ 1000000) : CPow 2 j = True := by
  unfold CPow; simp [h, h']
theorem cmul_lt {x y : Int} (h1 : -(2 ^ 200) < x) (h2 : x < 2 ^ 200) (h3 : -(2 ^ 200) < y) (h4 : y < 2 ^ 200) : CMulW x y :=
  Bs.cmul (m := 200) (n := 200) (by unfold Bs; omega) (by unfold Bs; omega) (by decide)
theorem Bs.lit {n : Nat} {x : Int} (h : x.natAbs < 2 ^ 200) (hn : 200 ≤ n) : Bs n x := Bs.mono (m := 200) h hn
theorem lcL_congr {g : MG} {t : MT} {e : MX} {vs : List Nat} {Q : List D → Nv → Prop} {xs xs' acc acc' : List D} {ρ ρ' : Nv} (h1 : xs = xs') (h2 : acc = acc') (h3 : ρ = ρ') : lcL g t e vs Q xs acc ρ = lcL g t e vs Q xs' acc' ρ' := by rw [h1, h2, h3]
theorem forL_congr {g : MG} {b : MS} {De : PEnds} {xs xs' : List D} {ρ ρ' : Nv} (h1 : xs = xs') (h3 : ρ = ρ') : forL g b De xs ρ = forL g b De xs' ρ' := by rw [h1, h3]
theorem mWhile_congr {c : MT} {b : MS} {De : PEnds} {ρ ρ' : Nv} (h3 : ρ = ρ') : mWhile c b De ρ = mWhile c b De ρ' := by rw [h3]
theorem deq_self {x : D} (h : x.cl = true) : deq x x = true := (deq_iff h h).mpr rfl
theorem fNe_self {x : D} {Q : Re → Prop} (hc : x.cl = true) (hp : x.plain = true) (hd : x.dep ≤ 100) : fNe x x Q = Q (.va (.bl false)) := by
  unfold fNe; rw [deq_self hc, hp, D.py_dep]; simp [hd]
theorem fEq_self {x : D} {Q : Re → Prop} (hc : x.cl = true) (hp : x.plain = true) (hd : x.dep ≤ 100) : fEq x x Q = Q (.va (.bl true)) := by
  unfold fEq; rw [deq_self hc, hp, D.py_dep]; simp [hd]
theorem fEq_bl {i j : Bool} {Q : Re → Prop} : fEq (.bl i) (.bl j) Q = Q (.va (.bl (i == j))) := by
  unfold fEq; simp [D.plain, D.py, PyData.depth, deq, PyData.eqv]
theorem fNe_bl {i j : Bool} {Q : Re → Prop} : fNe (.bl i) (.bl j) Q = Q (.va (.bl (!(i == j)))) := by
  unfold fNe; simp [D.plain, D.py, PyData.depth, deq, PyData.eqv]
theorem rat_lt (p q : Rat) : decide (p.num * q.den < q.num * p.den) = decide (p < q) := by
  rw [Bool.eq_iff_iff, decide_eq_true_eq, decide_eq_true_eq, Rat.lt_iff]
end WR

set_option Elab.async false
set_option linter.all false
set_option maxRecDepth 100000
set_option maxHeartbeats 4000000
set_option autoImplicit false
/-! Running meanings over plain data by the simplifier: a row an operation; what follows is looked at last. (Printed by mkqs.py.) -/
namespace WR
open PySem L2
def setK (ρ : Nv) (i : Nat) (x : Option Sl) (k : Nv → Prop) : Prop := k (ρ.set i x)
def getK (ρ : Nv) (i : Nat) (k : Option Sl → Prop) : Prop := k (ρ[i]?.getD none)
def wipK (ρ : Nv) (vs : List Nat) (k : Nv → Prop) : Prop := k (wipN ρ vs)
def bckK (ρ0 ρ : Nv) (vs : List Nat) (k : Nv → Prop) : Prop := k (bckN ρ0 ρ vs)
theorem setK_0 {a0 : Option Sl} {l : Nv} {x : Option Sl} {k : Nv → Prop} : setK (a0 :: l) 0 x k = k (x :: l) := rfl
theorem getK_0 {a0 : Option Sl} {l : Nv} {k : Option Sl → Prop} : getK (a0 :: l) 0 k = k a0 := rfl
theorem setK_1 {a0 a1 : Option Sl} {l : Nv} {x : Option Sl} {k : Nv → Prop} : setK (a0 :: a1 :: l) 1 x k = k (a0 :: x :: l) := rfl
theorem getK_1 {a0 a1 : Option Sl} {l : Nv} {k : Option Sl → Prop} : getK (a0 :: a1 :: l) 1 k = k a1 := rfl
theorem setK_2 {a0 a1 a2 : Option Sl} {l : Nv} {x : Option Sl} {k : Nv → Prop} : setK (a0 :: a1 :: a2 :: l) 2 x k = k (a0 :: a1 :: x :: l) := rfl
theorem getK_2 {a0 a1 a2 : Option Sl} {l : Nv} {k : Option Sl → Prop} : getK (a0 :: a1 :: a2 :: l) 2 k = k a2 := rfl
theorem setK_3 {a0 a1 a2 a3 : Option Sl} {l : Nv} {x : Option Sl} {k : Nv → Prop} : setK (a0 :: a1 :: a2 :: a3 :: l) 3 x k = k (a0 :: a1 :: a2 :: x :: l) := rfl
theorem getK_3 {a0 a1 a2 a3 : Option Sl} {l : Nv} {k : Option Sl → Prop} : getK (a0 :: a1 :: a2 :: a3 :: l) 3 k = k a3 := rfl
theorem setK_4 {a0 a1 a2 a3 a4 : Option Sl} {l : Nv} {x : Option Sl} {k : Nv → Prop} : setK (a0 :: a1 :: a2 :: a3 :: a4 :: l) 4 x k = k (a0 :: a1 :: a2 :: a3 :: x :: l) := rfl
theorem getK_4 {a0 a1 a2 a3 a4 : Option Sl} {l : Nv} {k : Option Sl → Prop} : getK (a0 :: a1 :: a2 :: a3 :: a4 :: l) 4 k = k a4 := rfl
theorem setK_5 {a0 a1 a2 a3 a4 a5 : Option Sl} {l : Nv} {x : Option Sl} {k : Nv → Prop} : setK (a0 :: a1 :: a2 :: a3 :: a4 :: a5 :: l) 5 x k = k (a0 :: a1 :: a2 :: a3 :: a4 :: x :: l) := rfl
theorem getK_5 {a0 a1 a2 a3 a4 a5 : Option Sl} {l : Nv} {k : Option Sl → Prop} : getK (a0 :: a1 :: a2 :: a3 :: a4 :: a5 :: l) 5 k = k a5 := rfl
theorem setK_6 {a0 a1 a2 a3 a4 a5 a6 : Option Sl} {l : Nv} {x : Option Sl} {k : Nv → Prop} : setK (a0 :: a1 :: a2 :: a3 :: a4 :: a5 :: a6 :: l) 6 x k = k (a0 :: a1 :: a2 :: a3 :: a4 :: a5 :: x :: l) := rfl
theorem getK_6 {a0 a1 a2 a3 a4 a5 a6 : Option Sl} {l : Nv} {k : Option Sl → Prop} : getK (a0 :: a1 :: a2 :: a3 :: a4 :: a5 :: a6 :: l) 6 k = k a6 := rfl
theorem setK_7 {a0 a1 a2 a3 a4 a5 a6 a7 : Option Sl} {l : Nv} {x : Option Sl} {k : Nv → Prop} : setK (a0 :: a1 :: a2 :: a3 :: a4 :: a5 :: a6 :: a7 :: l) 7 x k = k (a0 :: a1 :: a2 :: a3 :: a4 :: a5 :: a6 :: x :: l) := rfl
theorem getK_7 {a0 a1 a2 a3 a4 a5 a6 a7 : Option Sl} {l : Nv} {k : Option Sl → Prop} : getK (a0 :: a1 :: a2 :: a3 :: a4 :: a5 :: a6 :: a7 :: l) 7 k = k a7 := rfl
theorem setK_8 {a0 a1 a2 a3 a4 a5 a6 a7 a8 : Option Sl} {l : Nv} {x : Option Sl} {k : Nv → Prop} : setK (a0 :: a1 :: a2 :: a3 :: a4 :: a5 :: a6 :: a7 :: a8 :: l) 8 x k = k (a0 :: a1 :: a2 :: a3 :: a4 :: a5 :: a6 :: a7 :: x :: l) := rfl
theorem getK_8 {a0 a1 a2 a3 a4 a5 a6 a7 a8 : Option Sl} {l : Nv} {k : Option Sl → Prop} : getK (a0 :: a1 :: a2 :: a3 :: a4 :: a5 :: a6 :: a7 :: a8 :: l) 8 k = k a8 := rfl
theorem setK_9 {a0 a1 a2 a3 a4 a5 a6 a7 a8 a9 : Option Sl} {l : Nv} {x : Option Sl} {k : Nv → Prop} : setK (a0 :: a1 :: a2 :: a3 :: a4 :: a5 :: a6 :: a7 :: a8 :: a9 :: l) 9 x k = k (a0 :: a1 :: a2 :: a3 :: a4 :: a5 :: a6 :: a7 :: a8 :: x :: l) := rfl
theorem getK_9 {a0 a1 a2 a3 a4 a5 a6 a7 a8 a9 : Option Sl} {l : Nv} {k : Option Sl → Prop} : getK (a0 :: a1 :: a2 :: a3 :: a4 :: a5 :: a6 :: a7 :: a8 :: a9 :: l) 9 k = k a9 := rfl
theorem setK_10 {a0 a1 a2 a3 a4 a5 a6 a7 a8 a9 a10 : Option Sl} {l : Nv} {x : Option Sl} {k : Nv → Prop} : setK (a0 :: a1 :: a2 :: a3 :: a4 :: a5 :: a6 :: a7 :: a8 :: a9 :: a10 :: l) 10 x k = k (a0 :: a1 :: a2 :: a3 :: a4 :: a5 :: a6 :: a7 :: a8 :: a9 :: x :: l) := rfl
theorem getK_10 {a0 a1 a2 a3 a4 a5 a6 a7 a8 a9 a10 : Option Sl} {l : Nv} {k : Option Sl → Prop} : getK (a0 :: a1 :: a2 :: a3 :: a4 :: a5 :: a6 :: a7 :: a8 :: a9 :: a10 :: l) 10 k = k a10 := rfl
theorem setK_11 {a0 a1 a2 a3 a4 a5 a6 a7 a8 a9 a10 a11 : Option Sl} {l : Nv} {x : Option Sl} {k : Nv → Prop} : setK (a0 :: a1 :: a2 :: a3 :: a4 :: a5 :: a6 :: a7 :: a8 :: a9 :: a10 :: a11 :: l) 11 x k = k (a0 :: a1 :: a2 :: a3 :: a4 :: a5 :: a6 :: a7 :: a8 :: a9 :: a10 :: x :: l) := rfl
theorem getK_11 {a0 a1 a2 a3 a4 a5 a6 a7 a8 a9 a10 a11 : Option Sl} {l : Nv} {k : Option Sl → Prop} : getK (a0 :: a1 :: a2 :: a3 :: a4 :: a5 :: a6 :: a7 :: a8 :: a9 :: a10 :: a11 :: l) 11 k = k a11 := rfl
theorem setK_12 {a0 a1 a2 a3 a4 a5 a6 a7 a8 a9 a10 a11 a12 : Option Sl} {l : Nv} {x : Option Sl} {k : Nv → Prop} : setK (a0 :: a1 :: a2 :: a3 :: a4 :: a5 :: a6 :: a7 :: a8 :: a9 :: a10 :: a11 :: a12 :: l) 12 x k = k (a0 :: a1 :: a2 :: a3 :: a4 :: a5 :: a6 :: a7 :: a8 :: a9 :: a10 :: a11 :: x :: l) := rfl
theorem getK_12 {a0 a1 a2 a3 a4 a5 a6 a7 a8 a9 a10 a11 a12 : Option Sl} {l : Nv} {k : Option Sl → Prop} : getK (a0 :: a1 :: a2 :: a3 :: a4 :: a5 :: a6 :: a7 :: a8 :: a9 :: a10 :: a11 :: a12 :: l) 12 k = k a12 := rfl
theorem setK_13 {a0 a1 a2 a3 a4 a5 a6 a7 a8 a9 a10 a11 a12 a13 : Option Sl} {l : Nv} {x : Option Sl} {k : Nv → Prop} : setK (a0 :: a1 :: a2 :: a3 :: a4 :: a5 :: a6 :: a7 :: a8 :: a9 :: a10 :: a11 :: a12 :: a13 :: l) 13 x k = k (a0 :: a1 :: a2 :: a3 :: a4 :: a5 :: a6 :: a7 :: a8 :: a9 :: a10 :: a11 :: a12 :: x :: l) := rfl
theorem getK_13 {a0 a1 a2 a3 a4 a5 a6 a7 a8 a9 a10 a11 a12 a13 : Option Sl} {l : Nv} {k : Option Sl → Prop} : getK (a0 :: a1 :: a2 :: a3 :: a4 :: a5 :: a6 :: a7 :: a8 :: a9 :: a10 :: a11 :: a12 :: a13 :: l) 13 k = k a13 := rfl
theorem setK_14 {a0 a1 a2 a3 a4 a5 a6 a7 a8 a9 a10 a11 a12 a13 a14 : Option Sl} {l : Nv} {x : Option Sl} {k : Nv → Prop} : setK (a0 :: a1 :: a2 :: a3 :: a4 :: a5 :: a6 :: a7 :: a8 :: a9 :: a10 :: a11 :: a12 :: a13 :: a14 :: l) 14 x k = k (a0 :: a1 :: a2 :: a3 :: a4 :: a5 :: a6 :: a7 :: a8 :: a9 :: a10 :: a11 :: a12 :: a13 :: x :: l) := rfl
theorem getK_14 {a0 a1 a2 a3 a4 a5 a6 a7 a8 a9 a10 a11 a12 a13 a14 : Option Sl} {l : Nv} {k : Option Sl → Prop} : getK (a0 :: a1 :: a2 :: a3 :: a4 :: a5 :: a6 :: a7 :: a8 :: a9 :: a10 :: a11 :: a12 :: a13 :: a14 :: l) 14 k = k a14 := rfl
theorem setK_15 {a0 a1 a2 a3 a4 a5 a6 a7 a8 a9 a10 a11 a12 a13 a14 a15 : Option Sl} {l : Nv} {x : Option Sl} {k : Nv → Prop} : setK (a0 :: a1 :: a2 :: a3 :: a4 :: a5 :: a6 :: a7 :: a8 :: a9 :: a10 :: a11 :: a12 :: a13 :: a14 :: a15 :: l) 15 x k = k (a0 :: a1 :: a2 :: a3 :: a4 :: a5 :: a6 :: a7 :: a8 :: a9 :: a10 :: a11 :: a12 :: a13 :: a14 :: x :: l) := rfl
theorem getK_15 {a0 a1 a2 a3 a4 a5 a6 a7 a8 a9 a10 a11 a12 a13 a14 a15 : Option Sl} {l : Nv} {k : Option Sl → Prop} : getK (a0 :: a1 :: a2 :: a3 :: a4 :: a5 :: a6 :: a7 :: a8 :: a9 :: a10 :: a11 :: a12 :: a13 :: a14 :: a15 :: l) 15 k = k a15 := rfl
theorem wipK_n {ρ : Nv} {k : Nv → Prop} : wipK ρ [] k = k ρ := rfl
theorem wipK_c {ρ : Nv} {v : Nat} {vs : List Nat} {k : Nv → Prop} : wipK ρ (v :: vs) k = wipK ρ vs fun ρ' => setK ρ' v none k := rfl
theorem bckK_n {ρ0 ρ : Nv} {k : Nv → Prop} : bckK ρ0 ρ [] k = k ρ := rfl
theorem bckK_c {ρ0 ρ : Nv} {v : Nat} {vs : List Nat} {k : Nv → Prop} : bckK ρ0 ρ (v :: vs) k = bckK ρ0 ρ vs fun ρ' => getK ρ0 v fun x => setK ρ' v x k := rfl
def rdX : Nv → Nat → Nat → (Re → Prop) → Prop
  | some (.fz d) :: _, 0, _, k => k (.va d)
  | some (.ow _) :: _, 0, j, k => k (.br j)
  | some (.lo _) :: _, 0, j, k => k (.br j)
  | _ :: l, i + 1, j, k => rdX l i j k
  | _, _, _, _ => False
def rdA (s : Option (Option Sl)) (j : Nat) (k : Re → Prop) : Prop := match s with
  | some (some (.fz d)) => k (.va d)
  | some (some (.ow _)) => k (.br j)
  | some (some (.lo _)) => k (.br j)
  | _ => False
theorem rdX_eq (j : Nat) (k : Re → Prop) : ∀ (ρ : Nv) (i : Nat), rdX ρ i j k = rdA ρ[i]? j k
  | [], i => by simp [rdX, rdA]
  | none :: l, 0 => by simp [rdX, rdA]
  | some (.fz d) :: l, 0 => by simp [rdX, rdA]
  | some (.ow d) :: l, 0 => by simp [rdX, rdA]
  | some (.lo d) :: l, 0 => by simp [rdX, rdA]
  | a :: l, i + 1 => by
    have h := rdX_eq j k l i
    rw [List.getElem?_cons_succ, ← h]
    cases a with
    | none => rfl
    | some s => cases s <;> rfl
theorem rdS_go (ρ : Nv) (i : Nat) (k : Re → Prop) : rdS ρ i k = rdX ρ i i k := by rw [rdX_eq]; rfl
theorem rdX_f {d : D} {l : Nv} {j : Nat} {k : Re → Prop} : rdX (some (.fz d) :: l) 0 j k = k (.va d) := rfl
theorem rdX_o {d : D} {l : Nv} {j : Nat} {k : Re → Prop} : rdX (some (.ow d) :: l) 0 j k = k (.br j) := rfl
theorem rdX_l {d : D} {l : Nv} {j : Nat} {k : Re → Prop} : rdX (some (.lo d) :: l) 0 j k = k (.br j) := rfl
theorem rdX_s {l : Nv} {i : Nat} {a : Option Sl} {j : Nat} {k : Re → Prop} : rdX (a :: l) (i + 1) j k = rdX l i j k := by
  cases a with
  | none => rfl
  | some s => cases s <;> rfl
def opX : Nv → Nat → (D → Prop) → Prop
  | some (.fz d) :: _, 0, k => k d
  | some (.ow d) :: _, 0, k => k d
  | some (.lo d) :: _, 0, k => k d
  | _ :: l, i + 1, k => opX l i k
  | _, _, _ => False
theorem opX_fz {d : D} {l : Nv} {k : D → Prop} : opX (some (.fz d) :: l) 0 k = (k d) := rfl
theorem opX_ow {d : D} {l : Nv} {k : D → Prop} : opX (some (.ow d) :: l) 0 k = (k d) := rfl
theorem opX_lo {d : D} {l : Nv} {k : D → Prop} : opX (some (.lo d) :: l) 0 k = (k d) := rfl
theorem opX_s {l : Nv} {i : Nat} {a : Option Sl} {k : D → Prop} : opX (a :: l) (i + 1) k = opX l i k := by
  cases a with
  | none => rfl
  | some s => cases s <;> rfl
def frX : Nv → Nat → (D → Prop) → (D → Prop) → Prop
  | some (.fz d) :: _, 0, k1, k2 => k1 d
  | some (.lo d) :: _, 0, k1, k2 => k2 d
  | _ :: l, i + 1, k1, k2 => frX l i k1 k2
  | _, _, _, _ => False
theorem frX_fz {d : D} {l : Nv} {k1 : D → Prop} {k2 : D → Prop} : frX (some (.fz d) :: l) 0 k1 k2 = (k1 d) := rfl
theorem frX_lo {d : D} {l : Nv} {k1 : D → Prop} {k2 : D → Prop} : frX (some (.lo d) :: l) 0 k1 k2 = (k2 d) := rfl
theorem frX_s {l : Nv} {i : Nat} {a : Option Sl} {k1 : D → Prop} {k2 : D → Prop} : frX (a :: l) (i + 1) k1 k2 = frX l i k1 k2 := by
  cases a with
  | none => rfl
  | some s => cases s <;> rfl
def owX : Nv → Nat → (D → Prop) → (D → Prop) → Prop
  | some (.ow d) :: _, 0, k1, k2 => k1 d
  | some (.lo d) :: _, 0, k1, k2 => k2 d
  | _ :: l, i + 1, k1, k2 => owX l i k1 k2
  | _, _, _, _ => False
theorem owX_ow {d : D} {l : Nv} {k1 : D → Prop} {k2 : D → Prop} : owX (some (.ow d) :: l) 0 k1 k2 = (k1 d) := rfl
theorem owX_lo {d : D} {l : Nv} {k1 : D → Prop} {k2 : D → Prop} : owX (some (.lo d) :: l) 0 k1 k2 = (k2 d) := rfl
theorem owX_s {l : Nv} {i : Nat} {a : Option Sl} {k1 : D → Prop} {k2 : D → Prop} : owX (a :: l) (i + 1) k1 k2 = owX l i k1 k2 := by
  cases a with
  | none => rfl
  | some s => cases s <;> rfl
def odX : Nv → Nat → (D → Prop) → Prop
  | some (.ow d) :: _, 0, k => k d
  | _ :: l, i + 1, k => odX l i k
  | _, _, _ => False
theorem odX_ow {d : D} {l : Nv} {k : D → Prop} : odX (some (.ow d) :: l) 0 k = (k d) := rfl
theorem odX_s {l : Nv} {i : Nat} {a : Option Sl} {k : D → Prop} : odX (a :: l) (i + 1) k = odX l i k := by
  cases a with
  | none => rfl
  | some s => cases s <;> rfl
def reX : Nv → Nat → (Re → Prop) → Prop
  | some (.lo d) :: _, 0, k => k (.nw d)
  | some (.fz d) :: _, 0, k => k (.va d)
  | _ :: l, i + 1, k => reX l i k
  | _, _, _ => False
theorem reX_lo {d : D} {l : Nv} {k : Re → Prop} : reX (some (.lo d) :: l) 0 k = (k (.nw d)) := rfl
theorem reX_fz {d : D} {l : Nv} {k : Re → Prop} : reX (some (.fz d) :: l) 0 k = (k (.va d)) := rfl
theorem reX_s {l : Nv} {i : Nat} {a : Option Sl} {k : Re → Prop} : reX (a :: l) (i + 1) k = reX l i k := by
  cases a with
  | none => rfl
  | some s => cases s <;> rfl
theorem opX_eq (k : D → Prop) : ∀ (ρ : Nv) (i : Nat), opX ρ i k = opd (.br i) ρ k
  | [], i => by simp [opX, opd]
  | none :: l, 0 => by simp [opX, opd]
  | some (.fz d) :: l, 0 => by simp [opX, opd, Sl.d]
  | some (.ow d) :: l, 0 => by simp [opX, opd, Sl.d]
  | some (.lo d) :: l, 0 => by simp [opX, opd, Sl.d]
  | a :: l, i + 1 => by
    rw [opX_s, opX_eq k l i]
    simp only [opd, List.getElem?_cons_succ]
theorem opd_br {i : Nat} {ρ : Nv} {k : D → Prop} : opd (.br i) ρ k = opX ρ i k := (opX_eq k ρ i).symm
theorem frX_eq (k : D → Nv → Prop) (ρ0 : Nv) (i0 : Nat) : ∀ (ρ : Nv) (i : Nat), frX ρ i (fun d => k d ρ0) (fun d => k d (ρ0.set i0 (some (.fz d)))) = (match ρ[i]? with
    | some (some (.fz d)) => k d ρ0
    | some (some (.lo d)) => k d (ρ0.set i0 (some (.fz d)))
    | _ => False)
  | [], i => by simp [frX]
  | none :: l, 0 => by simp [frX]
  | some (.fz d) :: l, 0 => by simp [frX]
  | some (.ow d) :: l, 0 => by simp [frX]
  | some (.lo d) :: l, 0 => by simp [frX]
  | a :: l, i + 1 => by
    rw [frX_s, frX_eq k ρ0 i0 l i]
    simp only [List.getElem?_cons_succ]
theorem frz_br {i : Nat} {ρ : Nv} {k : D → Nv → Prop} : frz (.br i) ρ k = frX ρ i (fun d => k d ρ) (fun d => setK ρ i (some (.fz d)) fun ρ' => k d ρ') := (frX_eq k ρ i ρ i).symm
theorem owX_eq (k1 k2 : D → Prop) : ∀ (ρ : Nv) (i : Nat), owX ρ i k1 k2 = (match ρ[i]? with
    | some (some (.ow d)) => k1 d
    | some (some (.lo d)) => k2 d
    | _ => False)
  | [], i => by simp [owX]
  | none :: l, 0 => by simp [owX]
  | some (.fz d) :: l, 0 => by simp [owX]
  | some (.ow d) :: l, 0 => by simp [owX]
  | some (.lo d) :: l, 0 => by simp [owX]
  | a :: l, i + 1 => by
    rw [owX_s, owX_eq k1 k2 l i]
    simp only [List.getElem?_cons_succ]
theorem ownS_go {ρ : Nv} {i : Nat} {k : D → (D → Nv) → Prop} : ownS ρ i k = owX ρ i (fun d => k d fun d' => ρ.set i (some (.ow d'))) (fun d => k d fun d' => ρ.set i (some (.lo d'))) := (owX_eq _ _ ρ i).symm
theorem odX_eq (k : D → Prop) : ∀ (ρ : Nv) (i : Nat), odX ρ i k = ownD ρ i k
  | [], i => by simp [odX, ownD]
  | none :: l, 0 => by simp [odX, ownD]
  | some (.fz d) :: l, 0 => by simp [odX, ownD]
  | some (.ow d) :: l, 0 => by simp [odX, ownD]
  | some (.lo d) :: l, 0 => by simp [odX, ownD]
  | a :: l, i + 1 => by
    rw [odX_s, odX_eq k l i]
    simp only [ownD, List.getElem?_cons_succ]
theorem ownD_go {ρ : Nv} {i : Nat} {k : D → Prop} : ownD ρ i k = odX ρ i k := (odX_eq k ρ i).symm
theorem reX_eq (k : Re → Prop) : ∀ (ρ : Nv) (i : Nat), reX ρ i k = retR (.br i) ρ k
  | [], i => by simp [reX, retR]
  | none :: l, 0 => by simp [reX, retR]
  | some (.fz d) :: l, 0 => by simp [reX, retR]
  | some (.ow d) :: l, 0 => by simp [reX, retR]
  | some (.lo d) :: l, 0 => by simp [reX, retR]
  | a :: l, i + 1 => by
    rw [reX_s, reX_eq k l i]
    simp only [retR, List.getElem?_cons_succ]
theorem retR_br {i : Nat} {ρ : Nv} {k : Re → Prop} : retR (.br i) ρ k = reX ρ i k := (reX_eq k ρ i).symm
theorem gNm_e {i : Nat} {d : D} {ρ : Nv} {Q : Nv → Prop} : gNm i d ρ Q = (notOw ρ i ∧ setK ρ i (some (.fz d)) Q) := rfl
theorem mPar_e {i j : Nat} {m : MA} {De : PEnds} {ρ : Nv} : mPar i j m De ρ = m ρ (fun rs ρ1 => on2 rs fun r s => frzL [r, s] ρ1 fun ds ρ2 => on2 ds fun d e => notOw ρ2 i ∧ setK ρ2 i (some (.fz d)) fun ρ3 => notOw ρ3 j ∧ setK ρ3 j (some (.fz e)) De.nx) De.ex := rfl
theorem mMth_e {i : Nat} {T : String} {f : D → List D → (Re → D → Prop) → Prop} {ma : MA} {ρ : Nv} {Q : QK} {E : EK} : mMth i T f ma ρ Q E = owX ρ i (fun o0 => kindD T o0 ∧ ma ρ (fun rs ρ1 => frzL rs ρ1 fun ds ρ2 => owX ρ2 i (fun o => f o ds fun r o' => setK ρ2 i (some (.ow o')) fun ρ3 => Q r ρ3) (fun o => f o ds fun r o' => setK ρ2 i (some (.lo o')) fun ρ3 => Q r ρ3)) E) (fun o0 => kindD T o0 ∧ ma ρ (fun rs ρ1 => frzL rs ρ1 fun ds ρ2 => owX ρ2 i (fun o => f o ds fun r o' => setK ρ2 i (some (.ow o')) fun ρ3 => Q r ρ3) (fun o => f o ds fun r o' => setK ρ2 i (some (.lo o')) fun ρ3 => Q r ρ3)) E) := by
  unfold mMth setK
  simp only [ownS_go]
theorem mMth0_e {i : Nat} {T : String} {f : D → List D → (Re → D → Prop) → Prop} {ρ : Nv} {Q : QK} {E : EK} : mMth0 i T f ρ Q E = owX ρ i (fun o => kindD T o ∧ f o [] fun r o' => setK ρ i (some (.ow o')) fun ρ3 => Q r ρ3) (fun o => kindD T o ∧ f o [] fun r o' => setK ρ i (some (.lo o')) fun ρ3 => Q r ρ3) := by
  unfold mMth0 setK
  simp only [ownS_go]
theorem mCallO_e {j : Nat} {psp : P1} {m : MA} {ρ : Nv} {Q : QK} {E : EK} : mCallO j psp m ρ Q E = m ρ (fun rs ρ1 => frzO j rs ρ1 fun ds i ρ2 => owX ρ2 i (fun o => psp ds o (fun r o' => setK ρ2 i (some (.ow o')) fun ρ3 => Q r ρ3) (fun x o' => setK ρ2 i (some (.ow o')) fun ρ3 => E x ρ3)) (fun o => psp ds o (fun r o' => setK ρ2 i (some (.lo o')) fun ρ3 => Q r ρ3) (fun x o' => setK ρ2 i (some (.lo o')) fun ρ3 => E x ρ3))) E := by
  unfold mCallO setK
  simp only [ownS_go]
theorem mSetIx_e {i : Nat} {mk me : MX} {De : PEnds} {ρ : Nv} : mSetIx i mk me De ρ = me ρ (fun r ρ1 => frz r ρ1 fun d ρ2 => rdS ρ2 i fun _ => mk ρ2 (fun rk ρ3 => onInt rk fun k => owX ρ3 i (fun o => setD o k d fun o' => setK ρ3 i (some (.ow o')) De.nx) (fun o => setD o k d fun o' => setK ρ3 i (some (.lo o')) De.nx)) De.ex) De.ex := by
  unfold mSetIx setK
  simp only [ownS_go]
theorem mTry_e {K : PySem.W.Frag} {c : Addr} {i : Nat} {mb ms : MS} {De : PEnds} {ρ : Nv} : mTry K c i mb ms De ρ = mb { De with ex := fun x ρ1 => atK (PySem.W.exmOne K (.ref x.1) (.ref c)) fun b => cIf b (x.2 = none ∧ notOw ρ1 i ∧ setK ρ1 i (some (.fz (.exc x.1))) fun ρ3 => ms { nx := fun ρ2 => notOw ρ2 i ∧ setK ρ2 i none De.nx, rt := De.rt, bk := fun ρ2 => notOw ρ2 i ∧ setK ρ2 i none De.bk, ct := fun ρ2 => notOw ρ2 i ∧ setK ρ2 i none De.ct, ex := fun _ _ => False } ρ3) (De.ex x ρ1) } ρ := rfl
theorem mLc_e {mi : MI} {g : MG} {t : MT} {e : MX} {vs : List Nat} {ρ : Nv} {Q : QK} {E : EK} : mLc mi g t e vs ρ Q E = mi ρ (fun xs ρ1 => clnN ρ1 vs ∧ wipK ρ1 vs fun ρ3 => lcL g t e vs (fun acc ρ2 => bckK ρ1 ρ2 vs fun ρ4 => Q (.nw (.lst acc)) ρ4) xs [] ρ3) E := rfl
theorem opd_va {d : D} {ρ : Nv} {k : D → Prop} : opd (.va d) ρ k = k d := rfl
theorem opd_nw {d : D} {ρ : Nv} {k : D → Prop} : opd (.nw d) ρ k = k d := rfl
theorem frz_va {d : D} {ρ : Nv} {k : D → Nv → Prop} : frz (.va d) ρ k = k d ρ := rfl
theorem frz_nw {d : D} {ρ : Nv} {k : D → Nv → Prop} : frz (.nw d) ρ k = k d ρ := rfl
theorem retR_va {d : D} {ρ : Nv} {k : Re → Prop} : retR (.va d) ρ k = k (.va d) := rfl
theorem retR_nw {d : D} {ρ : Nv} {k : Re → Prop} : retR (.nw d) ρ k = k (.nw d) := rfl
theorem stS_nw {i : Nat} {d : D} {ρ : Nv} {k : Nv → Prop} : stS i (.nw d) ρ k = (notOw ρ i ∧ setK ρ i (some (.lo d)) k) := rfl
theorem stS_va {i : Nat} {d : D} {ρ : Nv} {k : Nv → Prop} : stS i (.va d) ρ k = (notOw ρ i ∧ setK ρ i (some (.fz d)) k) := rfl
theorem stS_br {i j : Nat} {ρ : Nv} {k : Nv → Prop} : stS i (.br j) ρ k = frz (.br j) ρ fun d ρ' => notOw ρ' i ∧ setK ρ' i (some (.fz d)) k := rfl
theorem notOw_n {l : Nv} : notOw (none :: l) 0 = True := rfl
theorem notOw_f {d : D} {l : Nv} : notOw (some (.fz d) :: l) 0 = True := rfl
theorem notOw_l {d : D} {l : Nv} : notOw (some (.lo d) :: l) 0 = True := rfl
theorem notOw_s {a : Option Sl} {l : Nv} {i : Nat} : notOw (a :: l) (i + 1) = notOw l i := by unfold notOw; rw [List.getElem?_cons_succ]
theorem opds_n {ρ : Nv} {k : List D → Prop} : opds [] ρ k = k [] := rfl
theorem opds_c {r : Re} {rs : List Re} {ρ : Nv} {k : List D → Prop} : opds (r :: rs) ρ k = opd r ρ fun d => opds rs ρ fun ds => k (d :: ds) := rfl
theorem frzL_n {ρ : Nv} {k : List D → Nv → Prop} : frzL [] ρ k = k [] ρ := rfl
theorem frzL_c {r : Re} {rs : List Re} {ρ : Nv} {k : List D → Nv → Prop} : frzL (r :: rs) ρ k = frz r ρ fun d ρ1 => frzL rs ρ1 fun ds ρ2 => k (d :: ds) ρ2 := rfl
theorem frzO_0 {i : Nat} {rs : List Re} {ρ : Nv} {k : List D → Nat → Nv → Prop} : frzO 0 (.br i :: rs) ρ k = frzL rs ρ fun ds ρ2 => k ds i ρ2 := rfl
theorem frzO_1 {i : Nat} {r : Re} {rs : List Re} {ρ : Nv} {k : List D → Nat → Nv → Prop} : frzO 1 (r :: .br i :: rs) ρ k = frzL (r :: rs) ρ fun ds ρ2 => k ds i ρ2 := rfl
theorem frzO_2 {i : Nat} {r s : Re} {rs : List Re} {ρ : Nv} {k : List D → Nat → Nv → Prop} : frzO 2 (r :: s :: .br i :: rs) ρ k = frzL (r :: s :: rs) ρ fun ds ρ2 => k ds i ρ2 := rfl
theorem frzO_3 {i : Nat} {r s u : Re} {rs : List Re} {ρ : Nv} {k : List D → Nat → Nv → Prop} : frzO 3 (r :: s :: u :: .br i :: rs) ρ k = frzL (r :: s :: u :: rs) ρ fun ds ρ2 => k ds i ρ2 := rfl
theorem onBl_e {b : Bool} {k : Bool → Prop} : onBl (.va (.bl b)) k = k b := rfl
theorem onInt_e {i : Int} {k : Int → Prop} : onInt (.va (.int i)) k = k i := rfl
theorem onNw_e {d : D} {k : D → Prop} : onNw (some (.nw d)) k = k d := rfl
theorem on2_e {α : Type} {r s : α} {k : α → α → Prop} : on2 [r, s] k = k r s := rfl
theorem onVa_n {k : List D → Prop} : onVa [] k = k [] := rfl
theorem onVa_c {d : D} {rs : List Re} {k : List D → Prop} : onVa (.va d :: rs) k = onVa rs fun ds => k (d :: ds) := by
  unfold onVa
  rw [show vaL (.va d :: rs) = (vaL rs).map (d :: ·) from rfl]
  cases vaL rs <;> rfl
theorem onI1_e {i : Int} {k : Int → Prop} : onI1 [.va (.int i)] k = k i := rfl
theorem onI2_e {i j : Int} {k : Int → Int → Prop} : onI2 [.va (.int i), .va (.int j)] k = k i j := rfl
theorem onI3_e {i j c : Int} {k : Int → Int → Int → Prop} : onI3 [.va (.int i), .va (.int j), .va (.int c)] k = k i j c := rfl
def oiX : List D → (List Int → Prop) → Prop
  | [], k => k []
  | .int i :: l, k => oiX l fun ns => k (i :: ns)
  | _, _ => False
theorem oiX_eq : ∀ (xs : List D) (k : List Int → Prop), oiX xs k = (match toInts xs with
    | some ns => k ns
    | none => False)
  | [], k => rfl
  | .int i :: l, k => by
    show oiX l (fun ns => k (i :: ns)) = _
    rw [oiX_eq l, show toInts (.int i :: l) = (toInts l).map (i :: ·) from rfl]
    cases toInts l <;> rfl
  | .non :: _, _ => rfl
  | .bl _ :: _, _ => rfl
  | .str _ :: _, _ => rfl
  | .ty _ :: _, _ => rfl
  | .obj _ :: _, _ => rfl
  | .exc _ :: _, _ => rfl
  | .tup _ :: _, _ => rfl
  | .lst _ :: _, _ => rfl
  | .dic _ _ :: _, _ => rfl
  | .scr _ :: _, _ => rfl
theorem onInts_l {xs : List D} {k : List Int → Prop} : onInts [.lst xs] k = oiX xs k := (oiX_eq xs k).symm
theorem oiX_map {ns : List Int} {k : List Int → Prop} : oiX (ns.map D.int) k = k ns := by rw [oiX_eq, toInts_map]
def obX : List D → (List Bool → Prop) → Prop
  | [], k => k []
  | .bl i :: l, k => obX l fun ns => k (i :: ns)
  | _, _ => False
theorem obX_eq : ∀ (xs : List D) (k : List Bool → Prop), obX xs k = (match toBls xs with
    | some ns => k ns
    | none => False)
  | [], k => rfl
  | .bl i :: l, k => by
    show obX l (fun ns => k (i :: ns)) = _
    rw [obX_eq l, show toBls (.bl i :: l) = (toBls l).map (i :: ·) from rfl]
    cases toBls l <;> rfl
  | .non :: _, _ => rfl
  | .int _ :: _, _ => rfl
  | .str _ :: _, _ => rfl
  | .ty _ :: _, _ => rfl
  | .obj _ :: _, _ => rfl
  | .exc _ :: _, _ => rfl
  | .tup _ :: _, _ => rfl
  | .lst _ :: _, _ => rfl
  | .dic _ _ :: _, _ => rfl
  | .scr _ :: _, _ => rfl
theorem onBls_l {xs : List D} {k : List Bool → Prop} : onBls [.lst xs] k = obX xs k := (obX_eq xs k).symm
theorem obX_map {ns : List Bool} {k : List Bool → Prop} : obX (ns.map D.bl) k = k ns := by rw [obX_eq, toBls_map]
theorem onInts_s {ns : List Int} {k : List Int → Prop} : onInts [.scr ns] k = k ns := rfl
theorem oiX_n {k : List Int → Prop} : oiX [] k = k [] := rfl
theorem oiX_c {i : Int} {l : List D} {k : List Int → Prop} : oiX (.int i :: l) k = oiX l fun ns => k (i :: ns) := rfl
theorem obX_n {k : List Bool → Prop} : obX [] k = k [] := rfl
theorem obX_c {i : Bool} {l : List D} {k : List Bool → Prop} : obX (.bl i :: l) k = obX l fun ns => k (i :: ns) := rfl
theorem itD_l {xs : List D} {k : List D → Prop} : itD (.lst xs) k = k xs := rfl
theorem itD_t {xs : List D} {k : List D → Prop} : itD (.tup xs) k = k xs := rfl
theorem itD_s {ns : List Int} {k : List D → Prop} : itD (.scr ns) k = k (ns.map .int) := rfl
theorem itD_z {z : Str} {k : List D → Prop} : itD (.str z) k = k (z.cps.toList.map fun c => .str ⟨#[c]⟩) := rfl
theorem cIf_t {a b : Prop} : cIf true a b = a := if_pos rfl
theorem cIf_f {a b : Prop} : cIf false a b = b := if_neg Bool.false_ne_true
/-! what follows a stop, hidden from the simplifier -/
class HP where p : Prop
class KL where q : List D → Nv → Prop
class KE where d : PEnds
class KA (α : Type) where k : α → Prop
def CI (t : Bool) [a : HP] [b : HP] : Prop := cIf t a.p b.p
def FL (g : MG) (b : MS) [e : KE] (xs : List D) (ρ : Nv) : Prop := forL g b e.d xs ρ
def LC (g : MG) (t : MT) (e : MX) (vs : List Nat) [Q : KL] (xs acc : List D) (ρ : Nv) : Prop := lcL g t e vs Q.q xs acc ρ
def WH (c : MT) (b : MS) [e : KE] (ρ : Nv) : Prop := mWhile c b e.d ρ
def AK {α : Type} (o : Option α) [k : KA α] : Prop := atK o k.k
theorem cIf_go {t : Bool} {a b : Prop} : cIf t a b = @CI t ⟨a⟩ ⟨b⟩ := rfl
theorem forL_go {g : MG} {b : MS} {De : PEnds} {xs : List D} {ρ : Nv} : forL g b De xs ρ = @FL g b ⟨De⟩ xs ρ := rfl
theorem lcL_go {g : MG} {t : MT} {e : MX} {vs : List Nat} {Q : List D → Nv → Prop} {xs acc : List D} {ρ : Nv} : lcL g t e vs Q xs acc ρ = @LC g t e vs ⟨Q⟩ xs acc ρ := rfl
theorem mWhile_go {c : MT} {b : MS} {De : PEnds} {ρ : Nv} : mWhile c b De ρ = @WH c b ⟨De⟩ ρ := rfl
theorem atK_go {α : Type} {o : Option α} {k : α → Prop} : atK o k = @AK α o ⟨k⟩ := rfl
theorem HP_p {a : Prop} : @HP.p ⟨a⟩ = a := rfl
theorem KL_q {q : List D → Nv → Prop} : @KL.q ⟨q⟩ = q := rfl
theorem KE_d {q : PEnds} : @KE.d ⟨q⟩ = q := rfl
theorem KA_k {α : Type} {q : α → Prop} : @KA.k α ⟨q⟩ = q := rfl
theorem CI_t {a b : HP} : @CI true a b = a.p := rfl
theorem CI_f {a b : HP} : @CI false a b = b.p := rfl
theorem CI_n {t : Bool} {a b : HP} : @CI (!t) a b = @CI t b a := by cases t <;> rfl
theorem CI_d {p : Prop} [Decidable p] {a b : HP} (h : p → a.p) (h2 : ¬p → b.p) : @CI (decide p) a b := by
  by_cases hp : p
  · rw [decide_eq_true hp, CI_t]; exact h hp
  · rw [decide_eq_false hp, CI_f]; exact h2 hp
theorem CI_b {t : Bool} {a b : HP} (h : t = true → a.p) (h2 : t = false → b.p) : @CI t a b := by
  cases t with
  | true => rw [CI_t]; exact h rfl
  | false => rw [CI_f]; exact h2 rfl
theorem CI_yes {p : Prop} [Decidable p] {a b : HP} (hp : p) (h : a.p) : @CI (decide p) a b := by rw [decide_eq_true hp, CI_t]; exact h
theorem CI_no {p : Prop} [Decidable p] {a b : HP} (hp : ¬p) (h : b.p) : @CI (decide p) a b := by rw [decide_eq_false hp, CI_f]; exact h
theorem AK_s {α : Type} {d : α} {k : KA α} : @AK α (some d) k = k.k d := by unfold AK atK; simp
theorem AK_i {α : Type} {o : Option α} {k : KA α} {d : α} (h : o = some d) (h2 : k.k d) : @AK α o k := ⟨d, h, h2⟩
theorem FL_n {g : MG} {b : MS} {e : KE} {ρ : Nv} : @FL g b e [] ρ = e.d.nx ρ := rfl
theorem FL_c {g : MG} {b : MS} {e : KE} {x : D} {xs : List D} {ρ : Nv} : @FL g b e (x :: xs) ρ = g x ρ fun ρ1 => b { e.d with nx := @FL g b e xs, ct := @FL g b e xs, bk := e.d.nx } ρ1 := rfl
theorem LC_n {g : MG} {t : MT} {e : MX} {vs : List Nat} {Q : KL} {acc : List D} {ρ : Nv} : @LC g t e vs Q [] acc ρ = Q.q acc ρ := rfl
theorem LC_c {g : MG} {t : MT} {e : MX} {vs : List Nat} {Q : KL} {x : D} {xs acc : List D} {ρ : Nv} : @LC g t e vs Q (x :: xs) acc ρ = wipK ρ vs fun ρ0 => g x ρ0 fun ρ1 => t ρ1 (fun b ρ2 => cIf b (e ρ2 (fun r ρ3 => frz r ρ3 fun d ρ4 => acc.length < sizeLine ∧ clnN ρ4 vs ∧ wipK ρ4 vs fun ρ5 => @LC g t e vs Q xs (acc ++ [d]) ρ5) (fun _ _ => False)) (clnN ρ2 vs ∧ wipK ρ2 vs fun ρ5 => @LC g t e vs Q xs acc ρ5)) (fun _ _ => False) := rfl
theorem atK_s {α : Type} {d : α} {k : α → Prop} : atK (some d) k = k d := by unfold atK; simp
theorem fAdd_intint {i : Int} {j : Int} {Q : Re → Prop} : fAdd (.int i) (.int j) Q = (Q (.va (.int (i + j)))) := rfl
theorem fAdd_strstr {i : Str} {j : Str} {Q : Re → Prop} : fAdd (.str i) (.str j) Q = (i.length + j.length ≤ sizeLine ∧ Q (.va (.str (i ++ j)))) := rfl
theorem fAdd_lstlst {i : List D} {j : List D} {Q : Re → Prop} : fAdd (.lst i) (.lst j) Q = (i.length + j.length ≤ sizeLine ∧ Q (.nw (.lst (i ++ j)))) := rfl
theorem fAdd_tuptup {i : List D} {j : List D} {Q : Re → Prop} : fAdd (.tup i) (.tup j) Q = (i.length + j.length ≤ sizeLine ∧ Q (.va (.tup (i ++ j)))) := rfl
theorem fSub_intint {i : Int} {j : Int} {Q : Re → Prop} : fSub (.int i) (.int j) Q = (Q (.va (.int (i - j)))) := by simp [fSub, fI]
theorem fMul_intint {i : Int} {j : Int} {Q : Re → Prop} : fMul (.int i) (.int j) Q = (CMulW i j ∧ Q (.va (.int (i * j)))) := rfl
theorem fMul_lstint {i : List D} {j : Int} {Q : Re → Prop} : fMul (.lst i) (.int j) Q = (-(2 ^ 63) ≤ j ∧ j < 2 ^ 63 ∧ i.length * j.toNat ≤ sizeLine ∧ Q (.nw (.lst (List.replicate j.toNat i).flatten))) := rfl
theorem fDiv_intint {i : Int} {j : Int} {Q : Re → Prop} : fDiv (.int i) (.int j) Q = (CDivW i j ∧ Q (.va (.int (i / j)))) := by simp [fDiv, fI]
theorem fDivN_intint {i : Int} {j : Int} {Q : Re → Prop} : fDivN (.int i) (.int j) Q = (CDivM i j ∧ Q (.va (.int (i.fdiv j)))) := by simp [fDivN, fI]
theorem fMod_intint {i : Int} {j : Int} {Q : Re → Prop} : fMod (.int i) (.int j) Q = (0 < j ∧ Q (.va (.int (i % j)))) := by simp [fMod, fI]
theorem fPow_intint {i : Int} {j : Int} {Q : Re → Prop} : fPow (.int i) (.int j) Q = (CPow i j ∧ Q (.va (.int (i ^ j.toNat)))) := by simp [fPow, fI]
theorem fShl_intint {i : Int} {j : Int} {Q : Re → Prop} : fShl (.int i) (.int j) Q = (CPow i j ∧ Q (.va (.int (i * 2 ^ j.toNat)))) := by simp [fShl, fI]
theorem fShr_intint {i : Int} {j : Int} {Q : Re → Prop} : fShr (.int i) (.int j) Q = (0 ≤ j ∧ Q (.va (.int (i / 2 ^ j.toNat)))) := by simp [fShr, fI]
theorem fAnd_intint {i : Int} {j : Int} {Q : Re → Prop} : fAnd (.int i) (.int j) Q = (Q (.va (.int (Builtin.bitAnd i j)))) := by simp [fAnd, fI]
theorem fLt_intint {i : Int} {j : Int} {Q : Re → Prop} : fLt (.int i) (.int j) Q = (Q (.va (.bl (decide (i < j))))) := rfl
theorem fLt_strstr {i : Str} {j : Str} {Q : Re → Prop} : fLt (.str i) (.str j) Q = (Q (.va (.bl (decide (i.cps.toList < j.cps.toList))))) := rfl
theorem fLe_intint {i : Int} {j : Int} {Q : Re → Prop} : fLe (.int i) (.int j) Q = (Q (.va (.bl (decide (i ≤ j))))) := by simp [fLe, fI]
theorem fGt_intint {i : Int} {j : Int} {Q : Re → Prop} : fGt (.int i) (.int j) Q = (Q (.va (.bl (decide (j < i))))) := by simp [fGt, fI]
theorem fGe_intint {i : Int} {j : Int} {Q : Re → Prop} : fGe (.int i) (.int j) Q = (Q (.va (.bl (decide (j ≤ i))))) := by simp [fGe, fI]
theorem fIsB_blbl {i : Bool} {j : Bool} {Q : Re → Prop} : fIsB (.bl i) (.bl j) Q = (Q (.va (.bl (decide (i = j))))) := rfl
theorem fNotB_blbl {i : Bool} {j : Bool} {Q : Re → Prop} : fNotB (.bl i) (.bl j) Q = (Q (.va (.bl (!decide (i = j))))) := rfl
theorem fIx_lstint {i : List D} {j : Int} {Q : Re → Prop} : fIx (.lst i) (.int j) Q = (atK (atI i j) fun d => Q (.va d)) := rfl
theorem fIx_tupint {i : List D} {j : Int} {Q : Re → Prop} : fIx (.tup i) (.int j) Q = (atK (atI i j) fun d => Q (.va d)) := rfl
theorem fIx_scrint {i : List Int} {j : Int} {Q : Re → Prop} : fIx (.scr i) (.int j) Q = (atK (atI i j) fun n => Q (.va (.int n))) := rfl
theorem fIx_strint {i : Str} {j : Int} {Q : Re → Prop} : fIx (.str i) (.int j) Q = (i.length ≤ sizeLine ∧ atK (atI i.cps.toList j) fun c => Q (.va (.str ⟨#[c]⟩))) := rfl
theorem fLen_0 {i : List D} {Q : Re → Prop} : fLen [.lst i] Q = (Q (.va (.int i.length))) := rfl
theorem fLen_1 {i : List D} {Q : Re → Prop} : fLen [.tup i] Q = (Q (.va (.int i.length))) := rfl
theorem fLen_2 {i : List Int} {Q : Re → Prop} : fLen [.scr i] Q = (Q (.va (.int i.length))) := rfl
theorem fLen_3 {i : Str} {Q : Re → Prop} : fLen [.str i] Q = (i.length ≤ sizeLine ∧ Q (.va (.int i.length))) := rfl
theorem fAbs_0 {i : Int} {Q : Re → Prop} : fAbs [.int i] Q = (Q (.va (.int (i.natAbs : Nat)))) := rfl
theorem fInt_0 {i : Int} {Q : Re → Prop} : fInt [.int i] Q = (Q (.va (.int i))) := rfl
theorem fInt_1 {i : Bool} {Q : Re → Prop} : fInt [.bl i] Q = (Q (.va (.int (if i = true then 1 else 0)))) := rfl
theorem fList_0 {i : List D} {Q : Re → Prop} : fList [.lst i] Q = (Q (.nw (.lst i))) := rfl
theorem fList_1 {i : List D} {Q : Re → Prop} : fList [.tup i] Q = (Q (.nw (.lst i))) := rfl
theorem fList_2 {i : List Int} {Q : Re → Prop} : fList [.scr i] Q = (Q (.nw (.lst (i.map .int)))) := rfl
theorem fTuple_0 {i : List D} {Q : Re → Prop} : fTuple [.lst i] Q = (Q (.va (.tup i))) := rfl
theorem fTuple_1 {i : List D} {Q : Re → Prop} : fTuple [.tup i] Q = (Q (.va (.tup i))) := rfl
theorem fTuple_2 {i : List Int} {Q : Re → Prop} : fTuple [.scr i] Q = (Q (.va (.tup (i.map .int)))) := rfl
theorem f2I_e {g : Int → Int → Int} {i j : Int} {Q : Re → Prop} : f2I g [.int i, .int j] Q = Q (.va (.int (g i j))) := rfl
theorem fSum_e {ds : List D} {Q : Re → Prop} : fSum ds Q = onInts ds fun ns => Q (.va (.int ns.sum)) := rfl
theorem fAll_e {ds : List D} {Q : Re → Prop} : fAll ds Q = onBls ds fun bs => Q (.va (.bl (bs.all id))) := rfl
theorem fAny_e {ds : List D} {Q : Re → Prop} : fAny ds Q = onBls ds fun bs => Q (.va (.bl (bs.any id))) := rfl
theorem isi_0int {K : PySem.W.Frag} {i : Int} {Q : Re → Prop} : fIsi K [.int i, .ty "int"] Q = Q (.va (.bl true)) := by simp [fIsi, tyNm, instB]
theorem isi_0bool {K : PySem.W.Frag} {i : Int} {Q : Re → Prop} : fIsi K [.int i, .ty "bool"] Q = Q (.va (.bl false)) := by simp [fIsi, tyNm, instB]
theorem isi_0str {K : PySem.W.Frag} {i : Int} {Q : Re → Prop} : fIsi K [.int i, .ty "str"] Q = Q (.va (.bl false)) := by simp [fIsi, tyNm, instB]
theorem isi_0tuple {K : PySem.W.Frag} {i : Int} {Q : Re → Prop} : fIsi K [.int i, .ty "tuple"] Q = Q (.va (.bl false)) := by simp [fIsi, tyNm, instB]
theorem isi_0list {K : PySem.W.Frag} {i : Int} {Q : Re → Prop} : fIsi K [.int i, .ty "list"] Q = Q (.va (.bl false)) := by simp [fIsi, tyNm, instB]
theorem isi_0dict {K : PySem.W.Frag} {i : Int} {Q : Re → Prop} : fIsi K [.int i, .ty "dict"] Q = Q (.va (.bl false)) := by simp [fIsi, tyNm, instB]
theorem isi_1int {K : PySem.W.Frag} {i : Bool} {Q : Re → Prop} : fIsi K [.bl i, .ty "int"] Q = Q (.va (.bl true)) := by simp [fIsi, tyNm, instB]
theorem isi_1bool {K : PySem.W.Frag} {i : Bool} {Q : Re → Prop} : fIsi K [.bl i, .ty "bool"] Q = Q (.va (.bl true)) := by simp [fIsi, tyNm, instB]
theorem isi_1str {K : PySem.W.Frag} {i : Bool} {Q : Re → Prop} : fIsi K [.bl i, .ty "str"] Q = Q (.va (.bl false)) := by simp [fIsi, tyNm, instB]
theorem isi_1tuple {K : PySem.W.Frag} {i : Bool} {Q : Re → Prop} : fIsi K [.bl i, .ty "tuple"] Q = Q (.va (.bl false)) := by simp [fIsi, tyNm, instB]
theorem isi_1list {K : PySem.W.Frag} {i : Bool} {Q : Re → Prop} : fIsi K [.bl i, .ty "list"] Q = Q (.va (.bl false)) := by simp [fIsi, tyNm, instB]
theorem isi_1dict {K : PySem.W.Frag} {i : Bool} {Q : Re → Prop} : fIsi K [.bl i, .ty "dict"] Q = Q (.va (.bl false)) := by simp [fIsi, tyNm, instB]
theorem isi_2int {K : PySem.W.Frag} {i : Str} {Q : Re → Prop} : fIsi K [.str i, .ty "int"] Q = Q (.va (.bl false)) := by simp [fIsi, tyNm, instB]
theorem isi_2bool {K : PySem.W.Frag} {i : Str} {Q : Re → Prop} : fIsi K [.str i, .ty "bool"] Q = Q (.va (.bl false)) := by simp [fIsi, tyNm, instB]
theorem isi_2str {K : PySem.W.Frag} {i : Str} {Q : Re → Prop} : fIsi K [.str i, .ty "str"] Q = Q (.va (.bl true)) := by simp [fIsi, tyNm, instB]
theorem isi_2tuple {K : PySem.W.Frag} {i : Str} {Q : Re → Prop} : fIsi K [.str i, .ty "tuple"] Q = Q (.va (.bl false)) := by simp [fIsi, tyNm, instB]
theorem isi_2list {K : PySem.W.Frag} {i : Str} {Q : Re → Prop} : fIsi K [.str i, .ty "list"] Q = Q (.va (.bl false)) := by simp [fIsi, tyNm, instB]
theorem isi_2dict {K : PySem.W.Frag} {i : Str} {Q : Re → Prop} : fIsi K [.str i, .ty "dict"] Q = Q (.va (.bl false)) := by simp [fIsi, tyNm, instB]
theorem isi_3int {K : PySem.W.Frag} {i : List D} {Q : Re → Prop} : fIsi K [.tup i, .ty "int"] Q = Q (.va (.bl false)) := by simp [fIsi, tyNm, instB]
theorem isi_3bool {K : PySem.W.Frag} {i : List D} {Q : Re → Prop} : fIsi K [.tup i, .ty "bool"] Q = Q (.va (.bl false)) := by simp [fIsi, tyNm, instB]
theorem isi_3str {K : PySem.W.Frag} {i : List D} {Q : Re → Prop} : fIsi K [.tup i, .ty "str"] Q = Q (.va (.bl false)) := by simp [fIsi, tyNm, instB]
theorem isi_3tuple {K : PySem.W.Frag} {i : List D} {Q : Re → Prop} : fIsi K [.tup i, .ty "tuple"] Q = Q (.va (.bl true)) := by simp [fIsi, tyNm, instB]
theorem isi_3list {K : PySem.W.Frag} {i : List D} {Q : Re → Prop} : fIsi K [.tup i, .ty "list"] Q = Q (.va (.bl false)) := by simp [fIsi, tyNm, instB]
theorem isi_3dict {K : PySem.W.Frag} {i : List D} {Q : Re → Prop} : fIsi K [.tup i, .ty "dict"] Q = Q (.va (.bl false)) := by simp [fIsi, tyNm, instB]
theorem isi_4int {K : PySem.W.Frag} {i : List D} {Q : Re → Prop} : fIsi K [.lst i, .ty "int"] Q = Q (.va (.bl false)) := by simp [fIsi, tyNm, instB]
theorem isi_4bool {K : PySem.W.Frag} {i : List D} {Q : Re → Prop} : fIsi K [.lst i, .ty "bool"] Q = Q (.va (.bl false)) := by simp [fIsi, tyNm, instB]
theorem isi_4str {K : PySem.W.Frag} {i : List D} {Q : Re → Prop} : fIsi K [.lst i, .ty "str"] Q = Q (.va (.bl false)) := by simp [fIsi, tyNm, instB]
theorem isi_4tuple {K : PySem.W.Frag} {i : List D} {Q : Re → Prop} : fIsi K [.lst i, .ty "tuple"] Q = Q (.va (.bl false)) := by simp [fIsi, tyNm, instB]
theorem isi_4list {K : PySem.W.Frag} {i : List D} {Q : Re → Prop} : fIsi K [.lst i, .ty "list"] Q = Q (.va (.bl true)) := by simp [fIsi, tyNm, instB]
theorem isi_4dict {K : PySem.W.Frag} {i : List D} {Q : Re → Prop} : fIsi K [.lst i, .ty "dict"] Q = Q (.va (.bl false)) := by simp [fIsi, tyNm, instB]
theorem isi_5int {K : PySem.W.Frag} {i : List Int} {Q : Re → Prop} : fIsi K [.scr i, .ty "int"] Q = Q (.va (.bl false)) := by simp [fIsi, tyNm, instB]
theorem isi_5bool {K : PySem.W.Frag} {i : List Int} {Q : Re → Prop} : fIsi K [.scr i, .ty "bool"] Q = Q (.va (.bl false)) := by simp [fIsi, tyNm, instB]
theorem isi_5str {K : PySem.W.Frag} {i : List Int} {Q : Re → Prop} : fIsi K [.scr i, .ty "str"] Q = Q (.va (.bl false)) := by simp [fIsi, tyNm, instB]
theorem isi_5tuple {K : PySem.W.Frag} {i : List Int} {Q : Re → Prop} : fIsi K [.scr i, .ty "tuple"] Q = Q (.va (.bl false)) := by simp [fIsi, tyNm, instB]
theorem isi_5list {K : PySem.W.Frag} {i : List Int} {Q : Re → Prop} : fIsi K [.scr i, .ty "list"] Q = Q (.va (.bl true)) := by simp [fIsi, tyNm, instB]
theorem isi_5dict {K : PySem.W.Frag} {i : List Int} {Q : Re → Prop} : fIsi K [.scr i, .ty "dict"] Q = Q (.va (.bl false)) := by simp [fIsi, tyNm, instB]
theorem isi_6int {K : PySem.W.Frag}  {Q : Re → Prop} : fIsi K [.non, .ty "int"] Q = Q (.va (.bl false)) := by simp [fIsi, tyNm, instB]
theorem isi_6bool {K : PySem.W.Frag}  {Q : Re → Prop} : fIsi K [.non, .ty "bool"] Q = Q (.va (.bl false)) := by simp [fIsi, tyNm, instB]
theorem isi_6str {K : PySem.W.Frag}  {Q : Re → Prop} : fIsi K [.non, .ty "str"] Q = Q (.va (.bl false)) := by simp [fIsi, tyNm, instB]
theorem isi_6tuple {K : PySem.W.Frag}  {Q : Re → Prop} : fIsi K [.non, .ty "tuple"] Q = Q (.va (.bl false)) := by simp [fIsi, tyNm, instB]
theorem isi_6list {K : PySem.W.Frag}  {Q : Re → Prop} : fIsi K [.non, .ty "list"] Q = Q (.va (.bl false)) := by simp [fIsi, tyNm, instB]
theorem isi_6dict {K : PySem.W.Frag}  {Q : Re → Prop} : fIsi K [.non, .ty "dict"] Q = Q (.va (.bl false)) := by simp [fIsi, tyNm, instB]
theorem isi_dint {K : PySem.W.Frag} {ks : List Key} {xs : List D} {Q : Re → Prop} : fIsi K [.dic ks xs, .ty "int"] Q = Q (.va (.bl false)) := by simp [fIsi, tyNm, instB]
theorem isi_dbool {K : PySem.W.Frag} {ks : List Key} {xs : List D} {Q : Re → Prop} : fIsi K [.dic ks xs, .ty "bool"] Q = Q (.va (.bl false)) := by simp [fIsi, tyNm, instB]
theorem isi_dstr {K : PySem.W.Frag} {ks : List Key} {xs : List D} {Q : Re → Prop} : fIsi K [.dic ks xs, .ty "str"] Q = Q (.va (.bl false)) := by simp [fIsi, tyNm, instB]
theorem isi_dtuple {K : PySem.W.Frag} {ks : List Key} {xs : List D} {Q : Re → Prop} : fIsi K [.dic ks xs, .ty "tuple"] Q = Q (.va (.bl false)) := by simp [fIsi, tyNm, instB]
theorem isi_dlist {K : PySem.W.Frag} {ks : List Key} {xs : List D} {Q : Re → Prop} : fIsi K [.dic ks xs, .ty "list"] Q = Q (.va (.bl false)) := by simp [fIsi, tyNm, instB]
theorem isi_ddict {K : PySem.W.Frag} {ks : List Key} {xs : List D} {Q : Re → Prop} : fIsi K [.dic ks xs, .ty "dict"] Q = Q (.va (.bl true)) := by simp [fIsi, tyNm, instB]
theorem isi_xo {K : PySem.W.Frag} {C E : Addr} {Q : Re → Prop} : fIsi K [.exc C, .obj E] Q = (ExcC K C ∧ atK (PySem.W.kitOne K (.ref C) (.ref E)) fun b => Q (.va (.bl b))) := rfl
theorem isi_xt {K : PySem.W.Frag} {C : Addr} {n : String} {Q : Re → Prop} : fIsi K [.exc C, .ty n] Q = (ExcC K C ∧ atK (PySem.W.kitOne K (.ref C) (.type n)) fun b => Q (.va (.bl b))) := rfl
theorem isi_xu {K : PySem.W.Frag} {C : Addr} {cs : List D} {Q : Re → Prop} : fIsi K [.exc C, .tup cs] Q = (ExcC K C ∧ atK (clsL cs) fun us => atK (PySem.W.kitAny K (.ref C) us) fun b => Q (.va (.bl b))) := by
  simp only [fIsi, atK]
  refine propext ⟨fun ⟨h, us, b, h1, h2, h3⟩ => ⟨h, us, h1, b, h2, h3⟩, fun ⟨h, us, h1, b, h2, h3⟩ => ⟨h, us, b, h1, h2, h3⟩⟩
theorem clsL_n : clsL [] = some [] := rfl
theorem clsL_o {C : Addr} {r : List D} : clsL (.obj C :: r) = (clsL r).map (Value.ref C :: ·) := rfl
theorem clsL_t {n : String} {r : List D} : clsL (.ty n :: r) = (clsL r).map (Value.type n :: ·) := rfl
theorem fAppend_0 {i : List D} {d : D} {Q : Re → D → Prop} : fAppend (.lst i) [d] Q = (i.length < sizeLine ∧ Q (.va .non) (.lst (i ++ [d]))) := rfl
theorem fExtend_0 {i j : List D} {Q : Re → D → Prop} : fExtend (.lst i) [.lst j] Q = (i.length + j.length ≤ sizeLine ∧ Q (.va .non) (.lst (i ++ j))) := rfl
theorem fPop_0 {i : List D} {Q : Re → D → Prop} : fPop (.lst i) [] Q = (atK i[i.length - 1]? fun y => Q (.va y) (.lst i.dropLast)) := rfl
theorem fReverse_0 {i : List D} {Q : Re → D → Prop} : fReverse (.lst i) [] Q = (Q (.va .non) (.lst i.reverse)) := rfl
theorem fClear_0 {i : List D} {Q : Re → D → Prop} : fClear (.lst i) [] Q = (Q (.va .non) (.lst [])) := rfl
theorem fInsert_0 {i : List D} {j : Int} {d : D} {Q : Re → D → Prop} : fInsert (.lst i) [.int j, d] Q = (i.length < sizeLine ∧ 0 ≤ j ∧ j < 2 ^ 63 ∧ Q (.va .non) (.lst (i.take j.toNat ++ [d] ++ i.drop j.toNat))) := rfl
theorem gTp_t {n : Nat} {h : MGs} {ds : List D} {ρ : Nv} {Q : Nv → Prop} : gTp n h (.tup ds) ρ Q = (ds.length = n ∧ h ds ρ Q) := rfl
theorem kindD_l {xs : List D} {T : String} : kindD T (.lst xs) = (T = "list") := rfl
theorem kindD_d {ks : List Key} {xs : List D} {T : String} : kindD T (.dic ks xs) = (T = "dict") := rfl
theorem setD_l {xs : List D} {j : Int} {d : D} {Q : D → Prop} : setD (.lst xs) j d Q = atK (ixN xs.length j) fun m => Q (.lst (xs.set m d)) := rfl
theorem fSl_l {xs : List D} {a b : Option Int} {Q : Re → Prop} : fSl (.lst xs) a b Q = Q (.nw (.lst (cutD xs a b))) := rfl
theorem fSl_t {xs : List D} {a b : Option Int} {Q : Re → Prop} : fSl (.tup xs) a b Q = Q (.va (.tup (cutD xs a b))) := rfl
theorem fSl_s {xs : List Int} {a b : Option Int} {Q : Re → Prop} : fSl (.scr xs) a b Q = Q (.nw (.lst ((cutD xs a b).map .int))) := rfl
def notLo (ρ : Nv) (v : Nat) : Prop := match ρ[v]? with
  | some (some (.ow _)) => False
  | some (some (.lo _)) => False
  | _ => True
theorem clnN_n {ρ : Nv} : clnN ρ [] = True := rfl
theorem clnN_c {ρ : Nv} {v : Nat} {vs : List Nat} : clnN ρ (v :: vs) = (notLo ρ v ∧ clnN ρ vs) := rfl
theorem notLo_n {l : Nv} : notLo (none :: l) 0 = True := rfl
theorem notLo_f {d : D} {l : Nv} : notLo (some (.fz d) :: l) 0 = True := rfl
theorem notLo_s {a : Option Sl} {l : Nv} {i : Nat} : notLo (a :: l) (i + 1) = notLo l i := by unfold notLo; rw [List.getElem?_cons_succ]
theorem wipN_n {ρ : Nv} : wipN ρ [] = ρ := rfl
theorem wipN_c {ρ : Nv} {v : Nat} {vs : List Nat} : wipN ρ (v :: vs) = (wipN ρ vs).set v none := rfl
theorem bckN_n {ρ0 ρ : Nv} : bckN ρ0 ρ [] = ρ := rfl
theorem bckN_c {ρ0 ρ : Nv} {v : Nat} {vs : List Nat} : bckN ρ0 ρ (v :: vs) = (bckN ρ0 ρ vs).set v (ρ0[v]?.getD none) := rfl
theorem isNon_n : D.isNon .non = true := rfl
theorem isNon_bl {i : Bool} : D.isNon (.bl i) = false := rfl
theorem isNon_int {i : Int} : D.isNon (.int i) = false := rfl
theorem isNon_str {i : Str} : D.isNon (.str i) = false := rfl
theorem isNon_tup {i : List D} : D.isNon (.tup i) = false := rfl
theorem isNon_lst {i : List D} : D.isNon (.lst i) = false := rfl
theorem isNon_exc {i : Addr} : D.isNon (.exc i) = false := rfl
theorem isNon_fD {q : Rat} : D.isNon (fD q) = false := rfl
theorem fIx_fD0 {q : Rat} {Q : Re → Prop} : fIx (fD q) (.int 0) Q = Q (.va (.int q.num)) := by unfold fD; rw [fIx_tupint, atI0, atK_s]
theorem fIx_fD1 {q : Rat} {Q : Re → Prop} : fIx (fD q) (.int 1) Q = Q (.va (.int q.den)) := by unfold fD; rw [fIx_tupint, atI1, atK_s]
theorem isi_fDt {K : PySem.W.Frag} {q : Rat} {Q : Re → Prop} : fIsi K [fD q, .ty "tuple"] Q = Q (.va (.bl true)) := isi_3tuple
theorem isi_fDi {K : PySem.W.Frag} {q : Rat} {Q : Re → Prop} : fIsi K [fD q, .ty "int"] Q = Q (.va (.bl false)) := isi_3int
theorem isi_fDb {K : PySem.W.Frag} {q : Rat} {Q : Re → Prop} : fIsi K [fD q, .ty "bool"] Q = Q (.va (.bl false)) := isi_3bool
theorem isi_fDl {K : PySem.W.Frag} {q : Rat} {Q : Re → Prop} : fIsi K [fD q, .ty "list"] Q = Q (.va (.bl false)) := isi_3list
theorem isi_fDs {K : PySem.W.Frag} {q : Rat} {Q : Re → Prop} : fIsi K [fD q, .ty "str"] Q = Q (.va (.bl false)) := isi_3str
theorem gTp_fD {h : MGs} {q : Rat} {ρ : Nv} {Q : Nv → Prop} : gTp 2 h (fD q) ρ Q = h [.int q.num, .int q.den] ρ Q := by simp [gTp, fD]
theorem fLen_fD {q : Rat} {Q : Re → Prop} : fLen [fD q] Q = Q (.va (.int 2)) := rfl
theorem core0 {α : Type} {a : α} {l : List α} : (a :: l)[0]? = some a := List.getElem?_cons_zero
theorem core1 {α : Type} {a : α} {l : List α} {i : Nat} : (a :: l)[i + 1]? = l[i]? := List.getElem?_cons_succ
theorem core2 {α : Type} {i : Nat} : ([] : List α)[i]? = none := List.getElem?_nil
theorem core3 {α : Type} {a b : α} {l : List α} : (a :: l).set 0 b = b :: l := List.set_cons_zero
theorem core4 {α : Type} {a b : α} {l : List α} {i : Nat} : (a :: l).set (i + 1) b = a :: l.set i b := List.set_cons_succ
theorem core5 {α : Type} {a : α} {l : List α} : (a :: l).length = l.length + 1 := List.length_cons
theorem core6 {α : Type} : ([] : List α).length = 0 := List.length_nil
theorem core7 {α : Type} {a : α} {l : List α} : (a :: l).eraseIdx 0 = l := List.eraseIdx_cons_zero
theorem core8 {α : Type} {a : α} {l : List α} {i : Nat} : (a :: l).eraseIdx (i + 1) = a :: l.eraseIdx i := List.eraseIdx_cons_succ
theorem core9 {α β : Type} {f : α → β} {a : α} {l : List α} : (a :: l).map f = f a :: l.map f := List.map_cons
theorem core10 {α β : Type} {f : α → β} : ([] : List α).map f = [] := List.map_nil
theorem core11 {α : Type} {l : List α} : [] ++ l = l := List.nil_append _
theorem core12 {α : Type} {a : α} {l m : List α} : (a :: l) ++ m = a :: (l ++ m) := List.cons_append
theorem core13 {α : Type} {p : α → Bool} {a : α} {l : List α} : (a :: l).all p = (p a && l.all p) := List.all_cons
theorem core14 {α : Type} {p : α → Bool} : ([] : List α).all p = true := List.all_nil
theorem core15 {p : Prop} : (True ∧ p) = p := true_and p
theorem core16 {p : Prop} : (p ∧ True) = p := and_true p
theorem core17 {α : Type} {a : α} : id a = a := rfl
theorem core18 {b : Bool} : (b != false) = b := by cases b <;> rfl
theorem core19 {b : Bool} : (b != true) = !b := by cases b <;> rfl
theorem core20  : (!true) = false := rfl
theorem core21  : (!false) = true := rfl
theorem core22 {b : Bool} : (!(!b)) = b := by cases b <;> rfl
theorem core23 {b : Bool} : (true && b) = b := rfl
theorem core24 {b : Bool} : (false && b) = false := rfl
theorem core25 {b : Bool} : (b && true) = b := by cases b <;> rfl
theorem core26 {α : Type} {a b : α} : (some a).getD b = a := rfl
theorem core27 {α : Type} {b : α} : (none : Option α).getD b = b := rfl
theorem core28 {α β : Type} {f : α → β} {a : α} : (some a).map f = some (f a) := rfl
theorem core29  : decide True = true := rfl
theorem core30  : (0 < sizeLine) = True := by simp [sizeLine]
theorem core31  : (0 + 1 < sizeLine) = True := by simp [sizeLine]
theorem core32  : (0 + 1 + 1 < sizeLine) = True := by simp [sizeLine]
theorem core33  : (0 + 1 + 1 + 1 < sizeLine) = True := by simp [sizeLine]
theorem core34  : (0 + 1 + 1 + 1 + 1 < sizeLine) = True := by simp [sizeLine]
theorem core35  : (0 + 1 + 1 + 1 + 1 + 1 < sizeLine) = True := by simp [sizeLine]
theorem core36  : (0 + 1 + 1 + 1 + 1 + 1 + 1 < sizeLine) = True := by simp [sizeLine]
theorem core37  : (0 + 1 + 1 + 1 + 1 + 1 + 1 + 1 < sizeLine) = True := by simp [sizeLine]
theorem core38  : (0 + 1 + 1 + 1 + 1 + 1 + 1 + 1 + 1 < sizeLine) = True := by simp [sizeLine]
theorem core39  : decide False = false := rfl
theorem core40 {α : Type} {a : α} : (a = a) = True := eq_self a
theorem core41  : (0 + 1 + 1 = 2) = True := by simp
theorem core42  : (0 + 1 + 1 + 1 = 3) = True := by simp
theorem core43  : (0 + 1 + 1 + 1 + 1 = 4) = True := by simp
theorem core44  : (0 + 1 = 1) = True := by simp
theorem SP : (∀ (i : Nat) (d : D) (ρ : Nv) (Q : Nv → Prop), gNm i d ρ Q = (notOw ρ i ∧ setK ρ i (some (.fz d)) Q)) ∧
  (∀ (i j : Nat) (m : MA) (De : PEnds) (ρ : Nv), mPar i j m De ρ = m ρ (fun rs ρ1 => on2 rs fun r s => frzL [r, s] ρ1 fun ds ρ2 => on2 ds fun d e => notOw ρ2 i ∧ setK ρ2 i (some (.fz d)) fun ρ3 => notOw ρ3 j ∧ setK ρ3 j (some (.fz e)) De.nx) De.ex) ∧
  (∀ (i : Nat) (T : String) (f : D → List D → (Re → D → Prop) → Prop) (ma : MA) (ρ : Nv) (Q : QK) (E : EK), mMth i T f ma ρ Q E = owX ρ i (fun o0 => kindD T o0 ∧ ma ρ (fun rs ρ1 => frzL rs ρ1 fun ds ρ2 => owX ρ2 i (fun o => f o ds fun r o' => setK ρ2 i (some (.ow o')) fun ρ3 => Q r ρ3) (fun o => f o ds fun r o' => setK ρ2 i (some (.lo o')) fun ρ3 => Q r ρ3)) E) (fun o0 => kindD T o0 ∧ ma ρ (fun rs ρ1 => frzL rs ρ1 fun ds ρ2 => owX ρ2 i (fun o => f o ds fun r o' => setK ρ2 i (some (.ow o')) fun ρ3 => Q r ρ3) (fun o => f o ds fun r o' => setK ρ2 i (some (.lo o')) fun ρ3 => Q r ρ3)) E)) ∧
  (∀ (i : Nat) (T : String) (f : D → List D → (Re → D → Prop) → Prop) (ρ : Nv) (Q : QK) (E : EK), mMth0 i T f ρ Q E = owX ρ i (fun o => kindD T o ∧ f o [] fun r o' => setK ρ i (some (.ow o')) fun ρ3 => Q r ρ3) (fun o => kindD T o ∧ f o [] fun r o' => setK ρ i (some (.lo o')) fun ρ3 => Q r ρ3)) ∧
  (∀ (j : Nat) (psp : P1) (m : MA) (ρ : Nv) (Q : QK) (E : EK), mCallO j psp m ρ Q E = m ρ (fun rs ρ1 => frzO j rs ρ1 fun ds i ρ2 => owX ρ2 i (fun o => psp ds o (fun r o' => setK ρ2 i (some (.ow o')) fun ρ3 => Q r ρ3) (fun x o' => setK ρ2 i (some (.ow o')) fun ρ3 => E x ρ3)) (fun o => psp ds o (fun r o' => setK ρ2 i (some (.lo o')) fun ρ3 => Q r ρ3) (fun x o' => setK ρ2 i (some (.lo o')) fun ρ3 => E x ρ3))) E) ∧
  (∀ (i : Nat) (mk me : MX) (De : PEnds) (ρ : Nv), mSetIx i mk me De ρ = me ρ (fun r ρ1 => frz r ρ1 fun d ρ2 => rdS ρ2 i fun _ => mk ρ2 (fun rk ρ3 => onInt rk fun k => owX ρ3 i (fun o => setD o k d fun o' => setK ρ3 i (some (.ow o')) De.nx) (fun o => setD o k d fun o' => setK ρ3 i (some (.lo o')) De.nx)) De.ex) De.ex) ∧
  (∀ (K : PySem.W.Frag) (c : Addr) (i : Nat) (mb ms : MS) (De : PEnds) (ρ : Nv), mTry K c i mb ms De ρ = mb { De with ex := fun x ρ1 => atK (PySem.W.exmOne K (.ref x.1) (.ref c)) fun b => cIf b (x.2 = none ∧ notOw ρ1 i ∧ setK ρ1 i (some (.fz (.exc x.1))) fun ρ3 => ms { nx := fun ρ2 => notOw ρ2 i ∧ setK ρ2 i none De.nx, rt := De.rt, bk := fun ρ2 => notOw ρ2 i ∧ setK ρ2 i none De.bk, ct := fun ρ2 => notOw ρ2 i ∧ setK ρ2 i none De.ct, ex := fun _ _ => False } ρ3) (De.ex x ρ1) } ρ) ∧
  (∀ (mi : MI) (g : MG) (t : MT) (e : MX) (vs : List Nat) (ρ : Nv) (Q : QK) (E : EK), mLc mi g t e vs ρ Q E = mi ρ (fun xs ρ1 => clnN ρ1 vs ∧ wipK ρ1 vs fun ρ3 => lcL g t e vs (fun acc ρ2 => bckK ρ1 ρ2 vs fun ρ4 => Q (.nw (.lst acc)) ρ4) xs [] ρ3) E) ∧
  (∀ (t : Bool) (a b : Prop), cIf t a b = @CI t ⟨a⟩ ⟨b⟩) ∧
  (∀ (g : MG) (b : MS) (De : PEnds) (xs : List D) (ρ : Nv), forL g b De xs ρ = @FL g b ⟨De⟩ xs ρ) ∧
  (∀ (g : MG) (t : MT) (e : MX) (vs : List Nat) (Q : List D → Nv → Prop) (xs acc : List D) (ρ : Nv), lcL g t e vs Q xs acc ρ = @LC g t e vs ⟨Q⟩ xs acc ρ) ∧
  (∀ (c : MT) (b : MS) (De : PEnds) (ρ : Nv), mWhile c b De ρ = @WH c b ⟨De⟩ ρ) ∧
  (∀ (α : Type) (o : Option α) (k : α → Prop), atK o k = @AK α o ⟨k⟩) ∧
  (∀ (ρ : Nv) (i : Nat) (k : Re → Prop), rdS ρ i k = rdX ρ i i k) ∧
  (∀ (i : Nat) (ρ : Nv) (k : D → Prop), opd (.br i) ρ k = opX ρ i k) ∧
  (∀ (i : Nat) (ρ : Nv) (k : D → Nv → Prop), frz (.br i) ρ k = frX ρ i (fun d => k d ρ) (fun d => setK ρ i (some (.fz d)) fun ρ' => k d ρ')) ∧
  (∀ (ρ : Nv) (i : Nat) (k : D → (D → Nv) → Prop), ownS ρ i k = owX ρ i (fun d => k d fun d' => ρ.set i (some (.ow d'))) (fun d => k d fun d' => ρ.set i (some (.lo d')))) ∧
  (∀ (ρ : Nv) (i : Nat) (k : D → Prop), ownD ρ i k = odX ρ i k) ∧
  (∀ (i : Nat) (ρ : Nv) (k : Re → Prop), retR (.br i) ρ k = reX ρ i k) ∧
  (∀ (ds : List D) (Q : Re → Prop), fSum ds Q = onInts ds fun ns => Q (.va (.int ns.sum))) ∧
  (∀ (ds : List D) (Q : Re → Prop), fAll ds Q = onBls ds fun bs => Q (.va (.bl (bs.all id)))) ∧
  (∀ (ds : List D) (Q : Re → Prop), fAny ds Q = onBls ds fun bs => Q (.va (.bl (bs.any id)))) ∧
  (∀ (m n : MS) (De : PEnds) (ρ : Nv), mSeq m n De ρ = (m { De with nx := n De } ρ)) ∧
  (∀  (De : PEnds) (ρ : Nv), mNext  De ρ = (De.nx ρ)) ∧
  (∀ (c : MT) (a b : MS) (De : PEnds) (ρ : Nv), mIf c a b De ρ = (c ρ (fun t ρ' => cIf t (a De ρ') (b De ρ')) De.ex)) ∧
  (∀ (m : MX) (De : PEnds) (ρ : Nv), mExpr m De ρ = (m ρ (fun _ ρ' => De.nx ρ') De.ex)) ∧
  (∀ (m : MX) (De : PEnds) (ρ : Nv), mRet m De ρ = (m ρ De.rt De.ex)) ∧
  (∀  (De : PEnds) (ρ : Nv), mRetN  De ρ = (De.rt (.va .non) ρ)) ∧
  (∀ (i : Nat) (m : MX) (De : PEnds) (ρ : Nv), mSet i m De ρ = (m ρ (fun r ρ' => stS i r ρ' De.nx) De.ex)) ∧
  (∀ (m : MX) (g : MG) (De : PEnds) (ρ : Nv), mAsg m g De ρ = (m ρ (fun r ρ1 => frz r ρ1 fun d ρ2 => g d ρ2 De.nx) De.ex)) ∧
  (∀ (mi : MI) (g : MG) (b : MS) (De : PEnds) (ρ : Nv), mFor mi g b De ρ = (mi ρ (fun xs ρ1 => forL g b De xs ρ1) De.ex)) ∧
  (∀ (m : MX) (ρ : Nv) (Q : Bool → Nv → Prop) (E : EK), mTest m ρ Q E = (m ρ (fun r ρ' => onBl r fun b => Q b ρ') E)) ∧
  (∀ (f : D → D → (Re → Prop) → Prop) (ma mb : MX) (ρ : Nv) (Q : QK) (E : EK), mBin f ma mb ρ Q E = (ma ρ (fun x ρ1 => mb ρ1 (fun y ρ2 => opd x ρ2 fun dx => opd y ρ2 fun dy => f dx dy fun r => Q r ρ2) E) E)) ∧
  (∀ (i : Nat) (ρ : Nv) (Q : QK) (z2 : EK), mVar i ρ Q z2 = (rdS ρ i fun r => Q r ρ)) ∧
  (∀ (d : D) (ρ : Nv) (Q : QK) (z2 : EK), mC d ρ Q z2 = (Q (.va d) ρ)) ∧
  (∀ (m : MX) (ρ : Nv) (Q : QK) (E : EK), mNeg m ρ Q E = (m ρ (fun r ρ1 => onInt r fun i => Q (.va (.int (-i))) ρ1) E)) ∧
  (∀ (t u : MT) (ρ : Nv) (Q : Bool → Nv → Prop) (E : EK), mAnd t u ρ Q E = (t ρ (fun c ρ1 => cIf c (u ρ1 Q E) (Q false ρ1)) E)) ∧
  (∀ (t u : MT) (ρ : Nv) (Q : Bool → Nv → Prop) (E : EK), mOr t u ρ Q E = (t ρ (fun c ρ1 => cIf c (Q true ρ1) (u ρ1 Q E)) E)) ∧
  (∀ (t : MT) (ρ : Nv) (Q : Bool → Nv → Prop) (E : EK), mNot t ρ Q E = (t ρ (fun c ρ1 => Q (!c) ρ1) E)) ∧
  (∀ (m n : MX) (ρ : Nv) (Q : QK) (E : EK), mAndV m n ρ Q E = (m ρ (fun r ρ1 => onBl r fun c => cIf c (n ρ1 Q E) (Q (.va (.bl false)) ρ1)) E)) ∧
  (∀ (m n : MX) (ρ : Nv) (Q : QK) (E : EK), mOrV m n ρ Q E = (m ρ (fun r ρ1 => onBl r fun c => cIf c (Q (.va (.bl true)) ρ1) (n ρ1 Q E)) E)) ∧
  (∀ (m : MX) (ρ : Nv) (Q : QK) (E : EK), mNotV m ρ Q E = (m ρ (fun r ρ1 => onBl r fun c => Q (.va (.bl (!c))) ρ1) E)) ∧
  (∀ (t : MT) (m n : MX) (ρ : Nv) (Q : QK) (E : EK), mIfE t m n ρ Q E = (t ρ (fun c ρ1 => cIf c (m ρ1 Q E) (n ρ1 Q E)) E)) ∧
  (∀ (n : Bool) (m : MX) (ρ : Nv) (Q : QK) (E : EK), mIsN n m ρ Q E = (m ρ (fun r ρ1 => opd r ρ1 fun d => Q (.va (.bl (d.isNon != n))) ρ1) E)) ∧
  (∀ (m : MA) (ρ : Nv) (Q : QK) (E : EK), mTup m ρ Q E = (m ρ (fun rs ρ1 => frzL rs ρ1 fun ds ρ2 => ds.length ≤ sizeLine ∧ Q (.va (.tup ds)) ρ2) E)) ∧
  (∀ (m : MA) (ρ : Nv) (Q : QK) (E : EK), mLst m ρ Q E = (m ρ (fun rs ρ1 => frzL rs ρ1 fun ds ρ2 => ds.length ≤ sizeLine ∧ Q (.nw (.lst ds)) ρ2) E)) ∧
  (∀ (m : MX) (l h : MO) (ρ : Nv) (Q : QK) (E : EK), mSl m l h ρ Q E = (m ρ (fun r ρ1 => l ρ1 (fun lo ρ2 => h ρ2 (fun hi ρ3 => opd r ρ3 fun d => fSl d lo hi fun x => Q x ρ3) E) E) E)) ∧
  (∀ (m : MX) (ρ : Nv) (Q : Option Int → Nv → Prop) (E : EK), mPart m ρ Q E = (m ρ (fun r ρ1 => onInt r fun i => Q (some i) ρ1) E)) ∧
  (∀  (ρ : Nv) (Q : Option Int → Nv → Prop) (z2 : EK), mNoPart  ρ Q z2 = (Q none ρ)) ∧
  (∀ (f : List D → (Re → Prop) → Prop) (m : MA) (ρ : Nv) (Q : QK) (E : EK), mCallB f m ρ Q E = (m ρ (fun rs ρ1 => opds rs ρ1 fun ds => f ds fun r => Q r ρ1) E)) ∧
  (∀ (psp : P0) (m : MA) (ρ : Nv) (Q : QK) (E : EK), mCall psp m ρ Q E = (m ρ (fun rs ρ1 => frzL rs ρ1 fun ds ρ2 => psp ds (fun r => Q r ρ2) (fun x => E x ρ2)) E)) ∧
  (∀ (j : Nat) (psp : P1) (m : MA) (ρ : Nv) (Q : QK) (E : EK), mCallN j psp m ρ Q E = (m ρ (fun rs ρ1 => onNw rs[j]? fun o => onVa (rs.eraseIdx j) fun ds => psp ds o (fun r _ => Q r ρ1) (fun x _ => E x ρ1)) E)) ∧
  (∀ (m : MX) (n : MA) (ρ : Nv) (Q : List Re → Nv → Prop) (E : EK), mConsA m n ρ Q E = (m ρ (fun r ρ1 => n ρ1 (fun rs ρ2 => Q (r :: rs) ρ2) E) E)) ∧
  (∀  (ρ : Nv) (Q : List Re → Nv → Prop) (z2 : EK), mNilA  ρ Q z2 = (Q [] ρ)) ∧
  (∀ (m : MX) (ρ : Nv) (Q : List D → Nv → Prop) (E : EK), mIt m ρ Q E = (m ρ (fun r ρ1 => frz r ρ1 fun d ρ2 => itD d fun xs => Q xs ρ2) E)) ∧
  (∀ (m : MA) (ρ : Nv) (Q : List D → Nv → Prop) (E : EK), mRng1 m ρ Q E = (m ρ (fun rs ρ1 => onI1 rs fun j => -(2 ^ 62) ≤ j ∧ j < 2 ^ 62 ∧ Q (rngD 0 j.toNat) ρ1) E)) ∧
  (∀ (m : MA) (ρ : Nv) (Q : List D → Nv → Prop) (E : EK), mRng2 m ρ Q E = (m ρ (fun rs ρ1 => onI2 rs fun i j => (-(2 ^ 62) ≤ i ∧ i < 2 ^ 62 ∧ -(2 ^ 62) ≤ j ∧ j < 2 ^ 62) ∧ Q (rngD i (j - i).toNat) ρ1) E)) ∧
  (∀ (C : Addr) (De : PEnds) (ρ : Nv), mRaise C De ρ = (De.ex (C, none) ρ)) ∧
  (∀  (ρ : Nv) (Q : Bool → Nv → Prop) (z2 : EK), mYes  ρ Q z2 = (Q true ρ)) ∧
  (∀  (ds : List D) (ρ : Nv) (Q : Nv → Prop), gsNil  ds ρ Q = (ds = [] ∧ Q ρ)) ∧
  (∀ (g : MG) (h : MGs) (ds : List D) (ρ : Nv) (Q : Nv → Prop), gsCons g h ds ρ Q = (match ds with
  | d :: r => g d ρ fun ρ1 => h r ρ1 Q
  | [] => False)) ∧
  (∀ (Q : Re → Prop) (E : Xc → Prop), ends0 Q E = ({ nx := fun _ => Q (.va .non), rt := fun r ρ => retR r ρ Q, bk := fun _ => False, ct := fun _ => False, ex := fun x _ => E x } : PEnds)) ∧
  (∀ (j : Nat) (Q : Re → D → Prop) (E : Xc → D → Prop), ends1 j Q E = ({ nx := fun ρ => ownD ρ j fun o => Q (.va .non) o, rt := fun r ρ => ownD ρ j fun o => retR r ρ fun r' => Q r' o, bk := fun _ => False, ct := fun _ => False, ex := fun x ρ => ownD ρ j fun o => E x o } : PEnds)) ∧
  (∀ (De : PEnds) (R : Nat → Nv → Prop) (n : Nat), whB De R n = ({ De with nx := fun ρ2 => ∃ m, m < n ∧ R m ρ2, ct := fun ρ2 => ∃ m, m < n ∧ R m ρ2, bk := De.nx } : PEnds)) :=
  ⟨by intros; apply gNm_e, by intros; apply mPar_e, by intros; apply mMth_e, by intros; apply mMth0_e, by intros; apply mCallO_e, by intros; apply mSetIx_e, by intros; apply mTry_e, by intros; apply mLc_e, by intros; apply cIf_go, by intros; apply forL_go, by intros; apply lcL_go, by intros; apply mWhile_go, by intros; apply atK_go, by intros; apply rdS_go, by intros; apply opd_br, by intros; apply frz_br, by intros; apply ownS_go, by intros; apply ownD_go, by intros; apply retR_br, by intros; apply fSum_e, by intros; apply fAll_e, by intros; apply fAny_e, by intros; rfl, by intros; rfl, by intros; rfl, by intros; rfl, by intros; rfl, by intros; rfl, by intros; rfl, by intros; rfl, by intros; rfl, by intros; rfl, by intros; rfl, by intros; rfl, by intros; rfl, by intros; rfl, by intros; rfl, by intros; rfl, by intros; rfl, by intros; rfl, by intros; rfl, by intros; rfl, by intros; rfl, by intros; rfl, by intros; rfl, by intros; rfl, by intros; rfl, by intros; rfl, by intros; rfl, by intros; rfl, by intros; rfl, by intros; rfl, by intros; rfl, by intros; rfl, by intros; rfl, by intros; rfl, by intros; rfl, by intros; rfl, by intros; rfl, by intros; rfl, by intros; rfl, by intros; rfl, by intros; rfl, by intros; rfl⟩
theorem SB : (∀ (a0 : Option Sl) (l : Nv) (x : Option Sl) (k : Nv → Prop), setK (a0 :: l) 0 x k = k (x :: l)) ∧
  (∀ (a0 : Option Sl) (l : Nv) (k : Option Sl → Prop), getK (a0 :: l) 0 k = k a0) ∧
  (∀ (a0 a1 : Option Sl) (l : Nv) (x : Option Sl) (k : Nv → Prop), setK (a0 :: a1 :: l) 1 x k = k (a0 :: x :: l)) ∧
  (∀ (a0 a1 : Option Sl) (l : Nv) (k : Option Sl → Prop), getK (a0 :: a1 :: l) 1 k = k a1) ∧
  (∀ (a0 a1 a2 : Option Sl) (l : Nv) (x : Option Sl) (k : Nv → Prop), setK (a0 :: a1 :: a2 :: l) 2 x k = k (a0 :: a1 :: x :: l)) ∧
  (∀ (a0 a1 a2 : Option Sl) (l : Nv) (k : Option Sl → Prop), getK (a0 :: a1 :: a2 :: l) 2 k = k a2) ∧
  (∀ (a0 a1 a2 a3 : Option Sl) (l : Nv) (x : Option Sl) (k : Nv → Prop), setK (a0 :: a1 :: a2 :: a3 :: l) 3 x k = k (a0 :: a1 :: a2 :: x :: l)) ∧
  (∀ (a0 a1 a2 a3 : Option Sl) (l : Nv) (k : Option Sl → Prop), getK (a0 :: a1 :: a2 :: a3 :: l) 3 k = k a3) ∧
  (∀ (a0 a1 a2 a3 a4 : Option Sl) (l : Nv) (x : Option Sl) (k : Nv → Prop), setK (a0 :: a1 :: a2 :: a3 :: a4 :: l) 4 x k = k (a0 :: a1 :: a2 :: a3 :: x :: l)) ∧
  (∀ (a0 a1 a2 a3 a4 : Option Sl) (l : Nv) (k : Option Sl → Prop), getK (a0 :: a1 :: a2 :: a3 :: a4 :: l) 4 k = k a4) ∧
  (∀ (a0 a1 a2 a3 a4 a5 : Option Sl) (l : Nv) (x : Option Sl) (k : Nv → Prop), setK (a0 :: a1 :: a2 :: a3 :: a4 :: a5 :: l) 5 x k = k (a0 :: a1 :: a2 :: a3 :: a4 :: x :: l)) ∧
  (∀ (a0 a1 a2 a3 a4 a5 : Option Sl) (l : Nv) (k : Option Sl → Prop), getK (a0 :: a1 :: a2 :: a3 :: a4 :: a5 :: l) 5 k = k a5) ∧
  (∀ (a0 a1 a2 a3 a4 a5 a6 : Option Sl) (l : Nv) (x : Option Sl) (k : Nv → Prop), setK (a0 :: a1 :: a2 :: a3 :: a4 :: a5 :: a6 :: l) 6 x k = k (a0 :: a1 :: a2 :: a3 :: a4 :: a5 :: x :: l)) ∧
  (∀ (a0 a1 a2 a3 a4 a5 a6 : Option Sl) (l : Nv) (k : Option Sl → Prop), getK (a0 :: a1 :: a2 :: a3 :: a4 :: a5 :: a6 :: l) 6 k = k a6) ∧
  (∀ (a0 a1 a2 a3 a4 a5 a6 a7 : Option Sl) (l : Nv) (x : Option Sl) (k : Nv → Prop), setK (a0 :: a1 :: a2 :: a3 :: a4 :: a5 :: a6 :: a7 :: l) 7 x k = k (a0 :: a1 :: a2 :: a3 :: a4 :: a5 :: a6 :: x :: l)) ∧
  (∀ (a0 a1 a2 a3 a4 a5 a6 a7 : Option Sl) (l : Nv) (k : Option Sl → Prop), getK (a0 :: a1 :: a2 :: a3 :: a4 :: a5 :: a6 :: a7 :: l) 7 k = k a7) ∧
  (∀ (a0 a1 a2 a3 a4 a5 a6 a7 a8 : Option Sl) (l : Nv) (x : Option Sl) (k : Nv → Prop), setK (a0 :: a1 :: a2 :: a3 :: a4 :: a5 :: a6 :: a7 :: a8 :: l) 8 x k = k (a0 :: a1 :: a2 :: a3 :: a4 :: a5 :: a6 :: a7 :: x :: l)) ∧
  (∀ (a0 a1 a2 a3 a4 a5 a6 a7 a8 : Option Sl) (l : Nv) (k : Option Sl → Prop), getK (a0 :: a1 :: a2 :: a3 :: a4 :: a5 :: a6 :: a7 :: a8 :: l) 8 k = k a8) ∧
  (∀ (a0 a1 a2 a3 a4 a5 a6 a7 a8 a9 : Option Sl) (l : Nv) (x : Option Sl) (k : Nv → Prop), setK (a0 :: a1 :: a2 :: a3 :: a4 :: a5 :: a6 :: a7 :: a8 :: a9 :: l) 9 x k = k (a0 :: a1 :: a2 :: a3 :: a4 :: a5 :: a6 :: a7 :: a8 :: x :: l)) ∧
  (∀ (a0 a1 a2 a3 a4 a5 a6 a7 a8 a9 : Option Sl) (l : Nv) (k : Option Sl → Prop), getK (a0 :: a1 :: a2 :: a3 :: a4 :: a5 :: a6 :: a7 :: a8 :: a9 :: l) 9 k = k a9) ∧
  (∀ (a0 a1 a2 a3 a4 a5 a6 a7 a8 a9 a10 : Option Sl) (l : Nv) (x : Option Sl) (k : Nv → Prop), setK (a0 :: a1 :: a2 :: a3 :: a4 :: a5 :: a6 :: a7 :: a8 :: a9 :: a10 :: l) 10 x k = k (a0 :: a1 :: a2 :: a3 :: a4 :: a5 :: a6 :: a7 :: a8 :: a9 :: x :: l)) ∧
  (∀ (a0 a1 a2 a3 a4 a5 a6 a7 a8 a9 a10 : Option Sl) (l : Nv) (k : Option Sl → Prop), getK (a0 :: a1 :: a2 :: a3 :: a4 :: a5 :: a6 :: a7 :: a8 :: a9 :: a10 :: l) 10 k = k a10) ∧
  (∀ (a0 a1 a2 a3 a4 a5 a6 a7 a8 a9 a10 a11 : Option Sl) (l : Nv) (x : Option Sl) (k : Nv → Prop), setK (a0 :: a1 :: a2 :: a3 :: a4 :: a5 :: a6 :: a7 :: a8 :: a9 :: a10 :: a11 :: l) 11 x k = k (a0 :: a1 :: a2 :: a3 :: a4 :: a5 :: a6 :: a7 :: a8 :: a9 :: a10 :: x :: l)) ∧
  (∀ (a0 a1 a2 a3 a4 a5 a6 a7 a8 a9 a10 a11 : Option Sl) (l : Nv) (k : Option Sl → Prop), getK (a0 :: a1 :: a2 :: a3 :: a4 :: a5 :: a6 :: a7 :: a8 :: a9 :: a10 :: a11 :: l) 11 k = k a11) ∧
  (∀ (a0 a1 a2 a3 a4 a5 a6 a7 a8 a9 a10 a11 a12 : Option Sl) (l : Nv) (x : Option Sl) (k : Nv → Prop), setK (a0 :: a1 :: a2 :: a3 :: a4 :: a5 :: a6 :: a7 :: a8 :: a9 :: a10 :: a11 :: a12 :: l) 12 x k = k (a0 :: a1 :: a2 :: a3 :: a4 :: a5 :: a6 :: a7 :: a8 :: a9 :: a10 :: a11 :: x :: l)) ∧
  (∀ (a0 a1 a2 a3 a4 a5 a6 a7 a8 a9 a10 a11 a12 : Option Sl) (l : Nv) (k : Option Sl → Prop), getK (a0 :: a1 :: a2 :: a3 :: a4 :: a5 :: a6 :: a7 :: a8 :: a9 :: a10 :: a11 :: a12 :: l) 12 k = k a12) ∧
  (∀ (a0 a1 a2 a3 a4 a5 a6 a7 a8 a9 a10 a11 a12 a13 : Option Sl) (l : Nv) (x : Option Sl) (k : Nv → Prop), setK (a0 :: a1 :: a2 :: a3 :: a4 :: a5 :: a6 :: a7 :: a8 :: a9 :: a10 :: a11 :: a12 :: a13 :: l) 13 x k = k (a0 :: a1 :: a2 :: a3 :: a4 :: a5 :: a6 :: a7 :: a8 :: a9 :: a10 :: a11 :: a12 :: x :: l)) ∧
  (∀ (a0 a1 a2 a3 a4 a5 a6 a7 a8 a9 a10 a11 a12 a13 : Option Sl) (l : Nv) (k : Option Sl → Prop), getK (a0 :: a1 :: a2 :: a3 :: a4 :: a5 :: a6 :: a7 :: a8 :: a9 :: a10 :: a11 :: a12 :: a13 :: l) 13 k = k a13) ∧
  (∀ (a0 a1 a2 a3 a4 a5 a6 a7 a8 a9 a10 a11 a12 a13 a14 : Option Sl) (l : Nv) (x : Option Sl) (k : Nv → Prop), setK (a0 :: a1 :: a2 :: a3 :: a4 :: a5 :: a6 :: a7 :: a8 :: a9 :: a10 :: a11 :: a12 :: a13 :: a14 :: l) 14 x k = k (a0 :: a1 :: a2 :: a3 :: a4 :: a5 :: a6 :: a7 :: a8 :: a9 :: a10 :: a11 :: a12 :: a13 :: x :: l)) ∧
  (∀ (a0 a1 a2 a3 a4 a5 a6 a7 a8 a9 a10 a11 a12 a13 a14 : Option Sl) (l : Nv) (k : Option Sl → Prop), getK (a0 :: a1 :: a2 :: a3 :: a4 :: a5 :: a6 :: a7 :: a8 :: a9 :: a10 :: a11 :: a12 :: a13 :: a14 :: l) 14 k = k a14) ∧
  (∀ (a0 a1 a2 a3 a4 a5 a6 a7 a8 a9 a10 a11 a12 a13 a14 a15 : Option Sl) (l : Nv) (x : Option Sl) (k : Nv → Prop), setK (a0 :: a1 :: a2 :: a3 :: a4 :: a5 :: a6 :: a7 :: a8 :: a9 :: a10 :: a11 :: a12 :: a13 :: a14 :: a15 :: l) 15 x k = k (a0 :: a1 :: a2 :: a3 :: a4 :: a5 :: a6 :: a7 :: a8 :: a9 :: a10 :: a11 :: a12 :: a13 :: a14 :: x :: l)) ∧
  (∀ (a0 a1 a2 a3 a4 a5 a6 a7 a8 a9 a10 a11 a12 a13 a14 a15 : Option Sl) (l : Nv) (k : Option Sl → Prop), getK (a0 :: a1 :: a2 :: a3 :: a4 :: a5 :: a6 :: a7 :: a8 :: a9 :: a10 :: a11 :: a12 :: a13 :: a14 :: a15 :: l) 15 k = k a15) ∧
  (∀ (ρ : Nv) (k : Nv → Prop), wipK ρ [] k = k ρ) ∧
  (∀ (ρ : Nv) (v : Nat) (vs : List Nat) (k : Nv → Prop), wipK ρ (v :: vs) k = wipK ρ vs fun ρ' => setK ρ' v none k) ∧
  (∀ (ρ0 ρ : Nv) (k : Nv → Prop), bckK ρ0 ρ [] k = k ρ) ∧
  (∀ (ρ0 ρ : Nv) (v : Nat) (vs : List Nat) (k : Nv → Prop), bckK ρ0 ρ (v :: vs) k = bckK ρ0 ρ vs fun ρ' => getK ρ0 v fun x => setK ρ' v x k) ∧
  (∀ (d : D) (l : Nv) (j : Nat) (k : Re → Prop), rdX (some (.fz d) :: l) 0 j k = k (.va d)) ∧
  (∀ (d : D) (l : Nv) (j : Nat) (k : Re → Prop), rdX (some (.ow d) :: l) 0 j k = k (.br j)) ∧
  (∀ (d : D) (l : Nv) (j : Nat) (k : Re → Prop), rdX (some (.lo d) :: l) 0 j k = k (.br j)) ∧
  (∀ (l : Nv) (i : Nat) (a : Option Sl) (j : Nat) (k : Re → Prop), rdX (a :: l) (i + 1) j k = rdX l i j k) ∧
  (∀ (d : D) (l : Nv) (k : D → Prop), opX (some (.fz d) :: l) 0 k = (k d)) ∧
  (∀ (d : D) (l : Nv) (k : D → Prop), opX (some (.ow d) :: l) 0 k = (k d)) ∧
  (∀ (d : D) (l : Nv) (k : D → Prop), opX (some (.lo d) :: l) 0 k = (k d)) ∧
  (∀ (l : Nv) (i : Nat) (a : Option Sl) (k : D → Prop), opX (a :: l) (i + 1) k = opX l i k) ∧
  (∀ (d : D) (l : Nv) (k1 : D → Prop) (k2 : D → Prop), frX (some (.fz d) :: l) 0 k1 k2 = (k1 d)) ∧
  (∀ (d : D) (l : Nv) (k1 : D → Prop) (k2 : D → Prop), frX (some (.lo d) :: l) 0 k1 k2 = (k2 d)) ∧
  (∀ (l : Nv) (i : Nat) (a : Option Sl) (k1 : D → Prop) (k2 : D → Prop), frX (a :: l) (i + 1) k1 k2 = frX l i k1 k2) ∧
  (∀ (d : D) (l : Nv) (k1 : D → Prop) (k2 : D → Prop), owX (some (.ow d) :: l) 0 k1 k2 = (k1 d)) ∧
  (∀ (d : D) (l : Nv) (k1 : D → Prop) (k2 : D → Prop), owX (some (.lo d) :: l) 0 k1 k2 = (k2 d)) ∧
  (∀ (l : Nv) (i : Nat) (a : Option Sl) (k1 : D → Prop) (k2 : D → Prop), owX (a :: l) (i + 1) k1 k2 = owX l i k1 k2) ∧
  (∀ (d : D) (l : Nv) (k : D → Prop), odX (some (.ow d) :: l) 0 k = (k d)) ∧
  (∀ (l : Nv) (i : Nat) (a : Option Sl) (k : D → Prop), odX (a :: l) (i + 1) k = odX l i k) ∧
  (∀ (d : D) (l : Nv) (k : Re → Prop), reX (some (.lo d) :: l) 0 k = (k (.nw d))) ∧
  (∀ (d : D) (l : Nv) (k : Re → Prop), reX (some (.fz d) :: l) 0 k = (k (.va d))) ∧
  (∀ (l : Nv) (i : Nat) (a : Option Sl) (k : Re → Prop), reX (a :: l) (i + 1) k = reX l i k) ∧
  (∀ (d : D) (ρ : Nv) (k : D → Prop), opd (.va d) ρ k = k d) ∧
  (∀ (d : D) (ρ : Nv) (k : D → Prop), opd (.nw d) ρ k = k d) ∧
  (∀ (d : D) (ρ : Nv) (k : D → Nv → Prop), frz (.va d) ρ k = k d ρ) ∧
  (∀ (d : D) (ρ : Nv) (k : D → Nv → Prop), frz (.nw d) ρ k = k d ρ) ∧
  (∀ (d : D) (ρ : Nv) (k : Re → Prop), retR (.va d) ρ k = k (.va d)) ∧
  (∀ (d : D) (ρ : Nv) (k : Re → Prop), retR (.nw d) ρ k = k (.nw d)) ∧
  (∀ (i : Nat) (d : D) (ρ : Nv) (k : Nv → Prop), stS i (.nw d) ρ k = (notOw ρ i ∧ setK ρ i (some (.lo d)) k)) ∧
  (∀ (i : Nat) (d : D) (ρ : Nv) (k : Nv → Prop), stS i (.va d) ρ k = (notOw ρ i ∧ setK ρ i (some (.fz d)) k)) ∧
  (∀ (i j : Nat) (ρ : Nv) (k : Nv → Prop), stS i (.br j) ρ k = frz (.br j) ρ fun d ρ' => notOw ρ' i ∧ setK ρ' i (some (.fz d)) k) ∧
  (∀ (l : Nv), notOw (none :: l) 0 = True) ∧
  (∀ (d : D) (l : Nv), notOw (some (.fz d) :: l) 0 = True) ∧
  (∀ (d : D) (l : Nv), notOw (some (.lo d) :: l) 0 = True) ∧
  (∀ (a : Option Sl) (l : Nv) (i : Nat), notOw (a :: l) (i + 1) = notOw l i) ∧
  (∀ (ρ : Nv) (k : List D → Prop), opds [] ρ k = k []) ∧
  (∀ (r : Re) (rs : List Re) (ρ : Nv) (k : List D → Prop), opds (r :: rs) ρ k = opd r ρ fun d => opds rs ρ fun ds => k (d :: ds)) ∧
  (∀ (ρ : Nv) (k : List D → Nv → Prop), frzL [] ρ k = k [] ρ) ∧
  (∀ (r : Re) (rs : List Re) (ρ : Nv) (k : List D → Nv → Prop), frzL (r :: rs) ρ k = frz r ρ fun d ρ1 => frzL rs ρ1 fun ds ρ2 => k (d :: ds) ρ2) ∧
  (∀ (i : Nat) (rs : List Re) (ρ : Nv) (k : List D → Nat → Nv → Prop), frzO 0 (.br i :: rs) ρ k = frzL rs ρ fun ds ρ2 => k ds i ρ2) ∧
  (∀ (i : Nat) (r : Re) (rs : List Re) (ρ : Nv) (k : List D → Nat → Nv → Prop), frzO 1 (r :: .br i :: rs) ρ k = frzL (r :: rs) ρ fun ds ρ2 => k ds i ρ2) ∧
  (∀ (i : Nat) (r s : Re) (rs : List Re) (ρ : Nv) (k : List D → Nat → Nv → Prop), frzO 2 (r :: s :: .br i :: rs) ρ k = frzL (r :: s :: rs) ρ fun ds ρ2 => k ds i ρ2) ∧
  (∀ (i : Nat) (r s u : Re) (rs : List Re) (ρ : Nv) (k : List D → Nat → Nv → Prop), frzO 3 (r :: s :: u :: .br i :: rs) ρ k = frzL (r :: s :: u :: rs) ρ fun ds ρ2 => k ds i ρ2) ∧
  (∀ (b : Bool) (k : Bool → Prop), onBl (.va (.bl b)) k = k b) ∧
  (∀ (i : Int) (k : Int → Prop), onInt (.va (.int i)) k = k i) ∧
  (∀ (d : D) (k : D → Prop), onNw (some (.nw d)) k = k d) ∧
  (∀ (α : Type) (r s : α) (k : α → α → Prop), on2 [r, s] k = k r s) ∧
  (∀ (k : List D → Prop), onVa [] k = k []) ∧
  (∀ (d : D) (rs : List Re) (k : List D → Prop), onVa (.va d :: rs) k = onVa rs fun ds => k (d :: ds)) ∧
  (∀ (i : Int) (k : Int → Prop), onI1 [.va (.int i)] k = k i) ∧
  (∀ (i j : Int) (k : Int → Int → Prop), onI2 [.va (.int i), .va (.int j)] k = k i j) ∧
  (∀ (i j c : Int) (k : Int → Int → Int → Prop), onI3 [.va (.int i), .va (.int j), .va (.int c)] k = k i j c) ∧
  (∀ (xs : List D) (k : List Int → Prop), onInts [.lst xs] k = oiX xs k) ∧
  (∀ (ns : List Int) (k : List Int → Prop), oiX (ns.map D.int) k = k ns) ∧
  (∀ (xs : List D) (k : List Bool → Prop), onBls [.lst xs] k = obX xs k) ∧
  (∀ (ns : List Bool) (k : List Bool → Prop), obX (ns.map D.bl) k = k ns) ∧
  (∀ (ns : List Int) (k : List Int → Prop), onInts [.scr ns] k = k ns) ∧
  (∀ (k : List Int → Prop), oiX [] k = k []) ∧
  (∀ (i : Int) (l : List D) (k : List Int → Prop), oiX (.int i :: l) k = oiX l fun ns => k (i :: ns)) ∧
  (∀ (k : List Bool → Prop), obX [] k = k []) ∧
  (∀ (i : Bool) (l : List D) (k : List Bool → Prop), obX (.bl i :: l) k = obX l fun ns => k (i :: ns)) ∧
  (∀ (xs : List D) (k : List D → Prop), itD (.lst xs) k = k xs) ∧
  (∀ (xs : List D) (k : List D → Prop), itD (.tup xs) k = k xs) ∧
  (∀ (ns : List Int) (k : List D → Prop), itD (.scr ns) k = k (ns.map .int)) ∧
  (∀ (z : Str) (k : List D → Prop), itD (.str z) k = k (z.cps.toList.map fun c => .str ⟨#[c]⟩)) ∧
  (∀ (i : Int) (j : Int) (Q : Re → Prop), fAdd (.int i) (.int j) Q = (Q (.va (.int (i + j))))) ∧
  (∀ (i : Str) (j : Str) (Q : Re → Prop), fAdd (.str i) (.str j) Q = (i.length + j.length ≤ sizeLine ∧ Q (.va (.str (i ++ j))))) ∧
  (∀ (i : List D) (j : List D) (Q : Re → Prop), fAdd (.lst i) (.lst j) Q = (i.length + j.length ≤ sizeLine ∧ Q (.nw (.lst (i ++ j))))) ∧
  (∀ (i : List D) (j : List D) (Q : Re → Prop), fAdd (.tup i) (.tup j) Q = (i.length + j.length ≤ sizeLine ∧ Q (.va (.tup (i ++ j))))) ∧
  (∀ (i : Int) (j : Int) (Q : Re → Prop), fSub (.int i) (.int j) Q = (Q (.va (.int (i - j))))) ∧
  (∀ (i : Int) (j : Int) (Q : Re → Prop), fMul (.int i) (.int j) Q = (CMulW i j ∧ Q (.va (.int (i * j))))) ∧
  (∀ (i : List D) (j : Int) (Q : Re → Prop), fMul (.lst i) (.int j) Q = (-(2 ^ 63) ≤ j ∧ j < 2 ^ 63 ∧ i.length * j.toNat ≤ sizeLine ∧ Q (.nw (.lst (List.replicate j.toNat i).flatten)))) ∧
  (∀ (i : Int) (j : Int) (Q : Re → Prop), fDiv (.int i) (.int j) Q = (CDivW i j ∧ Q (.va (.int (i / j))))) ∧
  (∀ (i : Int) (j : Int) (Q : Re → Prop), fDivN (.int i) (.int j) Q = (CDivM i j ∧ Q (.va (.int (i.fdiv j))))) ∧
  (∀ (i : Int) (j : Int) (Q : Re → Prop), fMod (.int i) (.int j) Q = (0 < j ∧ Q (.va (.int (i % j))))) ∧
  (∀ (i : Int) (j : Int) (Q : Re → Prop), fPow (.int i) (.int j) Q = (CPow i j ∧ Q (.va (.int (i ^ j.toNat))))) ∧
  (∀ (i : Int) (j : Int) (Q : Re → Prop), fShl (.int i) (.int j) Q = (CPow i j ∧ Q (.va (.int (i * 2 ^ j.toNat))))) ∧
  (∀ (i : Int) (j : Int) (Q : Re → Prop), fShr (.int i) (.int j) Q = (0 ≤ j ∧ Q (.va (.int (i / 2 ^ j.toNat))))) ∧
  (∀ (i : Int) (j : Int) (Q : Re → Prop), fAnd (.int i) (.int j) Q = (Q (.va (.int (Builtin.bitAnd i j))))) ∧
  (∀ (i : Int) (j : Int) (Q : Re → Prop), fLt (.int i) (.int j) Q = (Q (.va (.bl (decide (i < j)))))) ∧
  (∀ (i : Str) (j : Str) (Q : Re → Prop), fLt (.str i) (.str j) Q = (Q (.va (.bl (decide (i.cps.toList < j.cps.toList)))))) ∧
  (∀ (i : Int) (j : Int) (Q : Re → Prop), fLe (.int i) (.int j) Q = (Q (.va (.bl (decide (i ≤ j)))))) ∧
  (∀ (i : Int) (j : Int) (Q : Re → Prop), fGt (.int i) (.int j) Q = (Q (.va (.bl (decide (j < i)))))) ∧
  (∀ (i : Int) (j : Int) (Q : Re → Prop), fGe (.int i) (.int j) Q = (Q (.va (.bl (decide (j ≤ i)))))) ∧
  (∀ (i : Bool) (j : Bool) (Q : Re → Prop), fIsB (.bl i) (.bl j) Q = (Q (.va (.bl (decide (i = j)))))) ∧
  (∀ (i : Bool) (j : Bool) (Q : Re → Prop), fNotB (.bl i) (.bl j) Q = (Q (.va (.bl (!decide (i = j)))))) ∧
  (∀ (i : List D) (j : Int) (Q : Re → Prop), fIx (.lst i) (.int j) Q = (atK (atI i j) fun d => Q (.va d))) ∧
  (∀ (i : List D) (j : Int) (Q : Re → Prop), fIx (.tup i) (.int j) Q = (atK (atI i j) fun d => Q (.va d))) ∧
  (∀ (i : List Int) (j : Int) (Q : Re → Prop), fIx (.scr i) (.int j) Q = (atK (atI i j) fun n => Q (.va (.int n)))) ∧
  (∀ (i : Str) (j : Int) (Q : Re → Prop), fIx (.str i) (.int j) Q = (i.length ≤ sizeLine ∧ atK (atI i.cps.toList j) fun c => Q (.va (.str ⟨#[c]⟩)))) ∧
  (∀ (i : List D) (Q : Re → Prop), fLen [.lst i] Q = (Q (.va (.int i.length)))) ∧
  (∀ (i : List D) (Q : Re → Prop), fLen [.tup i] Q = (Q (.va (.int i.length)))) ∧
  (∀ (i : List Int) (Q : Re → Prop), fLen [.scr i] Q = (Q (.va (.int i.length)))) ∧
  (∀ (i : Str) (Q : Re → Prop), fLen [.str i] Q = (i.length ≤ sizeLine ∧ Q (.va (.int i.length)))) ∧
  (∀ (i : Int) (Q : Re → Prop), fAbs [.int i] Q = (Q (.va (.int (i.natAbs : Nat))))) ∧
  (∀ (i : Int) (Q : Re → Prop), fInt [.int i] Q = (Q (.va (.int i)))) ∧
  (∀ (i : Bool) (Q : Re → Prop), fInt [.bl i] Q = (Q (.va (.int (if i = true then 1 else 0))))) ∧
  (∀ (i : List D) (Q : Re → Prop), fList [.lst i] Q = (Q (.nw (.lst i)))) ∧
  (∀ (i : List D) (Q : Re → Prop), fList [.tup i] Q = (Q (.nw (.lst i)))) ∧
  (∀ (i : List Int) (Q : Re → Prop), fList [.scr i] Q = (Q (.nw (.lst (i.map .int))))) ∧
  (∀ (i : List D) (Q : Re → Prop), fTuple [.lst i] Q = (Q (.va (.tup i)))) ∧
  (∀ (i : List D) (Q : Re → Prop), fTuple [.tup i] Q = (Q (.va (.tup i)))) ∧
  (∀ (i : List Int) (Q : Re → Prop), fTuple [.scr i] Q = (Q (.va (.tup (i.map .int))))) ∧
  (∀ (g : Int → Int → Int) (i j : Int) (Q : Re → Prop), f2I g [.int i, .int j] Q = Q (.va (.int (g i j)))) ∧
  (∀ (K : PySem.W.Frag) (i : Int) (Q : Re → Prop), fIsi K [.int i, .ty "int"] Q = Q (.va (.bl true))) ∧
  (∀ (K : PySem.W.Frag) (i : Int) (Q : Re → Prop), fIsi K [.int i, .ty "bool"] Q = Q (.va (.bl false))) ∧
  (∀ (K : PySem.W.Frag) (i : Int) (Q : Re → Prop), fIsi K [.int i, .ty "str"] Q = Q (.va (.bl false))) ∧
  (∀ (K : PySem.W.Frag) (i : Int) (Q : Re → Prop), fIsi K [.int i, .ty "tuple"] Q = Q (.va (.bl false))) ∧
  (∀ (K : PySem.W.Frag) (i : Int) (Q : Re → Prop), fIsi K [.int i, .ty "list"] Q = Q (.va (.bl false))) ∧
  (∀ (K : PySem.W.Frag) (i : Int) (Q : Re → Prop), fIsi K [.int i, .ty "dict"] Q = Q (.va (.bl false))) ∧
  (∀ (K : PySem.W.Frag) (i : Bool) (Q : Re → Prop), fIsi K [.bl i, .ty "int"] Q = Q (.va (.bl true))) ∧
  (∀ (K : PySem.W.Frag) (i : Bool) (Q : Re → Prop), fIsi K [.bl i, .ty "bool"] Q = Q (.va (.bl true))) ∧
  (∀ (K : PySem.W.Frag) (i : Bool) (Q : Re → Prop), fIsi K [.bl i, .ty "str"] Q = Q (.va (.bl false))) ∧
  (∀ (K : PySem.W.Frag) (i : Bool) (Q : Re → Prop), fIsi K [.bl i, .ty "tuple"] Q = Q (.va (.bl false))) ∧
  (∀ (K : PySem.W.Frag) (i : Bool) (Q : Re → Prop), fIsi K [.bl i, .ty "list"] Q = Q (.va (.bl false))) ∧
  (∀ (K : PySem.W.Frag) (i : Bool) (Q : Re → Prop), fIsi K [.bl i, .ty "dict"] Q = Q (.va (.bl false))) ∧
  (∀ (K : PySem.W.Frag) (i : Str) (Q : Re → Prop), fIsi K [.str i, .ty "int"] Q = Q (.va (.bl false))) ∧
  (∀ (K : PySem.W.Frag) (i : Str) (Q : Re → Prop), fIsi K [.str i, .ty "bool"] Q = Q (.va (.bl false))) ∧
  (∀ (K : PySem.W.Frag) (i : Str) (Q : Re → Prop), fIsi K [.str i, .ty "str"] Q = Q (.va (.bl true))) ∧
  (∀ (K : PySem.W.Frag) (i : Str) (Q : Re → Prop), fIsi K [.str i, .ty "tuple"] Q = Q (.va (.bl false))) ∧
  (∀ (K : PySem.W.Frag) (i : Str) (Q : Re → Prop), fIsi K [.str i, .ty "list"] Q = Q (.va (.bl false))) ∧
  (∀ (K : PySem.W.Frag) (i : Str) (Q : Re → Prop), fIsi K [.str i, .ty "dict"] Q = Q (.va (.bl false))) ∧
  (∀ (K : PySem.W.Frag) (i : List D) (Q : Re → Prop), fIsi K [.tup i, .ty "int"] Q = Q (.va (.bl false))) ∧
  (∀ (K : PySem.W.Frag) (i : List D) (Q : Re → Prop), fIsi K [.tup i, .ty "bool"] Q = Q (.va (.bl false))) ∧
  (∀ (K : PySem.W.Frag) (i : List D) (Q : Re → Prop), fIsi K [.tup i, .ty "str"] Q = Q (.va (.bl false))) ∧
  (∀ (K : PySem.W.Frag) (i : List D) (Q : Re → Prop), fIsi K [.tup i, .ty "tuple"] Q = Q (.va (.bl true))) ∧
  (∀ (K : PySem.W.Frag) (i : List D) (Q : Re → Prop), fIsi K [.tup i, .ty "list"] Q = Q (.va (.bl false))) ∧
  (∀ (K : PySem.W.Frag) (i : List D) (Q : Re → Prop), fIsi K [.tup i, .ty "dict"] Q = Q (.va (.bl false))) ∧
  (∀ (K : PySem.W.Frag) (i : List D) (Q : Re → Prop), fIsi K [.lst i, .ty "int"] Q = Q (.va (.bl false))) ∧
  (∀ (K : PySem.W.Frag) (i : List D) (Q : Re → Prop), fIsi K [.lst i, .ty "bool"] Q = Q (.va (.bl false))) ∧
  (∀ (K : PySem.W.Frag) (i : List D) (Q : Re → Prop), fIsi K [.lst i, .ty "str"] Q = Q (.va (.bl false))) ∧
  (∀ (K : PySem.W.Frag) (i : List D) (Q : Re → Prop), fIsi K [.lst i, .ty "tuple"] Q = Q (.va (.bl false))) ∧
  (∀ (K : PySem.W.Frag) (i : List D) (Q : Re → Prop), fIsi K [.lst i, .ty "list"] Q = Q (.va (.bl true))) ∧
  (∀ (K : PySem.W.Frag) (i : List D) (Q : Re → Prop), fIsi K [.lst i, .ty "dict"] Q = Q (.va (.bl false))) ∧
  (∀ (K : PySem.W.Frag) (i : List Int) (Q : Re → Prop), fIsi K [.scr i, .ty "int"] Q = Q (.va (.bl false))) ∧
  (∀ (K : PySem.W.Frag) (i : List Int) (Q : Re → Prop), fIsi K [.scr i, .ty "bool"] Q = Q (.va (.bl false))) ∧
  (∀ (K : PySem.W.Frag) (i : List Int) (Q : Re → Prop), fIsi K [.scr i, .ty "str"] Q = Q (.va (.bl false))) ∧
  (∀ (K : PySem.W.Frag) (i : List Int) (Q : Re → Prop), fIsi K [.scr i, .ty "tuple"] Q = Q (.va (.bl false))) ∧
  (∀ (K : PySem.W.Frag) (i : List Int) (Q : Re → Prop), fIsi K [.scr i, .ty "list"] Q = Q (.va (.bl true))) ∧
  (∀ (K : PySem.W.Frag) (i : List Int) (Q : Re → Prop), fIsi K [.scr i, .ty "dict"] Q = Q (.va (.bl false))) ∧
  (∀ (K : PySem.W.Frag) (Q : Re → Prop), fIsi K [.non, .ty "int"] Q = Q (.va (.bl false))) ∧
  (∀ (K : PySem.W.Frag) (Q : Re → Prop), fIsi K [.non, .ty "bool"] Q = Q (.va (.bl false))) ∧
  (∀ (K : PySem.W.Frag) (Q : Re → Prop), fIsi K [.non, .ty "str"] Q = Q (.va (.bl false))) ∧
  (∀ (K : PySem.W.Frag) (Q : Re → Prop), fIsi K [.non, .ty "tuple"] Q = Q (.va (.bl false))) ∧
  (∀ (K : PySem.W.Frag) (Q : Re → Prop), fIsi K [.non, .ty "list"] Q = Q (.va (.bl false))) ∧
  (∀ (K : PySem.W.Frag) (Q : Re → Prop), fIsi K [.non, .ty "dict"] Q = Q (.va (.bl false))) ∧
  (∀ (K : PySem.W.Frag) (ks : List Key) (xs : List D) (Q : Re → Prop), fIsi K [.dic ks xs, .ty "int"] Q = Q (.va (.bl false))) ∧
  (∀ (K : PySem.W.Frag) (ks : List Key) (xs : List D) (Q : Re → Prop), fIsi K [.dic ks xs, .ty "bool"] Q = Q (.va (.bl false))) ∧
  (∀ (K : PySem.W.Frag) (ks : List Key) (xs : List D) (Q : Re → Prop), fIsi K [.dic ks xs, .ty "str"] Q = Q (.va (.bl false))) ∧
  (∀ (K : PySem.W.Frag) (ks : List Key) (xs : List D) (Q : Re → Prop), fIsi K [.dic ks xs, .ty "tuple"] Q = Q (.va (.bl false))) ∧
  (∀ (K : PySem.W.Frag) (ks : List Key) (xs : List D) (Q : Re → Prop), fIsi K [.dic ks xs, .ty "list"] Q = Q (.va (.bl false))) ∧
  (∀ (K : PySem.W.Frag) (ks : List Key) (xs : List D) (Q : Re → Prop), fIsi K [.dic ks xs, .ty "dict"] Q = Q (.va (.bl true))) ∧
  (∀ (K : PySem.W.Frag) (C E : Addr) (Q : Re → Prop), fIsi K [.exc C, .obj E] Q = (ExcC K C ∧ atK (PySem.W.kitOne K (.ref C) (.ref E)) fun b => Q (.va (.bl b)))) ∧
  (∀ (K : PySem.W.Frag) (C : Addr) (n : String) (Q : Re → Prop), fIsi K [.exc C, .ty n] Q = (ExcC K C ∧ atK (PySem.W.kitOne K (.ref C) (.type n)) fun b => Q (.va (.bl b)))) ∧
  (∀ (K : PySem.W.Frag) (C : Addr) (cs : List D) (Q : Re → Prop), fIsi K [.exc C, .tup cs] Q = (ExcC K C ∧ atK (clsL cs) fun us => atK (PySem.W.kitAny K (.ref C) us) fun b => Q (.va (.bl b)))) ∧
  (clsL [] = some []) ∧
  (∀ (C : Addr) (r : List D), clsL (.obj C :: r) = (clsL r).map (Value.ref C :: ·)) ∧
  (∀ (n : String) (r : List D), clsL (.ty n :: r) = (clsL r).map (Value.type n :: ·)) ∧
  (∀ (i : List D) (d : D) (Q : Re → D → Prop), fAppend (.lst i) [d] Q = (i.length < sizeLine ∧ Q (.va .non) (.lst (i ++ [d])))) ∧
  (∀ (i j : List D) (Q : Re → D → Prop), fExtend (.lst i) [.lst j] Q = (i.length + j.length ≤ sizeLine ∧ Q (.va .non) (.lst (i ++ j)))) ∧
  (∀ (i : List D) (Q : Re → D → Prop), fPop (.lst i) [] Q = (atK i[i.length - 1]? fun y => Q (.va y) (.lst i.dropLast))) ∧
  (∀ (i : List D) (Q : Re → D → Prop), fReverse (.lst i) [] Q = (Q (.va .non) (.lst i.reverse))) ∧
  (∀ (i : List D) (Q : Re → D → Prop), fClear (.lst i) [] Q = (Q (.va .non) (.lst []))) ∧
  (∀ (i : List D) (j : Int) (d : D) (Q : Re → D → Prop), fInsert (.lst i) [.int j, d] Q = (i.length < sizeLine ∧ 0 ≤ j ∧ j < 2 ^ 63 ∧ Q (.va .non) (.lst (i.take j.toNat ++ [d] ++ i.drop j.toNat)))) ∧
  (∀ (n : Nat) (h : MGs) (ds : List D) (ρ : Nv) (Q : Nv → Prop), gTp n h (.tup ds) ρ Q = (ds.length = n ∧ h ds ρ Q)) ∧
  (∀ (xs : List D) (T : String), kindD T (.lst xs) = (T = "list")) ∧
  (∀ (ks : List Key) (xs : List D) (T : String), kindD T (.dic ks xs) = (T = "dict")) ∧
  (∀ (xs : List D) (j : Int) (d : D) (Q : D → Prop), setD (.lst xs) j d Q = atK (ixN xs.length j) fun m => Q (.lst (xs.set m d))) ∧
  (∀ (xs : List D) (a b : Option Int) (Q : Re → Prop), fSl (.lst xs) a b Q = Q (.nw (.lst (cutD xs a b)))) ∧
  (∀ (xs : List D) (a b : Option Int) (Q : Re → Prop), fSl (.tup xs) a b Q = Q (.va (.tup (cutD xs a b)))) ∧
  (∀ (xs : List Int) (a b : Option Int) (Q : Re → Prop), fSl (.scr xs) a b Q = Q (.nw (.lst ((cutD xs a b).map .int)))) ∧
  (∀ (ρ : Nv), clnN ρ [] = True) ∧
  (∀ (ρ : Nv) (v : Nat) (vs : List Nat), clnN ρ (v :: vs) = (notLo ρ v ∧ clnN ρ vs)) ∧
  (∀ (l : Nv), notLo (none :: l) 0 = True) ∧
  (∀ (d : D) (l : Nv), notLo (some (.fz d) :: l) 0 = True) ∧
  (∀ (a : Option Sl) (l : Nv) (i : Nat), notLo (a :: l) (i + 1) = notLo l i) ∧
  (∀ (ρ : Nv), wipN ρ [] = ρ) ∧
  (∀ (ρ : Nv) (v : Nat) (vs : List Nat), wipN ρ (v :: vs) = (wipN ρ vs).set v none) ∧
  (∀ (ρ0 ρ : Nv), bckN ρ0 ρ [] = ρ) ∧
  (∀ (ρ0 ρ : Nv) (v : Nat) (vs : List Nat), bckN ρ0 ρ (v :: vs) = (bckN ρ0 ρ vs).set v (ρ0[v]?.getD none)) ∧
  (D.isNon .non = true) ∧
  (∀ (i : Bool), D.isNon (.bl i) = false) ∧
  (∀ (i : Int), D.isNon (.int i) = false) ∧
  (∀ (i : Str), D.isNon (.str i) = false) ∧
  (∀ (i : List D), D.isNon (.tup i) = false) ∧
  (∀ (i : List D), D.isNon (.lst i) = false) ∧
  (∀ (i : Addr), D.isNon (.exc i) = false) ∧
  (∀ (q : Rat), D.isNon (fD q) = false) ∧
  (∀ (q : Rat) (Q : Re → Prop), fIx (fD q) (.int 0) Q = Q (.va (.int q.num))) ∧
  (∀ (q : Rat) (Q : Re → Prop), fIx (fD q) (.int 1) Q = Q (.va (.int q.den))) ∧
  (∀ (K : PySem.W.Frag) (q : Rat) (Q : Re → Prop), fIsi K [fD q, .ty "tuple"] Q = Q (.va (.bl true))) ∧
  (∀ (K : PySem.W.Frag) (q : Rat) (Q : Re → Prop), fIsi K [fD q, .ty "int"] Q = Q (.va (.bl false))) ∧
  (∀ (K : PySem.W.Frag) (q : Rat) (Q : Re → Prop), fIsi K [fD q, .ty "bool"] Q = Q (.va (.bl false))) ∧
  (∀ (K : PySem.W.Frag) (q : Rat) (Q : Re → Prop), fIsi K [fD q, .ty "list"] Q = Q (.va (.bl false))) ∧
  (∀ (K : PySem.W.Frag) (q : Rat) (Q : Re → Prop), fIsi K [fD q, .ty "str"] Q = Q (.va (.bl false))) ∧
  (∀ (h : MGs) (q : Rat) (ρ : Nv) (Q : Nv → Prop), gTp 2 h (fD q) ρ Q = h [.int q.num, .int q.den] ρ Q) ∧
  (∀ (q : Rat) (Q : Re → Prop), fLen [fD q] Q = Q (.va (.int 2))) ∧
  (∀ (a b : HP), @CI true a b = a.p) ∧
  (∀ (a b : HP), @CI false a b = b.p) ∧
  (∀ (α : Type) (d : α) (k : KA α), @AK α (some d) k = k.k d) :=
  ⟨by intros; apply setK_0, by intros; apply getK_0, by intros; apply setK_1, by intros; apply getK_1, by intros; apply setK_2, by intros; apply getK_2, by intros; apply setK_3, by intros; apply getK_3, by intros; apply setK_4, by intros; apply getK_4, by intros; apply setK_5, by intros; apply getK_5, by intros; apply setK_6, by intros; apply getK_6, by intros; apply setK_7, by intros; apply getK_7, by intros; apply setK_8, by intros; apply getK_8, by intros; apply setK_9, by intros; apply getK_9, by intros; apply setK_10, by intros; apply getK_10, by intros; apply setK_11, by intros; apply getK_11, by intros; apply setK_12, by intros; apply getK_12, by intros; apply setK_13, by intros; apply getK_13, by intros; apply setK_14, by intros; apply getK_14, by intros; apply setK_15, by intros; apply getK_15, by intros; apply wipK_n, by intros; apply wipK_c, by intros; apply bckK_n, by intros; apply bckK_c, by intros; apply rdX_f, by intros; apply rdX_o, by intros; apply rdX_l, by intros; apply rdX_s, by intros; apply opX_fz, by intros; apply opX_ow, by intros; apply opX_lo, by intros; apply opX_s, by intros; apply frX_fz, by intros; apply frX_lo, by intros; apply frX_s, by intros; apply owX_ow, by intros; apply owX_lo, by intros; apply owX_s, by intros; apply odX_ow, by intros; apply odX_s, by intros; apply reX_lo, by intros; apply reX_fz, by intros; apply reX_s, by intros; apply opd_va, by intros; apply opd_nw, by intros; apply frz_va, by intros; apply frz_nw, by intros; apply retR_va, by intros; apply retR_nw, by intros; apply stS_nw, by intros; apply stS_va, by intros; apply stS_br, by intros; apply notOw_n, by intros; apply notOw_f, by intros; apply notOw_l, by intros; apply notOw_s, by intros; apply opds_n, by intros; apply opds_c, by intros; apply frzL_n, by intros; apply frzL_c, by intros; apply frzO_0, by intros; apply frzO_1, by intros; apply frzO_2, by intros; apply frzO_3, by intros; apply onBl_e, by intros; apply onInt_e, by intros; apply onNw_e, by intros; apply on2_e, by intros; apply onVa_n, by intros; apply onVa_c, by intros; apply onI1_e, by intros; apply onI2_e, by intros; apply onI3_e, by intros; apply onInts_l, by intros; apply oiX_map, by intros; apply onBls_l, by intros; apply obX_map, by intros; apply onInts_s, by intros; apply oiX_n, by intros; apply oiX_c, by intros; apply obX_n, by intros; apply obX_c, by intros; apply itD_l, by intros; apply itD_t, by intros; apply itD_s, by intros; apply itD_z, by intros; apply fAdd_intint, by intros; apply fAdd_strstr, by intros; apply fAdd_lstlst, by intros; apply fAdd_tuptup, by intros; apply fSub_intint, by intros; apply fMul_intint, by intros; apply fMul_lstint, by intros; apply fDiv_intint, by intros; apply fDivN_intint, by intros; apply fMod_intint, by intros; apply fPow_intint, by intros; apply fShl_intint, by intros; apply fShr_intint, by intros; apply fAnd_intint, by intros; apply fLt_intint, by intros; apply fLt_strstr, by intros; apply fLe_intint, by intros; apply fGt_intint, by intros; apply fGe_intint, by intros; apply fIsB_blbl, by intros; apply fNotB_blbl, by intros; apply fIx_lstint, by intros; apply fIx_tupint, by intros; apply fIx_scrint, by intros; apply fIx_strint, by intros; apply fLen_0, by intros; apply fLen_1, by intros; apply fLen_2, by intros; apply fLen_3, by intros; apply fAbs_0, by intros; apply fInt_0, by intros; apply fInt_1, by intros; apply fList_0, by intros; apply fList_1, by intros; apply fList_2, by intros; apply fTuple_0, by intros; apply fTuple_1, by intros; apply fTuple_2, by intros; apply f2I_e, by intros; apply isi_0int, by intros; apply isi_0bool, by intros; apply isi_0str, by intros; apply isi_0tuple, by intros; apply isi_0list, by intros; apply isi_0dict, by intros; apply isi_1int, by intros; apply isi_1bool, by intros; apply isi_1str, by intros; apply isi_1tuple, by intros; apply isi_1list, by intros; apply isi_1dict, by intros; apply isi_2int, by intros; apply isi_2bool, by intros; apply isi_2str, by intros; apply isi_2tuple, by intros; apply isi_2list, by intros; apply isi_2dict, by intros; apply isi_3int, by intros; apply isi_3bool, by intros; apply isi_3str, by intros; apply isi_3tuple, by intros; apply isi_3list, by intros; apply isi_3dict, by intros; apply isi_4int, by intros; apply isi_4bool, by intros; apply isi_4str, by intros; apply isi_4tuple, by intros; apply isi_4list, by intros; apply isi_4dict, by intros; apply isi_5int, by intros; apply isi_5bool, by intros; apply isi_5str, by intros; apply isi_5tuple, by intros; apply isi_5list, by intros; apply isi_5dict, by intros; apply isi_6int, by intros; apply isi_6bool, by intros; apply isi_6str, by intros; apply isi_6tuple, by intros; apply isi_6list, by intros; apply isi_6dict, by intros; apply isi_dint, by intros; apply isi_dbool, by intros; apply isi_dstr, by intros; apply isi_dtuple, by intros; apply isi_dlist, by intros; apply isi_ddict, by intros; apply isi_xo, by intros; apply isi_xt, by intros; apply isi_xu, by intros; apply clsL_n, by intros; apply clsL_o, by intros; apply clsL_t, by intros; apply fAppend_0, by intros; apply fExtend_0, by intros; apply fPop_0, by intros; apply fReverse_0, by intros; apply fClear_0, by intros; apply fInsert_0, by intros; apply gTp_t, by intros; apply kindD_l, by intros; apply kindD_d, by intros; apply setD_l, by intros; apply fSl_l, by intros; apply fSl_t, by intros; apply fSl_s, by intros; apply clnN_n, by intros; apply clnN_c, by intros; apply notLo_n, by intros; apply notLo_f, by intros; apply notLo_s, by intros; apply wipN_n, by intros; apply wipN_c, by intros; apply bckN_n, by intros; apply bckN_c, by intros; apply isNon_n, by intros; apply isNon_bl, by intros; apply isNon_int, by intros; apply isNon_str, by intros; apply isNon_tup, by intros; apply isNon_lst, by intros; apply isNon_exc, by intros; apply isNon_fD, by intros; apply fIx_fD0, by intros; apply fIx_fD1, by intros; apply isi_fDt, by intros; apply isi_fDi, by intros; apply isi_fDb, by intros; apply isi_fDl, by intros; apply isi_fDs, by intros; apply gTp_fD, by intros; apply fLen_fD, by intros; apply CI_t, by intros; apply CI_f, by intros; apply AK_s⟩
theorem SO : (∀ (a : Prop), @HP.p ⟨a⟩ = a) ∧
  (∀ (q : List D → Nv → Prop), @KL.q ⟨q⟩ = q) ∧
  (∀ (q : PEnds), @KE.d ⟨q⟩ = q) ∧
  (∀ (α : Type) (q : α → Prop), @KA.k α ⟨q⟩ = q) ∧
  (∀ (t : Bool) (a b : HP), @CI (!t) a b = @CI t b a) ∧
  (∀ (i j : Bool) (Q : Re → Prop), fEq (.bl i) (.bl j) Q = Q (.va (.bl (i == j)))) ∧
  (∀ (i j : Bool) (Q : Re → Prop), fNe (.bl i) (.bl j) Q = Q (.va (.bl (!(i == j))))) ∧
  (∀ (i j : Int), deq (.int i) (.int j) = decide (i = j)) ∧
  (∀ (i j : Int) (Q : Re → Prop), fEq (.int i) (.int j) Q = Q (.va (.bl (decide (i = j))))) ∧
  (∀ (i j : Int) (Q : Re → Prop), fNe (.int i) (.int j) Q = Q (.va (.bl (!decide (i = j))))) ∧
  (∀ (p q : Rat) (Q : Re → Prop), fEq (fD p) (fD q) Q = Q (.va (.bl (decide (p = q))))) ∧
  (∀ (p q : Rat) (Q : Re → Prop), fNe (fD p) (fD q) Q = Q (.va (.bl (!decide (p = q))))) ∧
  (∀ (α : Type) (a : α) (l : List α), atI (a :: l) 0 = some a) ∧
  (∀ (α : Type) (a b : α) (l : List α), atI (a :: b :: l) 1 = some b) ∧
  (∀ (α : Type) (a b c : α) (l : List α), atI (a :: b :: c :: l) 2 = some c) ∧
  (∀ (α : Type) (a b c d : α) (l : List α), atI (a :: b :: c :: d :: l) 3 = some d) ∧
  (∀ (α : Type) (a b c d e : α) (l : List α), atI (a :: b :: c :: d :: e :: l) 4 = some e) ∧
  (∀ (n : Nat), ixN (n + 1) 0 = some 0) ∧
  (∀ (n : Nat), ixN (n + 1 + 1) 1 = some 1) ∧
  (∀ (n : Nat), ixN (n + 1 + 1 + 1) 2 = some 2) ∧
  ((0 ≤ sizeLine) = True) ∧
  ((0 + 1 ≤ sizeLine) = True) ∧
  ((0 + 1 + 1 ≤ sizeLine) = True) ∧
  ((0 + 1 + 1 + 1 ≤ sizeLine) = True) ∧
  ((0 + 1 + 1 + 1 + 1 ≤ sizeLine) = True) ∧
  ((0 + 1 + 1 + 1 + 1 + 1 ≤ sizeLine) = True) ∧
  ((0 + 1 + 1 + 1 + 1 + 1 + 1 ≤ sizeLine) = True) ∧
  ((0 + 1 + 1 + 1 + 1 + 1 + 1 + 1 ≤ sizeLine) = True) ∧
  ((0 + 1 + 1 + 1 + 1 + 1 + 1 + 1 + 1 ≤ sizeLine) = True) ∧
  (∀ (j : Int) (h : 0 ≤ j) (h' : j ≤ 1000000), CPow 10 j = True) ∧
  (∀ (α : Type) (a : α) (l : List α), (a :: l)[0]? = some a) ∧
  (∀ (α : Type) (a : α) (l : List α) (i : Nat), (a :: l)[i + 1]? = l[i]?) ∧
  (∀ (α : Type) (i : Nat), ([] : List α)[i]? = none) ∧
  (∀ (α : Type) (a b : α) (l : List α), (a :: l).set 0 b = b :: l) ∧
  (∀ (α : Type) (a b : α) (l : List α) (i : Nat), (a :: l).set (i + 1) b = a :: l.set i b) ∧
  (∀ (α : Type) (a : α) (l : List α), (a :: l).length = l.length + 1) ∧
  (∀ (α : Type), ([] : List α).length = 0) ∧
  (∀ (α : Type) (a : α) (l : List α), (a :: l).eraseIdx 0 = l) ∧
  (∀ (α : Type) (a : α) (l : List α) (i : Nat), (a :: l).eraseIdx (i + 1) = a :: l.eraseIdx i) ∧
  (∀ (α β : Type) (f : α → β) (a : α) (l : List α), (a :: l).map f = f a :: l.map f) ∧
  (∀ (α β : Type) (f : α → β), ([] : List α).map f = []) ∧
  (∀ (α : Type) (l : List α), [] ++ l = l) ∧
  (∀ (α : Type) (a : α) (l m : List α), (a :: l) ++ m = a :: (l ++ m)) ∧
  (∀ (α : Type) (p : α → Bool) (a : α) (l : List α), (a :: l).all p = (p a && l.all p)) ∧
  (∀ (α : Type) (p : α → Bool), ([] : List α).all p = true) ∧
  (∀ (p : Prop), (True ∧ p) = p) ∧
  (∀ (p : Prop), (p ∧ True) = p) ∧
  (∀ (α : Type) (a : α), id a = a) ∧
  (∀ (b : Bool), (b != false) = b) ∧
  (∀ (b : Bool), (b != true) = !b) ∧
  ((!true) = false) ∧
  ((!false) = true) ∧
  (∀ (b : Bool), (!(!b)) = b) ∧
  (∀ (b : Bool), (true && b) = b) ∧
  (∀ (b : Bool), (false && b) = false) ∧
  (∀ (b : Bool), (b && true) = b) ∧
  (∀ (α : Type) (a b : α), (some a).getD b = a) ∧
  (∀ (α : Type) (b : α), (none : Option α).getD b = b) ∧
  (∀ (α β : Type) (f : α → β) (a : α), (some a).map f = some (f a)) ∧
  (decide True = true) ∧
  ((0 < sizeLine) = True) ∧
  ((0 + 1 < sizeLine) = True) ∧
  ((0 + 1 + 1 < sizeLine) = True) ∧
  ((0 + 1 + 1 + 1 < sizeLine) = True) ∧
  ((0 + 1 + 1 + 1 + 1 < sizeLine) = True) ∧
  ((0 + 1 + 1 + 1 + 1 + 1 < sizeLine) = True) ∧
  ((0 + 1 + 1 + 1 + 1 + 1 + 1 < sizeLine) = True) ∧
  ((0 + 1 + 1 + 1 + 1 + 1 + 1 + 1 < sizeLine) = True) ∧
  ((0 + 1 + 1 + 1 + 1 + 1 + 1 + 1 + 1 < sizeLine) = True) ∧
  (decide False = false) ∧
  (∀ (α : Type) (a : α), (a = a) = True) ∧
  ((0 + 1 + 1 = 2) = True) ∧
  ((0 + 1 + 1 + 1 = 3) = True) ∧
  ((0 + 1 + 1 + 1 + 1 = 4) = True) ∧
  ((0 + 1 = 1) = True) :=
  ⟨by intros; apply HP_p, by intros; apply KL_q, by intros; apply KE_d, by intros; apply KA_k, by intros; apply CI_n, by intros; apply fEq_bl, by intros; apply fNe_bl, by intros; apply deq_int, by intros; apply fEq_int, by intros; apply fNe_int, by intros; apply fEq_fD, by intros; apply fNe_fD, by intros; apply atI0, by intros; apply atI1, by intros; apply atI2, by intros; apply atI3, by intros; apply atI4, by intros; apply ixN0, by intros; apply ixN1, by intros; apply ixN2, by intros; apply sz0, by intros; apply sz1, by intros; apply sz2, by intros; apply sz3, by intros; apply sz4, by intros; apply sz5, by intros; apply sz6, by intros; apply sz7, by intros; apply sz8, by intros; apply cpow10 <;> assumption, by intros; apply core0, by intros; apply core1, by intros; apply core2, by intros; apply core3, by intros; apply core4, by intros; apply core5, by intros; apply core6, by intros; apply core7, by intros; apply core8, by intros; apply core9, by intros; apply core10, by intros; apply core11, by intros; apply core12, by intros; apply core13, by intros; apply core14, by intros; apply core15, by intros; apply core16, by intros; apply core17, by intros; apply core18, by intros; apply core19, by intros; apply core20, by intros; apply core21, by intros; apply core22, by intros; apply core23, by intros; apply core24, by intros; apply core25, by intros; apply core26, by intros; apply core27, by intros; apply core28, by intros; apply core29, by intros; apply core30, by intros; apply core31, by intros; apply core32, by intros; apply core33, by intros; apply core34, by intros; apply core35, by intros; apply core36, by intros; apply core37, by intros; apply core38, by intros; apply core39, by intros; apply core40, by intros; apply core41, by intros; apply core42, by intros; apply core43, by intros; apply core44⟩
end WR

set_option Elab.async false
set_option linter.all false
set_option maxRecDepth 100000
set_option maxHeartbeats 4000000
set_option autoImplicit false
/-! Loops and comprehensions over plain data, by invariants. -/
namespace WR
open PySem L2
theorem for_inv {g : MG} {b : MS} {De : PEnds} (I : List D → Nv → Prop) (step : ∀ x xs ρ, I (x :: xs) ρ → ∀ k : Nv → Prop, (∀ ρ', I xs ρ' → k ρ') → g x ρ fun ρ1 => b { De with nx := k, ct := k, bk := De.nx } ρ1) (fin : ∀ ρ, I [] ρ → De.nx ρ) : ∀ xs ρ, I xs ρ → forL g b De xs ρ
  | [], ρ, h => fin ρ h
  | x :: xs, ρ, h => step x xs ρ h _ fun ρ' h' => for_inv I step fin xs ρ' h'
theorem lc_inv {g : MG} {t : MT} {e : MX} {vs : List Nat} {Q : List D → Nv → Prop} {ρ : Nv} (I : List D → List D → Prop)
    (step : ∀ x xs acc, I (x :: xs) acc → ∀ (k : D → Nv → Prop) (k2 : Nv → Prop), (∀ d ρ4, clnN ρ4 vs → wipN ρ4 vs = ρ → I xs (acc ++ [d]) → k d ρ4) → (∀ ρ2, clnN ρ2 vs → wipN ρ2 vs = ρ → I xs acc → k2 ρ2) →
      g x (wipN ρ vs) fun ρ1 => t ρ1 (fun b ρ2 => cIf b (e ρ2 (fun r ρ3 => frz r ρ3 k) fun _ _ => False) (k2 ρ2)) fun _ _ => False)
    (fin : ∀ acc, I [] acc → Q acc ρ) : ∀ xs acc, acc.length + xs.length ≤ sizeLine → I xs acc → lcL g t e vs Q xs acc ρ
  | [], acc, _, h => fin acc h
  | x :: xs, acc, hl, h => by
    simp only [List.length_cons] at hl
    unfold lcL
    refine step x xs acc h _ _ (fun d ρ4 c w i => ⟨by omega, c, ?_⟩) (fun ρ2 c w i => ⟨c, ?_⟩)
    · rw [w]; exact lc_inv I step fin xs _ (by simp; omega) i
    · rw [w]; exact lc_inv I step fin xs acc (by omega) i
/-- .. where the turns change the slots, too -/
theorem lc_inv2 {g : MG} {t : MT} {e : MX} {vs : List Nat} {Q : List D → Nv → Prop} (I : List D → List D → Nv → Prop)
    (step : ∀ x xs acc ρ, I (x :: xs) acc ρ → ∀ (k : D → Nv → Prop) (k2 : Nv → Prop), (∀ d ρ4, clnN ρ4 vs → I xs (acc ++ [d]) (wipN ρ4 vs) → k d ρ4) → (∀ ρ2, clnN ρ2 vs → I xs acc (wipN ρ2 vs) → k2 ρ2) →
      g x (wipN ρ vs) fun ρ1 => t ρ1 (fun b ρ2 => cIf b (e ρ2 (fun r ρ3 => frz r ρ3 k) fun _ _ => False) (k2 ρ2)) fun _ _ => False)
    (fin : ∀ acc ρ, I [] acc ρ → Q acc ρ) : ∀ xs acc ρ, acc.length + xs.length ≤ sizeLine → I xs acc ρ → lcL g t e vs Q xs acc ρ
  | [], acc, ρ, _, h => fin acc ρ h
  | x :: xs, acc, ρ, hl, h => by
    simp only [List.length_cons] at hl
    unfold lcL
    refine step x xs acc ρ h _ _ (fun d ρ4 c i => ⟨by omega, c, ?_⟩) (fun ρ2 c i => ⟨c, ?_⟩)
    · exact lc_inv2 I step fin xs _ _ (by simp; omega) i
    · exact lc_inv2 I step fin xs acc _ (by omega) i
/-- all of them true -/
def Trues (acc : List D) : Prop := ∃ n, acc = (List.replicate n true).map D.bl
theorem Trues.nil : Trues [] := ⟨0, rfl⟩
theorem Trues.snoc {acc : List D} (h : Trues acc) : Trues (acc ++ [.bl true]) := by
  obtain ⟨n, rfl⟩ := h
  exact ⟨n + 1, by rw [List.replicate_succ', List.map_append]; rfl⟩
theorem Trues.all {acc : List D} (h : Trues acc) {k : List Bool → Prop} (hk : ∀ bs : List Bool, bs.all id = true → k bs) : obX acc k := by
  obtain ⟨n, rfl⟩ := h
  rw [obX_map]
  exact hk _ (by simp)
theorem rngD_mem {lo : Int} {n : Nat} {x : D} (h : x ∈ rngD lo n) : ∃ i : Int, x = .int i ∧ lo ≤ i ∧ i < lo + n := by
  unfold rngD at h
  obtain ⟨k, hk, rfl⟩ := List.mem_map.mp h
  have := List.mem_range.mp hk
  exact ⟨_, rfl, by omega, by omega⟩
theorem rngD_len {lo : Int} {n : Nat} : (rngD lo n).length = n := by simp [rngD]
end WR

set_option Elab.async false
set_option linter.all false
set_option maxRecDepth 100000
set_option maxHeartbeats 4000000
set_option autoImplicit false
/-! Fractions and boxes among any data. -/
namespace WR
open PySem L2
mutual
/-- things of the kinds that isinstance is asked of -/
def D.tyd : D → Bool
  | .ty _ => false
  | .obj _ => false
  | .exc _ => false
  | .tup xs => tydL xs
  | .lst xs => tydL xs
  | _ => true
def tydL : List D → Bool
  | [] => true
  | x :: xs => x.tyd && tydL xs
end
theorem tydL_mem : ∀ {xs : List D} {x : D}, tydL xs = true → x ∈ xs → x.tyd = true
  | y :: ys, x, h, hm => by
    simp only [tydL, Bool.and_eq_true] at h
    rcases List.mem_cons.mp hm with e | e
    · rw [e]; exact h.1
    · exact tydL_mem h.2 e
theorem tydL_of : ∀ {xs : List D}, (∀ x ∈ xs, x.tyd = true) → tydL xs = true
  | [], _ => by simp [tydL]
  | y :: ys, h => by
    simp only [tydL, Bool.and_eq_true]
    exact ⟨h y (by simp), tydL_of fun x hx => h x (List.mem_cons_of_mem _ hx)⟩
def D.isInt : D → Bool
  | .int _ => true
  | _ => false
def D.isTup : D → Bool
  | .tup _ => true
  | _ => false
def D.isLst : D → Bool
  | .lst _ => true
  | .scr _ => true
  | _ => false
def D.frac : D → Option Rat
  | .tup [.int a, .int b] => if 0 < b ∧ Int.gcd a b = 1 then some (Rat.divInt a b) else none
  | _ => none
theorem frac_fD (q : Rat) : (fD q).frac = some q := by
  have h : Int.gcd q.num q.den = 1 := q.reduced
  show (if 0 < (q.den : Int) ∧ Int.gcd q.num q.den = 1 then some (Rat.divInt q.num q.den) else none) = some q
  rw [if_pos ⟨den_pos q, h⟩, Rat.num_divInt_den]
theorem frac_some {d : D} {q : Rat} (h : d.frac = some q) : d = fD q := by
  unfold D.frac at h
  split at h
  · split at h
    · rename_i a b hc
      cases h
      obtain ⟨e1, e2⟩ := divInt_pos (t := a) hc.1
      rw [hc.2] at e1 e2
      unfold fD
      rw [e1, e2]; simp
    · cases h
  · cases h
theorem frac_len {xs : List D} (h : xs.length ≠ 2) : (D.tup xs).frac = none := by
  unfold D.frac
  split
  · rename_i heq
    cases heq
    exact absurd rfl h
  · rfl
theorem fD_int (i : Int) : D.tup [.int i, .int 1] = fD (i : Rat) := rfl
theorem Rb.int {n : Nat} {i : Int} (h : Bs n i) (hn : 0 < n) : Rb n (i : Rat) := ⟨h, Bs.mono (m := 1) (show (1 : Nat) < 2 ^ 1 by decide) hn⟩
theorem int_pos {i : Int} (h : 0 < i) : (0 : Rat) < (i : Rat) := by
  rw [Rat.lt_iff]
  show 0 * 1 < i * 1
  omega
theorem divInt_gt {a b : Int} (ha : 0 < a) (hb : 0 < b) : 0 < Rat.divInt a b := by
  rw [Rat.divInt_eq_div, Rat.div_def]
  exact Rat.mul_pos (int_pos ha) (Rat.inv_pos.mpr (int_pos hb))
/-! ### boxes -/
/-- a box: left, top, wide, high -/
structure Bx where
  l : Rat
  t : Rat
  w : Rat
  h : Rat
  w0 : 0 < w
  h0 : 0 < h
deriving DecidableEq
theorem Bx.ext' {a b : Bx} (h1 : a.l = b.l) (h2 : a.t = b.t) (h3 : a.w = b.w) (h4 : a.h = b.h) : a = b := by
  cases a; cases b
  simp only at h1 h2 h3 h4
  subst h1; subst h2; subst h3; subst h4
  rfl
def bD (b : Bx) : D := .tup [fD b.l, fD b.t, fD b.w, fD b.h]
theorem bD_inj {a b : Bx} (h : bD a = bD b) : a = b := by
  unfold bD at h
  simp only [D.tup.injEq, List.cons.injEq, and_true] at h
  obtain ⟨h1, h2, h3, h4⟩ := h
  exact Bx.ext' (fD_inj h1) (fD_inj h2) (fD_inj h3) (fD_inj h4)
def D.box : D → Option Bx
  | .tup [a, b, c, d] => match a.frac, b.frac, c.frac, d.frac with
    | some l, some t, some w, some h => if h1 : 0 < w ∧ 0 < h then some ⟨l, t, w, h, h1.1, h1.2⟩ else none
    | _, _, _, _ => none
  | _ => none
theorem box_bD {b : Bx} : (bD b).box = some b := by
  unfold bD D.box
  simp only [frac_fD]
  rw [dif_pos ⟨b.w0, b.h0⟩]
theorem box_some {d : D} {b : Bx} (h : d.box = some b) : d = bD b := by
  unfold D.box at h
  split at h
  · split at h
    · rename_i h1 h2 h3 h4
      split at h
      · rename_i hc
        cases h
        unfold bD
        rw [frac_some h1, frac_some h2, frac_some h3, frac_some h4]
      · cases h
    · cases h
  · cases h
theorem box_len {xs : List D} (h : xs.length ≠ 4) : (D.tup xs).box = none := by
  unfold D.box
  split
  · rename_i heq
    cases heq
    exact absurd rfl h
  · rfl
theorem box_4 {l t w h : Rat} : (D.tup [fD l, fD t, fD w, fD h]).box = if h1 : 0 < w ∧ 0 < h then some ⟨l, t, w, h, h1.1, h1.2⟩ else none := by
  unfold D.box
  simp only [frac_fD]
def Bx.sz (n : Nat) (b : Bx) : Prop := Rb n b.l ∧ Rb n b.t ∧ Rb n b.w ∧ Rb n b.h
theorem Bx.sz.mono {m n : Nat} {b : Bx} (h : b.sz m) (l : m ≤ n) : b.sz n := ⟨h.1.mono l, h.2.1.mono l, h.2.2.1.mono l, h.2.2.2.mono l⟩
/-- the fractions in it are no greater than so -/
def D.szb (n : Nat) (d : D) : Prop := ∀ xs, d = .tup xs → ∀ x ∈ xs, ∀ q, x.frac = some q → Rb n q
/-- a fraction, or a whole number taken for one -/
def D.asf : D → Option Rat
  | .int i => some (i : Rat)
  | d => d.frac
theorem asf_fD (q : Rat) : (fD q).asf = some q := frac_fD q
theorem asf_int (i : Int) : (D.int i).asf = some (i : Rat) := rfl
def Bx.shape (b : Bx) : Rat := if b.w < b.h then b.h / b.w else b.w / b.h
def Bx.long (b : Bx) : Str := if b.w < b.h then "down" else "across"
def Bx.turn (b : Bx) : Bx := ⟨b.t, b.l, b.h, b.w, b.h0, b.w0⟩
theorem bD_tyd (b : Bx) : (bD b).tyd = true := by simp [bD, fD, D.tyd, tydL]
theorem fD_tyd (q : Rat) : (fD q).tyd = true := by simp [fD, D.tyd, tydL]
theorem bD_cl (b : Bx) : (bD b).cl = true := by simp [bD, fD, D.cl, clL]
theorem bD_plain (b : Bx) : (bD b).plain = true := by simp [bD, fD, D.plain, plainL]
theorem bD_dep (b : Bx) : (bD b).dep = 2 := by simp [bD, fD, D.dep, depL]
theorem bD_szb {n : Nat} {b : Bx} (h : b.sz n) : (bD b).szb n := by
  intro xs e x hx q hq
  unfold bD at e
  cases e
  simp only [List.mem_cons, List.not_mem_nil, or_false] at hx
  obtain ⟨h1, h2, h3, h4⟩ := h
  rcases hx with rfl | rfl | rfl | rfl <;> (rw [frac_fD] at hq; cases hq; assumption)
theorem szb_bD {n : Nat} {b : Bx} (h : (bD b).szb n) : b.sz n := by
  refine ⟨h _ rfl (fD b.l) (by simp) _ (frac_fD _), h _ rfl (fD b.t) (by simp) _ (frac_fD _), h _ rfl (fD b.w) (by simp) _ (frac_fD _), h _ rfl (fD b.h) (by simp) _ (frac_fD _)⟩
/-- what boxes may be asked of -/
structure D.tame (d : D) : Prop where
  ty : d.tyd = true
  sz : d.szb 400000
theorem tame_bD {b : Bx} {n : Nat} (h : b.sz n) (hn : n ≤ 400000) : (bD b).tame := ⟨bD_tyd b, bD_szb (h.mono hn)⟩
def boxOf (a b c d : D) : Option Bx := match a.asf, b.asf, c.asf, d.asf with
  | some l, some t, some w, some h => if h1 : 0 < w ∧ 0 < h then some ⟨l, t, w, h, h1.1, h1.2⟩ else none
  | _, _, _, _ => none
/-! ### sizes of what is reckoned -/
structure Az (p q : Rat) : Prop where
  d : Bs 8990 ((p.den : Int) * q.den)
  p : Rb 400000 p
  q : Rb 400000 q
theorem Az.of {m n : Nat} {p q : Rat} (hp : Rb m p) (hq : Rb n q) (h : m + n ≤ 8990) : Az p q := ⟨(hp.2.mul hq.2).mono h, hp.mono (by omega), hq.mono (by omega)⟩
structure Oz (p q : Rat) : Prop where
  d : Bs 8990 ((p.den : Int) * q.num)
  p : Rb 400000 p
  q : Rb 400000 q
theorem Oz.of {m n : Nat} {p q : Rat} (hp : Rb m p) (hq : Rb n q) (h : m + n ≤ 8990) : Oz p q := ⟨(hp.2.mul hq.1).mono h, hp.mono (by omega), hq.mono (by omega)⟩
theorem Rb.zero {n : Nat} (h : 0 < n) : Rb n 0 := ⟨Bs.mono (m := 1) (show (0 : Nat) < 2 ^ 1 by decide) h, Bs.mono (m := 1) (show (1 : Nat) < 2 ^ 1 by decide) h⟩
/-! ### what a promise asks of fractions, boxes -/
def onF (x : D) (k : Rat → Prop) : Prop := ∃ q, x = fD q ∧ k q
theorem onF_fD {q : Rat} {k : Rat → Prop} : onF (fD q) k = k q := propext ⟨fun ⟨p, e, h⟩ => by rw [fD_inj e]; exact h, fun h => ⟨q, rfl, h⟩⟩
theorem onF_i {i : Int} {k : Rat → Prop} : onF (.tup [.int i, .int 1]) k = k (i : Rat) := onF_fD (q := (i : Rat))
def onO {α : Type} (o : Option α) (k : α → Prop) (e : Prop) : Prop := match o with
  | some b => k b
  | none => e
theorem onO_s {α : Type} {b : α} {k : α → Prop} {e : Prop} : onO (some b) k e = k b := rfl
theorem onO_n {α : Type} {k : α → Prop} {e : Prop} : onO none k e = e := rfl
theorem onO_i {α : Type} {o : Option α} {k : α → Prop} {e : Prop} (h : ∀ b, o = some b → k b) (h2 : o = none → e) : onO o k e := by
  cases o with
  | some b => exact h b rfl
  | none => exact h2 rfl
theorem onO_e {α : Type} {o : Option α} {k : α → Prop} {e : Prop} (h : onO o k e) : (∃ b, o = some b ∧ k b) ∨ (o = none ∧ e) := by
  cases o with
  | some b => exact .inl ⟨b, rfl, h⟩
  | none => exact .inr ⟨rfl, h⟩
def onB (x : D) (k : Bx → Prop) : Prop := ∃ b, x = bD b ∧ k b
theorem onB_bD {b : Bx} {k : Bx → Prop} : onB (bD b) k = k b := propext ⟨fun ⟨p, e, h⟩ => by rw [bD_inj e]; exact h, fun h => ⟨b, rfl, h⟩⟩
theorem fIx_bD0 {b : Bx} {Q : Re → Prop} : fIx (bD b) (.int 0) Q = Q (.va (fD b.l)) := by unfold bD; rw [fIx_tupint, atI0, atK_s]
theorem fIx_bD1 {b : Bx} {Q : Re → Prop} : fIx (bD b) (.int 1) Q = Q (.va (fD b.t)) := by unfold bD; rw [fIx_tupint, atI1, atK_s]
theorem fIx_bD2 {b : Bx} {Q : Re → Prop} : fIx (bD b) (.int 2) Q = Q (.va (fD b.w)) := by unfold bD; rw [fIx_tupint, atI2, atK_s]
theorem fIx_bD3 {b : Bx} {Q : Re → Prop} : fIx (bD b) (.int 3) Q = Q (.va (fD b.h)) := by unfold bD; rw [fIx_tupint, atI3, atK_s]
theorem gTp_bD {h : MGs} {b : Bx} {ρ : Nv} {Q : Nv → Prop} : gTp 4 h (bD b) ρ Q = h [fD b.l, fD b.t, fD b.w, fD b.h] ρ Q := by simp [gTp, bD]
theorem fLen_bD {b : Bx} {Q : Re → Prop} : fLen [bD b] Q = Q (.va (.int 4)) := rfl
theorem itD_bD {b : Bx} {k : List D → Prop} : itD (bD b) k = k [fD b.l, fD b.t, fD b.w, fD b.h] := rfl
theorem isNon_bD {b : Bx} : D.isNon (bD b) = false := rfl
theorem isi_bDt {K : PySem.W.Frag} {b : Bx} {Q : Re → Prop} : fIsi K [bD b, .ty "tuple"] Q = Q (.va (.bl true)) := isi_3tuple
theorem isi_bDi {K : PySem.W.Frag} {b : Bx} {Q : Re → Prop} : fIsi K [bD b, .ty "int"] Q = Q (.va (.bl false)) := isi_3int
theorem isi_bDl {K : PySem.W.Frag} {b : Bx} {Q : Re → Prop} : fIsi K [bD b, .ty "list"] Q = Q (.va (.bl false)) := isi_3list
theorem isi_bDs {K : PySem.W.Frag} {b : Bx} {Q : Re → Prop} : fIsi K [bD b, .ty "str"] Q = Q (.va (.bl false)) := isi_3str
theorem deq_bD (a b : Bx) : deq (bD a) (bD b) = decide (a = b) := by
  rw [Bool.eq_iff_iff, deq_iff (bD_cl a) (bD_cl b), decide_eq_true_eq]
  exact ⟨bD_inj, fun h => by rw [h]⟩
theorem fEq_bD {a b : Bx} {Q : Re → Prop} : fEq (bD a) (bD b) Q = Q (.va (.bl (decide (a = b)))) := by
  unfold fEq; rw [deq_bD, bD_plain, bD_plain, D.py_dep, D.py_dep, bD_dep, bD_dep]; simp
theorem fNe_bD {a b : Bx} {Q : Re → Prop} : fNe (bD a) (bD b) Q = Q (.va (.bl (!decide (a = b)))) := by
  unfold fNe; rw [deq_bD, bD_plain, bD_plain, D.py_dep, D.py_dep, bD_dep, bD_dep]; simp
theorem fEq_fDi {p : Rat} {i : Int} {Q : Re → Prop} : fEq (fD p) (.tup [.int i, .int 1]) Q = Q (.va (.bl (decide (p = i)))) := fEq_fD (q := (i : Rat))
theorem fNe_fDi {p : Rat} {i : Int} {Q : Re → Prop} : fNe (fD p) (.tup [.int i, .int 1]) Q = Q (.va (.bl (!decide (p = i)))) := fNe_fD (q := (i : Rat))
/-- texts: == -/
theorem fEq_str {i j : Str} {Q : Re → Prop} : fEq (.str i) (.str j) Q = (PyData.strOk i = true ∧ PyData.strOk j = true ∧ Q (.va (.bl (decide (i = j))))) := by
  unfold fEq; rw [deq_str]; simp [D.plain, D.py, PyData.depth]
theorem fNe_str {i j : Str} {Q : Re → Prop} : fNe (.str i) (.str j) Q = (PyData.strOk i = true ∧ PyData.strOk j = true ∧ Q (.va (.bl (!decide (i = j))))) := by
  unfold fNe; rw [deq_str]; simp [D.plain, D.py, PyData.depth]
/-- the rows above, for the simplifier -/
theorem SF : (∀ (q : Rat) (k : Rat → Prop), onF (fD q) k = k q) ∧ (∀ (i : Int) (k : Rat → Prop), onF (.tup [.int i, .int 1]) k = k (i : Rat)) ∧ (∀ (α : Type) (b : α) (k : α → Prop) (e : Prop), onO (some b) k e = k b) ∧ (∀ (α : Type) (k : α → Prop) (e : Prop), onO none k e = e) ∧ (∀ (b : Bx), (bD b).box = some b) ∧ (∀ q : Rat, (fD q).frac = some q) ∧ (∀ q : Rat, (fD q).asf = some q) ∧ (∀ i : Int, (D.int i).asf = some (i : Rat)) ∧ (∀ (b : Bx) (k : Bx → Prop), onB (bD b) k = k b) ∧
  (∀ (b : Bx) (Q : Re → Prop), fIx (bD b) (.int 0) Q = Q (.va (fD b.l))) ∧ (∀ (b : Bx) (Q : Re → Prop), fIx (bD b) (.int 1) Q = Q (.va (fD b.t))) ∧ (∀ (b : Bx) (Q : Re → Prop), fIx (bD b) (.int 2) Q = Q (.va (fD b.w))) ∧ (∀ (b : Bx) (Q : Re → Prop), fIx (bD b) (.int 3) Q = Q (.va (fD b.h))) ∧
  (∀ (h : MGs) (b : Bx) (ρ : Nv) (Q : Nv → Prop), gTp 4 h (bD b) ρ Q = h [fD b.l, fD b.t, fD b.w, fD b.h] ρ Q) ∧ (∀ (b : Bx) (Q : Re → Prop), fLen [bD b] Q = Q (.va (.int 4))) ∧ (∀ (b : Bx) (k : List D → Prop), itD (bD b) k = k [fD b.l, fD b.t, fD b.w, fD b.h]) ∧ (∀ (b : Bx), D.isNon (bD b) = false) ∧
  (∀ (K : PySem.W.Frag) (b : Bx) (Q : Re → Prop), fIsi K [bD b, .ty "tuple"] Q = Q (.va (.bl true))) ∧ (∀ (K : PySem.W.Frag) (b : Bx) (Q : Re → Prop), fIsi K [bD b, .ty "int"] Q = Q (.va (.bl false))) ∧ (∀ (K : PySem.W.Frag) (b : Bx) (Q : Re → Prop), fIsi K [bD b, .ty "list"] Q = Q (.va (.bl false))) ∧ (∀ (K : PySem.W.Frag) (b : Bx) (Q : Re → Prop), fIsi K [bD b, .ty "str"] Q = Q (.va (.bl false))) ∧
  (∀ (a b : Bx) (Q : Re → Prop), fEq (bD a) (bD b) Q = Q (.va (.bl (decide (a = b))))) ∧ (∀ (a b : Bx) (Q : Re → Prop), fNe (bD a) (bD b) Q = Q (.va (.bl (!decide (a = b))))) ∧ (∀ (p : Rat) (i : Int) (Q : Re → Prop), fEq (fD p) (.tup [.int i, .int 1]) Q = Q (.va (.bl (decide (p = i))))) ∧ (∀ (p : Rat) (i : Int) (Q : Re → Prop), fNe (fD p) (.tup [.int i, .int 1]) Q = Q (.va (.bl (!decide (p = i))))) :=
  ⟨by intros; apply onF_fD, by intros; apply onF_i, by intros; rfl, by intros; rfl, by intros; apply box_bD, by intros; apply frac_fD, by intros; apply frac_fD, by intros; rfl, by intros; apply onB_bD, by intros; apply fIx_bD0, by intros; apply fIx_bD1, by intros; apply fIx_bD2, by intros; apply fIx_bD3, by intros; apply gTp_bD, by intros; rfl, by intros; rfl, by intros; rfl, by intros; apply isi_bDt, by intros; apply isi_bDi, by intros; apply isi_bDl, by intros; apply isi_bDs, by intros; apply fEq_bD, by intros; apply fNe_bD, by intros; apply fEq_fDi, by intros; apply fNe_fDi⟩
end WR

set_option Elab.async false
set_option linter.all false
set_option maxRecDepth 100000
set_option maxHeartbeats 4000000
set_option autoImplicit false
/-! Fractions: what is reckoned. -/
namespace WR
open PySem L2
theorem CI_iff {p q : Prop} [Decidable p] {a b : HP} (e : p ↔ q) (h : q → a.p) (h2 : ¬q → b.p) : @CI (decide p) a b := CI_d (fun z => h (e.mp z)) (fun z => h2 fun y => z (e.mpr y))
theorem Rat.num_gt {q : Rat} (h : 0 < q) : 0 < q.num := by
  have := (Rat.lt_iff 0 q).mp h
  simp at this
  exact this
theorem pos_ne {q : Rat} (h : 0 < q) : q ≠ 0 := fun z => by rw [z] at h; exact Rat.lt_irrefl h
theorem num_lt_den {q : Rat} : q.num < q.den ↔ q < 1 := by
  rw [Rat.lt_iff]; simp
theorem num_eq_den {q : Rat} : q.num = q.den ↔ q = 1 := by
  rw [Rat.eq_iff_mul_eq_mul]; simp
theorem fD_inv {q : Rat} (h : 0 < q) : D.tup [.int q.den, .int q.num] = fD q⁻¹ := by
  have hn := Rat.num_gt h
  unfold fD
  rw [Rat.num_inv, Rat.den_inv, if_neg (by omega), Int.sign_eq_one_of_pos hn, Int.one_mul]
  congr 4
  omega
theorem div_lt_one {a b : Rat} (hb : 0 < b) : a / b < 1 ↔ a < b := by
  rw [Rat.div_lt_iff hb, Rat.one_mul]
theorem div_eq_one {a b : Rat} (hb : 0 < b) : a / b = 1 ↔ a = b := by
  have := pos_ne hb
  constructor
  · intro h
    have := Rat.div_mul_cancel (a := a) this
    rw [h, Rat.one_mul] at this
    exact this.symm
  · intro h
    rw [h, Rat.div_def, Rat.mul_inv_cancel _ this]
theorem div_pos {a b : Rat} (ha : 0 < a) (hb : 0 < b) : 0 < a / b := by
  rw [Rat.div_def]; exact Rat.mul_pos ha (Rat.inv_pos.mpr hb)
theorem inv_div {a b : Rat} : (a / b)⁻¹ = b / a := by
  rw [Rat.div_def, Rat.inv_mul_rev, Rat.inv_inv, ← Rat.div_def]
theorem rat_le (p q : Rat) : decide (p.num * q.den ≤ q.num * p.den) = decide (p ≤ q) := by
  rw [Bool.eq_iff_iff, decide_eq_true_eq, decide_eq_true_eq, Rat.le_iff]
theorem Rb.inv {n : Nat} {q : Rat} (h : Rb n q) (hq : 0 < q) : Rb n q⁻¹ := by
  have hn := Rat.num_gt hq
  unfold Rb
  rw [Rat.num_inv, Rat.den_inv, if_neg (by omega), Int.sign_eq_one_of_pos hn, Int.one_mul]
  exact ⟨h.2, by have := h.1; unfold Bs at *; omega⟩
theorem Bx.turn_turn (b : Bx) : b.turn.turn = b := rfl
theorem Bx.turn_shape (b : Bx) : b.turn.shape = b.shape := by
  unfold Bx.shape Bx.turn
  simp only
  by_cases h1 : b.w < b.h
  · rw [if_pos h1, if_neg (Rat.not_lt.mpr (Rat.le_of_lt h1))]
  · by_cases h2 : b.h < b.w
    · rw [if_pos h2, if_neg h1]
    · have e : b.w = b.h := Rat.le_antisymm (Rat.not_lt.mp h2) (Rat.not_lt.mp h1)
      rw [if_neg h1, if_neg h2, e]
theorem Bx.turn_sz {n : Nat} {b : Bx} (h : b.sz n) : b.turn.sz n := ⟨h.2.1, h.1, h.2.2.2, h.2.2.1⟩
theorem Bx.long_ok (b : Bx) : PyData.strOk b.long = true := by
  unfold Bx.long
  split <;> decide +kernel
theorem across_ne : ("across" : Str) ≠ "down" := by decide +kernel
theorem Bx.long_a {b : Bx} : b.long = "across" ↔ b.h ≤ b.w := by
  unfold Bx.long
  by_cases h : b.w < b.h
  · rw [if_pos h]
    exact ⟨fun z => absurd z.symm across_ne, fun z => absurd h (Rat.not_lt.mpr z)⟩
  · rw [if_neg h]
    exact ⟨fun _ => Rat.not_lt.mp h, fun _ => rfl⟩
theorem Bx.long_d {b : Bx} : b.long = "down" ↔ b.w < b.h := by
  unfold Bx.long
  by_cases h : b.w < b.h
  · rw [if_pos h]
    exact ⟨fun _ => h, fun _ => rfl⟩
  · rw [if_neg h]
    exact ⟨fun z => absurd z across_ne, fun z => absurd z h⟩
theorem Bx.turn_long {b : Bx} : b.turn.long = b.long ↔ b.w = b.h := by
  rcases Rat.le_total (a := b.w) (b := b.h) with h | h
  · have e1 : b.turn.long = "across" := Bx.long_a.mpr h
    rw [e1, eq_comm, Bx.long_a]
    exact ⟨fun z => Rat.le_antisymm h z, fun z => by rw [z]; exact Rat.le_refl⟩
  · have e1 : b.long = "across" := Bx.long_a.mpr h
    rw [e1, Bx.long_a]
    exact ⟨fun z => Rat.le_antisymm z h, fun z => by show b.w ≤ b.h; rw [z]; exact Rat.le_refl⟩
/-- words -/
theorem SW : ((PyData.strOk "across" = true)) ∧ ((PyData.strOk "down" = true)) ∧ ((PyData.strOk "left" = true)) ∧ ((PyData.strOk "right" = true)) ∧ ((PyData.strOk "above" = true)) ∧ ((PyData.strOk "below" = true)) ∧ ((PyData.strOk "halves" = true)) ∧ ((PyData.strOk "rows" = true)) ∧ ((PyData.strOk "greatest" = true)) ∧ ((PyData.strOk "thirds" = true)) ∧ ((PyData.strOk "order" = true)) ∧ ((PyData.strOk "any" = true)) ∧ ((PyData.strOk "cells" = true)) ∧ ((PyData.strOk "at" = true)) :=
  ⟨by decide +kernel, by decide +kernel, by decide +kernel, by decide +kernel, by decide +kernel, by decide +kernel, by decide +kernel, by decide +kernel, by decide +kernel, by decide +kernel, by decide +kernel, by decide +kernel, by decide +kernel, by decide +kernel⟩
theorem SV : ((("across" : Str) = "down") = False) ∧ ((("across" : Str) = "left") = False) ∧ ((("across" : Str) = "right") = False) ∧ ((("across" : Str) = "above") = False) ∧ ((("across" : Str) = "below") = False) ∧ ((("across" : Str) = "halves") = False) ∧ ((("across" : Str) = "rows") = False) ∧ ((("across" : Str) = "greatest") = False) ∧ ((("across" : Str) = "thirds") = False) ∧ ((("across" : Str) = "order") = False) ∧ ((("across" : Str) = "any") = False) ∧ ((("across" : Str) = "cells") = False) ∧ ((("across" : Str) = "at") = False) ∧ ((("down" : Str) = "across") = False) ∧ ((("down" : Str) = "left") = False) ∧ ((("down" : Str) = "right") = False) ∧ ((("down" : Str) = "above") = False) ∧ ((("down" : Str) = "below") = False) ∧ ((("down" : Str) = "halves") = False) ∧ ((("down" : Str) = "rows") = False) ∧ ((("down" : Str) = "greatest") = False) ∧ ((("down" : Str) = "thirds") = False) ∧ ((("down" : Str) = "order") = False) ∧ ((("down" : Str) = "any") = False) ∧ ((("down" : Str) = "cells") = False) ∧ ((("down" : Str) = "at") = False) ∧ ((("left" : Str) = "across") = False) ∧ ((("left" : Str) = "down") = False) ∧ ((("left" : Str) = "right") = False) ∧ ((("left" : Str) = "above") = False) ∧ ((("left" : Str) = "below") = False) ∧ ((("left" : Str) = "halves") = False) ∧ ((("left" : Str) = "rows") = False) ∧ ((("left" : Str) = "greatest") = False) ∧ ((("left" : Str) = "thirds") = False) ∧ ((("left" : Str) = "order") = False) ∧ ((("left" : Str) = "any") = False) ∧ ((("left" : Str) = "cells") = False) ∧ ((("left" : Str) = "at") = False) ∧ ((("right" : Str) = "across") = False) ∧ ((("right" : Str) = "down") = False) ∧ ((("right" : Str) = "left") = False) ∧ ((("right" : Str) = "above") = False) ∧ ((("right" : Str) = "below") = False) ∧ ((("right" : Str) = "halves") = False) ∧ ((("right" : Str) = "rows") = False) ∧ ((("right" : Str) = "greatest") = False) ∧ ((("right" : Str) = "thirds") = False) ∧ ((("right" : Str) = "order") = False) ∧ ((("right" : Str) = "any") = False) ∧ ((("right" : Str) = "cells") = False) ∧ ((("right" : Str) = "at") = False) ∧ ((("above" : Str) = "across") = False) ∧ ((("above" : Str) = "down") = False) ∧ ((("above" : Str) = "left") = False) ∧ ((("above" : Str) = "right") = False) ∧ ((("above" : Str) = "below") = False) ∧ ((("above" : Str) = "halves") = False) ∧ ((("above" : Str) = "rows") = False) ∧ ((("above" : Str) = "greatest") = False) ∧ ((("above" : Str) = "thirds") = False) ∧ ((("above" : Str) = "order") = False) ∧ ((("above" : Str) = "any") = False) ∧ ((("above" : Str) = "cells") = False) ∧ ((("above" : Str) = "at") = False) ∧ ((("below" : Str) = "across") = False) ∧ ((("below" : Str) = "down") = False) ∧ ((("below" : Str) = "left") = False) ∧ ((("below" : Str) = "right") = False) ∧ ((("below" : Str) = "above") = False) ∧ ((("below" : Str) = "halves") = False) ∧ ((("below" : Str) = "rows") = False) ∧ ((("below" : Str) = "greatest") = False) ∧ ((("below" : Str) = "thirds") = False) ∧ ((("below" : Str) = "order") = False) ∧ ((("below" : Str) = "any") = False) ∧ ((("below" : Str) = "cells") = False) ∧ ((("below" : Str) = "at") = False) ∧ ((("halves" : Str) = "across") = False) ∧ ((("halves" : Str) = "down") = False) ∧ ((("halves" : Str) = "left") = False) ∧ ((("halves" : Str) = "right") = False) ∧ ((("halves" : Str) = "above") = False) ∧ ((("halves" : Str) = "below") = False) ∧ ((("halves" : Str) = "rows") = False) ∧ ((("halves" : Str) = "greatest") = False) ∧ ((("halves" : Str) = "thirds") = False) ∧ ((("halves" : Str) = "order") = False) ∧ ((("halves" : Str) = "any") = False) ∧ ((("halves" : Str) = "cells") = False) ∧ ((("halves" : Str) = "at") = False) ∧ ((("rows" : Str) = "across") = False) ∧ ((("rows" : Str) = "down") = False) ∧ ((("rows" : Str) = "left") = False) ∧ ((("rows" : Str) = "right") = False) ∧ ((("rows" : Str) = "above") = False) ∧ ((("rows" : Str) = "below") = False) ∧ ((("rows" : Str) = "halves") = False) ∧ ((("rows" : Str) = "greatest") = False) ∧ ((("rows" : Str) = "thirds") = False) ∧ ((("rows" : Str) = "order") = False) ∧ ((("rows" : Str) = "any") = False) ∧ ((("rows" : Str) = "cells") = False) ∧ ((("rows" : Str) = "at") = False) ∧ ((("greatest" : Str) = "across") = False) ∧ ((("greatest" : Str) = "down") = False) ∧ ((("greatest" : Str) = "left") = False) ∧ ((("greatest" : Str) = "right") = False) ∧ ((("greatest" : Str) = "above") = False) ∧ ((("greatest" : Str) = "below") = False) ∧ ((("greatest" : Str) = "halves") = False) ∧ ((("greatest" : Str) = "rows") = False) ∧ ((("greatest" : Str) = "thirds") = False) ∧ ((("greatest" : Str) = "order") = False) ∧ ((("greatest" : Str) = "any") = False) ∧ ((("greatest" : Str) = "cells") = False) ∧ ((("greatest" : Str) = "at") = False) ∧ ((("thirds" : Str) = "across") = False) ∧ ((("thirds" : Str) = "down") = False) ∧ ((("thirds" : Str) = "left") = False) ∧ ((("thirds" : Str) = "right") = False) ∧ ((("thirds" : Str) = "above") = False) ∧ ((("thirds" : Str) = "below") = False) ∧ ((("thirds" : Str) = "halves") = False) ∧ ((("thirds" : Str) = "rows") = False) ∧ ((("thirds" : Str) = "greatest") = False) ∧ ((("thirds" : Str) = "order") = False) ∧ ((("thirds" : Str) = "any") = False) ∧ ((("thirds" : Str) = "cells") = False) ∧ ((("thirds" : Str) = "at") = False) ∧ ((("order" : Str) = "across") = False) ∧ ((("order" : Str) = "down") = False) ∧ ((("order" : Str) = "left") = False) ∧ ((("order" : Str) = "right") = False) ∧ ((("order" : Str) = "above") = False) ∧ ((("order" : Str) = "below") = False) ∧ ((("order" : Str) = "halves") = False) ∧ ((("order" : Str) = "rows") = False) ∧ ((("order" : Str) = "greatest") = False) ∧ ((("order" : Str) = "thirds") = False) ∧ ((("order" : Str) = "any") = False) ∧ ((("order" : Str) = "cells") = False) ∧ ((("order" : Str) = "at") = False) ∧ ((("any" : Str) = "across") = False) ∧ ((("any" : Str) = "down") = False) ∧ ((("any" : Str) = "left") = False) ∧ ((("any" : Str) = "right") = False) ∧ ((("any" : Str) = "above") = False) ∧ ((("any" : Str) = "below") = False) ∧ ((("any" : Str) = "halves") = False) ∧ ((("any" : Str) = "rows") = False) ∧ ((("any" : Str) = "greatest") = False) ∧ ((("any" : Str) = "thirds") = False) ∧ ((("any" : Str) = "order") = False) ∧ ((("any" : Str) = "cells") = False) ∧ ((("any" : Str) = "at") = False) ∧ ((("cells" : Str) = "across") = False) ∧ ((("cells" : Str) = "down") = False) ∧ ((("cells" : Str) = "left") = False) ∧ ((("cells" : Str) = "right") = False) ∧ ((("cells" : Str) = "above") = False) ∧ ((("cells" : Str) = "below") = False) ∧ ((("cells" : Str) = "halves") = False) ∧ ((("cells" : Str) = "rows") = False) ∧ ((("cells" : Str) = "greatest") = False) ∧ ((("cells" : Str) = "thirds") = False) ∧ ((("cells" : Str) = "order") = False) ∧ ((("cells" : Str) = "any") = False) ∧ ((("cells" : Str) = "at") = False) ∧ ((("at" : Str) = "across") = False) ∧ ((("at" : Str) = "down") = False) ∧ ((("at" : Str) = "left") = False) ∧ ((("at" : Str) = "right") = False) ∧ ((("at" : Str) = "above") = False) ∧ ((("at" : Str) = "below") = False) ∧ ((("at" : Str) = "halves") = False) ∧ ((("at" : Str) = "rows") = False) ∧ ((("at" : Str) = "greatest") = False) ∧ ((("at" : Str) = "thirds") = False) ∧ ((("at" : Str) = "order") = False) ∧ ((("at" : Str) = "any") = False) ∧ ((("at" : Str) = "cells") = False) :=
  ⟨by simp only [eq_iff_iff, iff_false]; decide +kernel, by simp only [eq_iff_iff, iff_false]; decide +kernel, by simp only [eq_iff_iff, iff_false]; decide +kernel, by simp only [eq_iff_iff, iff_false]; decide +kernel, by simp only [eq_iff_iff, iff_false]; decide +kernel, by simp only [eq_iff_iff, iff_false]; decide +kernel, by simp only [eq_iff_iff, iff_false]; decide +kernel, by simp only [eq_iff_iff, iff_false]; decide +kernel, by simp only [eq_iff_iff, iff_false]; decide +kernel, by simp only [eq_iff_iff, iff_false]; decide +kernel, by simp only [eq_iff_iff, iff_false]; decide +kernel, by simp only [eq_iff_iff, iff_false]; decide +kernel, by simp only [eq_iff_iff, iff_false]; decide +kernel, by simp only [eq_iff_iff, iff_false]; decide +kernel, by simp only [eq_iff_iff, iff_false]; decide +kernel, by simp only [eq_iff_iff, iff_false]; decide +kernel, by simp only [eq_iff_iff, iff_false]; decide +kernel, by simp only [eq_iff_iff, iff_false]; decide +kernel, by simp only [eq_iff_iff, iff_false]; decide +kernel, by simp only [eq_iff_iff, iff_false]; decide +kernel, by simp only [eq_iff_iff, iff_false]; decide +kernel, by simp only [eq_iff_iff, iff_false]; decide +kernel, by simp only [eq_iff_iff, iff_false]; decide +kernel, by simp only [eq_iff_iff, iff_false]; decide +kernel, by simp only [eq_iff_iff, iff_false]; decide +kernel, by simp only [eq_iff_iff, iff_false]; decide +kernel, by simp only [eq_iff_iff, iff_false]; decide +kernel, by simp only [eq_iff_iff, iff_false]; decide +kernel, by simp only [eq_iff_iff, iff_false]; decide +kernel, by simp only [eq_iff_iff, iff_false]; decide +kernel, by simp only [eq_iff_iff, iff_false]; decide +kernel, by simp only [eq_iff_iff, iff_false]; decide +kernel, by simp only [eq_iff_iff, iff_false]; decide +kernel, by simp only [eq_iff_iff, iff_false]; decide +kernel, by simp only [eq_iff_iff, iff_false]; decide +kernel, by simp only [eq_iff_iff, iff_false]; decide +kernel, by simp only [eq_iff_iff, iff_false]; decide +kernel, by simp only [eq_iff_iff, iff_false]; decide +kernel, by simp only [eq_iff_iff, iff_false]; decide +kernel, by simp only [eq_iff_iff, iff_false]; decide +kernel, by simp only [eq_iff_iff, iff_false]; decide +kernel, by simp only [eq_iff_iff, iff_false]; decide +kernel, by simp only [eq_iff_iff, iff_false]; decide +kernel, by simp only [eq_iff_iff, iff_false]; decide +kernel, by simp only [eq_iff_iff, iff_false]; decide +kernel, by simp only [eq_iff_iff, iff_false]; decide +kernel, by simp only [eq_iff_iff, iff_false]; decide +kernel, by simp only [eq_iff_iff, iff_false]; decide +kernel, by simp only [eq_iff_iff, iff_false]; decide +kernel, by simp only [eq_iff_iff, iff_false]; decide +kernel, by simp only [eq_iff_iff, iff_false]; decide +kernel, by simp only [eq_iff_iff, iff_false]; decide +kernel, by simp only [eq_iff_iff, iff_false]; decide +kernel, by simp only [eq_iff_iff, iff_false]; decide +kernel, by simp only [eq_iff_iff, iff_false]; decide +kernel, by simp only [eq_iff_iff, iff_false]; decide +kernel, by simp only [eq_iff_iff, iff_false]; decide +kernel, by simp only [eq_iff_iff, iff_false]; decide +kernel, by simp only [eq_iff_iff, iff_false]; decide +kernel, by simp only [eq_iff_iff, iff_false]; decide +kernel, by simp only [eq_iff_iff, iff_false]; decide +kernel, by simp only [eq_iff_iff, iff_false]; decide +kernel, by simp only [eq_iff_iff, iff_false]; decide +kernel, by simp only [eq_iff_iff, iff_false]; decide +kernel, by simp only [eq_iff_iff, iff_false]; decide +kernel, by simp only [eq_iff_iff, iff_false]; decide +kernel, by simp only [eq_iff_iff, iff_false]; decide +kernel, by simp only [eq_iff_iff, iff_false]; decide +kernel, by simp only [eq_iff_iff, iff_false]; decide +kernel, by simp only [eq_iff_iff, iff_false]; decide +kernel, by simp only [eq_iff_iff, iff_false]; decide +kernel, by simp only [eq_iff_iff, iff_false]; decide +kernel, by simp only [eq_iff_iff, iff_false]; decide +kernel, by simp only [eq_iff_iff, iff_false]; decide +kernel, by simp only [eq_iff_iff, iff_false]; decide +kernel, by simp only [eq_iff_iff, iff_false]; decide +kernel, by simp only [eq_iff_iff, iff_false]; decide +kernel, by simp only [eq_iff_iff, iff_false]; decide +kernel, by simp only [eq_iff_iff, iff_false]; decide +kernel, by simp only [eq_iff_iff, iff_false]; decide +kernel, by simp only [eq_iff_iff, iff_false]; decide +kernel, by simp only [eq_iff_iff, iff_false]; decide +kernel, by simp only [eq_iff_iff, iff_false]; decide +kernel, by simp only [eq_iff_iff, iff_false]; decide +kernel, by simp only [eq_iff_iff, iff_false]; decide +kernel, by simp only [eq_iff_iff, iff_false]; decide +kernel, by simp only [eq_iff_iff, iff_false]; decide +kernel, by simp only [eq_iff_iff, iff_false]; decide +kernel, by simp only [eq_iff_iff, iff_false]; decide +kernel, by simp only [eq_iff_iff, iff_false]; decide +kernel, by simp only [eq_iff_iff, iff_false]; decide +kernel, by simp only [eq_iff_iff, iff_false]; decide +kernel, by simp only [eq_iff_iff, iff_false]; decide +kernel, by simp only [eq_iff_iff, iff_false]; decide +kernel, by simp only [eq_iff_iff, iff_false]; decide +kernel, by simp only [eq_iff_iff, iff_false]; decide +kernel, by simp only [eq_iff_iff, iff_false]; decide +kernel, by simp only [eq_iff_iff, iff_false]; decide +kernel, by simp only [eq_iff_iff, iff_false]; decide +kernel, by simp only [eq_iff_iff, iff_false]; decide +kernel, by simp only [eq_iff_iff, iff_false]; decide +kernel, by simp only [eq_iff_iff, iff_false]; decide +kernel, by simp only [eq_iff_iff, iff_false]; decide +kernel, by simp only [eq_iff_iff, iff_false]; decide +kernel, by simp only [eq_iff_iff, iff_false]; decide +kernel, by simp only [eq_iff_iff, iff_false]; decide +kernel, by simp only [eq_iff_iff, iff_false]; decide +kernel, by simp only [eq_iff_iff, iff_false]; decide +kernel, by simp only [eq_iff_iff, iff_false]; decide +kernel, by simp only [eq_iff_iff, iff_false]; decide +kernel, by simp only [eq_iff_iff, iff_false]; decide +kernel, by simp only [eq_iff_iff, iff_false]; decide +kernel, by simp only [eq_iff_iff, iff_false]; decide +kernel, by simp only [eq_iff_iff, iff_false]; decide +kernel, by simp only [eq_iff_iff, iff_false]; decide +kernel, by simp only [eq_iff_iff, iff_false]; decide +kernel, by simp only [eq_iff_iff, iff_false]; decide +kernel, by simp only [eq_iff_iff, iff_false]; decide +kernel, by simp only [eq_iff_iff, iff_false]; decide +kernel, by simp only [eq_iff_iff, iff_false]; decide +kernel, by simp only [eq_iff_iff, iff_false]; decide +kernel, by simp only [eq_iff_iff, iff_false]; decide +kernel, by simp only [eq_iff_iff, iff_false]; decide +kernel, by simp only [eq_iff_iff, iff_false]; decide +kernel, by simp only [eq_iff_iff, iff_false]; decide +kernel, by simp only [eq_iff_iff, iff_false]; decide +kernel, by simp only [eq_iff_iff, iff_false]; decide +kernel, by simp only [eq_iff_iff, iff_false]; decide +kernel, by simp only [eq_iff_iff, iff_false]; decide +kernel, by simp only [eq_iff_iff, iff_false]; decide +kernel, by simp only [eq_iff_iff, iff_false]; decide +kernel, by simp only [eq_iff_iff, iff_false]; decide +kernel, by simp only [eq_iff_iff, iff_false]; decide +kernel, by simp only [eq_iff_iff, iff_false]; decide +kernel, by simp only [eq_iff_iff, iff_false]; decide +kernel, by simp only [eq_iff_iff, iff_false]; decide +kernel, by simp only [eq_iff_iff, iff_false]; decide +kernel, by simp only [eq_iff_iff, iff_false]; decide +kernel, by simp only [eq_iff_iff, iff_false]; decide +kernel, by simp only [eq_iff_iff, iff_false]; decide +kernel, by simp only [eq_iff_iff, iff_false]; decide +kernel, by simp only [eq_iff_iff, iff_false]; decide +kernel, by simp only [eq_iff_iff, iff_false]; decide +kernel, by simp only [eq_iff_iff, iff_false]; decide +kernel, by simp only [eq_iff_iff, iff_false]; decide +kernel, by simp only [eq_iff_iff, iff_false]; decide +kernel, by simp only [eq_iff_iff, iff_false]; decide +kernel, by simp only [eq_iff_iff, iff_false]; decide +kernel, by simp only [eq_iff_iff, iff_false]; decide +kernel, by simp only [eq_iff_iff, iff_false]; decide +kernel, by simp only [eq_iff_iff, iff_false]; decide +kernel, by simp only [eq_iff_iff, iff_false]; decide +kernel, by simp only [eq_iff_iff, iff_false]; decide +kernel, by simp only [eq_iff_iff, iff_false]; decide +kernel, by simp only [eq_iff_iff, iff_false]; decide +kernel, by simp only [eq_iff_iff, iff_false]; decide +kernel, by simp only [eq_iff_iff, iff_false]; decide +kernel, by simp only [eq_iff_iff, iff_false]; decide +kernel, by simp only [eq_iff_iff, iff_false]; decide +kernel, by simp only [eq_iff_iff, iff_false]; decide +kernel, by simp only [eq_iff_iff, iff_false]; decide +kernel, by simp only [eq_iff_iff, iff_false]; decide +kernel, by simp only [eq_iff_iff, iff_false]; decide +kernel, by simp only [eq_iff_iff, iff_false]; decide +kernel, by simp only [eq_iff_iff, iff_false]; decide +kernel, by simp only [eq_iff_iff, iff_false]; decide +kernel, by simp only [eq_iff_iff, iff_false]; decide +kernel, by simp only [eq_iff_iff, iff_false]; decide +kernel, by simp only [eq_iff_iff, iff_false]; decide +kernel, by simp only [eq_iff_iff, iff_false]; decide +kernel, by simp only [eq_iff_iff, iff_false]; decide +kernel, by simp only [eq_iff_iff, iff_false]; decide +kernel, by simp only [eq_iff_iff, iff_false]; decide +kernel, by simp only [eq_iff_iff, iff_false]; decide +kernel, by simp only [eq_iff_iff, iff_false]; decide +kernel, by simp only [eq_iff_iff, iff_false]; decide +kernel, by simp only [eq_iff_iff, iff_false]; decide +kernel, by simp only [eq_iff_iff, iff_false]; decide +kernel, by simp only [eq_iff_iff, iff_false]; decide +kernel, by simp only [eq_iff_iff, iff_false]; decide +kernel, by simp only [eq_iff_iff, iff_false]; decide +kernel, by simp only [eq_iff_iff, iff_false]; decide +kernel⟩
theorem SX : (∀ (i j : Str) (Q : Re → Prop), fEq (.str i) (.str j) Q = (PyData.strOk i = true ∧ PyData.strOk j = true ∧ Q (.va (.bl (decide (i = j)))))) ∧ (∀ (i j : Str) (Q : Re → Prop), fNe (.str i) (.str j) Q = (PyData.strOk i = true ∧ PyData.strOk j = true ∧ Q (.va (.bl (!decide (i = j)))))) := ⟨by intros; apply fEq_str, by intros; apply fNe_str⟩
end WR

set_option Elab.async false
set_option linter.all false
set_option maxRecDepth 100000
set_option maxHeartbeats 4000000
set_option autoImplicit false
/-! Ways, weights, parted boxes. -/
namespace WR
open PySem L2
/-! ### == of lists -/
theorem map_inj {α : Type} {f : α → D} (hf : ∀ a b, f a = f b → a = b) : ∀ {as bs : List α}, as.map f = bs.map f → as = bs
  | [], [], _ => rfl
  | [], _ :: _, h => by cases h
  | _ :: _, [], h => by cases h
  | x :: xs, y :: ys, h => by
    simp only [List.map_cons, List.cons.injEq] at h
    rw [hf _ _ h.1, map_inj hf h.2]
theorem clL_map {α : Type} {f : α → D} (h : ∀ a, (f a).cl = true) : ∀ as : List α, clL (as.map f) = true
  | [] => by simp [clL]
  | a :: as => by simp [clL, h a, clL_map h as]
theorem plainL_map {α : Type} {f : α → D} (h : ∀ a, (f a).plain = true) : ∀ as : List α, plainL (as.map f) = true
  | [] => by simp [plainL]
  | a :: as => by simp [plainL, h a, plainL_map h as]
theorem depL_map {α : Type} {f : α → D} {n : Nat} (h : ∀ a, (f a).dep ≤ n) : ∀ as : List α, depL (as.map f) ≤ n
  | [] => by simp [depL]
  | a :: as => by
    have := depL_map h as
    have := h a
    simp [depL]
    omega
theorem tydL_map {α : Type} {f : α → D} (h : ∀ a, (f a).tyd = true) : ∀ as : List α, tydL (as.map f) = true
  | [] => by simp [tydL]
  | a :: as => by simp [tydL, h a, tydL_map h as]
theorem deq_map {α : Type} [DecidableEq α] {f : α → D} (hf : ∀ a b, f a = f b → a = b) (hc : ∀ a, (f a).cl = true) (as bs : List α) : deq (.lst (as.map f)) (.lst (bs.map f)) = decide (as = bs) := by
  rw [Bool.eq_iff_iff, deq_iff (by simp only [D.cl]; exact clL_map hc as) (by simp only [D.cl]; exact clL_map hc bs), decide_eq_true_eq]
  exact ⟨fun h => map_inj hf (D.lst.inj h), fun h => by rw [h]⟩
theorem fEq_map {α : Type} [DecidableEq α] {f : α → D} (hf : ∀ a b, f a = f b → a = b) (hc : ∀ a, (f a).cl = true) (hp : ∀ a, (f a).plain = true) (hd : ∀ a, (f a).dep ≤ 9) {as bs : List α} {Q : Re → Prop} : fEq (.lst (as.map f)) (.lst (bs.map f)) Q = Q (.va (.bl (decide (as = bs)))) := by
  have h1 := depL_map hd as
  unfold fEq
  rw [deq_map hf hc, D.py_dep, D.py_dep]
  simp only [D.plain, D.dep, plainL_map hp, true_and]
  exact propext ⟨fun h => h.2, fun h => ⟨by omega, h⟩⟩
theorem fNe_map {α : Type} [DecidableEq α] {f : α → D} (hf : ∀ a b, f a = f b → a = b) (hc : ∀ a, (f a).cl = true) (hp : ∀ a, (f a).plain = true) (hd : ∀ a, (f a).dep ≤ 9) {as bs : List α} {Q : Re → Prop} : fNe (.lst (as.map f)) (.lst (bs.map f)) Q = Q (.va (.bl (!decide (as = bs)))) := by
  have h1 := depL_map hd as
  unfold fNe
  rw [deq_map hf hc, D.py_dep, D.py_dep]
  simp only [D.plain, D.dep, plainL_map hp, true_and]
  exact propext ⟨fun h => h.2, fun h => ⟨by omega, h⟩⟩
theorem int_inj (a b : Int) (h : D.int a = D.int b) : a = b := D.int.inj h
theorem fEq_bs {as bs : List Bx} {Q : Re → Prop} : fEq (.lst (as.map bD)) (.lst (bs.map bD)) Q = Q (.va (.bl (decide (as = bs)))) := fEq_map (fun _ _ h => bD_inj h) bD_cl bD_plain (fun b => by rw [bD_dep]; decide)
theorem fNe_bs {as bs : List Bx} {Q : Re → Prop} : fNe (.lst (as.map bD)) (.lst (bs.map bD)) Q = Q (.va (.bl (!decide (as = bs)))) := fNe_map (fun _ _ h => bD_inj h) bD_cl bD_plain (fun b => by rw [bD_dep]; decide)
theorem fEq_is {as bs : List Int} {Q : Re → Prop} : fEq (.lst (as.map .int)) (.lst (bs.map .int)) Q = Q (.va (.bl (decide (as = bs)))) := fEq_map int_inj (fun _ => by simp [D.cl]) (fun _ => by simp [D.plain]) (fun b => by simp [D.dep])
theorem fNe_is {as bs : List Int} {Q : Re → Prop} : fNe (.lst (as.map .int)) (.lst (bs.map .int)) Q = Q (.va (.bl (!decide (as = bs)))) := fNe_map int_inj (fun _ => by simp [D.cl]) (fun _ => by simp [D.plain]) (fun b => by simp [D.dep])
theorem SH : (∀ (as bs : List Bx) (Q : Re → Prop), fEq (.lst (as.map bD)) (.lst (bs.map bD)) Q = Q (.va (.bl (decide (as = bs))))) ∧ (∀ (as bs : List Bx) (Q : Re → Prop), fNe (.lst (as.map bD)) (.lst (bs.map bD)) Q = Q (.va (.bl (!decide (as = bs))))) ∧
  (∀ (as bs : List Int) (Q : Re → Prop), fEq (.lst (as.map .int)) (.lst (bs.map .int)) Q = Q (.va (.bl (decide (as = bs))))) ∧ (∀ (as bs : List Int) (Q : Re → Prop), fNe (.lst (as.map .int)) (.lst (bs.map .int)) Q = Q (.va (.bl (!decide (as = bs))))) ∧ (rngD 0 2 = [.int 0, .int 1]) ∧ (rngD 0 3 = [.int 0, .int 1, .int 2]) ∧ (rngD 0 5 = [.int 0, .int 1, .int 2, .int 3, .int 4]) :=
  ⟨by intros; apply fEq_bs, by intros; apply fNe_bs, by intros; apply fEq_is, by intros; apply fNe_is, rfl, rfl, rfl⟩
/-- a comprehension that makes one thing of each -/
theorem lc_map {α : Type} {f g : α → D} {ga : MG} {e : MX} {vs : List Nat} {Q : KL} {ρ : Nv} (as : List α) (hl : as.length ≤ 1000)
    (step : ∀ a ∈ as, ∀ k : D → Nv → Prop, (∀ ρ4, clnN ρ4 vs → wipN ρ4 vs = ρ → k (g a) ρ4) → ga (f a) (wipN ρ vs) fun ρ1 => e ρ1 (fun r ρ3 => frz r ρ3 k) (fun _ _ => False))
    (fin : Q.q (as.map g) ρ) : @LC ga mYes e vs Q (as.map f) [] ρ := by
  refine lc_inv (fun xs acc => ∃ bs cs : List α, as = bs ++ cs ∧ xs = cs.map f ∧ acc = bs.map g) ?_ ?_ _ [] ?_ ⟨[], as, rfl, rfl, rfl⟩
  · rintro x xs acc ⟨bs, cs, e1, e2, e3⟩ k k2 hk _
    cases cs with
    | nil => cases e2
    | cons c cs =>
      simp only [List.map_cons, List.cons.injEq] at e2
      obtain ⟨rfl, rfl⟩ := e2
      unfold mYes
      simp only [cIf_t]
      refine step c (by rw [e1]; simp) k fun ρ4 h1 h2 => hk _ _ h1 h2 ⟨bs ++ [c], cs, by rw [e1]; simp, rfl, by rw [e3]; simp⟩
  · rintro acc ⟨bs, cs, e1, e2, e3⟩
    cases cs with
    | nil => rw [e3, ← show as = bs by rw [e1]; simp]; exact fin
    | cons c cs => cases e2
  · simp only [List.length_map, List.length_nil, sizeLine]; omega
theorem atI_5 {α : Type} {a0 a1 a2 a3 a4 a5 : α} {l : List α} : atI (a0 :: a1 :: a2 :: a3 :: a4 :: a5 :: l) 5 = some a5 := by
  have : atI (a0 :: a1 :: a2 :: a3 :: a4 :: a5 :: l) ((5 : Nat) : Int) = some a5 := atI_nat (by simp)
  exact this
theorem atI_6 {α : Type} {a0 a1 a2 a3 a4 a5 a6 : α} {l : List α} : atI (a0 :: a1 :: a2 :: a3 :: a4 :: a5 :: a6 :: l) 6 = some a6 := by
  have : atI (a0 :: a1 :: a2 :: a3 :: a4 :: a5 :: a6 :: l) ((6 : Nat) : Int) = some a6 := atI_nat (by simp)
  exact this
theorem atI_7 {α : Type} {a0 a1 a2 a3 a4 a5 a6 a7 : α} {l : List α} : atI (a0 :: a1 :: a2 :: a3 :: a4 :: a5 :: a6 :: a7 :: l) 7 = some a7 := by
  have : atI (a0 :: a1 :: a2 :: a3 :: a4 :: a5 :: a6 :: a7 :: l) ((7 : Nat) : Int) = some a7 := atI_nat (by simp)
  exact this
theorem atI_8 {α : Type} {a0 a1 a2 a3 a4 a5 a6 a7 a8 : α} {l : List α} : atI (a0 :: a1 :: a2 :: a3 :: a4 :: a5 :: a6 :: a7 :: a8 :: l) 8 = some a8 := by
  have : atI (a0 :: a1 :: a2 :: a3 :: a4 :: a5 :: a6 :: a7 :: a8 :: l) ((8 : Nat) : Int) = some a8 := atI_nat (by simp)
  exact this
theorem atI_9 {α : Type} {a0 a1 a2 a3 a4 a5 a6 a7 a8 a9 : α} {l : List α} : atI (a0 :: a1 :: a2 :: a3 :: a4 :: a5 :: a6 :: a7 :: a8 :: a9 :: l) 9 = some a9 := by
  have : atI (a0 :: a1 :: a2 :: a3 :: a4 :: a5 :: a6 :: a7 :: a8 :: a9 :: l) ((9 : Nat) : Int) = some a9 := atI_nat (by simp)
  exact this
theorem atI_10 {α : Type} {a0 a1 a2 a3 a4 a5 a6 a7 a8 a9 a10 : α} {l : List α} : atI (a0 :: a1 :: a2 :: a3 :: a4 :: a5 :: a6 :: a7 :: a8 :: a9 :: a10 :: l) 10 = some a10 := by
  have : atI (a0 :: a1 :: a2 :: a3 :: a4 :: a5 :: a6 :: a7 :: a8 :: a9 :: a10 :: l) ((10 : Nat) : Int) = some a10 := atI_nat (by simp)
  exact this
theorem atI_11 {α : Type} {a0 a1 a2 a3 a4 a5 a6 a7 a8 a9 a10 a11 : α} {l : List α} : atI (a0 :: a1 :: a2 :: a3 :: a4 :: a5 :: a6 :: a7 :: a8 :: a9 :: a10 :: a11 :: l) 11 = some a11 := by
  have : atI (a0 :: a1 :: a2 :: a3 :: a4 :: a5 :: a6 :: a7 :: a8 :: a9 :: a10 :: a11 :: l) ((11 : Nat) : Int) = some a11 := atI_nat (by simp)
  exact this
theorem atI_12 {α : Type} {a0 a1 a2 a3 a4 a5 a6 a7 a8 a9 a10 a11 a12 : α} {l : List α} : atI (a0 :: a1 :: a2 :: a3 :: a4 :: a5 :: a6 :: a7 :: a8 :: a9 :: a10 :: a11 :: a12 :: l) 12 = some a12 := by
  have : atI (a0 :: a1 :: a2 :: a3 :: a4 :: a5 :: a6 :: a7 :: a8 :: a9 :: a10 :: a11 :: a12 :: l) ((12 : Nat) : Int) = some a12 := atI_nat (by simp)
  exact this
theorem atI_13 {α : Type} {a0 a1 a2 a3 a4 a5 a6 a7 a8 a9 a10 a11 a12 a13 : α} {l : List α} : atI (a0 :: a1 :: a2 :: a3 :: a4 :: a5 :: a6 :: a7 :: a8 :: a9 :: a10 :: a11 :: a12 :: a13 :: l) 13 = some a13 := by
  have : atI (a0 :: a1 :: a2 :: a3 :: a4 :: a5 :: a6 :: a7 :: a8 :: a9 :: a10 :: a11 :: a12 :: a13 :: l) ((13 : Nat) : Int) = some a13 := atI_nat (by simp)
  exact this
theorem atI_14 {α : Type} {a0 a1 a2 a3 a4 a5 a6 a7 a8 a9 a10 a11 a12 a13 a14 : α} {l : List α} : atI (a0 :: a1 :: a2 :: a3 :: a4 :: a5 :: a6 :: a7 :: a8 :: a9 :: a10 :: a11 :: a12 :: a13 :: a14 :: l) 14 = some a14 := by
  have : atI (a0 :: a1 :: a2 :: a3 :: a4 :: a5 :: a6 :: a7 :: a8 :: a9 :: a10 :: a11 :: a12 :: a13 :: a14 :: l) ((14 : Nat) : Int) = some a14 := atI_nat (by simp)
  exact this
theorem atI_15 {α : Type} {a0 a1 a2 a3 a4 a5 a6 a7 a8 a9 a10 a11 a12 a13 a14 a15 : α} {l : List α} : atI (a0 :: a1 :: a2 :: a3 :: a4 :: a5 :: a6 :: a7 :: a8 :: a9 :: a10 :: a11 :: a12 :: a13 :: a14 :: a15 :: l) 15 = some a15 := by
  have : atI (a0 :: a1 :: a2 :: a3 :: a4 :: a5 :: a6 :: a7 :: a8 :: a9 :: a10 :: a11 :: a12 :: a13 :: a14 :: a15 :: l) ((15 : Nat) : Int) = some a15 := atI_nat (by simp)
  exact this
theorem atI_16 {α : Type} {a0 a1 a2 a3 a4 a5 a6 a7 a8 a9 a10 a11 a12 a13 a14 a15 a16 : α} {l : List α} : atI (a0 :: a1 :: a2 :: a3 :: a4 :: a5 :: a6 :: a7 :: a8 :: a9 :: a10 :: a11 :: a12 :: a13 :: a14 :: a15 :: a16 :: l) 16 = some a16 := by
  have : atI (a0 :: a1 :: a2 :: a3 :: a4 :: a5 :: a6 :: a7 :: a8 :: a9 :: a10 :: a11 :: a12 :: a13 :: a14 :: a15 :: a16 :: l) ((16 : Nat) : Int) = some a16 := atI_nat (by simp)
  exact this
theorem atI_17 {α : Type} {a0 a1 a2 a3 a4 a5 a6 a7 a8 a9 a10 a11 a12 a13 a14 a15 a16 a17 : α} {l : List α} : atI (a0 :: a1 :: a2 :: a3 :: a4 :: a5 :: a6 :: a7 :: a8 :: a9 :: a10 :: a11 :: a12 :: a13 :: a14 :: a15 :: a16 :: a17 :: l) 17 = some a17 := by
  have : atI (a0 :: a1 :: a2 :: a3 :: a4 :: a5 :: a6 :: a7 :: a8 :: a9 :: a10 :: a11 :: a12 :: a13 :: a14 :: a15 :: a16 :: a17 :: l) ((17 : Nat) : Int) = some a17 := atI_nat (by simp)
  exact this
theorem atI_18 {α : Type} {a0 a1 a2 a3 a4 a5 a6 a7 a8 a9 a10 a11 a12 a13 a14 a15 a16 a17 a18 : α} {l : List α} : atI (a0 :: a1 :: a2 :: a3 :: a4 :: a5 :: a6 :: a7 :: a8 :: a9 :: a10 :: a11 :: a12 :: a13 :: a14 :: a15 :: a16 :: a17 :: a18 :: l) 18 = some a18 := by
  have : atI (a0 :: a1 :: a2 :: a3 :: a4 :: a5 :: a6 :: a7 :: a8 :: a9 :: a10 :: a11 :: a12 :: a13 :: a14 :: a15 :: a16 :: a17 :: a18 :: l) ((18 : Nat) : Int) = some a18 := atI_nat (by simp)
  exact this
theorem atI_19 {α : Type} {a0 a1 a2 a3 a4 a5 a6 a7 a8 a9 a10 a11 a12 a13 a14 a15 a16 a17 a18 a19 : α} {l : List α} : atI (a0 :: a1 :: a2 :: a3 :: a4 :: a5 :: a6 :: a7 :: a8 :: a9 :: a10 :: a11 :: a12 :: a13 :: a14 :: a15 :: a16 :: a17 :: a18 :: a19 :: l) 19 = some a19 := by
  have : atI (a0 :: a1 :: a2 :: a3 :: a4 :: a5 :: a6 :: a7 :: a8 :: a9 :: a10 :: a11 :: a12 :: a13 :: a14 :: a15 :: a16 :: a17 :: a18 :: a19 :: l) ((19 : Nat) : Int) = some a19 := atI_nat (by simp)
  exact this
theorem atI_20 {α : Type} {a0 a1 a2 a3 a4 a5 a6 a7 a8 a9 a10 a11 a12 a13 a14 a15 a16 a17 a18 a19 a20 : α} {l : List α} : atI (a0 :: a1 :: a2 :: a3 :: a4 :: a5 :: a6 :: a7 :: a8 :: a9 :: a10 :: a11 :: a12 :: a13 :: a14 :: a15 :: a16 :: a17 :: a18 :: a19 :: a20 :: l) 20 = some a20 := by
  have : atI (a0 :: a1 :: a2 :: a3 :: a4 :: a5 :: a6 :: a7 :: a8 :: a9 :: a10 :: a11 :: a12 :: a13 :: a14 :: a15 :: a16 :: a17 :: a18 :: a19 :: a20 :: l) ((20 : Nat) : Int) = some a20 := atI_nat (by simp)
  exact this
theorem SI : (∀ (α : Type) (a0 a1 a2 a3 a4 a5 : α) (l : List α), atI (a0 :: a1 :: a2 :: a3 :: a4 :: a5 :: l) 5 = some a5) ∧ (∀ (α : Type) (a0 a1 a2 a3 a4 a5 a6 : α) (l : List α), atI (a0 :: a1 :: a2 :: a3 :: a4 :: a5 :: a6 :: l) 6 = some a6) ∧ (∀ (α : Type) (a0 a1 a2 a3 a4 a5 a6 a7 : α) (l : List α), atI (a0 :: a1 :: a2 :: a3 :: a4 :: a5 :: a6 :: a7 :: l) 7 = some a7) ∧ (∀ (α : Type) (a0 a1 a2 a3 a4 a5 a6 a7 a8 : α) (l : List α), atI (a0 :: a1 :: a2 :: a3 :: a4 :: a5 :: a6 :: a7 :: a8 :: l) 8 = some a8) ∧ (∀ (α : Type) (a0 a1 a2 a3 a4 a5 a6 a7 a8 a9 : α) (l : List α), atI (a0 :: a1 :: a2 :: a3 :: a4 :: a5 :: a6 :: a7 :: a8 :: a9 :: l) 9 = some a9) ∧ (∀ (α : Type) (a0 a1 a2 a3 a4 a5 a6 a7 a8 a9 a10 : α) (l : List α), atI (a0 :: a1 :: a2 :: a3 :: a4 :: a5 :: a6 :: a7 :: a8 :: a9 :: a10 :: l) 10 = some a10) ∧ (∀ (α : Type) (a0 a1 a2 a3 a4 a5 a6 a7 a8 a9 a10 a11 : α) (l : List α), atI (a0 :: a1 :: a2 :: a3 :: a4 :: a5 :: a6 :: a7 :: a8 :: a9 :: a10 :: a11 :: l) 11 = some a11) ∧ (∀ (α : Type) (a0 a1 a2 a3 a4 a5 a6 a7 a8 a9 a10 a11 a12 : α) (l : List α), atI (a0 :: a1 :: a2 :: a3 :: a4 :: a5 :: a6 :: a7 :: a8 :: a9 :: a10 :: a11 :: a12 :: l) 12 = some a12) ∧ (∀ (α : Type) (a0 a1 a2 a3 a4 a5 a6 a7 a8 a9 a10 a11 a12 a13 : α) (l : List α), atI (a0 :: a1 :: a2 :: a3 :: a4 :: a5 :: a6 :: a7 :: a8 :: a9 :: a10 :: a11 :: a12 :: a13 :: l) 13 = some a13) ∧ (∀ (α : Type) (a0 a1 a2 a3 a4 a5 a6 a7 a8 a9 a10 a11 a12 a13 a14 : α) (l : List α), atI (a0 :: a1 :: a2 :: a3 :: a4 :: a5 :: a6 :: a7 :: a8 :: a9 :: a10 :: a11 :: a12 :: a13 :: a14 :: l) 14 = some a14) ∧ (∀ (α : Type) (a0 a1 a2 a3 a4 a5 a6 a7 a8 a9 a10 a11 a12 a13 a14 a15 : α) (l : List α), atI (a0 :: a1 :: a2 :: a3 :: a4 :: a5 :: a6 :: a7 :: a8 :: a9 :: a10 :: a11 :: a12 :: a13 :: a14 :: a15 :: l) 15 = some a15) ∧ (∀ (α : Type) (a0 a1 a2 a3 a4 a5 a6 a7 a8 a9 a10 a11 a12 a13 a14 a15 a16 : α) (l : List α), atI (a0 :: a1 :: a2 :: a3 :: a4 :: a5 :: a6 :: a7 :: a8 :: a9 :: a10 :: a11 :: a12 :: a13 :: a14 :: a15 :: a16 :: l) 16 = some a16) ∧ (∀ (α : Type) (a0 a1 a2 a3 a4 a5 a6 a7 a8 a9 a10 a11 a12 a13 a14 a15 a16 a17 : α) (l : List α), atI (a0 :: a1 :: a2 :: a3 :: a4 :: a5 :: a6 :: a7 :: a8 :: a9 :: a10 :: a11 :: a12 :: a13 :: a14 :: a15 :: a16 :: a17 :: l) 17 = some a17) ∧ (∀ (α : Type) (a0 a1 a2 a3 a4 a5 a6 a7 a8 a9 a10 a11 a12 a13 a14 a15 a16 a17 a18 : α) (l : List α), atI (a0 :: a1 :: a2 :: a3 :: a4 :: a5 :: a6 :: a7 :: a8 :: a9 :: a10 :: a11 :: a12 :: a13 :: a14 :: a15 :: a16 :: a17 :: a18 :: l) 18 = some a18) ∧ (∀ (α : Type) (a0 a1 a2 a3 a4 a5 a6 a7 a8 a9 a10 a11 a12 a13 a14 a15 a16 a17 a18 a19 : α) (l : List α), atI (a0 :: a1 :: a2 :: a3 :: a4 :: a5 :: a6 :: a7 :: a8 :: a9 :: a10 :: a11 :: a12 :: a13 :: a14 :: a15 :: a16 :: a17 :: a18 :: a19 :: l) 19 = some a19) ∧ (∀ (α : Type) (a0 a1 a2 a3 a4 a5 a6 a7 a8 a9 a10 a11 a12 a13 a14 a15 a16 a17 a18 a19 a20 : α) (l : List α), atI (a0 :: a1 :: a2 :: a3 :: a4 :: a5 :: a6 :: a7 :: a8 :: a9 :: a10 :: a11 :: a12 :: a13 :: a14 :: a15 :: a16 :: a17 :: a18 :: a19 :: a20 :: l) 20 = some a20) :=
  ⟨by intros; apply atI_5, by intros; apply atI_6, by intros; apply atI_7, by intros; apply atI_8, by intros; apply atI_9, by intros; apply atI_10, by intros; apply atI_11, by intros; apply atI_12, by intros; apply atI_13, by intros; apply atI_14, by intros; apply atI_15, by intros; apply atI_16, by intros; apply atI_17, by intros; apply atI_18, by intros; apply atI_19, by intros; apply atI_20⟩
/-! ### ways -/
def wayS (ac : Bool) : Str := if ac = true then "across" else "down"
theorem wayS_t : wayS true = "across" := rfl
theorem wayS_f : wayS false = "down" := rfl
theorem wayS_inj {a b : Bool} (h : wayS a = wayS b) : a = b := by
  cases a <;> cases b <;> first | rfl | exact absurd h across_ne | exact absurd h.symm across_ne
theorem wayS_ok (a : Bool) : PyData.strOk (wayS a) = true := by cases a <;> decide +kernel
theorem wayS_a {a : Bool} : (wayS a = "across") = (a = true) := by
  cases a
  · exact propext ⟨fun h => absurd h.symm across_ne, fun h => by cases h⟩
  · exact propext ⟨fun _ => rfl, fun _ => rfl⟩
theorem wayS_d {a : Bool} : (wayS a = "down") = (a = false) := by
  cases a
  · exact propext ⟨fun _ => rfl, fun _ => rfl⟩
  · exact propext ⟨fun h => absurd h across_ne, fun h => by cases h⟩
def Bx.ac (b : Bx) : Bool := decide (b.h ≤ b.w)
theorem Bx.long_ac (b : Bx) : b.long = wayS b.ac := by
  unfold Bx.ac
  by_cases h : b.h ≤ b.w
  · rw [decide_eq_true h, Bx.long_a.mpr h]; rfl
  · rw [decide_eq_false h, Bx.long_d.mpr (Rat.not_le.mp h)]; rfl
def onWay (d : D) (k : Bool → Prop) : Prop := ∃ ac, d = .str (wayS ac) ∧ k ac
theorem onWay_w {ac : Bool} {k : Bool → Prop} : onWay (.str (wayS ac)) k = k ac := propext ⟨fun ⟨b, e, h⟩ => by cases wayS_inj (D.str.inj e); exact h, fun h => ⟨ac, rfl, h⟩⟩
/-! ### weights -/
def onWs (d : D) (k : List Int → Prop) : Prop := ∃ ws : List Int, d = .lst (ws.map .int) ∧ k ws
theorem ints_inj : ∀ {a b : List Int}, a.map D.int = b.map D.int → a = b
  | [], [], _ => rfl
  | [], _ :: _, h => by cases h
  | _ :: _, [], h => by cases h
  | x :: xs, y :: ys, h => by
    simp only [List.map_cons, List.cons.injEq, D.int.injEq] at h
    rw [h.1, ints_inj h.2]
theorem onWs_m {ws : List Int} {k : List Int → Prop} : onWs (.lst (ws.map .int)) k = k ws := propext ⟨fun ⟨b, e, h⟩ => by rw [ints_inj (D.lst.inj e)]; exact h, fun h => ⟨ws, rfl, h⟩⟩
theorem onWs_1 {a : Int} {k : List Int → Prop} : onWs (.lst [.int a]) k = k [a] := onWs_m (ws := [a])
theorem onWs_2 {a b : Int} {k : List Int → Prop} : onWs (.lst [.int a, .int b]) k = k [a, b] := onWs_m (ws := [a, b])
/-- what the program takes for weights, but for how many -/
def wtL : List D → Option (List Int)
  | [] => some []
  | .int i :: r => if 1 ≤ i then (wtL r).map (i :: ·) else none
  | _ => none
def D.wts : D → Option (List Int)
  | .lst (x :: xs) => wtL (x :: xs)
  | _ => none
theorem wtL_some : ∀ {xs : List D} {ws : List Int}, wtL xs = some ws → xs = ws.map .int ∧ ∀ w ∈ ws, 1 ≤ w
  | [], ws, h => by cases h; exact ⟨rfl, by simp⟩
  | .int i :: r, ws, h => by
    unfold wtL at h
    split at h
    · rename_i hi
      simp only [Option.map_eq_some_iff] at h
      obtain ⟨m, h1, rfl⟩ := h
      obtain ⟨e, h2⟩ := wtL_some h1
      refine ⟨by rw [e]; rfl, fun w hw => ?_⟩
      rcases List.mem_cons.mp hw with rfl | hw
      · exact hi
      · exact h2 w hw
    · cases h
  | .non :: _, _, h => by cases h
  | .bl _ :: _, _, h => by cases h
  | .str _ :: _, _, h => by cases h
  | .ty _ :: _, _, h => by cases h
  | .obj _ :: _, _, h => by cases h
  | .exc _ :: _, _, h => by cases h
  | .tup _ :: _, _, h => by cases h
  | .lst _ :: _, _, h => by cases h
  | .dic _ _ :: _, _, h => by cases h
  | .scr _ :: _, _, h => by cases h
theorem wtL_map : ∀ {ws : List Int}, (∀ w ∈ ws, 1 ≤ w) → wtL (ws.map .int) = some ws
  | [], _ => rfl
  | x :: xs, h => by
    rw [List.map_cons]
    unfold wtL
    rw [if_pos (h x (by simp)), wtL_map fun w hw => h w (List.mem_cons_of_mem _ hw)]; rfl
theorem wts_some {d : D} {ws : List Int} (h : d.wts = some ws) : d = .lst (ws.map .int) ∧ ws ≠ [] ∧ ∀ w ∈ ws, 1 ≤ w := by
  unfold D.wts at h
  split at h
  · rename_i x xs
    obtain ⟨e, h2⟩ := wtL_some h
    refine ⟨by rw [e], fun z => ?_, h2⟩
    rw [z] at e; cases e
  · cases h
theorem wts_map {ws : List Int} (h0 : ws ≠ []) (h : ∀ w ∈ ws, 1 ≤ w) : (D.lst (ws.map .int)).wts = some ws := by
  cases ws with
  | nil => exact absurd rfl h0
  | cons x xs => exact wtL_map h
theorem sum_ge : ∀ {ws : List Int}, (∀ w ∈ ws, 1 ≤ w) → (ws.length : Int) ≤ ws.sum
  | [], _ => by simp
  | x :: xs, h => by
    have := sum_ge fun w hw => h w (List.mem_cons_of_mem _ hw)
    have := h x (by simp)
    simp only [List.length_cons, List.sum_cons]
    omega
theorem sum_gt {ws : List Int} (h0 : ws ≠ []) (h : ∀ w ∈ ws, 1 ≤ w) : 0 < ws.sum := by
  have := sum_ge h
  have : 0 < ws.length := List.length_pos_iff.mpr h0
  omega
theorem sum_le : ∀ {ws : List Int} {m : Int}, (∀ w ∈ ws, w ≤ m) → ws.sum ≤ ws.length * m
  | [], _, _ => by simp
  | x :: xs, m, h => by
    have h1 := sum_le fun w hw => h w (List.mem_cons_of_mem _ hw)
    have h2 := h x (by simp)
    simp only [List.length_cons, List.sum_cons]
    rw [Int.natCast_succ, Int.add_mul]
    omega
/-! ### parted -/
def mkBx (l t w h : Rat) : Bx := if z : 0 < w ∧ 0 < h then ⟨l, t, w, h, z.1, z.2⟩ else ⟨0, 0, 1, 1, by decide, by decide⟩
theorem mkBx_eq {l t w h : Rat} (hw : 0 < w) (hh : 0 < h) : mkBx l t w h = ⟨l, t, w, h, hw, hh⟩ := by unfold mkBx; rw [dif_pos ⟨hw, hh⟩]
theorem bD_mk {l t w h : Rat} (hw : 0 < w) (hh : 0 < h) : bD (mkBx l t w h) = .tup [fD l, fD t, fD w, fD h] := by rw [mkBx_eq hw hh]; rfl
/-- the part with weight x behind weights of sum a, of S in all -/
def Bx.part (b : Bx) (ac : Bool) (S a x : Int) : Bx := if ac = true then mkBx (b.l + b.w * ((a : Rat) / S)) b.t (b.w * ((x : Rat) / S)) b.h else mkBx b.l (b.t + b.h * ((a : Rat) / S)) b.w (b.h * ((x : Rat) / S))
def Bx.partF (b : Bx) (ac : Bool) (S : Int) : Int → List Int → List Bx
  | _, [] => []
  | a, x :: xs => b.part ac S a x :: b.partF ac S (a + x) xs
def Bx.parts (b : Bx) (ac : Bool) (ws : List Int) : List Bx := b.partF ac ws.sum 0 ws
theorem partF_len (b : Bx) (ac : Bool) (S : Int) : ∀ (a : Int) (xs : List Int), (b.partF ac S a xs).length = xs.length
  | _, [] => rfl
  | a, x :: xs => by unfold Bx.partF; rw [List.length_cons, List.length_cons, partF_len]
theorem parts_len (b : Bx) (ac : Bool) (ws : List Int) : (b.parts ac ws).length = ws.length := partF_len b ac _ 0 ws
/-- what is reckoned when a box is parted stays small -/
def PartZ (b : Bx) (ac : Bool) (S : Int) : Prop := Bs 8990 S ∧ ∀ a x : Int, 0 ≤ a → 1 ≤ x → a + x ≤ S → (ac = true → Az b.w ((x : Rat) / S) ∧ Az (b.l + b.w * ((a : Rat) / S)) (b.w * ((x : Rat) / S))) ∧ (ac = false → Az b.h ((x : Rat) / S) ∧ Az (b.t + b.h * ((a : Rat) / S)) (b.h * ((x : Rat) / S)))
theorem Rb.frac {m : Nat} {a S : Int} (h0 : 0 ≤ a) (h1 : a ≤ S) (hS : 0 < S) (h : Bs m S) : Rb m ((a : Rat) / S) := by
  rw [← Rat.divInt_eq_div]
  exact Rb.divInt (by unfold Bs at *; omega) h (by omega)
theorem PartZ.of {b : Bx} {ac : Bool} {S : Int} {n m : Nat} (hb : b.sz n) (hS : 0 < S) (h : Bs m S) (hz : 3 * n + 2 * m + 1 ≤ 8990) : PartZ b ac S := by
  refine ⟨h.mono (by omega), fun a x h0 h1 h2 => ?_⟩
  have ra : Rb m ((a : Rat) / S) := Rb.frac h0 (by omega) hS h
  have rx : Rb m ((x : Rat) / S) := Rb.frac (by omega) (by omega) hS h
  exact ⟨fun _ => ⟨.of hb.2.2.1 rx (by omega), .of (hb.1.add (hb.2.2.1.mul ra)) (hb.2.2.1.mul rx) (by omega)⟩, fun _ => ⟨.of hb.2.2.2 rx (by omega), .of (hb.2.1.add (hb.2.2.2.mul ra)) (hb.2.2.2.mul rx) (by omega)⟩⟩
theorem zdiv (x : Rat) : (0 : Rat) / x = 0 := by rw [Rat.div_def, Rat.zero_mul]
theorem zshare (w x : Rat) : w * (((0 : Int) : Rat) / x) = 0 := by rw [Rat.intCast_zero, zdiv, Rat.mul_zero]
theorem share_pos {x S : Int} (hx : 0 < x) (hS : 0 < S) : 0 < (x : Rat) / S := div_pos (int_pos hx) (int_pos hS)
theorem add_share {w : Rat} {a x S : Int} : w * ((a : Rat) / S) + w * ((x : Rat) / S) = w * (((a + x : Int) : Rat) / S) := by
  rw [← Rat.mul_add, Rat.div_def, Rat.div_def, Rat.div_def, ← Rat.add_mul, Rat.intCast_add]
theorem mul_share (w : Rat) (a S : Int) : Rat.divInt (w.num * a) (w.den * S) = w * ((a : Rat) / S) := by
  rw [← Rat.divInt_mul_divInt, Rat.num_divInt_den, Rat.divInt_eq_div]
/-- sizes with which a box can be parted -/
def SzP (b : Bx) (S : Int) : Prop := ∃ n m, b.sz n ∧ Bs m S ∧ 3 * n + 2 * m + 1 ≤ 8990
theorem SzP.part {b : Bx} {ac : Bool} {S : Int} (h : SzP b S) (hS : 0 < S) : PartZ b ac S := let ⟨_, _, h1, h2, h3⟩ := h; PartZ.of h1 hS h2 h3
theorem SzP.turn {b : Bx} {S : Int} (h : SzP b S) : SzP b.turn S := let ⟨n, m, h1, h2, h3⟩ := h; ⟨n, m, Bx.turn_sz h1, h2, h3⟩
theorem part_pos {b : Bx} {S a x : Int} (hx : 0 < x) (hS : 0 < S) : b.part true S a x = ⟨b.l + b.w * ((a : Rat) / S), b.t, b.w * ((x : Rat) / S), b.h, Rat.mul_pos b.w0 (share_pos hx hS), b.h0⟩ := by
  unfold Bx.part
  rw [if_pos rfl, mkBx_eq]
theorem part_neg {b : Bx} {S a x : Int} (hx : 0 < x) (hS : 0 < S) : b.part false S a x = ⟨b.l, b.t + b.h * ((a : Rat) / S), b.w, b.h * ((x : Rat) / S), b.w0, Rat.mul_pos b.h0 (share_pos hx hS)⟩ := by
  unfold Bx.part
  rw [if_neg (by decide), mkBx_eq]
theorem part_turn {b : Bx} {ac : Bool} {S a x : Int} (hx : 0 < x) (hS : 0 < S) : (b.turn.part (!ac) S a x).turn = b.part ac S a x := by
  cases ac with
  | true => rw [part_pos hx hS]; show (b.turn.part false S a x).turn = _; rw [part_neg hx hS]; rfl
  | false => rw [part_neg hx hS]; show (b.turn.part true S a x).turn = _; rw [part_pos hx hS]; rfl
theorem partF_turn {b : Bx} {ac : Bool} {S : Int} (hS : 0 < S) : ∀ {xs : List Int} {a : Int}, (∀ x ∈ xs, 1 ≤ x) → (b.turn.partF (!ac) S a xs).map Bx.turn = b.partF ac S a xs
  | [], _, _ => rfl
  | x :: xs, a, h => by
    unfold Bx.partF
    rw [List.map_cons, part_turn (by have := h x (by simp); omega) hS, partF_turn hS fun w hw => h w (List.mem_cons_of_mem _ hw)]
theorem parts_turn {b : Bx} {ac : Bool} {ws : List Int} (h0 : ws ≠ []) (h : ∀ x ∈ ws, 1 ≤ x) : (b.turn.parts (!ac) ws).map Bx.turn = b.parts ac ws := partF_turn (sum_gt h0 h) h
theorem part_sz {b : Bx} {ac : Bool} {S a x : Int} {n m : Nat} (hb : b.sz n) (h0 : 0 ≤ a) (hx : 1 ≤ x) (hs : a + x ≤ S) (h : Bs m S) : (b.part ac S a x).sz (2 * n + m + 1) := by
  obtain ⟨zl, zt, zw, zh⟩ := hb
  have hS : 0 < S := by omega
  have ra : Rb m ((a : Rat) / S) := Rb.frac h0 (by omega) hS h
  have rx : Rb m ((x : Rat) / S) := Rb.frac (by omega) (by omega) hS h
  cases ac with
  | true =>
    rw [part_pos (by omega) hS]
    exact ⟨(zl.add (zw.mul ra)).mono (by omega), zt.mono (by omega), (zw.mul rx).mono (by omega), zh.mono (by omega)⟩
  | false =>
    rw [part_neg (by omega) hS]
    exact ⟨zl.mono (by omega), (zt.add (zh.mul ra)).mono (by omega), zw.mono (by omega), (zh.mul rx).mono (by omega)⟩
theorem partF_mem {b : Bx} {ac : Bool} {S : Int} : ∀ {xs : List Int} {a0 : Int} {c : Bx}, 0 ≤ a0 → (∀ x ∈ xs, 1 ≤ x) → a0 + xs.sum ≤ S → c ∈ b.partF ac S a0 xs → ∃ a x, 0 ≤ a ∧ 1 ≤ x ∧ a + x ≤ S ∧ c = b.part ac S a x
  | [], _, _, _, _, _, h => by cases h
  | x :: xs, a0, c, h0, hx, hs, h => by
    have hxs := sum_ge fun w hw => hx w (List.mem_cons_of_mem _ hw)
    have h1 := hx x (by simp)
    simp only [List.sum_cons] at hs
    unfold Bx.partF at h
    rcases List.mem_cons.mp h with e | h
    · exact ⟨a0, x, h0, h1, by omega, e⟩
    · exact partF_mem (a0 := a0 + x) (by omega) (fun w hw => hx w (List.mem_cons_of_mem _ hw)) (by omega) h
theorem parts_sz {b c : Bx} {ac : Bool} {ws : List Int} {n m : Nat} (hb : b.sz n) (hp : ∀ x ∈ ws, 1 ≤ x) (h : Bs m ws.sum) (hc : c ∈ b.parts ac ws) : c.sz (2 * n + m + 1) := by
  obtain ⟨a, x, h0, h1, h2, rfl⟩ := partF_mem (Int.le_refl 0) hp (by omega) hc
  exact part_sz hb h0 h1 h2 h
/-- weights as they are drawn -/
structure Wts (ws : List Int) : Prop where
  ne : ws ≠ []
  len : ws.length ≤ 40
  pos : ∀ w ∈ ws, 1 ≤ w
  lt : ∀ w ∈ ws, w ≤ 10 ^ 30
  few : 9 < ws.length → ∀ w ∈ ws, w ≤ 2 ^ 24
theorem Wts.sum0 {ws : List Int} (h : Wts ws) : 0 < ws.sum := sum_gt h.ne h.pos
theorem Wts.sumB {ws : List Int} (h : Wts ws) : Bs 110 ws.sum := by
  have h1 := h.sum0
  have h2 := sum_le h.lt
  have h3 := h.len
  have h4 : (ws.length : Int) * 10 ^ 30 ≤ 40 * 10 ^ 30 := Int.mul_le_mul_of_nonneg_right (by omega) (by decide)
  unfold Bs
  omega
def onWts (d : D) (k : List Int → Prop) : Prop := onWs d fun ws => Wts ws ∧ k ws
/-- a slot that holds nothing, or a frozen thing -/
def fo : Option D → Option Sl
  | none => none
  | some d => some (.fz d)
theorem notOw_fo {s : Option D} {l : Nv} : notOw (fo s :: l) 0 = True := by cases s <;> rfl
theorem notLo_fo {s : Option D} {l : Nv} : notLo (fo s :: l) 0 = True := by cases s <;> rfl
theorem SG : (∀ (s : Option D) (l : Nv), notOw (fo s :: l) 0 = True) ∧ (∀ (s : Option D) (l : Nv), notLo (fo s :: l) 0 = True) ∧ (∀ (ac : Bool) (k : Bool → Prop), onWay (.str (wayS ac)) k = k ac) ∧ (∀ (k : Bool → Prop), onWay (.str "across") k = k true) ∧ (∀ (k : Bool → Prop), onWay (.str "down") k = k false) ∧ (∀ (b : Bx), b.long = wayS b.ac) ∧ (∀ a : Bool, PyData.strOk (wayS a) = true) ∧
  (∀ a : Bool, (wayS a = "across") = (a = true)) ∧ (∀ a : Bool, (wayS a = "down") = (a = false)) ∧ (∀ (ws : List Int) (k : List Int → Prop), onWs (.lst (ws.map .int)) k = k ws) ∧ (∀ (a : Int) (k : List Int → Prop), onWs (.lst [.int a]) k = k [a]) ∧ (∀ (a b : Int) (k : List Int → Prop), onWs (.lst [.int a, .int b]) k = k [a, b]) :=
  ⟨by intros; apply notOw_fo, by intros; apply notLo_fo, by intros; apply onWay_w, fun k => onWay_w (ac := true), fun k => onWay_w (ac := false), Bx.long_ac, wayS_ok, by intros; apply wayS_a, by intros; apply wayS_d, by intros; apply onWs_m, by intros; apply onWs_1, by intros; apply onWs_2⟩
end WR

set_option Elab.async false
set_option linter.all false
set_option maxRecDepth 100000
set_option maxHeartbeats 4000000
set_option autoImplicit false
/-! More rules: calls that read lists which are changed later. -/
namespace WR
open PySem PySem.Spec PyProof.Rows L2
mutual
/-- no list, no dict in it -/
def D.solid : D → Bool
  | .tup xs => solidL xs
  | .lst _ => false
  | .dic _ _ => false
  | .scr _ => false
  | _ => true
def solidL : List D → Bool
  | [] => true
  | x :: xs => x.solid && solidL xs
end
def isLD : HO → Prop
  | .lst _ => True
  | .dK _ => True
  | _ => False
mutual
theorem Rep.off {K : PySem.W.Frag} {F G : Hp} (h : ∀ b o, F b = some o → ¬ isLD o → G b = some o) : ∀ {v : V} {d : D}, d.solid = true → Rep K F v d → Rep K G v d
  | _, _, _, .non => .non
  | _, _, _, .bl b => .bl b
  | _, _, _, .int i => .int i
  | _, _, _, .str x => .str x
  | _, _, _, .ty n => .ty n
  | _, _, _, .obj a => .obj a
  | _, _, _, .exc e => .exc (h _ _ e (fun z => z))
  | _, _, s, .tup q l => by
    unfold D.solid at s
    refine .tup ?_ (RepL.off h s l)
    rcases q with (q | ⟨o, q⟩) | q
    · exact .inl (.inl (h _ _ q (fun z => z)))
    · exact .inl (.inr ⟨o, h _ _ q (fun z => z)⟩)
    · exact .inr q
  | _, _, s, .lst _ _ => by unfold D.solid at s; cases s
  | _, _, s, .scr _ => by unfold D.solid at s; cases s
  | _, _, s, .dic _ _ _ => by unfold D.solid at s; cases s
theorem RepL.off {K : PySem.W.Frag} {F G : Hp} (h : ∀ b o, F b = some o → ¬ isLD o → G b = some o) : ∀ {vs : List V} {ds : List D}, solidL ds = true → RepL K F vs ds → RepL K G vs ds
  | _, _, _, .nil => .nil
  | _, _, s, .cons r l => by
    unfold solidL at s
    rw [Bool.and_eq_true] at s
    exact .cons (Rep.off h s.1 r) (RepL.off h s.2 l)
end
/-- an outcome without lists but for its own top -/
def solR (r : Re) (k : Prop) : Prop := match r with
  | .va d => d.solid = true ∧ k
  | .nw (.lst ds) => solidL ds = true ∧ k
  | .nw (.dic _ ds) => solidL ds = true ∧ k
  | _ => False
theorem solR_ok {K : PySem.W.Frag} {F F' H H' : Hp} {v : V} {r : Re} {k : Prop} (h : solR r k) (x : NewR K F' H H' v r) (ho : ∀ b o, F' b = some o → ¬ isLD o → F b = some o) (hf : ∀ b, F' b = none → F b = none) : NewR K F H H' v r ∧ k := by
  unfold solR at h
  split at h
  · exact ⟨Rep.off ho h.1 x, h.2⟩
  · obtain ⟨p, e, f, h0, vs, e2, l⟩ := x
    exact ⟨⟨p, e, hf p f, h0, vs, e2, RepL.off ho h.1 l⟩, h.2⟩
  · obtain ⟨p, e, f, h0, kvs, e2, e3, l⟩ := x
    exact ⟨⟨p, e, hf p f, h0, kvs, e2, e3, RepL.off ho h.1 l⟩, h.2⟩
  · exact h.elim
section
variable {X : Cx} {W : WX} {k : Nat} {f : Addr} {fd : FuncData} {ps : List Str} {x : Str} {p pos : Pos} {e : Expr} {es : List Expr} {mas : MA}
/-- a call that reads its arguments, and keeps nothing of them -/
def mCallW (psp : P0) (m : MA) : MX := fun ρ Q E => m ρ (fun rs ρ1 => opds rs ρ1 fun ds => psp ds (fun r => solR r (Q r ρ1)) (fun x => x.2 = none ∧ E x ρ1)) E
/-- lists that are handed, and not frozen -/
def Lent (F H : Hp) (vs : List V) (b : Addr) : Prop := F b = none ∧ .ref b ∈ vs ∧ ∃ o, H b = some o ∧ isLD o
open Classical in
noncomputable def lendF (F H : Hp) (vs : List V) : Hp := fun b => if Lent F H vs b then H b else F b
open Classical in
noncomputable def backF (F H : Hp) (vs : List V) (F2 : Hp) : Hp := fun b => if Lent F H vs b then none else F2 b
theorem lend_ff {F H : Hp} {vs : List V} : Same F (lendF F H vs) := fun b o e => by
  unfold lendF
  rw [if_neg (fun z => by rw [z.1] at e; cases e)]; exact e
theorem lend_fh {F H : Hp} {vs : List V} (sf : Same F H) : Same (lendF F H vs) H := fun b o e => by
  unfold lendF at e
  split at e
  · exact e
  · exact sf b o e
theorem lend_one {K : PySem.W.Frag} {F H : Hp} {vs : List V} {v : V} {d : D} (sf : Same F H) (t : Top K F H v d) (hv : v ∈ vs) : Rep K (lendF F H vs) v d := by
  rcases t with r | ⟨p, e, o⟩
  · exact r.mono lend_ff
  · rw [e]
    refine Owned.rep lend_ff (fun u hu => ?_) o
    by_cases hl : Lent F H vs p
    · unfold lendF; rw [if_pos hl]; exact hu
    · unfold lendF; rw [if_neg hl]
      cases q : F p with
      | some w => rw [← hu]; exact (sf p w q).symm
      | none =>
        refine absurd ⟨q, by rw [← e]; exact hv, u, hu, ?_⟩ hl
        cases d with
        | lst ds => obtain ⟨ws, e1, _⟩ := o; rw [e1] at hu; cases hu; trivial
        | dic ks ds => obtain ⟨ws, e1, _⟩ := o; rw [e1] at hu; cases hu; trivial
        | _ => exact (show False from o).elim
theorem lend_all {K : PySem.W.Frag} {F H : Hp} {us : List V} (sf : Same F H) : ∀ {vs : List V} {ds : List D}, (∀ v ∈ vs, v ∈ us) → Tops K F H vs ds → RepL K (lendF F H us) vs ds
  | _, _, _, .nil => .nil
  | _, _, h, .cons a b => .cons (lend_one sf a (h _ (by simp))) (lend_all sf (fun v hv => h v (List.mem_cons_of_mem _ hv)) b)
theorem back_new {F H H' F2 : Hp} {vs : List V} (sf : Same F H) (n : New (lendF F H vs) F2 H H') : New F (backF F H vs F2) H H' where
  ff := fun b o e => by
    unfold backF
    rw [if_neg (fun z => by rw [z.1] at e; cases e)]
    exact n.ff b o (lend_ff b o e)
  hh := n.hh
  fh := fun b o e => by
    unfold backF at e
    split at e
    · cases e
    · exact n.fh b o e
  nf := fun b o e => by
    unfold backF at e
    split at e
    · cases e
    · rename_i hl
      rcases n.nf b o e with z | z
      · unfold lendF at z; rw [if_neg hl] at z; exact .inl z
      · exact .inr z
theorem back_off {F H H' F2 : Hp} {vs : List V} (n : New (lendF F H vs) F2 H H') : (∀ b o, F2 b = some o → ¬ isLD o → backF F H vs F2 b = some o) ∧ ∀ b, F2 b = none → backF F H vs F2 b = none := by
  refine ⟨fun b o e hn => ?_, fun b e => ?_⟩
  · unfold backF
    rw [if_neg (fun hl => ?_)]
    · exact e
    · obtain ⟨_, _, o', e1, e2⟩ := id hl
      have : lendF F H vs b = some o' := by unfold lendF; rw [if_pos hl]; exact e1
      have := n.ff b o' this
      rw [e] at this; cases this
      exact hn e2
  · unfold backF
    split
    · rfl
    · exact e
theorem q_callW {psp : P0} (Fn : FnOk X.prog X.w X.K X.mg X.base (L2.CX X.prog X.w) k f fd ps (sp0 X.K psp)) (hr : Room k X.A) (hm : X.mg x = some (.ref f)) (hk : PySem.W.keepIn X.K (.ref f) = true) (hb : Binds X.K fd ps []) (tk : Takes X W)
    (ha : QA X W (e :: es) mas) (hg : Gl X x := by rfl) (hdb : (x == ("__debug__" : Str)) = false := by decide) (he : starEach (e :: es) X.env = (false, eval e X.env) :: starEach es X.env := by rfl) (hpl : (backTo pos (starEach es X.env)).any (·.1) = false := by rfl) :
    QX X W (.Call (.Name x p) (e :: es) [] pos) (mCallW psp mas) := (pe_callS Fn hr hg hm hk hb (fun σ => passAt tk σ) ha hdb he hpl).imp fun σ H Q' ⟨G, F, ρ, Q, E, ok, hm, hp, he⟩ =>
  ⟨G, F, ρ, _, E, ok, hm, fun rs vs ρ1 F1 H1 ok1 g1 res h1 => by
    obtain ⟨ds, ts, h2⟩ := opds_top ok1 res h1
    refine ⟨lendF F1 H1 vs, ds, _, _, lend_fh ok1.sf, lend_all ok1.sf (fun _ h => h) ts, h2, fun r v F3 H3 n x q => ?_, fun x da F3 H3 n xo ⟨x2, q⟩ => ?_⟩
    · obtain ⟨b1, b2⟩ := back_off n
      obtain ⟨x', q'⟩ := solR_ok q x b1 b2
      exact (hp.after g1).new ok1 (back_new ok1.sf n) x' q'
    · have n' := back_new ok1.sf n
      refine he x ρ1 _ H3 da (ok1.grow n') (g1.trans (.new n')) ?_ q
      rw [x2] at xo ⊢
      cases da with
      | none => trivial
      | some _ => exact (show False from xo).elim, he⟩
theorem c_callW {psp : P0} (Fn : Fok X.prog X.w X.K X.mg X.base k f ps (sp0 X.K psp)) (hr : Room k X.A) (hm : X.mg x = some (.ref f)) (tk : Takes X W)
    (ha : QA X W (e :: es) mas) (hg : Gl X x := by rfl) (hdb : (x == ("__debug__" : Str)) = false := by decide) (he : starEach (e :: es) X.env = (false, eval e X.env) :: starEach es X.env := by rfl) (hpl : (backTo pos (starEach es X.env)).any (·.1) = false := by rfl) :
    QX X W (.Call (.Name x p) (e :: es) [] pos) (mCallW psp mas) := by
  obtain ⟨fd, F, b, kp, _⟩ := Fn
  exact q_callW F hr hm kp b tk ha hg hdb he hpl
end
/-! ### rows -/
theorem solidL_map {α : Type} {f : α → D} (h : ∀ a, (f a).solid = true) : ∀ as : List α, solidL (as.map f) = true
  | [] => by simp [solidL]
  | a :: as => by simp [solidL, h a, solidL_map h as]
theorem fD_solid (q : Rat) : (fD q).solid = true := by simp [fD, D.solid, solidL]
theorem bD_solid (b : Bx) : (bD b).solid = true := by simp [bD, D.solid, solidL, fD_solid]
theorem SP2 : (∀ (psp : P0) (m : MA) (ρ : Nv) (Q : QK) (E : EK), mCallW psp m ρ Q E = m ρ (fun rs ρ1 => opds rs ρ1 fun ds => psp ds (fun r => solR r (Q r ρ1)) (fun x => x.2 = none ∧ E x ρ1)) E) ∧ True := ⟨by intros; rfl, trivial⟩
theorem SB2 : (∀ (d : D) (k : Prop), solR (.va d) k = (d.solid = true ∧ k)) ∧ (∀ (ds : List D) (k : Prop), solR (.nw (.lst ds)) k = (solidL ds = true ∧ k)) ∧ (D.non.solid = true) ∧ (∀ b : Bool, (D.bl b).solid = true) ∧ (∀ i : Int, (D.int i).solid = true) ∧ (∀ s : Str, (D.str s).solid = true) ∧ (∀ a : Addr, (D.exc a).solid = true) ∧ (∀ q : Rat, (fD q).solid = true) ∧ (∀ b : Bx, (bD b).solid = true) ∧ (∀ xs : List D, (D.tup xs).solid = solidL xs) ∧ (solidL [] = true) ∧ (∀ (x : D) (xs : List D), solidL (x :: xs) = (x.solid && solidL xs)) ∧ (∀ bs : List Bx, solidL (bs.map bD) = true) ∧ (∀ bs : List Int, solidL (bs.map D.int) = true) :=
  ⟨by intros; rfl, by intros; rfl, rfl, by intros; rfl, by intros; rfl, by intros; rfl, by intros; rfl, fD_solid, bD_solid, by intros; simp [D.solid], by simp [solidL], by intros; simp [solidL], fun bs => solidL_map bD_solid bs, fun bs => solidL_map (fun _ => by simp [D.solid]) bs⟩
end WR

set_option Elab.async false
set_option linter.all false
set_option maxRecDepth 100000
set_option maxHeartbeats 4000000
set_option autoImplicit false
/-! More rules: in, index, count, {}, except without a name, calls of values. -/
namespace WR
open PySem PySem.Spec PyProof.Rows L2
/-! ### flat things -/
def D.fl : D → Option V
  | .non => some .non
  | .bl b => some (.bl b)
  | .int i => some (.int i)
  | .str s => some (.str s)
  | _ => none
def D.flat (d : D) : Bool := d.fl.isSome
theorem Rep.fl {K : PySem.W.Frag} {F : Hp} {v w : V} {d : D} (h : Rep K F v d) (e : d.fl = some w) : v = w := by
  cases h <;> simp [D.fl] at e <;> exact e
theorem fl_flatV {d : D} {w : V} (e : d.fl = some w) : flatV w = true := by
  cases d <;> simp [D.fl] at e <;> subst e <;> rfl
theorem fl_eq {x y : D} {u w : V} (hx : x.fl = some u) (hy : y.fl = some w) : eqV w u = deq y x := by
  cases x <;> simp [D.fl] at hx <;> subst hx <;> cases y <;> simp [D.fl] at hy <;> subst hy <;> simp [eqV, deq, D.py, PyData.eqv]
theorem RepL.fl {K : PySem.W.Frag} {F : Hp} {x : D} {u : V} (hx : x.fl = some u) : ∀ {vs : List V} {ys : List D}, RepL K F vs ys → ys.all D.flat = true → vs.all flatV = true ∧ vs.map (fun y => eqV y u) = ys.map (fun y => deq y x)
  | _, _, .nil, _ => ⟨rfl, rfl⟩
  | _, _, .cons (d := d) r l, h => by
    rw [List.all_cons, Bool.and_eq_true] at h
    obtain ⟨w, hw⟩ := Option.isSome_iff_exists.mp h.1
    obtain ⟨h1, h2⟩ := RepL.fl hx l h.2
    have e := r.fl hw
    subst e
    refine ⟨by rw [List.all_cons, fl_flatV hw, h1]; rfl, ?_⟩
    rw [List.map_cons, List.map_cons, h2, fl_eq hx hw]
theorem any_map' {α β : Type} (f : α → Bool) (g : β → Bool) : ∀ {xs : List α} {ys : List β}, xs.map f = ys.map g → xs.any f = ys.any g
  | [], [], _ => rfl
  | [], _ :: _, h => by cases h
  | _ :: _, [], h => by cases h
  | x :: xs, y :: ys, h => by
    simp only [List.map_cons, List.cons.injEq] at h
    rw [List.any_cons, List.any_cons, h.1, any_map' f g h.2]
theorem countP_map' {α β : Type} (f : α → Bool) (g : β → Bool) : ∀ {xs : List α} {ys : List β}, xs.map f = ys.map g → xs.countP f = ys.countP g
  | [], [], _ => rfl
  | [], _ :: _, h => by cases h
  | _ :: _, [], h => by cases h
  | x :: xs, y :: ys, h => by
    simp only [List.map_cons, List.cons.injEq] at h
    rw [List.countP_cons, List.countP_cons, h.1, countP_map' f g h.2]
/-! ### in -/
def inD (x : D) (ys : List D) : Bool := ys.any fun y => deq y x
def fInN (neg : Bool) : D → D → (Re → Prop) → Prop := fun x y Q => match y with
  | .lst ys => x.flat = true ∧ ys.all D.flat = true ∧ Q (.va (.bl (inD x ys != neg)))
  | .tup ys => x.flat = true ∧ ys.all D.flat = true ∧ Q (.va (.bl (inD x ys != neg)))
  | .str z => (match x with
    | .str s => ∃ c : Nat, s = ⟨#[c]⟩ ∧ Q (.va (.bl (decide (c ∈ z.cps.toList) != neg)))
    | _ => False)
  | _ => False
def fIn := fInN false
def fNotIn := fInN true
theorem in_snd {K : PySem.W.Frag} (neg : Bool) : OpS K (fInN neg) (fun x y H Q => (rIn K neg x y H Q) ∨ (∃ (c : Nat) (z : Str), x = .str ⟨#[c]⟩ ∧ y = .str z ∧ Q (.bl (if neg then !decide (c ∈ z.cps.toList) else decide (c ∈ z.cps.toList))) H)) := by
  intro F H x y dx dy Q Q' sf tx ty h k
  unfold fInN at h
  have seq : ∀ {ys : List D} {vs : List V} {p : Addr}, RepL K F vs ys → dx.flat = true → ys.all D.flat = true → Q (.va (.bl (inD dx ys != neg))) → (SqL K H p vs ∨ SqT K H p vs) → y = .ref p → rIn K neg x y H Q' := fun {ys vs p} l hf ha hq sq ey => by
    obtain ⟨u, hu⟩ := Option.isSome_iff_exists.mp hf
    have rx : x = u := by
      rcases tx with z | ⟨q, _, o⟩
      · exact z.fl hu
      · cases dx <;> first | (simp [D.fl] at hu; done) | exact (show False from o).elim
    subst rx
    obtain ⟨h1, h2⟩ := l.fl hu ha
    refine ⟨p, vs, ey, sq, fl_flatV hu, h1, ?_⟩
    have e : inV x vs = inD dx ys := any_map' _ _ h2
    rw [e]
    have e2 : (if neg then !inD dx ys else inD dx ys) = (inD dx ys != neg) := by cases neg <;> cases inD dx ys <;> rfl
    have e3 : (if neg = true then !inD dx ys else inD dx ys) = (inD dx ys != neg) := e2
    rw [e3]
    exact k (.va _) _ F H (.refl sf) (.bl _) hq
  split at h
  · obtain ⟨a, vs, e, hl, l⟩ := ty.lst sf
    exact .inl (seq l h.1 h.2.1 h.2.2 (.inl (SqL.of hl)) e)
  · obtain ⟨a, vs, e, hl, l⟩ := ty.tup sf
    exact .inl (seq l h.1 h.2.1 h.2.2 (.inr hl) e)
  · split at h
    · obtain ⟨c, rfl, h⟩ := h
      refine .inr ⟨c, _, tx.str, ty.str, ?_⟩
      have e2 : ∀ b : Bool, (if neg then !b else b) = (b != neg) := fun b => by cases neg <;> cases b <;> rfl
      rw [e2]
      exact k (.va _) _ F H (.refl sf) (.bl _) h
    · exact h.elim
  · exact h.elim
section
variable {X : Cx} {W : WX} {a b : Expr} {pos : Pos} {ma mb : MX} {k : Nat}
theorem op_inN : OpR X (compareOp .In) (fun x y H Q => (rIn X.K false x y H Q) ∨ (∃ (c : Nat) (z : Str), x = .str ⟨#[c]⟩ ∧ y = .str z ∧ Q (.bl (if false then !decide (c ∈ z.cps.toList) else decide (c ∈ z.cps.toList))) H)) := op_in_seq.or op_in_sign
theorem op_ninN : OpR X (compareOp .NotIn) (fun x y H Q => (rIn X.K true x y H Q) ∨ (∃ (c : Nat) (z : Str), x = .str ⟨#[c]⟩ ∧ y = .str z ∧ Q (.bl (if true then !decide (c ∈ z.cps.toList) else decide (c ∈ z.cps.toList))) H)) := op_notIn_seq.or op_notIn_sign
theorem q_in (hr : Room k X.A) (ha : QX X W a ma) (hb : QX X W b mb) (hm : behindInMarks .In b = false := by rfl) : QX X W (.Compare a [.In] [b] pos) (mBin fIn ma mb) := q_cmp op_inN (in_snd false) ha hb hm
theorem q_tin (hr : Room k X.A) (ha : QX X W a ma) (hb : QX X W b mb) (hm : behindInMarks .In b = false := by rfl) : QT X W (.Compare a [.In] [b] pos) (mTest (mBin fIn ma mb)) := q_tcmp op_inN (in_snd false) ha hb hm
theorem q_nin (hr : Room k X.A) (ha : QX X W a ma) (hb : QX X W b mb) (hm : behindInMarks .NotIn b = false := by rfl) : QX X W (.Compare a [.NotIn] [b] pos) (mBin fNotIn ma mb) := q_cmp op_ninN (in_snd true) ha hb hm
theorem q_tnin (hr : Room k X.A) (ha : QX X W a ma) (hb : QX X W b mb) (hm : behindInMarks .NotIn b = false := by rfl) : QT X W (.Compare a [.NotIn] [b] pos) (mTest (mBin fNotIn ma mb)) := q_tcmp op_ninN (in_snd true) ha hb hm
end
/-! ### is None, as a test -/
section
variable {X : Cx} {W : WX} {a : Expr} {pos : Pos} {ma : MX}
theorem q_tisN {j p2} (ha : QX X W a ma) : QT X W (.Compare a [.Is] [.Constant .none j p2] pos) (mTest (mIsN false ma)) := (pt_cmpR op_isN ha pe_non (nomark _)).imp fun σ H Q' h => tX_test (t := tOp (fun x y H Q => y = .non ∧ Q (.bl (decide (x = .non))) H) (tX X.K W ma) (tC .non)) (fun σ H Q' ⟨G, F, ρ, Q, E, ok, hm, hp, he⟩ =>
  tX.mk ok hm (fun r v ρ1 F1 H1 ok1 g1 re1 rf1 h1 => by
    obtain ⟨d, td, h2⟩ := opd_top ok1 re1 h1
    refine ⟨rfl, ?_⟩
    rw [td.isNon]
    exact hp (.va (.bl (d.isNon != false))) _ ρ1 F1 H1 ok1 g1 (by cases d.isNon <;> exact .bl _) trivial h2) he) h
theorem q_tnotN {j p2} (ha : QX X W a ma) : QT X W (.Compare a [.IsNot] [.Constant .none j p2] pos) (mTest (mIsN true ma)) := (pt_cmpR op_notN ha pe_non (nomark _)).imp fun σ H Q' h => tX_test (t := tOp (fun x y H Q => y = .non ∧ Q (.bl (!decide (x = .non))) H) (tX X.K W ma) (tC .non)) (fun σ H Q' ⟨G, F, ρ, Q, E, ok, hm, hp, he⟩ =>
  tX.mk ok hm (fun r v ρ1 F1 H1 ok1 g1 re1 rf1 h1 => by
    obtain ⟨d, td, h2⟩ := opd_top ok1 re1 h1
    refine ⟨rfl, ?_⟩
    rw [td.isNon]
    exact hp (.va (.bl (d.isNon != true))) _ ρ1 F1 H1 ok1 g1 (by cases d.isNon <;> exact .bl _) trivial h2) he) h
end
/-! ### {} -/
section
variable {X : Cx} {W : WX} {pos : Pos}
def mDic0 : MX := fun ρ Q _ => Q (.nw (.dic [] [])) ρ
theorem q_dic0 : QX X W (.Dict [] [] pos) mDic0 := pe_dnewK.imp fun σ H Q' ⟨G, F, ρ, Q, E, ok, hm, hp, _⟩ => fun p hq => by
  obtain ⟨n, f⟩ := new_obj (o := .dK []) ok.sf hq
  exact hp.new ok n (r := .nw (.dic [] [])) ⟨p, rfl, f, hq, [], upd_same, rfl, .nil⟩ hm
end
/-! ### index, count: methods that read -/
def MthR (K : PySem.W.Frag) (f : D → List D → (Re → Prop) → Prop) (r : V → List V → Hp → VK → Prop) : Prop := ∀ (F H : Hp) (x : V) (xs : List V) (o : D) (ds : List D) (Q : Re → Prop) (Q' : VK), Same F H → Top K F H x o → Tops K F H xs ds → f o ds Q →
  (∀ (re : Re) (v : V) (F' H' : Hp), New F F' H H' → NewR K F' H H' v re → Q re → Q' v H') → r x xs H Q'
def lstD : D → Prop
  | .lst _ => True
  | .scr _ => True
  | _ => False
def mMthR (f : D → List D → (Re → Prop) → Prop) (mo : MX) (ma : MA) : MX := fun ρ Q E => mo ρ (fun ro ρ1 => opd ro ρ1 fun o0 => lstD o0 ∧ ma ρ1 (fun rs ρ2 => opd ro ρ2 fun o => opds rs ρ2 fun ds => f o ds fun r => Q r ρ2) E) E
section
variable {X : Cx} {W : WX} {o e : Expr} {es : List Expr} {name : Str} {id : String} {apos cpos : Pos} {mo : MX} {mas : MA} {f : D → List D → (Re → Prop) → Prop} {r : V → List V → Hp → VK → Prop}
theorem q_mthR (pa : PlainAttrs "list") (slot : Slot "list" name id) (hty : typeOf (.builtin id) = pure (.type "method_descriptor")) (hm : MtR X id r) (hs : MthR X.K f r) (ho : QX X W o mo) (ha : QA X W (e :: es) mas)
    (hbase : attributeBase o name X.env (eval o X.env) = eval o X.env := by rfl)
    (hfew : ((backTo cpos (starEach (e :: es) X.env)).all (fun x => !x.1) && (backToKw cpos (keywordEach [] X.env)).all (fun x => x.1.isSome)
      && decide ((e :: es).length + ([] : List Keyword).length + (if ([] : List Keyword).isEmpty then 0 else 1) < 30)) = true := by rfl)
    (hline : (apos.endLine == cpos.line) = true := by rfl) (hse : starEach (e :: es) X.env = (false, eval e X.env) :: starEach es X.env := by rfl) (hplain : (backTo cpos (starEach es X.env)).any (·.1) = false := by rfl) :
    QX X W (.Call (.Attribute o name apos) (e :: es) [] cpos) (mMthR f mo mas) := (pe_bm pa slot hty hm ho ha hbase hfew hline hse hplain).imp fun σ H Q' ⟨G, F, ρ, Q, E, ok, hm, hp, he⟩ =>
  tX.mk ok hm (fun ro v ρ1 F1 H1 ok1 g1 re1 rf1 h1 => by
    obtain ⟨o0, t0, ho, h2⟩ := opd_top ok1 re1 h1
    refine ⟨?_, G, F1, ρ1, _, E, ok1, h2, fun rs vs ρ2 F2 H2 ok2 g2 res h3 => ?_, he.after g1⟩
    · unfold lstD at ho
      split at ho
      · obtain ⟨a, ws, e, hl, _⟩ := t0.lst ok1.sf
        subst e
        exact .inl ⟨rfl, _, SqL.of hl⟩
      · obtain ⟨a, e, hl⟩ := t0.scr ok1.sf
        subst e
        exact .inl ⟨rfl, _, hl⟩
      · exact ho.elim
    · obtain ⟨oo, too, h4⟩ := opd_top ok2 (re1.mono g2) h3
      obtain ⟨ds, ts, h5⟩ := opds_top ok2 res h4
      exact hs F2 H2 v vs oo ds _ Q' ok2.sf too ts h5 fun re w F3 H3 n x q => (hp.after (g1.trans g2)).new ok2 n x q) he
end
theorem Top.fl {K : PySem.W.Frag} {F H : Hp} {x u : V} {d : D} (h : Top K F H x d) (e : d.fl = some u) : x = u := by
  rcases h with z | ⟨q, _, o⟩
  · exact z.fl e
  · cases d <;> first | (simp [D.fl] at e; done) | exact (show False from o).elim
/-- the first place of x -/
def idxD (x : D) : List D → Option Nat
  | [] => none
  | y :: ys => if deq y x = true then some 0 else (idxD x ys).map (· + 1)
def fIndex : D → List D → (Re → Prop) → Prop := fun o ds Q => match o, ds with
  | .lst ys, [x] => x.plain = true ∧ plainL ys = true ∧ x.dep ≤ 60 ∧ depL ys ≤ 60 ∧ atK (idxD x ys) fun j => Q (.va (.int (j : Nat)))
  | _, _ => False
def fCount : D → List D → (Re → Prop) → Prop := fun o ds Q => match o, ds with
  | .lst ys, [x] => x.flat = true ∧ ys.all D.flat = true ∧ Q (.va (.int (ys.countP fun y => deq y x : Nat)))
  | _, _ => False
theorem idxD_spec {x : D} : ∀ {ys : List D} {j : Nat}, idxD x ys = some j → (∃ z, ys[j]? = some z ∧ deq z x = true) ∧ ∀ m z', m < j → ys[m]? = some z' → deq z' x = false
  | [], j, h => by cases h
  | y :: ys, j, h => by
    unfold idxD at h
    split at h
    · rename_i hy
      cases h
      exact ⟨⟨y, rfl, hy⟩, fun m z' hm => absurd hm (by omega)⟩
    · rename_i hy
      simp only [Option.map_eq_some_iff] at h
      obtain ⟨j', h1, rfl⟩ := h
      obtain ⟨⟨z, z1, z2⟩, h3⟩ := idxD_spec h1
      refine ⟨⟨z, by simpa using z1, z2⟩, fun m z' hm e => ?_⟩
      cases m with
      | zero => simp at e; subst e; simpa using hy
      | succ m => exact h3 m z' (by omega) (by simpa using e)
theorem map_get {α β γ : Type} (f : α → γ) (g : β → γ) : ∀ {xs : List α} {ys : List β}, xs.map f = ys.map g → ∀ j : Nat, (∀ y, ys[j]? = some y → ∃ x, xs[j]? = some x ∧ f x = g y) ∧ (∀ x, xs[j]? = some x → ∃ y, ys[j]? = some y ∧ f x = g y)
  | [], [], _, j => by simp
  | [], _ :: _, h, j => by cases h
  | _ :: _, [], h, j => by cases h
  | x :: xs, y :: ys, h, j => by
    simp only [List.map_cons, List.cons.injEq] at h
    cases j with
    | zero => simp [h.1]
    | succ j => simpa using map_get f g h.2 j
theorem pyL_map : ∀ ys : List D, pyL ys = ys.map D.py
  | [] => by simp [pyL]
  | y :: ys => by simp [pyL, pyL_map ys]
theorem shaped_of {d : D} (h : d.plain = true) (hd : d.dep ≤ 64) : SeqAt.shaped d.py = true := by
  unfold SeqAt.shaped
  rw [D.lay d h, D.py_dep, decide_eq_true hd]; rfl
theorem index_snd {K : PySem.W.Frag} : MthR K fIndex (rIndexD K) := by
  intro F H x xs o ds Q Q' sf to ts h k
  unfold fIndex at h
  split at h
  · rename_i ys d
    obtain ⟨y, rfl, ty⟩ := ts.one
    obtain ⟨hp, hps, hd, hds, j, hj, q⟩ := h
    obtain ⟨a, vs, e, hl, l⟩ := to.lst sf
    have r1 := (to.rep sf).dp (show D.plain (.lst ys) = true by simp only [D.plain]; exact hps)
    have r2 := (ty.rep sf).dp hp
    rw [e] at r1
    have e1 : D.py (.lst ys) = .list (pyL ys) := by simp [D.py]
    rw [e1] at r1
    obtain ⟨⟨z, z1, z2⟩, h3⟩ := idxD_spec hj
    refine ⟨a, y, d.py, pyL ys, j, z.py, e, rfl, r1, r2, ?_, shaped_of hp (by omega), ?_, z2, fun m z' hm e => ?_, k (.va _) _ F H (.refl sf) (.int _) q⟩
    · rw [← e1]; exact shaped_of (by simp only [D.plain]; exact hps) (by simp only [D.dep]; omega)
    · rw [pyL_map, List.getElem?_map, z1]; rfl
    · rw [pyL_map, List.getElem?_map] at e
      cases hy : ys[m]? with
      | none => rw [hy] at e; cases e
      | some w => rw [hy] at e; cases e; exact h3 m w hm hy
  · exact h.elim
theorem countU {x : V} : ∀ {xs : List V} {us : List Value}, Vals xs us → xs.all flatV = true → us.countP (eqU x) = xs.countP fun y => eqV y x
  | _, _, .nil, _ => rfl
  | y :: xs, u :: us, .cons r t, f => by
    rw [List.all_cons, Bool.and_eq_true] at f
    rw [List.countP_cons, List.countP_cons, eqU_of r f.1, countU t f.2]
def rCntF (K : PySem.W.Frag) : V → List V → Hp → VK → Prop := fun x xs H Q => ∃ (p : Addr) (ys : List V) (y : V), x = .ref p ∧ xs = [y] ∧ SqL K H p ys ∧ flatV y = true ∧ ys.all flatV = true ∧ Q (.int (ys.countP fun z => eqV z y : Nat)) H
theorem mt_countF {X : Cx} : MtR X "list.count" (rCntF X.K) := by
  intro pins s σ H x xs v us Q I rx rxs h
  obtain ⟨p, ys, y, rfl, rfl, hs, fy, fys, q⟩ := h
  cases rx
  obtain ⟨u, rfl, ru⟩ := rxs.one
  obtain ⟨its, rv, ⟨⟨cls, dd, data, sl⟩, n, ho, hc, hdn, hd⟩, hlen⟩ := I.list hs
  simp only at hc hd
  subst hc hd
  refine call_meets PySem.F.slot_list_count ⟨_, ho, rfl⟩ PySem.F.entry_list_count (PySem.F.args_list_count_2 _ _)
    (SeqAt.list_countAt p its.toArray n dd sl u (eqU y)) ⟨ho, fun w hw => mem_eqAt ru fy rv fys w (by simpa using hw), ?_⟩
  have ec : its.toArray.toList.countP (eqU y) = ys.countP fun z => eqV z y := countU rv fys
  refine ⟨.int (ys.countP fun z => eqV z y : Nat), H, I.tok _, ⟨s.toks, ?_⟩, q⟩
  show Value.int ((its.toArray.toList.countP (eqU y) : Nat) : Int) s.toks = _
  rw [ec]
theorem count_snd {K : PySem.W.Frag} : MthR K fCount (rCntF K) := by
  intro F H x xs o ds Q Q' sf to ts h k
  unfold fCount at h
  split at h
  · rename_i ys d
    obtain ⟨y, rfl, ty⟩ := ts.one
    obtain ⟨hf, ha, q⟩ := h
    obtain ⟨u, hu⟩ := Option.isSome_iff_exists.mp hf
    have e := ty.fl hu
    subst e
    obtain ⟨a, vs, rfl, hl, l⟩ := to.lst sf
    obtain ⟨h1, h2⟩ := l.fl hu ha
    refine ⟨a, vs, y, rfl, rfl, SqL.of hl, fl_flatV hu, h1, ?_⟩
    rw [countP_map' _ _ h2]
    exact k (.va _) _ F H (.refl sf) (.int _) q
  · exact h.elim
section
variable {X : Cx} {W : WX} {o e : Expr} {apos cpos : Pos} {mo : MX} {mas : MA}
theorem q_index {k : Nat} (hr : Room k X.A) (ho : QX X W o mo) (ha : QA X W [e] mas) (hbase : attributeBase o "index" X.env (eval o X.env) = eval o X.env := by rfl)
    (hfew : ((backTo cpos (starEach [e] X.env)).all (fun x => !x.1) && (backToKw cpos (keywordEach [] X.env)).all (fun x => x.1.isSome)
      && decide ([e].length + ([] : List Keyword).length + (if ([] : List Keyword).isEmpty then 0 else 1) < 30)) = true := by rfl)
    (hline : (apos.endLine == cpos.line) = true := by rfl) (hse : starEach [e] X.env = (false, eval e X.env) :: starEach [] X.env := by rfl) :
    QX X W (.Call (.Attribute o "index" apos) [e] [] cpos) (mMthR fIndex mo mas) := q_mthR PySem.F.plainAttrs_list PySem.F.slot_list_index PySem.F.type_list_index (mt_indexD (by have := hr.un; omega)) index_snd ho ha hbase hfew hline hse
theorem q_count (ho : QX X W o mo) (ha : QA X W [e] mas) (hbase : attributeBase o "count" X.env (eval o X.env) = eval o X.env := by rfl)
    (hfew : ((backTo cpos (starEach [e] X.env)).all (fun x => !x.1) && (backToKw cpos (keywordEach [] X.env)).all (fun x => x.1.isSome)
      && decide ([e].length + ([] : List Keyword).length + (if ([] : List Keyword).isEmpty then 0 else 1) < 30)) = true := by rfl)
    (hline : (apos.endLine == cpos.line) = true := by rfl) (hse : starEach [e] X.env = (false, eval e X.env) :: starEach [] X.env := by rfl) :
    QX X W (.Call (.Attribute o "count" apos) [e] [] cpos) (mMthR fCount mo mas) := q_mthR PySem.F.plainAttrs_list PySem.F.slot_list_count PySem.F.type_list_count mt_countF count_snd ho ha hbase hfew hline hse
end
/-! ### calls of values -/
section
variable {X : Cx} {W : WX} {k : Nat} {p pos : Pos} {fe e : Expr} {es : List Expr} {mf : MX} {mas : MA}
def onObj (r : Re) (k : Addr → Prop) : Prop := match r with
  | .va (.obj a) => k a
  | _ => False
/-- defs that may be called by their values -/
abbrev Tab := List (Addr × P0)
def TabOk (X : Cx) (k : Nat) (T : Tab) : Prop := ∀ q ∈ T, ∃ ps, Fok X.prog X.w X.K X.mg X.base k q.1 ps (sp0 X.K q.2)
def mCallE (T : Tab) (mf : MX) (m : MA) : MX := fun ρ Q E => mf ρ (fun r ρ1 => onObj r fun a => ∃ psp, (a, psp) ∈ T ∧ m ρ1 (fun rs ρ2 => frzL rs ρ2 fun ds ρ3 => psp ds (fun r => Q r ρ3) (fun x => E x ρ3)) E) E
theorem q_callE {T : Tab} (hT : TabOk X k T) (hr : Room k X.A) (tk : Takes X W) (hf : QX X W fe mf) (ha : QA X W (e :: es) mas)
    (ht : eval (.Call fe (e :: es) [] pos) X.env = (do callWith pos (← eval fe X.env) [] (backTo pos (starEach (e :: es) X.env)) (backToKw pos (keywordEach [] X.env))) := by rfl)
    (he : starEach (e :: es) X.env = (false, eval e X.env) :: starEach es X.env := by rfl) (hpl : (backTo pos (starEach es X.env)).any (·.1) = false := by rfl) :
    QX X W (.Call fe (e :: es) [] pos) (mCallE T mf mas) := by
  refine ⟨fun pins s σ H Q' I ⟨G, F, ρ, Q, E, ok, hm, hp, hE⟩ => ?_⟩
  refine Call_ (thn (hf.run pins s σ H (fun v H1 => ∃ a : Addr, v = .ref a ∧ ∃ psp, (a, psp) ∈ T ∧ tA X.K W mas σ H1 fun vs H2 => sp0 X.K psp vs H2 Q' (fun cls d H' => W cls d σ H')) I ?_) fun u s1 ⟨y, H1, I1, ry, a, ey, psp, hT1, q⟩ => ?_) ht
  · refine tX.mk ok hm (fun r v ρ1 F1 H1 ok1 g1 re1 rf1 h1 => ?_) hE
    unfold onObj at h1
    split at h1
    · rename_i a
      cases re1
      obtain ⟨psp, hT1, h1⟩ := h1
      refine ⟨a, rfl, psp, hT1, G, F1, ρ1, _, E, ok1, h1, fun rs vs ρ2 F2 H2 ok2 g2 res h2 => ?_, hE.after g1⟩
      obtain ⟨ds, F3, ρ3, ok3, g3, s3, rl, h3⟩ := frzL_ok ok2 g2 (Paired.mapP res fun _ _ y => ⟨y.1.w, y.2⟩) h2
      refine ⟨F3, ds, _, _, ok3.sf, rl, h3, fun r v F4 H4 n x q => (hp.after (g1.trans g3)).new ok3 n x q, fun x da F4 H4 n xo q => ?_⟩
      exact hE x ρ3 F4 H4 da (ok3.grow n) ((g1.trans g3).trans (.new n)) xo q
    · exact h1.elim
  · subst ey
    obtain rfl : u = Value.ref a := ry
    obtain ⟨ps, fd, Fn, b, kp, _⟩ := hT _ hT1
    refine PySem.W.callWith_K (h₀ := X.base) I1.ok.mod.kin kp (thn (ha.run pos pins s1 σ H1 _ I1 q) fun us s2 ⟨vs, H2, I2, r, q2⟩ => ⟨I2.kIn, ?_⟩) he hpl
    exact run_fnS Fn hr b (passAt tk σ) I2 r q2
end
theorem Fok.mono {P : Program} {w : World} {K : PySem.W.Frag} {mg : Str → Option Value} {base : Heap} {j k : Nat} {f : Addr} {ps : List Str} {sp : Sp} (F : Fok P w K mg base j f ps sp) (h : j ≤ k) : Fok P w K mg base k f ps sp := by
  obtain ⟨fd, F, b, kp, z⟩ := F
  exact ⟨fd, F.mono h, b, kp, z⟩
theorem tab_nil {X : Cx} {k : Nat} : TabOk X k [] := fun q hq => by cases hq
theorem tab_cons {X : Cx} {j k : Nat} {f : Addr} {ps : List Str} {p : P0} {T : Tab} (F : Fok X.prog X.w X.K X.mg X.base j f ps (sp0 X.K p)) (h : j ≤ k) (r : TabOk X k T) : TabOk X k ((f, p) :: T) := fun q hq => by
  rcases List.mem_cons.mp hq with rfl | hq
  · exact ⟨ps, F.mono h⟩
  · exact r q hq
/-! ### except without a name -/
section
variable {X : Cx} {W : WX} {x : Str} {body suite : List Stmt} {b₀ : Stmt} {np pos pos' : Pos}
def mTryO (K : PySem.W.Frag) (c : Addr) (mb ms : MS) : MS := fun De ρ => mb { De with ex := fun x ρ1 => atK (PySem.W.exmOne K (.ref x.1) (.ref c)) fun b => cIf b (ms { De with ex := fun _ _ => False } ρ1) (De.ex x ρ1) } ρ
theorem q_tryO {c : Addr} {mb ms : MS} (gc : X.mg x = some (.ref c)) (tk : Takes X W)
    (hb : ∀ (W : WX) (pn : List (Addr × Obj)) (xe : Value → Shared → Prop), Takes (X.tr pn xe) W → PassesOwn (model X.prog X.w) X.A X.env xe → QSs (X.tr pn xe) W body mb)
    (hsu : ∀ (a : Addr) (pn : List (Addr × Obj)), QSs (X.suite a pn) wN (b₀ :: suite) ms)
    (hs : X.stack = X.env :: X.outer := by rfl) (hf : X.env.frame = some X.env.locals := by rfl) (hg : Gl X x := by rfl) (hdb : (x == ("__debug__" : Str)) = false := by decide) :
    QS X W (.Try body [.ExceptHandler (some (.Name x np)) none (b₀ :: suite) pos'] [] [] pos) (mTryO X.K c mb ms) :=
  (ps_try_only (tb := fun W => tS X.K W mb) (ts := fun _ _ _ => tS X.K wN ms) hs hf ⟨hg, hdb, .inl gc⟩ tk hb (fun a oe cls d pn _ _ => hsu a _)).imp fun D σ H ⟨G, F, ρ, De, ok, h, co⟩ => by
    refine ⟨G, F, ρ, _, ok, h, ⟨co.nx, co.rt, co.bk, co.ct, fun xx σ1 F1 H1 ρ1 da ok1 s1 xo ⟨b, hb1, hy⟩ => ⟨b, hb1, fun hbt a na => ?_, fun hbf => co.ex xx σ1 F1 H1 ρ1 da ok1 s1 xo (by rw [hbf] at hy; exact hy)⟩⟩⟩
    rw [hbt] at hy
    have hy : ms { De with ex := fun _ _ => False } ρ1 := hy
    exact ⟨G, F1, ρ1, _, ok1, hy, ⟨fun σ' F' H' ρ' ok' s q => co.nx σ' F' H' ρ' ok' (s1.trans s) q, fun r v σ' F' H' ρ' ok' s re q => co.rt r v σ' F' H' ρ' ok' (s1.trans s) re q, fun σ' F' H' ρ' ok' s q => co.bk σ' F' H' ρ' ok' (s1.trans s) q, fun σ' F' H' ρ' ok' s q => co.ct σ' F' H' ρ' ok' (s1.trans s) q, fun _ _ _ _ _ _ _ _ _ z => z.elim⟩⟩
end
theorem lc_mapD {g : D → D} {ga : MG} {e : MX} {vs : List Nat} {Q : KL} {ρ : Nv} (xs : List D) (hl : xs.length ≤ 1000)
    (step : ∀ a ∈ xs, ∀ k : D → Nv → Prop, (∀ ρ4, clnN ρ4 vs → wipN ρ4 vs = ρ → k (g a) ρ4) → ga a (wipN ρ vs) fun ρ1 => e ρ1 (fun r ρ3 => frz r ρ3 k) (fun _ _ => False))
    (fin : Q.q (xs.map g) ρ) : @LC ga mYes e vs Q xs [] ρ := by
  have := lc_map (f := fun x : D => x) (g := g) (ga := ga) (e := e) (vs := vs) (Q := Q) (ρ := ρ) xs hl step fin
  rwa [List.map_id'] at this
theorem obX_bls {α : Type} {g : α → Bool} {xs : List α} {k : List Bool → Prop} : obX (xs.map fun x => D.bl (g x)) k = k (xs.map g) := by
  have : xs.map (fun x => D.bl (g x)) = (xs.map g).map D.bl := by rw [List.map_map]; rfl
  rw [this, obX_map]
theorem all_map {α : Type} {g : α → Bool} {xs : List α} : (xs.map g).all id = xs.all g := by rw [List.all_map]; rfl
theorem deq_nil {xs : List D} : deq (.lst xs) (.lst []) = xs.isEmpty := by
  cases xs with
  | nil => simp [deq, D.py, pyL, PyData.eqv, PyData.eqvAll]
  | cons x xs => simp [deq, D.py, pyL, PyData.eqv, PyData.eqvAll]
theorem fEq_nil {xs : List D} (h : plainL xs = true) {Q : Re → Prop} : fEq (.lst xs) (.lst []) Q = Q (.va (.bl xs.isEmpty)) := by
  unfold fEq
  rw [deq_nil, D.py_dep, D.py_dep]
  simp only [D.plain, h, plainL, D.dep, depL, true_and]
  exact propext ⟨fun h => h.2, fun h => ⟨by omega, h⟩⟩
/-- a comprehension each turn of which draws -/
theorem lc_draw {ga : MG} {e : MX} {vs : List Nat} {Q : KL} (ρf : D → Nv) (P : D → Prop) (c n : Nat) : ∀ (xs : List D) (acc : List D) (o : D), acc.length + xs.length ≤ 1000 → Fd (n + c * xs.length) o → (∀ d ∈ acc, P d) →
    (∀ x ∈ xs, ∀ (m : Nat) (o : D), Fd (m + c) o → ∀ k : D → Nv → Prop, (∀ (d o' : D) (ρ4 : Nv), P d → Fd m o' → clnN ρ4 vs → wipN ρ4 vs = ρf o' → k d ρ4) → ga x (wipN (ρf o) vs) fun ρ1 => e ρ1 (fun r ρ3 => frz r ρ3 k) (fun _ _ => False)) →
    (∀ (ds : List D) (o' : D), ds.length = acc.length + xs.length → (∀ d ∈ ds, P d) → Fd n o' → Q.q ds (ρf o')) → @LC ga mYes e vs Q xs acc (ρf o)
  | [], acc, o, hl, hF, ha, step, fin => fin acc o (by simp) ha (hF.mono (by simp))
  | x :: xs, acc, o, hl, hF, ha, step, fin => by
    simp only [List.length_cons] at hl
    have e1 : n + c * (x :: xs).length = (n + c * xs.length) + c := by rw [List.length_cons, Nat.mul_succ]; omega
    rw [e1] at hF
    show lcL ga mYes e vs Q.q (x :: xs) acc (ρf o)
    unfold lcL mYes
    simp only [cIf_t]
    refine step x (by simp) (n + c * xs.length) o hF _ fun d o' ρ4 hP hF' h1 h2 => ⟨by simp only [sizeLine]; omega, h1, ?_⟩
    rw [h2]
    exact lc_draw ρf P c n xs (acc ++ [d]) o' (by simp; omega) hF' (fun d' hd => by
      rcases List.mem_append.mp hd with hd | hd
      · exact ha d' hd
      · have : d' = d := by simpa using hd
        rw [this]; exact hP) (fun y hy => step y (List.mem_cons_of_mem _ hy)) (fun ds o' hl => fin ds o' (by rw [hl]; simp; omega))
theorem ixN_nat {n : Nat} {i : Int} (h0 : 0 ≤ i) (h1 : i < n) : ixN n i = some i.toNat := by
  unfold ixN
  rw [if_pos h0, if_pos (by omega)]
theorem atI_int {α : Type} {l : List α} {i : Int} (h0 : 0 ≤ i) (h1 : i < l.length) : atI l i = some (l[i.toNat]'(by omega)) := by
  obtain ⟨j, rfl⟩ := Int.eq_ofNat_of_zero_le h0
  exact atI_nat (List.getElem?_eq_getElem (by omega))
theorem cnt_n {x : D} : ((List.countP (fun y => deq y x) [] : Nat) : Int) = 0 := rfl
theorem cnt_t {l : List D} : ((List.countP (fun y => deq y (.bl true)) (.bl true :: l) : Nat) : Int) = (List.countP (fun y => deq y (.bl true)) l : Nat) + 1 := by
  rw [List.countP_cons_of_pos (by simp [deq, D.py, PyData.eqv])]; rfl
theorem cnt_f {l : List D} : ((List.countP (fun y => deq y (.bl true)) (.bl false :: l) : Nat) : Int) = (List.countP (fun y => deq y (.bl true)) l : Nat) := by
  rw [List.countP_cons_of_neg (by simp [deq, D.py, PyData.eqv])]
theorem idx_t {l : List D} : idxD (.bl true) (.bl true :: l) = some 0 := by unfold idxD; simp [deq, D.py, PyData.eqv]
theorem idx_f {l : List D} : idxD (.bl true) (.bl false :: l) = (idxD (.bl true) l).map (· + 1) := by
  show (if deq (.bl false) (.bl true) = true then some 0 else (idxD (.bl true) l).map (· + 1)) = _
  rw [if_neg (by simp [deq, D.py, PyData.eqv])]
theorem SK : (∀ x : D, ((List.countP (fun y => deq y x) [] : Nat) : Int) = 0) ∧ (∀ l : List D, ((List.countP (fun y => deq y (.bl true)) (.bl true :: l) : Nat) : Int) = (List.countP (fun y => deq y (.bl true)) l : Nat) + 1) ∧ (∀ l : List D, ((List.countP (fun y => deq y (.bl true)) (.bl false :: l) : Nat) : Int) = (List.countP (fun y => deq y (.bl true)) l : Nat)) ∧
  (∀ l : List D, idxD (.bl true) (.bl true :: l) = some 0) ∧ (∀ l : List D, idxD (.bl true) (.bl false :: l) = (idxD (.bl true) l).map (· + 1)) ∧ (((0 : Nat) : Int) = 0) ∧ (((0 + 1 : Nat) : Int) = 1) ∧ (((0 + 1 + 1 : Nat) : Int) = 2) ∧ (((0 + 1 + 1 + 1 : Nat) : Int) = 3) := ⟨by intros; rfl, by intros; apply cnt_t, by intros; apply cnt_f, by intros; apply idx_t, by intros; apply idx_f, rfl, rfl, rfl, rfl⟩
/-- a slot that is no owned argument -/
def fq : Option (Bool × D) → Option Sl
  | none => none
  | some (false, d) => some (.fz d)
  | some (true, d) => some (.lo d)
theorem notOw_fq {s : Option (Bool × D)} {l : Nv} : notOw (fq s :: l) 0 = True := by
  cases s with
  | none => rfl
  | some p => obtain ⟨b, d⟩ := p; cases b <;> rfl
theorem fSl_bD {b : Bx} {lo hi : Option Int} {Q : Re → Prop} : fSl (bD b) lo hi Q = Q (.va (.tup (cutD [fD b.l, fD b.t, fD b.w, fD b.h] lo hi))) := rfl
theorem sIx_n (n d : Nat) : HT.sIx n d none = d := rfl
theorem sIx_p {n d : Nat} {k : Int} (h : 0 ≤ k) : HT.sIx n d (some k) = min k.toNat n := by
  show (if k < 0 then _ else _) = _
  rw [if_neg (by omega)]
theorem cut_to {α : Type} {xs : List α} {k : Int} (h : 0 ≤ k) : cutD xs none (some k) = xs.take k.toNat := by
  unfold cutD
  rw [sIx_n, sIx_p h, List.drop_zero, Nat.sub_zero]
  by_cases hk : k.toNat ≤ xs.length
  · rw [Nat.min_eq_left hk]
  · rw [Nat.min_eq_right (by omega), List.take_length, List.take_of_length_le (by omega)]
theorem cut_from {α : Type} {xs : List α} {k : Int} (h : 0 ≤ k) : cutD xs (some k) none = xs.drop k.toNat := by
  unfold cutD
  rw [sIx_n, sIx_p h]
  by_cases hk : k.toNat ≤ xs.length
  · rw [Nat.min_eq_left hk, List.take_of_length_le (by simp)]
  · rw [Nat.min_eq_right (by omega), List.drop_length, List.drop_of_length_le (by omega), List.take_nil]
theorem cut_2 {a b : D} {l : List D} : cutD (a :: b :: l) none (some 2) = [a, b] := by rw [cut_to (by decide)]; rfl
theorem cut_3 {a b c : D} {l : List D} : cutD (a :: b :: c :: l) none (some 3) = [a, b, c] := by rw [cut_to (by decide)]; rfl
theorem SQ : (∀ (s : Option (Bool × D)) (l : Nv), notOw (fq s :: l) 0 = True) ∧ (∀ (b : Bx) (lo hi : Option Int) (Q : Re → Prop), fSl (bD b) lo hi Q = Q (.va (.tup (cutD [fD b.l, fD b.t, fD b.w, fD b.h] lo hi)))) ∧ (∀ (a b : D) (l : List D), cutD (a :: b :: l) none (some 2) = [a, b]) ∧ (∀ (a b c : D) (l : List D), cutD (a :: b :: c :: l) none (some 3) = [a, b, c]) ∧ (∀ (b : Bx) (Q : Re → Prop), fList [bD b] Q = Q (.nw (.lst [fD b.l, fD b.t, fD b.w, fD b.h]))) ∧
  (∀ (b : Bx) (ys : List D) (Q : Re → Prop), fAdd (bD b) (.tup ys) Q = (4 + ys.length ≤ sizeLine ∧ Q (.va (.tup (fD b.l :: fD b.t :: fD b.w :: fD b.h :: ys))))) ∧ (∀ (q : Rat) (ys : List D) (Q : Re → Prop), fAdd (fD q) (.tup ys) Q = (2 + ys.length ≤ sizeLine ∧ Q (.va (.tup (.int q.num :: .int q.den :: ys))))) := ⟨by intros; apply notOw_fq, by intros; rfl, by intros; apply cut_2, by intros; apply cut_3, by intros; rfl, by intros; rfl, by intros; rfl⟩
theorem for_inv2 {g : MG} {b : MS} {e : KE} (I : List D → Nv → Prop) (step : ∀ x xs ρ, I (x :: xs) ρ → ∀ De : PEnds, (∀ ρ', I xs ρ' → De.nx ρ') → (∀ ρ', I xs ρ' → De.ct ρ') → De.rt = e.d.rt → De.ex = e.d.ex → De.bk = e.d.nx → g x ρ fun ρ1 => b De ρ1) (fin : ∀ ρ, I [] ρ → e.d.nx ρ) : ∀ xs ρ, I xs ρ → @FL g b e xs ρ
  | [], ρ, h => fin ρ h
  | x :: xs, ρ, h => step x xs ρ h { e.d with nx := forL g b e.d xs, ct := forL g b e.d xs, bk := e.d.nx } (fun ρ' h' => for_inv2 (e := e) I step fin xs ρ' h') (fun ρ' h' => for_inv2 (e := e) I step fin xs ρ' h') rfl rfl rfl
theorem fEq_fD2 {q : Rat} {x y : Int} {Q : Re → Prop} : fEq (fD q) (.tup [.int x, .int y]) Q = Q (.va (.bl (decide (q.num = x ∧ (q.den : Int) = y)))) := by
  unfold fEq
  have e : deq (fD q) (.tup [.int x, .int y]) = decide (q.num = x ∧ (q.den : Int) = y) := by
    rw [Bool.eq_iff_iff, deq_iff (fD_cl q) (by simp [D.cl, clL]), decide_eq_true_eq]
    unfold fD
    simp
  rw [e, fD_plain, D.py_dep, fD_dep]
  have e2 : D.plain (.tup [.int x, .int y]) = true := by simp [D.plain, plainL]
  rw [e2]
  exact propext ⟨fun h => h.2.2.2, fun h => ⟨rfl, rfl, by omega, h⟩⟩
theorem low_frac {x y : Int} (hy : 0 < y) : (Rat.divInt x y).num = x ∧ ((Rat.divInt x y).den : Int) = y ↔ Int.gcd x y = 1 := by
  obtain ⟨e1, e2⟩ := divInt_pos (t := x) hy
  rw [e1, e2]
  constructor
  · intro ⟨_, h⟩
    have hg : (0 : Int) < (Int.gcd x y : Nat) := by have := Int.gcd_pos_of_ne_zero_right x (b := y) (by omega); omega
    generalize Int.gcd x y = g at *
    have h2 : y % (g : Int) + g * (y / g) = y := Int.emod_add_mul_ediv y g
    have h3 := Int.emod_nonneg y (b := (g : Int)) (by omega)
    rw [h] at h2
    have h4 : (g : Int) * y ≤ y := by omega
    have h5 : (g : Int) * y ≤ 1 * y := by omega
    have := Int.le_of_mul_le_mul_right h5 hy
    omega
  · intro h
    rw [h]; simp
theorem AK_mem {α : Type} {l : List α} {k : KA α} {r : Int} (P : α → Prop) (h0 : 0 ≤ r) (h1 : r < l.length) (hP : ∀ d ∈ l, P d) (h : ∀ d, P d → k.k d) : @AK α (atI l r) k := AK_i (atI_int h0 h1) (h _ (hP _ (List.getElem_mem _)))
theorem fEq_e {xs : List D} {Q : Re → Prop} : fEq (.lst xs) (.lst []) Q = (plainL xs = true ∧ Q (.va (.bl xs.isEmpty))) := by
  unfold fEq
  rw [deq_nil, D.py_dep, D.py_dep]
  simp only [D.plain, plainL, D.dep, depL, true_and]
  exact propext ⟨fun h => ⟨h.1, h.2.2⟩, fun h => ⟨h.1, by omega, h.2⟩⟩
theorem fNe_e {xs : List D} {Q : Re → Prop} : fNe (.lst xs) (.lst []) Q = (plainL xs = true ∧ Q (.va (.bl (!xs.isEmpty)))) := by
  unfold fNe
  rw [deq_nil, D.py_dep, D.py_dep]
  simp only [D.plain, plainL, D.dep, depL, true_and]
  exact propext ⟨fun h => ⟨h.1, h.2.2⟩, fun h => ⟨h.1, by omega, h.2⟩⟩
theorem SEE : (∀ (xs : List D) (Q : Re → Prop), fEq (.lst xs) (.lst []) Q = (plainL xs = true ∧ Q (.va (.bl xs.isEmpty)))) ∧ (∀ (xs : List D) (Q : Re → Prop), fNe (.lst xs) (.lst []) Q = (plainL xs = true ∧ Q (.va (.bl (!xs.isEmpty))))) ∧ (∀ bs : List Bx, plainL (bs.map bD) = true) ∧ (∀ bs : List Int, plainL (bs.map D.int) = true) ∧ (∀ bs : List Rat, plainL (bs.map fD) = true) ∧ (([] : List D).isEmpty = true) ∧ (∀ (x : D) (xs : List D), (x :: xs).isEmpty = false) ∧ (∀ bs : List Rat, (depL (bs.map fD) ≤ 60) = True) :=
  ⟨by intros; apply fEq_e, by intros; apply fNe_e, fun bs => plainL_map bD_plain bs, fun bs => plainL_map (fun _ => rfl) bs, fun bs => plainL_map fD_plain bs, rfl, by intros; rfl, fun bs => eq_true (by have := depL_map (f := fD) (n := 1) (fun q => by rw [fD_dep]; decide) bs; omega)⟩
theorem SEC : (∀ (a b : Bx) (as bs : List Bx) (Q : Re → Prop), fEq (.lst (bD a :: as.map bD)) (.lst (bD b :: bs.map bD)) Q = Q (.va (.bl (decide (a :: as = b :: bs))))) ∧ (∀ (a b : Bx) (as bs : List Bx) (Q : Re → Prop), fNe (.lst (bD a :: as.map bD)) (.lst (bD b :: bs.map bD)) Q = Q (.va (.bl (!decide (a :: as = b :: bs))))) ∧
  (∀ (a b : Int) (as bs : List Int) (Q : Re → Prop), fEq (.lst (.int a :: as.map D.int)) (.lst (.int b :: bs.map D.int)) Q = Q (.va (.bl (decide (a :: as = b :: bs))))) ∧ (∀ (a b : Int) (as bs : List Int) (Q : Re → Prop), fNe (.lst (.int a :: as.map D.int)) (.lst (.int b :: bs.map D.int)) Q = Q (.va (.bl (!decide (a :: as = b :: bs))))) ∧
  (∀ (p q : Rat) (i j : Int) (Q : Re → Prop), fEq (.tup [fD p, .int i]) (.tup [fD q, .int j]) Q = Q (.va (.bl (decide (p = q ∧ i = j))))) ∧ (∀ (p q : Rat) (i j : Int) (Q : Re → Prop), fNe (.tup [fD p, .int i]) (.tup [fD q, .int j]) Q = Q (.va (.bl (!decide (p = q ∧ i = j))))) :=
  ⟨fun a b as bs Q => fEq_bs (as := a :: as) (bs := b :: bs), fun a b as bs Q => fNe_bs (as := a :: as) (bs := b :: bs), fun a b as bs Q => fEq_is (as := a :: as) (bs := b :: bs), fun a b as bs Q => fNe_is (as := a :: as) (bs := b :: bs), fun p q i j Q => by
    have e : deq (.tup [fD p, .int i]) (.tup [fD q, .int j]) = decide (p = q ∧ i = j) := by
      rw [Bool.eq_iff_iff, deq_iff (by simp [D.cl, clL, fD_cl]) (by simp [D.cl, clL, fD_cl]), decide_eq_true_eq]
      simp only [D.tup.injEq, List.cons.injEq, D.int.injEq, and_true]
      exact ⟨fun h => ⟨fD_inj h.1, h.2⟩, fun h => ⟨by rw [h.1], h.2⟩⟩
    unfold fEq
    rw [e, D.py_dep, D.py_dep]
    simp [D.plain, plainL, fD_plain, D.dep, depL, fD_dep], fun p q i j Q => by
    have e : deq (.tup [fD p, .int i]) (.tup [fD q, .int j]) = decide (p = q ∧ i = j) := by
      rw [Bool.eq_iff_iff, deq_iff (by simp [D.cl, clL, fD_cl]) (by simp [D.cl, clL, fD_cl]), decide_eq_true_eq]
      simp only [D.tup.injEq, List.cons.injEq, D.int.injEq, and_true]
      exact ⟨fun h => ⟨fD_inj h.1, h.2⟩, fun h => ⟨by rw [h.1], h.2⟩⟩
    unfold fNe
    rw [e, D.py_dep, D.py_dep]
    simp [D.plain, plainL, fD_plain, D.dep, depL, fD_dep]⟩
theorem dp0 : (0 ≤ 60) = True := by simp
theorem SPL : (∀ i : Int, (D.int i).plain = true) ∧ (∀ i : Bool, (D.bl i).plain = true) ∧ (D.non.plain = true) ∧ (∀ q : Rat, (fD q).plain = true) ∧ (∀ b : Bx, (bD b).plain = true) ∧ (plainL [] = true) ∧ (∀ (x : D) (xs : List D), plainL (x :: xs) = (x.plain && plainL xs)) ∧ (∀ xs : List D, (D.tup xs).plain = plainL xs) ∧ (∀ xs : List D, (D.lst xs).plain = plainL xs) ∧
  (∀ i : Int, (D.int i).dep = 0) ∧ (∀ i : Bool, (D.bl i).dep = 0) ∧ (∀ i : Str, (D.str i).dep = 0) ∧ (D.non.dep = 0) ∧ (∀ q : Rat, (fD q).dep = 1) ∧ (∀ b : Bx, (bD b).dep = 2) ∧ (depL [] = 0) ∧ (∀ (x : D) (xs : List D), depL (x :: xs) = max x.dep (depL xs)) ∧ (∀ xs : List D, (D.tup xs).dep = depL xs + 1) ∧ (∀ xs : List D, (D.lst xs).dep = depL xs + 1) ∧ (max 0 0 = 0) ∧ ((0 ≤ 60) = True) ∧ ((1 ≤ 60) = True) ∧ ((2 ≤ 60) = True) :=
  ⟨by intros; rfl, by intros; rfl, rfl, fD_plain, bD_plain, by simp [plainL], by intros; simp [plainL], by intros; simp [D.plain], by intros; simp [D.plain], by intros; rfl, by intros; rfl, by intros; rfl, rfl, fD_dep, bD_dep, by simp [depL], by intros; simp [depL], by intros; simp [D.dep], by intros; simp [D.dep], rfl, by simp, by simp, by simp⟩
theorem SBQ : (∀ b : Bool, (b == true) = b) ∧ (∀ b : Bool, (b == false) = !b) ∧ (∀ b : Bool, (true == b) = b) ∧ (∀ b : Bool, (false == b) = !b) := ⟨by decide, by decide, by decide, by decide⟩
/-! ### rows -/
theorem fIn_l {x : D} {ys : List D} {Q : Re → Prop} : fIn x (.lst ys) Q = (x.flat = true ∧ ys.all D.flat = true ∧ Q (.va (.bl (inD x ys)))) := by unfold fIn fInN; simp
theorem fIn_t {x : D} {ys : List D} {Q : Re → Prop} : fIn x (.tup ys) Q = (x.flat = true ∧ ys.all D.flat = true ∧ Q (.va (.bl (inD x ys)))) := by unfold fIn fInN; simp
theorem fNotIn_l {x : D} {ys : List D} {Q : Re → Prop} : fNotIn x (.lst ys) Q = (x.flat = true ∧ ys.all D.flat = true ∧ Q (.va (.bl (!inD x ys)))) := by unfold fNotIn fInN; simp
theorem fNotIn_t {x : D} {ys : List D} {Q : Re → Prop} : fNotIn x (.tup ys) Q = (x.flat = true ∧ ys.all D.flat = true ∧ Q (.va (.bl (!inD x ys)))) := by unfold fNotIn fInN; simp
theorem fIn_z {c : Nat} {z : Str} {Q : Re → Prop} : fIn (.str ⟨#[c]⟩) (.str z) Q = Q (.va (.bl (decide (c ∈ z.cps.toList)))) := by
  unfold fIn fInN
  simp only [Bool.bne_false]
  exact propext ⟨fun ⟨d, e, h⟩ => by cases e; exact h, fun h => ⟨c, rfl, h⟩⟩
theorem flat_i {i : Int} : (D.int i).flat = true := rfl
theorem flat_b {i : Bool} : (D.bl i).flat = true := rfl
theorem flat_s {i : Str} : (D.str i).flat = true := rfl
theorem flat_n : D.non.flat = true := rfl
theorem inD_n {x : D} : inD x [] = false := rfl
theorem inD_c {x y : D} {ys : List D} : inD x (y :: ys) = (deq y x || inD x ys) := rfl
theorem deq_b (i j : Bool) : deq (.bl i) (.bl j) = (i == j) := by simp [deq, D.py, PyData.eqv]
theorem deq_bi (i : Bool) (j : Int) : deq (.bl i) (.int j) = decide ((if i then 1 else 0) = j) := by simp [deq, D.py, PyData.eqv]; rfl
theorem onObj_e {a : Addr} {k : Addr → Prop} : onObj (.va (.obj a)) k = k a := rfl
theorem fIndex_l {ys : List D} {x : D} {Q : Re → Prop} : fIndex (.lst ys) [x] Q = (x.plain = true ∧ plainL ys = true ∧ x.dep ≤ 60 ∧ depL ys ≤ 60 ∧ atK (idxD x ys) fun j => Q (.va (.int (j : Nat)))) := rfl
theorem fCount_l {ys : List D} {x : D} {Q : Re → Prop} : fCount (.lst ys) [x] Q = (x.flat = true ∧ ys.all D.flat = true ∧ Q (.va (.int (ys.countP fun y => deq y x : Nat)))) := rfl
theorem lstD_l {ys : List D} : lstD (.lst ys) = True := rfl
theorem SP3 : (∀ (ρ : Nv) (Q : QK) (E : EK), mDic0 ρ Q E = Q (.nw (.dic [] [])) ρ) ∧ (∀ (f : D → List D → (Re → Prop) → Prop) (mo : MX) (ma : MA) (ρ : Nv) (Q : QK) (E : EK), mMthR f mo ma ρ Q E = mo ρ (fun ro ρ1 => opd ro ρ1 fun o0 => lstD o0 ∧ ma ρ1 (fun rs ρ2 => opd ro ρ2 fun o => opds rs ρ2 fun ds => f o ds fun r => Q r ρ2) E) E) ∧
  (∀ (T : Tab) (mf : MX) (m : MA) (ρ : Nv) (Q : QK) (E : EK), mCallE T mf m ρ Q E = mf ρ (fun r ρ1 => onObj r fun a => ∃ psp, (a, psp) ∈ T ∧ m ρ1 (fun rs ρ2 => frzL rs ρ2 fun ds ρ3 => psp ds (fun r => Q r ρ3) (fun x => E x ρ3)) E) E) ∧
  (∀ (K : PySem.W.Frag) (c : Addr) (mb ms : MS) (De : PEnds) (ρ : Nv), mTryO K c mb ms De ρ = mb { De with ex := fun x ρ1 => atK (PySem.W.exmOne K (.ref x.1) (.ref c)) fun b => cIf b (ms { De with ex := fun _ _ => False } ρ1) (De.ex x ρ1) } ρ) := ⟨by intros; rfl, by intros; rfl, by intros; rfl, by intros; rfl⟩
theorem SB3 : (∀ (x : D) (ys : List D) (Q : Re → Prop), fIn x (.lst ys) Q = (x.flat = true ∧ ys.all D.flat = true ∧ Q (.va (.bl (inD x ys))))) ∧ (∀ (x : D) (ys : List D) (Q : Re → Prop), fIn x (.tup ys) Q = (x.flat = true ∧ ys.all D.flat = true ∧ Q (.va (.bl (inD x ys))))) ∧ (∀ (x : D) (ys : List D) (Q : Re → Prop), fNotIn x (.lst ys) Q = (x.flat = true ∧ ys.all D.flat = true ∧ Q (.va (.bl (!inD x ys))))) ∧ (∀ (x : D) (ys : List D) (Q : Re → Prop), fNotIn x (.tup ys) Q = (x.flat = true ∧ ys.all D.flat = true ∧ Q (.va (.bl (!inD x ys))))) ∧
  (∀ (c : Nat) (z : Str) (Q : Re → Prop), fIn (.str ⟨#[c]⟩) (.str z) Q = Q (.va (.bl (decide (c ∈ z.cps.toList))))) ∧ (∀ i : Int, (D.int i).flat = true) ∧ (∀ i : Bool, (D.bl i).flat = true) ∧ (∀ i : Str, (D.str i).flat = true) ∧ (D.non.flat = true) ∧ (∀ x : D, inD x [] = false) ∧ (∀ (x y : D) (ys : List D), inD x (y :: ys) = (deq y x || inD x ys)) ∧ (∀ i j : Bool, deq (.bl i) (.bl j) = (i == j)) ∧ (∀ i j : Str, deq (.str i) (.str j) = decide (i = j)) ∧
  (∀ (a : Addr) (k : Addr → Prop), onObj (.va (.obj a)) k = k a) ∧ (∀ (ys : List D) (x : D) (Q : Re → Prop), fIndex (.lst ys) [x] Q = (x.plain = true ∧ plainL ys = true ∧ x.dep ≤ 60 ∧ depL ys ≤ 60 ∧ atK (idxD x ys) fun j => Q (.va (.int (j : Nat))))) ∧ (∀ (ys : List D) (x : D) (Q : Re → Prop), fCount (.lst ys) [x] Q = (x.flat = true ∧ ys.all D.flat = true ∧ Q (.va (.int (ys.countP fun y => deq y x : Nat))))) ∧ (∀ ys : List D, lstD (.lst ys) = True) :=
  ⟨by intros; apply fIn_l, by intros; apply fIn_t, by intros; apply fNotIn_l, by intros; apply fNotIn_t, by intros; apply fIn_z, by intros; rfl, by intros; rfl, by intros; rfl, rfl, by intros; rfl, by intros; rfl, by intros; apply deq_b, by intros; apply deq_str, by intros; rfl, by intros; rfl, by intros; rfl, by intros; rfl⟩
end WR

set_option Elab.async false
set_option linter.all false
set_option maxRecDepth 100000
set_option maxHeartbeats 4000000
set_option autoImplicit false
/-! The greatest of fractions, the worst of boxes. -/
namespace WR
open PySem L2
theorem rngD_succ (lo : Int) (n : Nat) : rngD lo (n + 1) = .int lo :: rngD (lo + 1) n := by
  unfold rngD
  rw [List.range_succ_eq_map, List.map_cons, List.map_map]
  congr 1
  · simp
  · refine List.map_congr_left fun k _ => ?_
    simp only [Function.comp]
    congr 1
    omega
theorem rngD_zero (lo : Int) : rngD lo 0 = [] := rfl
/-- the greatest, from a first one on -/
def grt : Rat → List Rat → Rat
  | m, [] => m
  | m, q :: qs => if m < q then grt q qs else grt m qs
theorem grt_ge : ∀ {m : Rat} {qs : List Rat}, m ≤ grt m qs ∧ ∀ q ∈ qs, q ≤ grt m qs
  | m, [] => ⟨Rat.le_refl, by simp⟩
  | m, q :: qs => by
    unfold grt
    split
    · rename_i h
      obtain ⟨h1, h2⟩ := grt_ge (m := q) (qs := qs)
      exact ⟨Rat.le_trans (Rat.le_of_lt h) h1, fun r hr => (List.mem_cons.mp hr).elim (fun e => by rw [e]; exact h1) (fun hr => h2 r hr)⟩
    · rename_i h
      obtain ⟨h1, h2⟩ := grt_ge (m := m) (qs := qs)
      exact ⟨h1, fun r hr => (List.mem_cons.mp hr).elim (fun e => by rw [e]; exact Rat.le_trans (Rat.not_lt.mp h) h1) (fun hr => h2 r hr)⟩
theorem grt_mem : ∀ {m : Rat} {qs : List Rat}, grt m qs = m ∨ grt m qs ∈ qs
  | m, [] => .inl rfl
  | m, q :: qs => by
    unfold grt
    split
    · rcases grt_mem (m := q) (qs := qs) with h | h
      · exact .inr (by rw [h]; simp)
      · exact .inr (List.mem_cons_of_mem _ h)
    · rcases grt_mem (m := m) (qs := qs) with h | h
      · exact .inl h
      · exact .inr (List.mem_cons_of_mem _ h)
theorem grt_rb {n : Nat} {m : Rat} {qs : List Rat} (hm : Rb n m) (hq : ∀ q ∈ qs, Rb n q) : Rb n (grt m qs) := by
  rcases grt_mem (m := m) (qs := qs) with h | h
  · rw [h]; exact hm
  · exact hq _ h
/-- the greatest, and its first place -/
def mxI : Rat → Nat → Nat → List Rat → Rat × Nat
  | m, i, _, [] => (m, i)
  | m, i, k, q :: qs => if m < q then mxI q k (k + 1) qs else mxI m i (k + 1) qs
theorem mxI_fst : ∀ {m : Rat} {i k : Nat} {qs : List Rat}, (mxI m i k qs).1 = grt m qs
  | _, _, _, [] => rfl
  | m, i, k, q :: qs => by
    unfold mxI grt
    split
    · exact mxI_fst
    · exact mxI_fst
/-- i is the first place of m in all -/
def First (m : Rat) (i : Nat) (all : List Rat) : Prop := all[i]? = some m ∧ ∀ j, j < i → ∀ q, all[j]? = some q → q ≠ m
theorem mxI_first : ∀ {qs : List Rat} {pre : List Rat} {m : Rat} {i : Nat}, First m i pre → (∀ q ∈ pre, q ≤ m) → First (mxI m i pre.length qs).1 (mxI m i pre.length qs).2 (pre ++ qs)
  | [], pre, m, i, h, _ => by rw [List.append_nil]; exact h
  | q :: qs, pre, m, i, h, hm => by
    have e : pre ++ q :: qs = (pre ++ [q]) ++ qs := by simp
    have el : pre.length + 1 = (pre ++ [q]).length := by simp
    have hi : i < pre.length := (List.getElem?_eq_some_iff.mp h.1).1
    unfold mxI
    rw [e, el]
    split
    · rename_i hq
      refine mxI_first ⟨by simp, fun j hj r hr z => ?_⟩ (fun r hr => ?_)
      · rw [List.getElem?_append_left hj] at hr
        have := hm r (List.mem_of_getElem? hr)
        rw [z] at this
        exact absurd hq (Rat.not_lt.mpr this)
      · rcases List.mem_append.mp hr with hr | hr
        · exact Rat.le_trans (hm r hr) (Rat.le_of_lt hq)
        · rw [show r = q by simpa using hr]; exact Rat.le_refl
    · rename_i hq
      refine mxI_first ⟨by rw [List.getElem?_append_left hi]; exact h.1, fun j hj r hr => ?_⟩ (fun r hr => ?_)
      · rw [List.getElem?_append_left (by omega)] at hr
        exact h.2 j hj r hr
      · rcases List.mem_append.mp hr with hr | hr
        · exact hm r hr
        · rw [show r = q by simpa using hr]; exact Rat.not_lt.mp hq
theorem first_idx {m : Rat} : ∀ {all : List Rat} {i : Nat}, First m i all → idxD (fD m) (all.map fD) = some i
  | [], i, h => by have := h.1; simp at this
  | q :: qs, i, h => by
    rw [List.map_cons]
    unfold idxD
    cases i with
    | zero =>
      have : q = m := by simpa using h.1
      rw [this, deq_fD, decide_eq_true rfl, if_pos rfl]
    | succ i =>
      have hne : q ≠ m := h.2 0 (by omega) q rfl
      rw [deq_fD, decide_eq_false hne, if_neg (by decide), first_idx (i := i) ⟨by simpa using h.1, fun j hj r hr => h.2 (j + 1) (by omega) r (by simpa using hr)⟩]
      rfl
/-- the worst shape, and the first box that has it -/
def worstB : List Bx → Rat × Nat
  | [] => (0, 0)
  | b :: bs => mxI b.shape 0 1 (bs.map Bx.shape)
def grtB : List Bx → Rat
  | [] => 0
  | b :: bs => grt b.shape (bs.map Bx.shape)
theorem worstB_fst (bs : List Bx) : (worstB bs).1 = grtB bs := by
  cases bs with
  | nil => rfl
  | cons b bs => exact mxI_fst
theorem worstB_idx {bs : List Bx} (h : bs ≠ []) : idxD (fD (worstB bs).1) ((bs.map Bx.shape).map fD) = some (worstB bs).2 := by
  cases bs with
  | nil => exact absurd rfl h
  | cons b bs =>
    refine first_idx ?_
    have := mxI_first (qs := bs.map Bx.shape) (pre := [b.shape]) (m := b.shape) (i := 0) ⟨rfl, fun j hj => absurd hj (by omega)⟩ (fun q hq => by rw [show q = b.shape by simpa using hq]; exact Rat.le_refl)
    exact this
theorem Bx.shape_pos (b : Bx) : 0 < b.shape := by
  unfold Bx.shape
  split
  · exact div_pos b.h0 b.w0
  · exact div_pos b.w0 b.h0
theorem shape_rb {n : Nat} {b : Bx} (h : b.sz n) : Rb (n + n) b.shape := by
  unfold Bx.shape
  split
  · exact h.2.2.2.div h.2.2.1 (pos_ne b.w0)
  · exact h.2.2.1.div h.2.2.2 (pos_ne b.h0)
/-- wide over high, the greater way about -/
theorem shape_eq {b : Bx} {q : Rat} (e : q = b.w / b.h) : b.shape = if q.num < q.den then q⁻¹ else q := by
  unfold Bx.shape
  by_cases h : b.w < b.h
  · rw [if_pos h, if_pos (num_lt_den.mpr (by rw [e]; exact (div_lt_one b.h0).mpr h)), e, inv_div]
  · rw [if_neg h, if_neg (fun z => h ((div_lt_one b.h0).mp (by rw [← e]; exact num_lt_den.mp z))), e]
/-- the shorter side -/
def Bx.short (b : Bx) : Rat := if b.w < b.h then b.w else b.h
theorem Bx.short_pos (b : Bx) : 0 < b.short := by
  unfold Bx.short
  split
  · exact b.w0
  · exact b.h0
theorem Bx.short_rb {n : Nat} {b : Bx} (h : b.sz n) : Rb n b.short := by
  unfold Bx.short
  split
  · exact h.2.2.1
  · exact h.2.2.2
/-- a thing's area over the square of the shorter side -/
def Bx.thin (b : Bx) (S x : Int) : Rat := b.w * b.h * ((x : Rat) / S) / (b.short * b.short)
theorem Bx.thin_mono {b : Bx} {S x y : Int} (hS : 0 < S) (h : x ≤ y) : b.thin S x ≤ b.thin S y := by
  unfold Bx.thin
  have h1 : (x : Rat) ≤ y := Rat.intCast_le_intCast.mpr h
  have h2 : (0 : Rat) ≤ (S : Rat)⁻¹ := Rat.le_of_lt (Rat.inv_pos.mpr (int_pos hS))
  have h3 : (0 : Rat) ≤ (b.short * b.short)⁻¹ := Rat.le_of_lt (Rat.inv_pos.mpr (Rat.mul_pos b.short_pos b.short_pos))
  have h4 : (0 : Rat) ≤ b.w * b.h := Rat.le_of_lt (Rat.mul_pos b.w0 b.h0)
  simp only [Rat.div_def]
  exact Rat.mul_le_mul_of_nonneg_right (Rat.mul_le_mul_of_nonneg_left (Rat.mul_le_mul_of_nonneg_right h1 h2) h4) h3
theorem thin_rb {n m : Nat} {b : Bx} {S x : Int} (hb : b.sz n) (hS : 0 < S) (h : Bs m S) (h0 : 0 ≤ x) (h1 : x ≤ S) : Rb (n + n + m + (n + n)) (b.thin S x) :=
  ((hb.2.2.1.mul hb.2.2.2).mul (Rb.frac h0 h1 hS h)).div ((Bx.short_rb hb).mul (Bx.short_rb hb)) (pos_ne (Rat.mul_pos b.short_pos b.short_pos))
def Bx.floor (b : Bx) (ws : List Int) : Rat := grt 1 (ws.map (b.thin ws.sum))
theorem grt_le {m c : Rat} {qs : List Rat} (hm : m ≤ c) (h : ∀ q ∈ qs, q ≤ c) : grt m qs ≤ c := by
  rcases grt_mem (m := m) (qs := qs) with e | e
  · rw [e]; exact hm
  · exact h _ e
theorem floor_max {b : Bx} {ws : List Int} {m : Int} (hS : 0 < ws.sum) (hm : m ∈ ws) (h : ∀ y ∈ ws, y ≤ m) : grt 1 [b.thin ws.sum m] = b.floor ws := by
  refine Rat.le_antisymm (grt_le grt_ge.1 fun q hq => ?_) (grt_le grt_ge.1 fun q hq => ?_)
  · rw [show q = b.thin ws.sum m by simpa using hq]
    exact grt_ge.2 _ (List.mem_map.mpr ⟨m, hm, rfl⟩)
  · obtain ⟨x, hx, rfl⟩ := List.mem_map.mp hq
    exact Rat.le_trans (Bx.thin_mono hS (h x hx)) (grt_ge.2 _ (by simp))
theorem mem_le_sum : ∀ {vs : List Int} {m : Int}, (∀ v ∈ vs, 1 ≤ v) → m ∈ vs → m ≤ vs.sum
  | [], _, _, h => by cases h
  | v :: vs, m, hp, hm => by
    have h1 := sum_ge fun w hw => hp w (List.mem_cons_of_mem _ hw)
    have h2 := hp v (by simp)
    simp only [List.sum_cons]
    rcases List.mem_cons.mp hm with rfl | hm
    · omega
    · have := mem_le_sum (fun w hw => hp w (List.mem_cons_of_mem _ hw)) hm; omega
theorem wtL_bad {xs : List D} {x : D} (h : x ∈ xs) (hb : ∀ i, x = .int i → i < 1) : wtL xs = none := by
  cases e : wtL xs with
  | none => rfl
  | some ws =>
    obtain ⟨e1, e2⟩ := wtL_some e
    rw [e1] at h
    obtain ⟨w, hw, rfl⟩ := List.mem_map.mp h
    have := hb w rfl
    have := e2 w hw
    omega
theorem wts_bad {xs : List D} {x : D} (h : x ∈ xs) (hb : ∀ i, x = .int i → i < 1) : (D.lst xs).wts = none := by
  cases xs with
  | nil => rfl
  | cons y ys => exact wtL_bad h hb
end WR

set_option Elab.async false
set_option linter.all false
set_option maxRecDepth 100000
set_option maxHeartbeats 4000000
set_option autoImplicit false
/-! What keeps boxes from parting a room. -/
namespace WR
open PySem L2
def Bx.r (b : Bx) : Rat := b.l + b.w
def Bx.f (b : Bx) : Rat := b.t + b.h
def eD (b : Bx) : D := .tup [fD b.l, fD b.t, fD b.r, fD b.f]
def Bx.within (a b : Bx) : Bool := decide (b.l ≤ a.l) && decide (b.t ≤ a.t) && decide (a.r ≤ b.r) && decide (a.f ≤ b.f)
def Bx.over (a b : Bx) : Bool := decide (a.l < b.r) && decide (b.l < a.r) && decide (a.t < b.f) && decide (b.t < a.f)
def Bx.area (b : Bx) : Rat := b.w * b.h
/-- the first thing that is no box -/
def noBox : Nat → List D → Option Nat
  | _, [] => none
  | k, y :: ys => if y.box.isSome = true then noBox (k + 1) ys else some k
def wrongA (A : Rat) (S : Int) : Nat → List Bx → List Int → Option Nat
  | k, b :: bs, w :: ws => if b.area = A * ((w : Rat) / S) then wrongA A S (k + 1) bs ws else some k
  | _, _, _ => none
def outB (room : Bx) : Nat → List Bx → Option Nat
  | _, [] => none
  | k, b :: bs => if b.within room = true then outB room (k + 1) bs else some k
def overI (b : Bx) : Nat → List Bx → Option Nat
  | _, [] => none
  | j, a :: as => if a.over b = true then some j else overI b (j + 1) as
def overP : List Bx → List Bx → Option (Nat × Nat)
  | _, [] => none
  | pre, b :: bs => match overI b 0 pre with
    | some j => some (j, pre.length)
    | none => overP (pre ++ [b]) bs
def iD (k : Nat) : D := .int k
def faultB (room : Bx) (ws : List Int) (bs : List Bx) : D := match wrongA room.area ws.sum 0 bs ws with
  | some k => .tup [.str "area", iD k]
  | none => match outB room 0 bs with
    | some k => .tup [.str "out", iD k]
    | none => match overP [] bs with
      | some (j, k) => .tup [.str "over", iD j, iD k]
      | none => .non
def faultD (room : Bx) (ws : List Int) (ys : List D) : D := if ys.length = ws.length then (match noBox 0 ys with
    | some k => .tup [.str "box", iD k]
    | none => faultB room ws (ys.filterMap D.box)) else .tup [.str "count"]
theorem noBox_none : ∀ {ys : List D} {k : Nat}, noBox k ys = none → ys = (ys.filterMap D.box).map bD
  | [], _, _ => rfl
  | y :: ys, k, h => by
    unfold noBox at h
    split at h
    · rename_i hy
      obtain ⟨b, hb⟩ := Option.isSome_iff_exists.mp hy
      rw [List.filterMap_cons_some hb, List.map_cons, ← noBox_none h, ← box_some hb]
    · cases h
theorem noBox_bs : ∀ (bs : List Bx) (k : Nat), noBox k (bs.map bD) = none
  | [], _ => rfl
  | b :: bs, k => by
    rw [List.map_cons]
    unfold noBox
    rw [box_bD, if_pos (by rfl)]
    exact noBox_bs bs (k + 1)
theorem fm_bs : ∀ bs : List Bx, (bs.map bD).filterMap D.box = bs
  | [] => rfl
  | b :: bs => by rw [List.map_cons, List.filterMap_cons_some box_bD, fm_bs bs]
theorem Bx.r_rb {n : Nat} {b : Bx} (h : b.sz n) : Rb (n + n + 1) b.r := h.1.add h.2.2.1
theorem Bx.f_rb {n : Nat} {b : Bx} (h : b.sz n) : Rb (n + n + 1) b.f := h.2.1.add h.2.2.2
theorem fIx_eD0 {b : Bx} {Q : Re → Prop} : fIx (eD b) (.int 0) Q = Q (.va (fD b.l)) := by unfold eD; rw [fIx_tupint, atI0, atK_s]
theorem fIx_eD1 {b : Bx} {Q : Re → Prop} : fIx (eD b) (.int 1) Q = Q (.va (fD b.t)) := by unfold eD; rw [fIx_tupint, atI1, atK_s]
theorem fIx_eD2 {b : Bx} {Q : Re → Prop} : fIx (eD b) (.int 2) Q = Q (.va (fD b.r)) := by unfold eD; rw [fIx_tupint, atI2, atK_s]
theorem fIx_eD3 {b : Bx} {Q : Re → Prop} : fIx (eD b) (.int 3) Q = Q (.va (fD b.f)) := by unfold eD; rw [fIx_tupint, atI3, atK_s]
theorem SED : (∀ (b : Bx) (Q : Re → Prop), fIx (eD b) (.int 0) Q = Q (.va (fD b.l))) ∧ (∀ (b : Bx) (Q : Re → Prop), fIx (eD b) (.int 1) Q = Q (.va (fD b.t))) ∧ (∀ (b : Bx) (Q : Re → Prop), fIx (eD b) (.int 2) Q = Q (.va (fD b.r))) ∧ (∀ (b : Bx) (Q : Re → Prop), fIx (eD b) (.int 3) Q = Q (.va (fD b.f))) :=
  ⟨by intros; apply fIx_eD0, by intros; apply fIx_eD1, by intros; apply fIx_eD2, by intros; apply fIx_eD3⟩
theorem not_lt_dec (a b : Rat) : decide (¬ a < b) = decide (b ≤ a) := decide_eq_decide.mpr Rat.not_lt
def optD : Option Nat → D
  | none => .non
  | some k => .int k
theorem optD_n : optD none = .non := rfl
theorem optD_s {k : Nat} : optD (some k) = .int k := rfl
def prD' : Option (Nat × Nat) → D
  | none => .non
  | some (j, k) => .tup [.int j, .int k]
theorem at_map {α : Type} {f : α → D} {pre post : List α} {a : α} {n : Int} (h : n = (pre.length : Nat)) : atI ((pre ++ a :: post).map f) n = some (f a) := by
  subst h
  exact atI_nat (by simp)
end WR

set_option Elab.async false
set_option linter.all false
set_option maxRecDepth 100000
set_option maxHeartbeats 4000000
set_option autoImplicit false
/-! Dicts. -/
namespace WR
open PySem PySem.Spec PyProof.Rows L2
def D.key : D → Option Key
  | .int i => some (.inl i)
  | .str s => some (.inr s)
  | _ => none
theorem Top.key {K : PySem.W.Frag} {F H : Hp} {x : V} {d : D} {k : Key} (h : Top K F H x d) (e : d.key = some k) : x = kV k := by
  cases d with
  | int i => cases e; exact h.int
  | str s => cases e; exact h.str
  | _ => cases e
/-- what stands at a key -/
def dgt : List Key → List D → Key → Option D
  | k :: ks, d :: ds, q => if k = q then some d else dgt ks ds q
  | _, _, _ => none
theorem dgt_val {K : PySem.W.Frag} {F : Hp} {q : Key} : ∀ {kvs : List (Key × V)} {ds : List D}, RepL K F (kvs.map (·.2)) ds → (∀ d, dgt (kvs.map (·.1)) ds q = some d → ∃ v, valV kvs q = some v ∧ Rep K F v d) ∧ (dgt (kvs.map (·.1)) ds q = none → valV kvs q = none)
  | [], ds, l => by
    cases l
    exact ⟨fun d h => by simp [dgt] at h, fun _ => rfl⟩
  | p :: kvs, _, .cons (d := d) (ds := ds) r l => by
    obtain ⟨i1, i2⟩ := dgt_val (q := q) l
    simp only [List.map_cons, dgt]
    by_cases h : p.1 = q
    · rw [if_pos h, valV_pos h]
      exact ⟨fun d e => by cases e; exact ⟨_, rfl, r⟩, fun z => by cases z⟩
    · rw [if_neg h, valV_neg h]
      exact ⟨i1, i2⟩
/-- put at a key -/
def dset (q : Key) (d : D) : List Key → List D → List D
  | k :: ks, x :: xs => (if k = q then d else x) :: dset q d ks xs
  | _, _ => []
def dputK (ks : List Key) (q : Key) : List Key := if (ks.any fun k => decide (k = q)) = true then ks else ks ++ [q]
def dputD (ks : List Key) (ds : List D) (q : Key) (d : D) : List D := if (ks.any fun k => decide (k = q)) = true then dset q d ks ds else ds ++ [d]
theorem any_fst {q : Key} : ∀ kvs : List (Key × V), (kvs.any fun kv => decide (kv.1 = q)) = ((kvs.map (·.1)).any fun k => decide (k = q))
  | [] => rfl
  | p :: kvs => by rw [List.any_cons, List.map_cons, List.any_cons, any_fst kvs]
theorem dput_rep {K : PySem.W.Frag} {F : Hp} {q : Key} {v : V} {d : D} (r : Rep K F v d) {kvs : List (Key × V)} {ds : List D} (l : RepL K F (kvs.map (·.2)) ds) : (putK kvs q v).map (·.1) = dputK (kvs.map (·.1)) q ∧ RepL K F ((putK kvs q v).map (·.2)) (dputD (kvs.map (·.1)) ds q d) := by
  unfold putK dputK dputD
  rw [any_fst]
  split
  · rename_i h
    clear h
    induction kvs generalizing ds with
    | nil => cases l; exact ⟨rfl, by simp [dset]; exact .nil⟩
    | cons p kvs ih =>
      cases l with
      | cons r1 l1 =>
        obtain ⟨e1, e2⟩ := ih l1
        simp only [List.map_cons]
        refine ⟨?_, ?_⟩
        · rw [e1]
          congr 1
          split <;> rfl
        · unfold dset
          refine .cons ?_ e2
          by_cases hp : p.1 = q
          · rw [if_pos hp, if_pos hp]; exact r
          · rw [if_neg hp, if_neg hp]; exact r1
  · exact ⟨by simp, by rw [List.map_append]; exact l.append (.cons r .nil)⟩
theorem dputK_len (ks : List Key) (q : Key) : (dputK ks q).length ≤ ks.length + 1 := by
  unfold dputK; split <;> simp
/-! ### d[k] -/
def onKey (y : D) (k : Key → Prop) : Prop := match y.key with
  | some q => k q
  | none => False
def fIxG : D → D → (Re → Prop) → Prop := fun x y Q => match x with
  | .dic ks ds => onKey y fun q => atK (dgt ks ds q) fun d => Q (.va d)
  | x => fIx x y Q
def rDGet : R2 := fun x y H Q => ∃ a v, x = .ref a ∧ DGet H a y (some v) ∧ Q v H
theorem ixG_snd {K : PySem.W.Frag} : OpS K fIxG (fun x y H Q => ((rIxL K x y H Q ∨ rIxT K x y H Q) ∨ rIxS x y H Q) ∨ rDGet x y H Q) := by
  intro F H x y dx dy Q Q' sf tx ty h k
  unfold fIxG at h
  split at h
  · rename_i ks ds
    unfold onKey at h
    split at h
    · rename_i q hq
      obtain ⟨d, hd, h⟩ := h
      obtain ⟨a, kvs, e, ha, rfl, l⟩ := tx.dic sf
      obtain ⟨v, hv, r⟩ := (dgt_val l).1 d hd
      have ey := ty.key hq
      subst ey
      refine .inr ⟨a, v, e, ?_, k (.va d) v F H (.refl sf) r h⟩
      rw [← hv]
      exact DGet.k ha
    · exact h.elim
  · exact .inl (ix_snd F H x y dx dy Q Q' sf tx ty h k)
section
variable {X : Cx} {W : WX} {a b : Expr} {pos : Pos} {ma mb : MX} {k : Nat}
theorem ix_dict (hu : X.A.units + 1 < cLine) : IxR X rDGet := by
  intro value slice pins s σ H x y v u Q I rx ry h hs
  obtain ⟨a, w, rfl, g, q⟩ := h
  obtain rfl : v = Value.ref a := rx
  exact tail_any (dict_typeIs I g) PySem.F.slot_dict_getitem.lookup (d_getItem hu I g ry fun w' s' I' r' => ⟨w, H, I', r', q⟩) hs
theorem q_ixG (hr : Room k X.A) (ha : QX X W a ma) (hb : QX X W b mb) (hs : PlainIx b := by intro _ _; rfl) : QX X W (.Subscript a b pos) (mBin fIxG ma mb) := (pe_ix (((ix_list.or ix_tup).or ix_str).or (ix_dict (hu_of hr))) ha hb hs).imp fun _ _ _ h => tX_bin ixG_snd h
end
/-! ### d[k] = v -/
section
variable {X : Cx} {W : WX} {pos : Pos} {k : Nat}
theorem pset_or {t t' : TSet} (h : PSet X t) (h' : PSet X t') : PSet X (fun o i v H Q => t o i v H Q ∨ t' o i v H Q) := fun pins s σ H o i v ov iv u Q I ro ri rv q => q.elim (h pins s σ H o i v ov iv u Q I ro ri rv) (h' pins s σ H o i v ov iv u Q I ro ri rv)
def rSetK : TSet := fun o i v H Q => ∃ a H', o = .ref a ∧ DPut H a i v H' ∧ Q H'
theorem set_dict (hu : X.A.units + 1 < cLine) : PSet X rSetK := by
  intro pins s σ H o i v ov iv u Q I ro ri rv h
  obtain ⟨a, H', rfl, g, q⟩ := h
  obtain rfl : ov = Value.ref a := ro
  exact d_setItem hu I g ri rv fun s' I' => ⟨H', I', q⟩
def setG (o kd d : D) (Q : D → Prop) : Prop := match o with
  | .lst ds => (match kd with
    | .int k => atK (ixN ds.length k) fun j => Q (.lst (ds.set j d))
    | _ => False)
  | .dic ks ds => onKey kd fun q => ks.length < sizeLine ∧ Q (.dic (dputK ks q) (dputD ks ds q d))
  | _ => False
def mSetG (i : Nat) (mk me : MX) : MS := fun De ρ => me ρ (fun r ρ1 => frz r ρ1 fun d ρ2 => rdS ρ2 i fun _ => mk ρ2 (fun rk ρ3 => opd rk ρ3 fun kd => ownS ρ3 i fun o put => setG o kd d fun o' => De.nx (put o')) De.ex) De.ex
theorem q_setG {i : Nat} {x : Str} {ek e : Expr} {mk me : MX} {p p2 : Pos} (hr : Room k X.A) (hk : QX X W ek mk) (he : QX X W e me) (hN : X.N[i]? = some x := by rfl) (hv : Vis X.env.scope x := by first | exact Or.inl rfl | exact Or.inr (Or.inl rfl) | exact Or.inr (Or.inr rfl)) (hd : (x == ("__debug__" : Str)) = false := by decide)
    (hcd : (x == ("__classdict__" : Str)) = false := by decide) (ha : ∀ v, assign (.Subscript (.Name x p) ek p2) X.env v = (do
      let ov ← holding [v] (eval (.Name x p) X.env)
      let iv ← holding [v, ov] (eval ek X.env)
      standAt p2
      holding [v, ov, iv] (setItem ov iv v)
      release [v, ov, iv] []) := by intro _; rfl) (hs : swapsWithSole [.Subscript (.Name x p) ek p2] e pos.line X.env = pure false := by rfl) (hw : swappedStores [.Subscript (.Name x p) ek p2] e X.env = pure none := by rfl)
    (h1 : (assignEach [.Subscript (.Name x p) ek p2] X.env).map (·.2) = [assign (.Subscript (.Name x p) ek p2) X.env] := by rfl) : QS X W (.Assign [.Subscript (.Name x p) ek p2] e pos) (mSetG i mk me) :=
  (ps_asg he (pg_sub (pe_var hN hv hd hcd) hk (pset_or set_list (set_dict (hu_of hr))) ha) hs hw h1).imp fun D σ H ⟨G, F, ρ, De, ok, h, c⟩ =>
  tX.st ok c h fun r v ρ1 F1 H1 ok1 g1 re1 rf1 q1 => by
    obtain ⟨d, F2, ρ2, ok2, g2, s2, rp, q2⟩ := frz_ok ok1 g1 re1 rf1 q1
    obtain ⟨u, ru, eu, reu, rfu, q3⟩ := rdS_ok ok2 q2
    refine ⟨u, eu, tX.st ok2 (c.mono g2.ff) q3 fun rk vk ρ3 F3 H3 ok3 g3 rek rfk q4 => ?_⟩
    obtain ⟨kd, tk, q5⟩ := opd_top ok3 rek q4
    obtain ⟨q, o, put, e1, fq, ow, q6, _, back⟩ := ownS_ok ok3 eu q5
    subst e1
    unfold setG at q6
    split at q6
    · split at q6
      · obtain ⟨j, hj, q7⟩ := q6
        obtain ⟨vs, hq, l⟩ := ow
        refine .inl ⟨q, vs, _, j, rfl, tk.int, hq, by rw [l.length]; exact hj, ?_⟩
        have n1 := upd_new1 (o := .lst (vs.set j v)) ok3.sf fq
        obtain ⟨ok4, g4⟩ := back (d' := .lst _) n1 ⟨_, upd_same, RepL.set (rp.mono g3.ff) j l⟩
        exact c.nx σ F3 _ _ ok4 (g2.ff.trans (g3.ff.trans g4.ff)) q7
      · exact q6.elim
    · rename_i ks ds
      unfold onKey at q6
      split at q6
      · rename_i ky hky
        obtain ⟨hl, q7⟩ := q6
        obtain ⟨kvs, hq, rfl, l⟩ := ow
        have ek := tk.key hky
        subst ek
        obtain ⟨p1, p2⟩ := dput_rep (q := ky) (rp.mono g3.ff) l
        refine .inr ⟨q, _, rfl, DPut.k hq (by simpa using hl), ?_⟩
        have n1 := upd_new1 (o := .dK (putK kvs ky v)) ok3.sf fq
        obtain ⟨ok4, g4⟩ := back (d' := .dic _ _) n1 ⟨_, upd_same, p1, p2⟩
        exact c.nx σ F3 _ _ ok4 (g2.ff.trans (g3.ff.trans g4.ff)) q7
      · exact q6.elim
    · exact q6.elim
end
/-! ### k in d -/
def fInNG (neg : Bool) : D → D → (Re → Prop) → Prop := fun x y Q => match y with
  | .dic ks ds => onKey x fun q => Q (.va (.bl ((dgt ks ds q).isSome != neg)))
  | y => fInN neg x y Q
def fInG := fInNG false
def fNotInG := fInNG true
def rDIn (neg : Bool) : R2 := fun x y H Q => ∃ a o, y = .ref a ∧ DGet H a x o ∧ Q (.bl (if neg then !o.isSome else o.isSome)) H
theorem inG_snd {K : PySem.W.Frag} (neg : Bool) : OpS K (fInNG neg) (fun x y H Q => ((rIn K neg x y H Q) ∨ (∃ (c : Nat) (z : Str), x = .str ⟨#[c]⟩ ∧ y = .str z ∧ Q (.bl (if neg then !decide (c ∈ z.cps.toList) else decide (c ∈ z.cps.toList))) H)) ∨ rDIn neg x y H Q) := by
  intro F H x y dx dy Q Q' sf tx ty h k
  unfold fInNG at h
  split at h
  · rename_i ks ds
    unfold onKey at h
    split at h
    · rename_i q hq
      obtain ⟨a, kvs, e, ha, rfl, l⟩ := ty.dic sf
      have ex := tx.key hq
      subst ex
      refine .inr ⟨a, valV kvs q, e, DGet.k ha, ?_⟩
      obtain ⟨i1, i2⟩ := dgt_val (q := q) l
      have eo : (valV kvs q).isSome = (dgt (kvs.map (·.1)) ds q).isSome := by
        cases hd : dgt (kvs.map (·.1)) ds q with
        | none => rw [i2 hd]; rfl
        | some d => obtain ⟨v, hv, _⟩ := i1 d hd; rw [hv]; rfl
      have e2 : ∀ b : Bool, (if neg then !b else b) = (b != neg) := fun b => by cases neg <;> cases b <;> rfl
      rw [e2, eo]
      exact k (.va _) _ F H (.refl sf) (.bl _) h
    · exact h.elim
  · exact .inl (in_snd neg F H x y dx dy Q Q' sf tx ty h k)
section
variable {X : Cx} {W : WX} {a b : Expr} {pos : Pos} {ma mb : MX} {k : Nat}
theorem op_inK (hu : X.A.units + 1 < cLine) : OpR X (compareOp .In) (rDIn false) := by
  intro pins s σ H x y v u Q I rx ry h
  obtain ⟨a, o, rfl, g, q⟩ := h
  obtain rfl : u = Value.ref a := ry
  exact d_in hu I g rx fun s3 I3 => ⟨.bl o.isSome, H, I3, rfl, q⟩
theorem op_ninK (hu : X.A.units + 1 < cLine) : OpR X (compareOp .NotIn) (rDIn true) := by
  intro pins s σ H x y v u Q I rx ry h
  obtain ⟨a, o, rfl, g, q⟩ := h
  obtain rfl : u = Value.ref a := ry
  exact d_notIn hu I g rx fun s3 I3 => ⟨.bl (!o.isSome), H, I3, rfl, q⟩
theorem q_inG (hr : Room k X.A) (ha : QX X W a ma) (hb : QX X W b mb) (hm : behindInMarks .In b = false := by rfl) : QX X W (.Compare a [.In] [b] pos) (mBin fInG ma mb) := q_cmp (op_inN.or (op_inK (hu_of hr))) (inG_snd false) ha hb hm
theorem q_tinG (hr : Room k X.A) (ha : QX X W a ma) (hb : QX X W b mb) (hm : behindInMarks .In b = false := by rfl) : QT X W (.Compare a [.In] [b] pos) (mTest (mBin fInG ma mb)) := q_tcmp (op_inN.or (op_inK (hu_of hr))) (inG_snd false) ha hb hm
theorem q_ninG (hr : Room k X.A) (ha : QX X W a ma) (hb : QX X W b mb) (hm : behindInMarks .NotIn b = false := by rfl) : QX X W (.Compare a [.NotIn] [b] pos) (mBin fNotInG ma mb) := q_cmp (op_ninN.or (op_ninK (hu_of hr))) (inG_snd true) ha hb hm
theorem q_tninG (hr : Room k X.A) (ha : QX X W a ma) (hb : QX X W b mb) (hm : behindInMarks .NotIn b = false := by rfl) : QT X W (.Compare a [.NotIn] [b] pos) (mTest (mBin fNotInG ma mb)) := q_tcmp (op_ninN.or (op_ninK (hu_of hr))) (inG_snd true) ha hb hm
end
/-! ### len(d) -/
def fLenG : List D → (Re → Prop) → Prop := fun ds Q => match ds with
  | [.dic ks _] => Q (.va (.int ks.length))
  | ds => fLen ds Q
theorem lenG_snd {K : PySem.W.Frag} : CallS K fLenG (fun xs H Q => ((∃ p ys, xs = [.ref p] ∧ (SqL K H p ys ∨ SqT K H p ys) ∧ Q (.int (ys.length : Nat)) H) ∨ (∃ z : Str, xs = [.str z] ∧ z.length ≤ sizeLine ∧ Q (.int (z.length : Nat)) H)) ∨ ∃ a kvs, xs = [V.ref a] ∧ H a = some (.dK kvs) ∧ Q (.int kvs.length) H) := by
  intro F H xs ds Q Q' sf ts h k
  unfold fLenG at h
  split at h
  · obtain ⟨x, rfl, tx⟩ := ts.one
    obtain ⟨a, kvs, e, ha, rfl, l⟩ := tx.dic sf
    refine .inr ⟨a, kvs, by rw [e], ha, ?_⟩
    rw [List.length_map] at h
    exact k (.va _) _ F H (.refl sf) (.int _) h
  · exact .inl (len_snd F H xs ds Q Q' sf ts h k)
section
variable {X : Cx} {W : WX} {pos : Pos} {e : Expr} {mas : MA}
theorem callR_or {f : Value} {r r' : List V → Hp → VK → Prop} (h : CallR X f r) (h' : CallR X f r') : CallR X f (fun xs H Q => r xs H Q ∨ r' xs H Q) := fun pins s σ H xs us Q I rv q => q.elim (h pins s σ H xs us Q I rv) (h' pins s σ H xs us Q I rv)
end
/-! ### list(range(..)), tuple(range(..)) -/
section
variable {X : Cx} {W : WX} {pos p p2 pos2 : Pos} {a b : Expr} {ma mb : MX}
theorem repL_rg {K : PySem.W.Frag} {F : Hp} (a b : Int) : RepL K F (rgV a b) (rngD a (b - a).toNat) := by
  unfold rgV rngD
  generalize (List.range (b - a).toNat) = l
  induction l with
  | nil => exact .nil
  | cons n r ih => exact .cons (.int _) ih
def rgR (t : Bool) (lo : Int) (n : Nat) : Re := if t = true then .va (.tup (rngD lo n)) else .nw (.lst (rngD lo n))
def mLR1 (t : Bool) (m : MX) : MX := fun ρ Q E => m ρ (fun r ρ1 => onInt r fun n => -16777216 ≤ n ∧ n ≤ 16777216 ∧ Q (rgR t 0 n.toNat) ρ1) E
def mLR2 (t : Bool) (m1 m2 : MX) : MX := fun ρ Q E => m1 ρ (fun r ρ1 => m2 ρ1 (fun r2 ρ2 => onInt r fun i => onInt r2 fun j => -8000000 ≤ i ∧ i ≤ 8000000 ∧ -8000000 ≤ j ∧ j ≤ 8000000 ∧ Q (rgR t i (j - i).toNat) ρ2) E) E
theorem rg1_ok {Q' : VK} (t : Bool) {σ : L2.St} {H : Hp} (h : tX X.K W (mLR1 t ma) σ H Q') : tRg1 (tX X.K W ma) σ H fun i j H1 => RgOk i j ∧ ∀ q, H1 q = none → Q' (.ref q) (upd H1 q (if t = true then .tup (rgV i j) else .lst (rgV i j))) := by
  obtain ⟨G, F, ρ, Q, E, ok, hm, hp, he⟩ := h
  refine tX.mk ok hm (fun r v ρ1 F1 H1 ok1 g1 re1 rf1 h1 => ?_) he
  obtain ⟨n, rfl, h0, h2, h3⟩ := onInt_ok re1 h1
  refine ⟨n, rfl, ⟨by omega, by omega, by omega, by omega, by omega⟩, fun q hq => ?_⟩
  have e : (n - 0).toNat = n.toNat := by omega
  cases t with
  | true =>
    obtain ⟨nn, rr⟩ := new_tup ok1.sf hq (repL_rg (K := X.K) 0 n)
    rw [e] at rr
    exact (hp.after g1).new ok1 nn (r := .va _) rr h3
  | false =>
    obtain ⟨nn, rr⟩ := new_lst ok1.sf hq (repL_rg (K := X.K) 0 n)
    rw [e] at rr
    exact (hp.after g1).new ok1 nn rr h3
theorem rg2_ok {Q' : VK} (t : Bool) {σ : L2.St} {H : Hp} (h : tX X.K W (mLR2 t ma mb) σ H Q') : tRg2 (tX X.K W ma) (tX X.K W mb) σ H fun i j H1 => RgOk i j ∧ ∀ q, H1 q = none → Q' (.ref q) (upd H1 q (if t = true then .tup (rgV i j) else .lst (rgV i j))) := by
  obtain ⟨G, F, ρ, Q, E, ok, hm, hp, he⟩ := h
  refine tX.mk ok hm (fun r v ρ1 F1 H1 ok1 g1 re1 rf1 h1 => ?_) he
  refine tX.mk ok1 h1 (fun r2 v2 ρ2 F2 H2 ok2 g2 re2 rf2 h2 => ?_) (he.after g1)
  obtain ⟨i, rfl, h3⟩ := onInt_ok (re1.mono g2) h2
  obtain ⟨j, rfl, a1, a2, a3, a4, h4⟩ := onInt_ok re2 h3
  refine ⟨i, j, rfl, rfl, ⟨by omega, by omega, by omega, by omega, by omega⟩, fun q hq => ?_⟩
  cases t with
  | true =>
    obtain ⟨nn, rr⟩ := new_tup ok2.sf hq (repL_rg (K := X.K) i j)
    exact (hp.after (g1.trans g2)).new ok2 nn (r := .va _) rr h4
  | false =>
    obtain ⟨nn, rr⟩ := new_lst ok2.sf hq (repL_rg (K := X.K) i j)
    exact (hp.after (g1.trans g2)).new ok2 nn rr h4
theorem q_lr1 (hc : X.calm = true) (hm : X.mg "list" = none) (hm2 : X.mg "range" = none) (ha : QX X W a ma) (hg : Gl X "list" := by rfl) (hg2 : Gl X "range" := by rfl) (na : starEach [a] X.env = (false, eval a X.env) :: starEach [] X.env := by rfl)
    (nb : starEach [.Call (.Name "range" p2) [a] [] pos2] X.env = (false, eval (.Call (.Name "range" p2) [a] [] pos2) X.env) :: starEach [] X.env := by rfl) : QX X W (.Call (.Name "list" p) [.Call (.Name "range" p2) [a] [] pos2] [] pos) (mLR1 false ma) :=
  (pe_listRg hc hg hm (prg_1 hg2 hm2 ha na) nb).imp fun σ H Q' h => rg1_ok false h
theorem q_tr1 (hc : X.calm = true) (hm : X.mg "tuple" = none) (hm2 : X.mg "range" = none) (ha : QX X W a ma) (hg : Gl X "tuple" := by rfl) (hg2 : Gl X "range" := by rfl) (na : starEach [a] X.env = (false, eval a X.env) :: starEach [] X.env := by rfl)
    (nb : starEach [.Call (.Name "range" p2) [a] [] pos2] X.env = (false, eval (.Call (.Name "range" p2) [a] [] pos2) X.env) :: starEach [] X.env := by rfl) : QX X W (.Call (.Name "tuple" p) [.Call (.Name "range" p2) [a] [] pos2] [] pos) (mLR1 true ma) :=
  (pe_tupRg hc hg hm (prg_1 hg2 hm2 ha na) nb).imp fun σ H Q' h => rg1_ok true h
theorem q_lr2 (hc : X.calm = true) (hm : X.mg "list" = none) (hm2 : X.mg "range" = none) (ha : QX X W a ma) (hb : QX X W b mb) (hg : Gl X "list" := by rfl) (hg2 : Gl X "range" := by rfl) (na : starEach [a, b] X.env = (false, eval a X.env) :: starEach [b] X.env := by rfl) (nc : starEach [b] X.env = (false, eval b X.env) :: starEach [] X.env := by rfl) (hp : (backTo pos2 (starEach [b] X.env)).any (·.1) = false := by rfl)
    (nb : starEach [.Call (.Name "range" p2) [a, b] [] pos2] X.env = (false, eval (.Call (.Name "range" p2) [a, b] [] pos2) X.env) :: starEach [] X.env := by rfl) : QX X W (.Call (.Name "list" p) [.Call (.Name "range" p2) [a, b] [] pos2] [] pos) (mLR2 false ma mb) :=
  (pe_listRg hc hg hm (prg_2 hg2 hm2 ha hb na nc hp) nb).imp fun σ H Q' h => rg2_ok false h
end
/-! ### displays -/
section
variable {X : Cx} {W : WX} {pos : Pos}
def mPrs : List (MX × MX) → MA
  | [] => mNilA
  | p :: r => mConsA p.1 (mConsA p.2 (mPrs r))
def pairUp : List V → List (V × V)
  | a :: b :: r => (a, b) :: pairUp r
  | _ => []
theorem tPairs_of {K : PySem.W.Frag} : ∀ (l : List (MX × MX)) {σ : L2.St} {H : Hp} {Q' : List (V × V) → Hp → Prop} {G : Gm} {F : Hp} {ρ : Nv} {Q : List Re → Nv → Prop} {E : EK}, Ok K G F σ H ρ → mPrs l ρ Q E →
    (∀ (rs : List Re) (vs : List V) (ρ' : Nv) (F' H' : Hp), Ok K G F' σ H' ρ' → Gr σ F F' H H' ρ ρ' → ReOks K G H F' σ H' ρ' vs rs → Q rs ρ' → Q' (pairUp vs) H') → PostE K W G F σ H ρ E → tPairs (l.map fun p => (tX K W p.1, tX K W p.2)) σ H Q'
  | [], σ, H, Q', G, F, ρ, Q, E, ok, hm, hp, he => hp [] [] ρ F H ok .refl .nil hm
  | p :: l, σ, H, Q', G, F, ρ, Q, E, ok, hm, hp, he => by
    refine tX.mk ok hm (fun r1 v1 ρ1 F1 H1 ok1 g1 re1 rf1 h1 => ?_) he
    refine tX.mk ok1 h1 (fun r2 v2 ρ2 F2 H2 ok2 g2 re2 rf2 h2 => ?_) (he.after g1)
    refine tPairs_of l ok2 h2 (fun rs vs ρ3 F3 H3 ok3 g3 res h3 => ?_) (he.after (g1.trans g2))
    exact hp (r1 :: r2 :: rs) (v1 :: v2 :: vs) ρ3 F3 H3 ok3 ((g1.trans g2).trans g3) (.cons ⟨(re1.mono g2).mono g3, rf1⟩ (.cons ⟨re2.mono g3, rf2.before g1⟩ (Paired.mapP res fun _ _ y => ⟨y.1, y.2.before (g1.trans g2)⟩))) h3
/-- keys and things by turns -/
def prK : List D → Option (List Key)
  | k :: _ :: r => match k.key, prK r with
    | some q, some qs => some (q :: qs)
    | _, _ => none
  | [] => some []
  | _ => none
def prV : List D → List D
  | _ :: d :: r => d :: prV r
  | _ => []
def mrgK : List Key → List Key → List Key
  | ks, [] => ks
  | ks, q :: qs => mrgK (dputK ks q) qs
def mrgD : List Key → List D → List Key → List D → List D
  | ks, ds, q :: qs, x :: xs => mrgD (dputK ks q) (dputD ks ds q x) qs xs
  | _, ds, _, _ => ds
theorem prs_ok {K : PySem.W.Frag} {F : Hp} : ∀ {ds : List D} {vs : List V} {qs : List Key}, RepL K F vs ds → prK ds = some qs → ∃ kvs : List (Key × V), pairUp vs = kvs.map (fun kv => (kV kv.1, kv.2)) ∧ kvs.map (·.1) = qs ∧ RepL K F (kvs.map (·.2)) (prV ds)
  | [], _, qs, .nil, e => by cases e; exact ⟨[], rfl, rfl, .nil⟩
  | [_], _, qs, .cons _ .nil, e => by cases e
  | k :: d :: r, _, qs, .cons (v := v1) rk (.cons (v := v2) rd l), e => by
    unfold prK at e
    split at e
    · rename_i q qs' hq hqs
      cases e
      obtain ⟨kvs, e1, e2, e3⟩ := prs_ok l hqs
      have ek : v1 = kV q := Top.key (F := F) (H := F) (.inl rk) hq
      refine ⟨(q, v2) :: kvs, ?_, by rw [List.map_cons, e2], .cons rd e3⟩
      unfold pairUp
      rw [e1, ek]; rfl
    · cases e
theorem mrg_ok {K : PySem.W.Frag} {F : Hp} : ∀ {more : List (Key × V)} {ms : List D} {kvs : List (Key × V)} {ds : List D}, RepL K F (more.map (·.2)) ms → RepL K F (kvs.map (·.2)) ds → (mergeK kvs more).map (·.1) = mrgK (kvs.map (·.1)) (more.map (·.1)) ∧ RepL K F ((mergeK kvs more).map (·.2)) (mrgD (kvs.map (·.1)) ds (more.map (·.1)) ms)
  | [], _, kvs, ds, .nil, l => ⟨rfl, l⟩
  | p :: more, _, kvs, ds, .cons r rs, l => by
    obtain ⟨e1, e2⟩ := dput_rep (q := p.1) r l
    have := mrg_ok (more := more) (kvs := putK kvs p.1 p.2) rs e2
    rw [e1] at this
    exact this
def mDisp (l : List (MX × MX)) : MX := fun ρ Q E => mPrs l ρ (fun rs ρ1 => frzL rs ρ1 fun ds ρ2 => atK (prK ds) fun qs => qs.length ≤ 15 ∧ Q (.nw (.dic (mrgK [] qs) (mrgD [] [] qs (prV ds)))) ρ2) E
theorem q_disp {keys : List (Option Expr)} {values : List Expr} {l : List (MX × MX)} (h : PPs X pos keys values (l.map fun p => (tX X.K W p.1, tX X.K W p.2))) (hall : keys.all (·.isSome) = true := by rfl) (hl : keys.length = values.length := by rfl) (h0 : keys ≠ [] := by intro z; cases z)
    (h15 : keys.length ≤ 15 := by decide) : QX X W (.Dict keys values pos) (mDisp l) := (pe_disp h hall hl h0 h15).imp fun σ H Q' ⟨G, F, ρ, Q, E, ok, hm, hp, he⟩ => fun p hq => by
  obtain ⟨n, f⟩ := new_obj (o := .dK []) ok.sf hq
  have x0 : NewR X.K F H (upd H p (.dK [])) (.ref p) (.nw (.dic [] [])) := ⟨p, rfl, f, hq, [], upd_same, rfl, .nil⟩
  have re0 := x0.ok ok n
  have g0 : Gr σ F F H (upd H p (.dK [])) ρ ρ := .new n
  refine tPairs_of l (ok.grow n) hm (fun rs vs ρ1 F1 H1 ok1 g1 res h1 => ?_) (he.after g0)
  obtain ⟨ds, F2, ρ2, ok2, g2, s2, rl, qs, hqs, hl15, h2⟩ := frzL_ok ok1 g1 (Paired.mapP res fun _ _ y => ⟨y.1.w, y.2⟩) h1
  obtain ⟨p', ep, f2, z0, ⟨kvs0, e0, e1, _⟩, no⟩ := re0.mono g2
  cases ep
  have ek : kvs0 = [] := by simpa using e1
  subst ek
  obtain ⟨kvs, k1, k2, k3⟩ := prs_ok rl hqs
  subst k2
  obtain ⟨m1, m2⟩ := mrg_ok (kvs := []) (ds := []) k3 .nil
  refine ⟨e0, kvs, k1, ?_, ?_⟩
  · simpa using hl15
  · have ok3 := ok2.other (o := .dK (mergeK [] kvs)) f2 z0 no
    have g02 := g0.trans g2
    refine hp (.nw (.dic _ _)) (.ref p) ρ2 F2 _ ok3 ⟨g02.ff, fun b o e nb => ?_, fun b o e => ?_, g02.kn, g02.on, g02.nf⟩ ⟨p, rfl, f2, z0, ⟨_, upd_same, m1, m2⟩, no⟩ (fun q e => by cases e; exact hq) h2
    · rw [upd_ne (fun z => by rw [z, hq] at e; cases e)]; exact g02.hh b o e nb
    · by_cases hb : b = p
      · subst hb; exact ⟨_, upd_same⟩
      · rw [upd_ne hb]; exact g02.th b o e
end
end WR

set_option Elab.async false
set_option linter.all false
set_option maxRecDepth 100000
set_option maxHeartbeats 4000000
set_option autoImplicit false
/-! Rows for dicts. -/
namespace WR
open PySem PySem.Spec PyProof.Rows L2
section
variable {X : Cx} {W : WX} {pos : Pos} {e : Expr} {mas : MA}
theorem q_lenG {p : Pos} (hm : X.mg "len" = none) (ha : QA X W [e] mas) (hg : Gl X "len" := by rfl) (hse : starEach [e] X.env = (false, eval e X.env) :: starEach [] X.env := by rfl) : QX X W (.Call (.Name "len" p) [e] [] pos) (mCallB fLenG mas) := q_callB (callR_or (call_len_seq.or call_len_str) call_lenD) lenG_snd hm ha (hg := hg) (hse := hse)
end
theorem mSetG_e {i : Nat} {mk me : MX} {De : PEnds} {ρ : Nv} : mSetG i mk me De ρ = me ρ (fun r ρ1 => frz r ρ1 fun d ρ2 => rdS ρ2 i fun _ => mk ρ2 (fun rk ρ3 => opd rk ρ3 fun kd => owX ρ3 i (fun o => setG o kd d fun o' => setK ρ3 i (some (.ow o')) De.nx) (fun o => setG o kd d fun o' => setK ρ3 i (some (.lo o')) De.nx)) De.ex) De.ex := by
  unfold mSetG setK
  simp only [ownS_go]
theorem SP4 : (∀ (i : Nat) (mk me : MX) (De : PEnds) (ρ : Nv), mSetG i mk me De ρ = me ρ (fun r ρ1 => frz r ρ1 fun d ρ2 => rdS ρ2 i fun _ => mk ρ2 (fun rk ρ3 => opd rk ρ3 fun kd => owX ρ3 i (fun o => setG o kd d fun o' => setK ρ3 i (some (.ow o')) De.nx) (fun o => setG o kd d fun o' => setK ρ3 i (some (.lo o')) De.nx)) De.ex) De.ex) ∧
  (∀ (t : Bool) (m : MX) (ρ : Nv) (Q : QK) (E : EK), mLR1 t m ρ Q E = m ρ (fun r ρ1 => onInt r fun n => -16777216 ≤ n ∧ n ≤ 16777216 ∧ Q (rgR t 0 n.toNat) ρ1) E) ∧
  (∀ (t : Bool) (m1 m2 : MX) (ρ : Nv) (Q : QK) (E : EK), mLR2 t m1 m2 ρ Q E = m1 ρ (fun r ρ1 => m2 ρ1 (fun r2 ρ2 => onInt r fun i => onInt r2 fun j => -8000000 ≤ i ∧ i ≤ 8000000 ∧ -8000000 ≤ j ∧ j ≤ 8000000 ∧ Q (rgR t i (j - i).toNat) ρ2) E) E) ∧
  (∀ (l : List (MX × MX)) (ρ : Nv) (Q : QK) (E : EK), mDisp l ρ Q E = mPrs l ρ (fun rs ρ1 => frzL rs ρ1 fun ds ρ2 => atK (prK ds) fun qs => qs.length ≤ 15 ∧ Q (.nw (.dic (mrgK [] qs) (mrgD [] [] qs (prV ds)))) ρ2) E) ∧
  (mPrs [] = mNilA) ∧ (∀ (a b : MX) (r : List (MX × MX)), mPrs ((a, b) :: r) = mConsA a (mConsA b (mPrs r))) :=
  ⟨by intros; apply mSetG_e, by intros; rfl, by intros; rfl, by intros; rfl, rfl, by intros; rfl⟩
theorem onKey_i {i : Int} {k : Key → Prop} : onKey (.int i) k = k (.inl i) := rfl
theorem onKey_s {i : Str} {k : Key → Prop} : onKey (.str i) k = k (.inr i) := rfl
theorem fInG_l {x : D} {ys : List D} {Q : Re → Prop} : fInG x (.lst ys) Q = (x.flat = true ∧ ys.all D.flat = true ∧ Q (.va (.bl (inD x ys)))) := fIn_l
theorem fInG_t {x : D} {ys : List D} {Q : Re → Prop} : fInG x (.tup ys) Q = (x.flat = true ∧ ys.all D.flat = true ∧ Q (.va (.bl (inD x ys)))) := fIn_t
theorem fNotInG_l {x : D} {ys : List D} {Q : Re → Prop} : fNotInG x (.lst ys) Q = (x.flat = true ∧ ys.all D.flat = true ∧ Q (.va (.bl (!inD x ys)))) := fNotIn_l
theorem fNotInG_t {x : D} {ys : List D} {Q : Re → Prop} : fNotInG x (.tup ys) Q = (x.flat = true ∧ ys.all D.flat = true ∧ Q (.va (.bl (!inD x ys)))) := fNotIn_t
theorem fInG_z {c : Nat} {z : Str} {Q : Re → Prop} : fInG (.str ⟨#[c]⟩) (.str z) Q = Q (.va (.bl (decide (c ∈ z.cps.toList)))) := fIn_z
theorem fInG_d {x : D} {ks : List Key} {ds : List D} {Q : Re → Prop} : fInG x (.dic ks ds) Q = onKey x fun q => Q (.va (.bl (dgt ks ds q).isSome)) := by
  show onKey x (fun q => Q (.va (.bl ((dgt ks ds q).isSome != false)))) = _
  simp
theorem fNotInG_d {x : D} {ks : List Key} {ds : List D} {Q : Re → Prop} : fNotInG x (.dic ks ds) Q = onKey x fun q => Q (.va (.bl (!(dgt ks ds q).isSome))) := by
  show onKey x (fun q => Q (.va (.bl ((dgt ks ds q).isSome != true)))) = _
  simp
theorem SB4 : (∀ (xs : List D) (y : D) (Q : Re → Prop), fIxG (.lst xs) y Q = fIx (.lst xs) y Q) ∧ (∀ (xs : List D) (y : D) (Q : Re → Prop), fIxG (.tup xs) y Q = fIx (.tup xs) y Q) ∧ (∀ (xs : List Int) (y : D) (Q : Re → Prop), fIxG (.scr xs) y Q = fIx (.scr xs) y Q) ∧ (∀ (s : Str) (y : D) (Q : Re → Prop), fIxG (.str s) y Q = fIx (.str s) y Q) ∧
  (∀ (q : Rat) (y : D) (Q : Re → Prop), fIxG (fD q) y Q = fIx (fD q) y Q) ∧ (∀ (b : Bx) (y : D) (Q : Re → Prop), fIxG (bD b) y Q = fIx (bD b) y Q) ∧ (∀ (b : Bx) (y : D) (Q : Re → Prop), fIxG (eD b) y Q = fIx (eD b) y Q) ∧
  (∀ (ks : List Key) (ds : List D) (y : D) (Q : Re → Prop), fIxG (.dic ks ds) y Q = onKey y fun q => atK (dgt ks ds q) fun d => Q (.va d)) ∧ (∀ (i : Int) (k : Key → Prop), onKey (.int i) k = k (.inl i)) ∧ (∀ (i : Str) (k : Key → Prop), onKey (.str i) k = k (.inr i)) ∧
  (∀ (ks : List Key) (ds : List D) (kd d : D) (Q : D → Prop), setG (.dic ks ds) kd d Q = onKey kd fun q => ks.length < sizeLine ∧ Q (.dic (dputK ks q) (dputD ks ds q d))) ∧ (∀ (ds : List D) (k : Int) (d : D) (Q : D → Prop), setG (.lst ds) (.int k) d Q = atK (ixN ds.length k) fun j => Q (.lst (ds.set j d))) ∧
  (∀ (ks : List Key) (ds : List D) (Q : Re → Prop), fLenG [.dic ks ds] Q = Q (.va (.int ks.length))) ∧ (∀ (xs : List D) (Q : Re → Prop), fLenG [.lst xs] Q = fLen [.lst xs] Q) ∧ (∀ (xs : List D) (Q : Re → Prop), fLenG [.tup xs] Q = fLen [.tup xs] Q) ∧ (∀ (xs : List Int) (Q : Re → Prop), fLenG [.scr xs] Q = fLen [.scr xs] Q) ∧ (∀ (xs : Str) (Q : Re → Prop), fLenG [.str xs] Q = fLen [.str xs] Q) ∧ (∀ (q : Rat) (Q : Re → Prop), fLenG [fD q] Q = fLen [fD q] Q) ∧ (∀ (b : Bx) (Q : Re → Prop), fLenG [bD b] Q = fLen [bD b] Q) ∧
  (∀ (lo : Int) (n : Nat), rgR true lo n = .va (.tup (rngD lo n))) ∧ (∀ (lo : Int) (n : Nat), rgR false lo n = .nw (.lst (rngD lo n))) ∧
  (∀ (x : D) (ys : List D) (Q : Re → Prop), fInG x (.lst ys) Q = (x.flat = true ∧ ys.all D.flat = true ∧ Q (.va (.bl (inD x ys))))) ∧ (∀ (x : D) (ys : List D) (Q : Re → Prop), fInG x (.tup ys) Q = (x.flat = true ∧ ys.all D.flat = true ∧ Q (.va (.bl (inD x ys))))) ∧ (∀ (x : D) (ys : List D) (Q : Re → Prop), fNotInG x (.lst ys) Q = (x.flat = true ∧ ys.all D.flat = true ∧ Q (.va (.bl (!inD x ys))))) ∧ (∀ (x : D) (ys : List D) (Q : Re → Prop), fNotInG x (.tup ys) Q = (x.flat = true ∧ ys.all D.flat = true ∧ Q (.va (.bl (!inD x ys))))) ∧
  (∀ (c : Nat) (z : Str) (Q : Re → Prop), fInG (.str ⟨#[c]⟩) (.str z) Q = Q (.va (.bl (decide (c ∈ z.cps.toList))))) ∧ (∀ (x : D) (ks : List Key) (ds : List D) (Q : Re → Prop), fInG x (.dic ks ds) Q = onKey x fun q => Q (.va (.bl (dgt ks ds q).isSome))) ∧ (∀ (x : D) (ks : List Key) (ds : List D) (Q : Re → Prop), fNotInG x (.dic ks ds) Q = onKey x fun q => Q (.va (.bl (!(dgt ks ds q).isSome)))) :=
  ⟨by intros; rfl, by intros; rfl, by intros; rfl, by intros; rfl, by intros; rfl, by intros; rfl, by intros; rfl, by intros; rfl, by intros; rfl, by intros; rfl, by intros; rfl, by intros; rfl, by intros; rfl, by intros; rfl, by intros; rfl, by intros; rfl, by intros; rfl, by intros; rfl, by intros; rfl, by intros; rfl, by intros; rfl,
    by intros; apply fInG_l, by intros; apply fInG_t, by intros; apply fNotInG_l, by intros; apply fNotInG_t, by intros; apply fInG_z, by intros; apply fInG_d, by intros; apply fNotInG_d⟩
/-- dicts with written keys -/
theorem dgt_h {k q : Key} {ks : List Key} {d : D} {ds : List D} : dgt (k :: ks) (d :: ds) q = if k = q then some d else dgt ks ds q := rfl
theorem SDK : (∀ (k q : Key) (ks : List Key) (d : D) (ds : List D), dgt (k :: ks) (d :: ds) q = if k = q then some d else dgt ks ds q) ∧ (∀ q : Key, dgt [] [] q = none) ∧ (∀ a b : Str, ((Sum.inr a : Key) = Sum.inr b) = (a = b)) ∧ (∀ a b : Int, ((Sum.inl a : Key) = Sum.inl b) = (a = b)) ∧
  (∀ (k q : Key) (ks : List Key), dputK (k :: ks) q = if k = q then k :: ks else k :: dputK ks q) ∧ (∀ q : Key, dputK [] q = [q]) ∧
  (∀ (q : Key) (d : D), dputD [] [] q d = [d]) ∧
  (∀ (k : D) (x : D) (r : List D) (q : Key) (qs : List Key), k.key = some q → prK r = some qs → prK (k :: x :: r) = some (q :: qs)) ∧ (prK [] = some []) ∧ (∀ i : Int, (D.int i).key = some (.inl i)) ∧ (∀ s : Str, (D.str s).key = some (.inr s)) ∧ (∀ (k x : D) (r : List D), prV (k :: x :: r) = x :: prV r) ∧ (prV [] = []) ∧
  (∀ ks : List Key, mrgK ks [] = ks) ∧ (∀ (ks : List Key) (q : Key) (qs : List Key), mrgK ks (q :: qs) = mrgK (dputK ks q) qs) ∧ (∀ (ks : List Key) (ds xs : List D), mrgD ks ds [] xs = ds) ∧ (∀ (ks : List Key) (ds : List D) (q : Key) (qs : List Key) (x : D) (xs : List D), mrgD ks ds (q :: qs) (x :: xs) = mrgD (dputK ks q) (dputD ks ds q x) qs xs) :=
  ⟨by intros; apply dgt_h, by intros; rfl, by intros; simp, by intros; simp, fun k q ks => by
    unfold dputK
    by_cases h : k = q
    · rw [if_pos h, if_pos (by simp [h])]
    · rw [if_neg h, List.any_cons, decide_eq_false h, Bool.false_or]
      split <;> rfl, by intros; rfl, by intros; rfl, fun k x r q qs h1 h2 => by unfold prK; rw [h1, h2], by unfold prK; rfl, by intros; rfl, by intros; rfl, by intros; rfl, rfl, by intros; rfl, by intros; rfl, by intros; unfold mrgD; rfl, by intros; rfl⟩
/-! ### defs that call themselves -/
def no0 : P0 := fun _ _ _ => False
def no1 : P1 := fun _ _ _ _ => False
def rc0 (p : Nat → P0) : Nat → P0
  | 0 => no0
  | n + 1 => p n
def rc1 (p : Nat → P1) : Nat → P1
  | 0 => no1
  | n + 1 => p n
section
variable {P : Program} {w : World} {K : PySem.W.Frag} {mg : Str → Option Value} {base : Heap} {x : Str} {st : Stmt} {ps : List Str} {k : Nat}
theorem fokF0 (F : FnA K x st) (hb : ∀ (kV doc pm : Value) (an : Option Addr) (cdv ct : Value) (us : List Value), us.length = ps.length → bindArgs (PySem.W.fnOf x x (defArgs st) (defBody st) (defScope st) .none kV doc pm an cdv ct) ⟨us, []⟩ = pure (ps.zip us)) : Fok P w K mg base k (He.ga K x) ps (sp0 K no0) := by
  obtain ⟨fd, F⟩ := F
  exact ⟨fd, ⟨fun vs H Q E ⟨_, ds, _, _, _, _, h, _⟩ => False.elim h, fun A outer s H args us vs Q E _ _ _ _ ⟨_, ds, _, _, _, _, h, _⟩ => False.elim h⟩, F.bindsN hb, F.kp, F.bindsA hb⟩
theorem fokF1 {j : Nat} (F : FnA K x st) (hb : ∀ (kV doc pm : Value) (an : Option Addr) (cdv ct : Value) (us : List Value), us.length = ps.length → bindArgs (PySem.W.fnOf x x (defArgs st) (defBody st) (defScope st) .none kV doc pm an cdv ct) ⟨us, []⟩ = pure (ps.zip us)) : Fok P w K mg base k (He.ga K x) ps (sp1 K j no1) := by
  obtain ⟨fd, F⟩ := F
  exact ⟨fd, ⟨fun vs H Q E ⟨_, ds, _, _, _, _, _, _, _, _, _, h, _⟩ => False.elim h, fun A outer s H args us vs Q E _ _ _ _ ⟨_, ds, _, _, _, _, _, _, _, _, _, h, _⟩ => False.elim h⟩, F.bindsN hb, F.kp, F.bindsA hb⟩
end
theorem SRC : (∀ (p : Nat → P0) (n : Nat), rc0 p (n + 1) = p n) ∧ (∀ (p : Nat → P1) (n : Nat), rc1 p (n + 1) = p n) := ⟨by intros; rfl, by intros; rfl⟩
end WR

set_option Elab.async false
set_option linter.all false
set_option maxRecDepth 100000
set_option maxHeartbeats 4000000
set_option autoImplicit false
/-! zip, enumerate, range with a step. -/
namespace WR
open PySem PySem.Spec PyProof.Rows L2
section
variable {X : Cx} {W : WX} {pos p tpos : Pos} {mas : MA} {tg : Expr}
def zipD (xs ys : List D) : List D := (xs.zip ys).map fun q => .tup [q.1, q.2]
theorem zipD_get {xs ys : List D} {i : Nat} {x y : D} (hx : xs[i]? = some x) (hy : ys[i]? = some y) : (zipD xs ys)[i]? = some (.tup [x, y]) := by
  unfold zipD
  rw [List.getElem?_map, List.getElem?_zip_eq_some (z := (x, y)) |>.mpr ⟨hx, hy⟩]; rfl
theorem zipD_len {xs ys : List D} : (zipD xs ys).length = min xs.length ys.length := by simp [zipD]
theorem walks_zip {K : PySem.W.Frag} {F : Hp} {a b : Addr} {vs ws : List V} {ds es : List D} (ha : SqL K F a vs) (la : RepL K F vs ds) (hb : SqL K F b ws) (lb : RepL K F ws es) : Walks K F (Itz K a b) (zipD ds es) where
  go := fun i H s hi => by
    rw [zipD_len] at hi
    have h1 : i < vs.length := by rw [la.length]; omega
    have h2 : i < ws.length := by rw [lb.length]; omega
    exact ⟨vs, ws, vs[i], ws[i], s.seq ha, s.seq hb, List.getElem?_eq_getElem h1, List.getElem?_eq_getElem h2⟩
  stop := fun i H s hi => by
    rw [zipD_len] at hi
    refine ⟨vs, ws, s.seq ha, s.seq hb, ?_⟩
    rw [la.length, lb.length]; omega
  yld := fun i H v H' F1 s1 s2 hi ⟨T, x, y, ev, hT, eH, f1, f2⟩ => by
    subst ev; subst eH
    obtain ⟨d, hd, rd⟩ := la.get' (f1 vs ((s1.trans s2).seq ha))
    obtain ⟨e, he, re⟩ := lb.get' (f2 ws ((s1.trans s2).seq hb))
    obtain ⟨n, r⟩ := new_tup s2 hT (RepL.cons (rd.mono s1) (RepL.cons (re.mono s1) RepL.nil))
    exact ⟨_, n, _, zipD_get hd he, r⟩
theorem walks_zipT {K : PySem.W.Frag} {F : Hp} {a b : Addr} {vs ws : List V} {ds es : List D} (ha : SqT K F a vs) (la : RepL K F vs ds) (hb : SqT K F b ws) (lb : RepL K F ws es) : Walks K F (RZ.ItzT K a b) (zipD ds es) where
  go := fun i H s hi => by
    rw [zipD_len] at hi
    have h1 : i < vs.length := by rw [la.length]; omega
    have h2 : i < ws.length := by rw [lb.length]; omega
    exact ⟨vs, ws, vs[i], ws[i], SqT_mono s ha, SqT_mono s hb, List.getElem?_eq_getElem h1, List.getElem?_eq_getElem h2⟩
  stop := fun i H s hi => by
    rw [zipD_len] at hi
    refine ⟨vs, ws, SqT_mono s ha, SqT_mono s hb, ?_⟩
    rw [la.length, lb.length]; omega
  yld := fun i H v H' F1 s1 s2 hi ⟨T, x, y, ev, hT, eH, f1, f2⟩ => by
    subst ev; subst eH
    obtain ⟨d, hd, rd⟩ := la.get' (f1 vs (SqT_mono (s1.trans s2) ha))
    obtain ⟨e, he, re⟩ := lb.get' (f2 ws (SqT_mono (s1.trans s2) hb))
    obtain ⟨n, r⟩ := new_tup s2 hT (RepL.cons (rd.mono s1) (RepL.cons (re.mono s1) RepL.nil))
    exact ⟨_, n, _, zipD_get hd he, r⟩
def onZ (ds : List D) (k : List D → Prop) : Prop := match ds with
  | [.lst xs, .lst ys] => k (zipD xs ys)
  | [.tup xs, .tup ys] => k (zipD xs ys)
  | _ => False
def mZip (m : MA) : MI := fun ρ Q E => m ρ (fun rs ρ1 => frzL rs ρ1 fun ds ρ2 => onZ ds fun xs => Q xs ρ2) E
theorem qi_zip {a b : Expr} {elts : List Expr} {kk : Nat} (hm : X.mg "zip" = none) (ha : QA X W [a, b] mas) (hg : Gl X "zip" := by rfl) (hs : starEach [a, b] X.env = (false, eval a X.env) :: starEach [b] X.env := by rfl) (hpl : (backTo pos (starEach [b] X.env)).any (·.1) = false := by rfl) :
    QI X W (.Tuple elts kk tpos) (.Call (.Name "zip" p) [a, b] [] pos) (mZip mas) := (RZ.pi_zipA hg hm ha hs hpl).imp fun σ H R ⟨G, F, ρ, Q, E, ok, hm, hp, hE⟩ =>
  ⟨G, F, ρ, _, E, ok, hm, fun rs vs ρ1 F1 H1 ok1 g1 res h1 => by
    obtain ⟨ds, F2, ρ2, ok2, g2, s2, rl, h2⟩ := frzL_ok ok1 g1 (Paired.mapP res fun _ _ y => ⟨y.1.w, y.2⟩) h1
    unfold onZ at h2
    split at h2
    · cases rl with
      | cons r1 rl =>
        cases rl with
        | cons r2 rl =>
          cases rl
          cases r1 with
          | lst q1 l1 =>
            cases r2 with
            | lst q2 l2 => exact ⟨_, _, _, _, rfl, .inl ⟨ok2.sf.seq (SqL.of q1), ok2.sf.seq (SqL.of q2), hp _ ρ2 F2 H1 _ ok2 g2 (walks_zip (SqL.of q1) l1 (SqL.of q2) l2) h2⟩⟩
    · cases rl with
      | cons r1 rl =>
        cases rl with
        | cons r2 rl =>
          cases rl
          cases r1 with
          | tup q1 l1 =>
            cases r2 with
            | tup q2 l2 => exact ⟨_, _, _, _, rfl, .inr ⟨SqT_mono ok2.sf q1, SqT_mono ok2.sf q2, hp _ ρ2 F2 H1 _ ok2 g2 (walks_zipT q1 l1 q2 l2) h2⟩⟩
    · exact h2.elim, hE⟩
/-! ### enumerate -/
def enD (xs : List D) : List D := xs.mapIdx fun i x => .tup [.int (i : Nat), x]
theorem enD_get {xs : List D} {i : Nat} {x : D} (hx : xs[i]? = some x) : (enD xs)[i]? = some (.tup [.int (i : Nat), x]) := by
  unfold enD
  rw [List.getElem?_mapIdx, hx]; rfl
theorem walks_enum {K : PySem.W.Frag} {F : Hp} {a : Addr} {vs : List V} {ds : List D} (ha : SqL K F a vs) (la : RepL K F vs ds) : Walks K F (Ite K a) (enD ds) where
  go := fun i H s hi => by
    have h1 : i < vs.length := by rw [la.length]; simpa [enD] using hi
    exact ⟨vs, vs[i], s.seq ha, List.getElem?_eq_getElem h1⟩
  stop := fun i H s hi => ⟨vs, s.seq ha, by rw [la.length]; simp [enD] at hi; omega⟩
  yld := fun i H v H' F1 s1 s2 hi ⟨T, x, ev, hT, eH, f1⟩ => by
    subst ev; subst eH
    obtain ⟨d, hd, rd⟩ := la.get' (f1 vs ((s1.trans s2).seq ha))
    obtain ⟨n, r⟩ := new_tup s2 hT (RepL.cons (.int _) (RepL.cons (rd.mono s1) RepL.nil))
    exact ⟨_, n, _, enD_get hd, r⟩
def onE (ds : List D) (k : List D → Prop) : Prop := match ds with
  | [.lst xs] => k (enD xs)
  | _ => False
def mEnum (m : MA) : MI := fun ρ Q E => m ρ (fun rs ρ1 => frzL rs ρ1 fun ds ρ2 => onE ds fun xs => Q xs ρ2) E
theorem qi_enum {a : Expr} {elts : List Expr} {kk : Nat} (hm : X.mg "enumerate" = none) (ha : QA X W [a] mas) (hg : Gl X "enumerate" := by rfl) (hs : starEach [a] X.env = [(false, eval a X.env)] := by rfl) :
    QI X W (.Tuple elts kk tpos) (.Call (.Name "enumerate" p) [a] [] pos) (mEnum mas) := (pi_enum hg hm ha hs).imp fun σ H R ⟨G, F, ρ, Q, E, ok, hm, hp, hE⟩ =>
  ⟨G, F, ρ, _, E, ok, hm, fun rs vs ρ1 F1 H1 ok1 g1 res h1 => by
    obtain ⟨ds, F2, ρ2, ok2, g2, s2, rl, h2⟩ := frzL_ok ok1 g1 (Paired.mapP res fun _ _ y => ⟨y.1.w, y.2⟩) h1
    unfold onE at h2
    split at h2
    · cases rl with
      | cons r1 rl =>
        cases rl
        cases r1 with
        | lst q1 l1 => exact ⟨_, _, rfl, ok2.sf.seq (SqL.of q1), hp _ ρ2 F2 H1 _ ok2 g2 (walks_enum (SqL.of q1) l1) h2⟩
    · exact h2.elim, hE⟩
/-! ### range with a step -/
def rngC (lo c : Int) (n : Nat) : List D := (List.range n).map fun k => .int (lo + (k : Nat) * c)
theorem walks_rngC {K : PySem.W.Frag} {F : Hp} (lo c : Int) (n : Nat) : Walks K F (Itc lo c n) (rngC lo c n) where
  go := fun i H s hi => by show i < n; simpa [rngC] using hi
  stop := fun i H s hi => by show n ≤ i; simp [rngC] at hi; exact Nat.le_of_eq hi.symm
  yld := fun i H x H' F1 s1 s2 hi ⟨e, ev⟩ => by
    subst e; subst ev
    have hi' : i < n := by simpa [rngC] using hi
    refine ⟨F1, .refl s2, .int (lo + (i : Nat) * c), ?_, .int _⟩
    simp [rngC, hi']
def mRng3 (m : MA) : MI := fun ρ Q E => m ρ (fun rs ρ1 => onI3 rs fun i j c => ∃ n, RgC i j c n ∧ Q (rngC i c n) ρ1) E
theorem qi_rng3 {a b c : Expr} (hm : X.mg "range" = none) (ha : QA X W [a, b, c] mas) (hg : Gl X "range" := by rfl) (hs : starEach [a, b, c] X.env = (false, eval a X.env) :: starEach [b, c] X.env := by rfl) (hpl : (backTo pos (starEach [b, c] X.env)).any (·.1) = false := by rfl) : QI X W tg (.Call (.Name "range" p) [a, b, c] [] pos) (mRng3 mas) := (pi_range3 hg hm ha hs hpl).imp fun σ H R ⟨G, F, ρ, Q, E, ok, hm, hp, hE⟩ =>
  ⟨G, F, ρ, _, E, ok, hm, fun rs vs ρ1 F1 H1 ok1 g1 res h1 => by
    unfold onI3 at h1
    split at h1
    · cases res with
      | cons x l =>
        cases l with
        | cons y l =>
          cases l with
          | cons z l =>
            cases l
            cases x.1
            cases y.1
            cases z.1
            obtain ⟨n, hr, q⟩ := h1
            exact ⟨_, _, _, n, rfl, hr, hp _ ρ1 F1 H1 _ ok1 g1 (walks_rngC _ _ _) q⟩
    · exact h1.elim, hE⟩
end
theorem SQ5 : (∀ (m : MA) (ρ : Nv) (Q : List D → Nv → Prop) (E : EK), mZip m ρ Q E = m ρ (fun rs ρ1 => frzL rs ρ1 fun ds ρ2 => onZ ds fun xs => Q xs ρ2) E) ∧ (∀ (m : MA) (ρ : Nv) (Q : List D → Nv → Prop) (E : EK), mEnum m ρ Q E = m ρ (fun rs ρ1 => frzL rs ρ1 fun ds ρ2 => onE ds fun xs => Q xs ρ2) E) ∧
  (∀ (m : MA) (ρ : Nv) (Q : List D → Nv → Prop) (E : EK), mRng3 m ρ Q E = m ρ (fun rs ρ1 => onI3 rs fun i j c => ∃ n, RgC i j c n ∧ Q (rngC i c n) ρ1) E) ∧
  (∀ (xs ys : List D) (k : List D → Prop), onZ [.lst xs, .lst ys] k = k (zipD xs ys)) ∧ (∀ (xs ys : List D) (k : List D → Prop), onZ [.tup xs, .tup ys] k = k (zipD xs ys)) ∧ (∀ (xs : List D) (k : List D → Prop), onE [.lst xs] k = k (enD xs)) ∧
  (∀ (i j c : Int) (k : Int → Int → Int → Prop), onI3 [.va (.int i), .va (.int j), .va (.int c)] k = k i j c) :=
  ⟨by intros; rfl, by intros; rfl, by intros; rfl, by intros; rfl, by intros; rfl, by intros; rfl, by intros; rfl⟩
/-! ### the feed as a dict -/
def fdD (cs : List D) (a l : Int) : D := .dic [.inr "cells", .inr "at", .inr "left"] [.lst cs, .int a, .int l]
def Gd (n : Nat) (o : D) : Prop := ∃ (cs : List Int) (a l : Int), o = fdD (cs.map .int) a l ∧ 0 ≤ a ∧ cs.length ≤ 63 ∧ n + a ≤ 1000000
theorem Gd.mono {m n : Nat} {o : D} (h : Gd m o) (l : n ≤ m) : Gd n o := by
  obtain ⟨cs, a, b, e, h1, h2, h3⟩ := h
  exact ⟨cs, a, b, e, h1, h2, by omega⟩
theorem SFD : (∀ (cs : List D) (a l : Int) (Q : Re → Prop), fIxG (fdD cs a l) (.str "cells") Q = Q (.va (.lst cs))) ∧ (∀ (cs : List D) (a l : Int) (Q : Re → Prop), fIxG (fdD cs a l) (.str "at") Q = Q (.va (.int a))) ∧ (∀ (cs : List D) (a l : Int) (Q : Re → Prop), fIxG (fdD cs a l) (.str "left") Q = Q (.va (.int l))) ∧
  (∀ (cs : List D) (a l b : Int) (Q : D → Prop), setG (fdD cs a l) (.str "at") (.int b) Q = Q (fdD cs b l)) ∧ (∀ (cs : List D) (a l b : Int) (Q : D → Prop), setG (fdD cs a l) (.str "left") (.int b) Q = Q (fdD cs a b)) :=
  ⟨fun cs a l Q => by
    show (∃ d, dgt [.inr "cells", .inr "at", .inr "left"] [.lst cs, .int a, .int l] (.inr "cells") = some d ∧ Q (.va d)) = _
    rw [show dgt [.inr "cells", .inr "at", .inr "left"] [.lst cs, .int a, .int l] (.inr "cells") = some (.lst cs) from rfl]
    simp, fun cs a l Q => by
    show (∃ d, dgt [.inr "cells", .inr "at", .inr "left"] [.lst cs, .int a, .int l] (.inr "at") = some d ∧ Q (.va d)) = _
    rw [show dgt [.inr "cells", .inr "at", .inr "left"] [.lst cs, .int a, .int l] (.inr "at") = some (.int a) from rfl]
    simp, fun cs a l Q => by
    show (∃ d, dgt [.inr "cells", .inr "at", .inr "left"] [.lst cs, .int a, .int l] (.inr "left") = some d ∧ Q (.va d)) = _
    rw [show dgt [.inr "cells", .inr "at", .inr "left"] [.lst cs, .int a, .int l] (.inr "left") = some (.int l) from rfl]
    simp, fun cs a l b Q => by
    show (3 < sizeLine ∧ Q (.dic (dputK [.inr "cells", .inr "at", .inr "left"] (.inr "at")) (dputD [.inr "cells", .inr "at", .inr "left"] [.lst cs, .int a, .int l] (.inr "at") (.int b)))) = _
    rw [show dputK [.inr "cells", .inr "at", .inr "left"] (.inr "at") = [.inr "cells", .inr "at", .inr "left"] from rfl, show dputD [.inr "cells", .inr "at", .inr "left"] [.lst cs, .int a, .int l] (.inr "at") (.int b) = [.lst cs, .int b, .int l] from rfl]
    simp [sizeLine, fdD], fun cs a l b Q => by
    show (3 < sizeLine ∧ Q (.dic (dputK [.inr "cells", .inr "at", .inr "left"] (.inr "left")) (dputD [.inr "cells", .inr "at", .inr "left"] [.lst cs, .int a, .int l] (.inr "left") (.int b)))) = _
    rw [show dputK [.inr "cells", .inr "at", .inr "left"] (.inr "left") = [.inr "cells", .inr "at", .inr "left"] from rfl, show dputD [.inr "cells", .inr "at", .inr "left"] [.lst cs, .int a, .int l] (.inr "left") (.int b) = [.lst cs, .int a, .int b] from rfl]
    simp [sizeLine, fdD]⟩
/-! ### a, b = a list -/
def gTpL (n : Nat) (h : MGs) : MG := fun d ρ Q => match d with
  | .lst ds => ds.length = n ∧ h ds ρ Q
  | _ => False
section
variable {X : Cx} {W : WX} {pos : Pos}
theorem g_tupL {es : List Expr} {k : Nat} {h : MGs} {n : Nat} {is : List Nat} (hc : X.calm = true) (hg : QGs X es is h) (hn : (assignEach es X.env).length = n := by rfl) (hst : (assignEach es X.env).findIdx? (·.1) = none := by rfl) : QG X (.Tuple es k pos) is (gTpL n h) := (pg_lst hc hg hn hst).imp fun v σ H Q' ⟨G, F, ρ, d, Q, ok, r, hq, kk⟩ => by
  unfold gTpL at hq
  split at hq
  · cases r with
    | lst q l => exact ⟨_, _, rfl, ok.sf.seq (SqL.of q), by rw [l.length]; exact hq.1, G, F, ρ, _, Q, ok, l, hq.2, kk⟩
  · exact hq.elim
end
/-! ### x[:] = e -/
section
variable {prog : Program} {w : World} {A : Around} {E : Value → Shared → Prop} {s : Shared}
theorem bounds_all {n : Nat} : sliceBounds none none none n = ((0 : Int), (n : Int), 1) := by
  simp [sliceBounds]
open PyProof.Rows HT in
theorem setItem_all {l b sl : Addr} {items new : Array Value} {n n2 : Nat} {Q : Unit → Shared → Prop}
    (e : s.heap.get? l = some { cls := .type "list", data := .seq items n }) (e2 : s.heap.get? b = some { cls := .type "list", data := .seq new n2 }) (hne : l ≠ b)
    (hs : s.heap.IsSliceOf sl .none .none .none)
    (hsz : items.size + new.size ≤ sizeLine) (h : Q () { s with heap := s.heap.update l (Obj.mapSeq fun xs => xs.extract 0 0 ++ new ++ xs.extract items.size xs.size) }) :
    wpAny (model prog w) A (setItem (.ref l) (.ref sl) (.ref b)) Q E s := by
  have hl : s.heap.IsList l items := PySem.IsL.isList e
  have hb : s.heap.IsList b new := PySem.IsL.isList e2
  obtain ⟨os, hos, hcs, hds⟩ := id hs
  have hTs : s.TypeIs (.ref sl) "slice" := ⟨os, hos, hcs⟩
  have hstep : ¬ ((rawPart none == rawInt 0) = true) := Bool.false_ne_true
  have hsame : Builtin.List.listSameRef (.ref l) (.ref b) = false := by
    unfold Builtin.List.listSameRef
    exact beq_eq_false_iff_ne.mpr hne
  have hmax : (max (0 : Int) (items.size : Int)).toNat = items.size := by omega
  have hz' : ((fun xs : Array Value => xs.extract 0 0 ++ new ++ xs.extract items.size xs.size) items).size ≤ sizeLine + 1 := by
    simp only [Array.size_append, Array.size_extract]
    omega
  unfold setItem
  try with_reducible refine wpAny_holding ?_
  first | refine wpAny_bind (wpAny_pure ?_) | skip
  refine wpAny_bind (wpAny_sequenceKey hl.typeIs (by decide) ?_)
  refine wpAny_bind (wpAny_callSpecial?_slot (name := Str.ofString "__setitem__") hl.typeIs slot_list_setitem
    (wpAny_call_entry slot_list_setitem hl.typeIs entry_list_setitem ?_ (args_list_setitem _ _ _)))
  show wpAny _ _ (Builtin.List.listSubscript? (.ref sl) >>= _) _ _ s
  refine wpAny_bind ?_
  unfold Builtin.List.listSubscript?
  refine wpAny_bind (wpAny_specialOf hTs slice_no_index ?_)
  simp only [Option.isNone_none, if_true]
  refine wpAny_pure ?_
  show wpAny _ _ (typeOf (.ref sl) >>= _) _ _ s
  refine wpAny_bind (wpAny_typeOf hTs ?_)
  first
    | rw [if_neg (by decide)]
    | refine PySem.W.KFB.if_not (by decide) ?_
  rw [listSliceParts_eq]
  refine wpAny_bind (wpAny_bind (wpAny_field hos hds (x := .none) rfl (wpAny_bind (wpAny_listPart .none ?_))))
  rw [if_neg hstep]
  refine wpAny_bind (wpAny_field hos hds (x := .none) rfl (wpAny_bind (wpAny_listPart .none ?_)))
  refine wpAny_bind (wpAny_field hos hds (x := .none) rfl (wpAny_bind (wpAny_listPart .none (wpAny_pure ?_))))
  first
    | simp only [hsame, Bool.false_eq_true, if_false]
    | refine PySem.W.KFB.if_not hsame ?_
    | (dsimp only
       rw [if_neg (by rw [hsame]; exact Bool.false_ne_true)])
  refine wpAny_bind (m := Builtin.List.listAllItems (.ref b) "must assign iterable to extended slice") ?_
  unfold Builtin.List.listAllItems
  refine wpAny_bind (wpAny_typeOf hb.typeIs ?_)
  first
    | refine PySem.W.KFB.if_so (by decide) ?_
    | rw [if_pos (by decide)]
    | simp only [beq_self_eq_true, Bool.true_or, if_true]
  unfold Builtin.List.listItems
  refine wpAny_bind (wpAny_seqItems e2 rfl (wpAny_pure ?_))
  refine wpAny_bind (wpAny_bind (wpAny_seqItems e rfl (wpAny_pure ?_)))
  refine wpAny_bind (wpAny_of_eq ((sliceIndices_raw none none none items.size (by simp)).trans (congrArg (pure : Int × Int × Int → Sem (Int × Int × Int)) bounds_all)) ?_)
  show wpAny _ _ (if ((1 : Int) == 1) = true then _ else _) _ _ s
  rw [if_pos (by decide)]
  refine wpAny_bind (wpAny_rule ?_)
  first
    | simp only [notLongL hsz, Bool.false_eq_true, if_false]
    | refine PySem.W.KFB.if_not (notLongL hsz) ?_
  first | refine wpAny_bind (wpAny_pure ?_) | skip
  show wpAny _ _ (updateSeq l (fun xs => xs.extract 0 ((0 : Int)).toNat ++ new ++ xs.extract (max (0 : Int) (items.size : Int)).toNat xs.size) >>= _) _ _ s
  rw [hmax]
  refine wpAny_bind (wpAny_updateSeq (hz := Nat.le_trans (Nat.le_add_right _ _) hsz) (_hz' := hz') e rfl ?_)
  refine wpAny_bind (wpAny_letGo ?_)
  first
    | exact wpAny_bind (wpAny_pure (wpAny_pure ⟨.none, rfl, wpAny_pure h⟩))
    | exact wpAny_pure ⟨.none, rfl, wpAny_pure h⟩
end
section
variable {X : Cx} {W : WX} {pos : Pos}
theorem set_all {pins : List (Addr × Obj)} {s : Shared} {σ : L2.St} {H : Hp} {l b sl : Addr} {xs ys : List V} {Q : Unit → Shared → Prop} (I : Inv X pins σ H s)
    (hH : H l = some (.lst xs)) (hB : H b = some (.lst ys)) (hne : l ≠ b) (hs : s.heap.IsSliceOf sl .none .none .none)
    (hz : xs.length + ys.length ≤ sizeLine) (h : ∀ s', Inv X pins σ (upd H l (.lst ys)) s' → Q () s') :
    wpAny (model X.prog X.w) X.A (setItem (.ref l) (.ref sl) (.ref b)) Q X.xe s := by
  obtain ⟨z, its, n, r, hl, e⟩ := I.lstM hH
  obtain ⟨z2, its2, n2, r2, hl2, e2⟩ := I.lstM hB
  refine setItem_all e e2 hne hs (by rw [List.size_toArray, List.size_toArray]; omega) (h _ ?_)
  refine I.lset (its' := its2) (t' := s.toks) hH e ?_ r2 (by omega)
  have := splice_eq its its2 0 its.length
  simp at this ⊢
  try exact this
def gAll (to : TE) : TG := fun v σ H Q => to σ H fun o H1 => ∃ a b xs ys, o = .ref a ∧ v = .ref b ∧ H1 a = some (.lst xs) ∧ H1 b = some (.lst ys) ∧ a ≠ b ∧ xs.length + ys.length ≤ sizeLine ∧ Q σ (upd H1 a (.lst ys))
theorem pg_all {o : Expr} {to : TE} {p3 : Pos} (ho : PE X o to)
    (ha : ∀ v, assign (.Subscript o (.Slice none none none p3) pos) X.env v = (do
      let ov ← holding [v] (eval o X.env)
      let iv ← holding [v, ov] (eval (.Slice none none none p3) X.env)
      standAt pos
      holding [v, ov, iv] (setItem ov iv v)
      release [iv, v, ov] []) := by intro _; rfl) : PG X (.Subscript o (.Slice none none none p3) pos) (gAll to) := by
  refine ⟨fun pins s σ H v u Q I r h => ?_⟩
  rw [ha]
  refine wpAny_bind (wpAny_holding (thn (ho.run pins s σ H _ I h) fun ov s1 ⟨x, H1, I1, r1, q1⟩ => ?_))
  obtain ⟨a, b, xs, ys, rfl, rfl, h1, h2, hne, hz, q⟩ := q1
  cases r
  cases r1
  refine wpAny_bind (wpAny_holding (wpAny_Slice ?_))
  rw [evalPart_none]
  refine wpAny_pure (wpAny_pure (wpAny_pure ?_))
  have I4 : Inv X pins σ H1 { s1 with heap := s1.heap.push { cls := .type "slice", data := .fields #[.none, .none, .none] } } := I1.kept (t' := s1.toks) fun b ob q => Heap.get?_push_of_some _ q
  refine wpAny_bind (wpAny_standAt (wpAny_bind (wpAny_holding (set_all I4 h1 h2 hne (Heap.IsSliceOf.new ..) hz fun s3 I3 => ?_))))
  exact wpAny_release ⟨σ, _, I3, q⟩
def allG (o d : D) (Q : D → Prop) : Prop := match o, d with
  | .lst xs, .lst ys => xs.length + ys.length ≤ sizeLine ∧ Q (.lst ys)
  | _, _ => False
def mSetAll (i : Nat) (me : MX) : MS := fun De ρ => me ρ (fun r ρ1 => frz r ρ1 fun d ρ2 => rdS ρ2 i fun _ => ownS ρ2 i fun o put => allG o d fun o' => De.nx (put o')) De.ex
theorem q_setAll {i : Nat} {x : Str} {e : Expr} {me : MX} {p p2 p3 : Pos} (he : QX X W e me) (hN : X.N[i]? = some x := by rfl) (hv : Vis X.env.scope x := by first | exact Or.inl rfl | exact Or.inr (Or.inl rfl) | exact Or.inr (Or.inr rfl)) (hd : (x == ("__debug__" : Str)) = false := by decide)
    (hcd : (x == ("__classdict__" : Str)) = false := by decide) (ha : ∀ v, assign (.Subscript (.Name x p) (.Slice none none none p3) p2) X.env v = (do
      let ov ← holding [v] (eval (.Name x p) X.env)
      let iv ← holding [v, ov] (eval (.Slice none none none p3) X.env)
      standAt p2
      holding [v, ov, iv] (setItem ov iv v)
      release [iv, v, ov] []) := by intro _; rfl) (hs : swapsWithSole [.Subscript (.Name x p) (.Slice none none none p3) p2] e pos.line X.env = pure false := by rfl) (hw : swappedStores [.Subscript (.Name x p) (.Slice none none none p3) p2] e X.env = pure none := by rfl)
    (h1 : (assignEach [.Subscript (.Name x p) (.Slice none none none p3) p2] X.env).map (·.2) = [assign (.Subscript (.Name x p) (.Slice none none none p3) p2) X.env] := by rfl) : QS X W (.Assign [.Subscript (.Name x p) (.Slice none none none p3) p2] e pos) (mSetAll i me) :=
  (ps_asg he (pg_all (pe_var hN hv hd hcd) ha) hs hw h1).imp fun D σ H ⟨G, F, ρ, De, ok, h, c⟩ =>
  tX.st ok c h fun r v ρ1 F1 H1 ok1 g1 re1 rf1 q1 => by
    obtain ⟨d, F2, ρ2, ok2, g2, s2, rp, q2⟩ := frz_ok ok1 g1 re1 rf1 q1
    obtain ⟨u, ru, eu, reu, rfu, q3⟩ := rdS_ok ok2 q2
    obtain ⟨q, o, put, e1, fq, ow, q6, _, back⟩ := ownS_ok ok2 eu q3
    subst e1
    refine ⟨.ref q, eu, ?_⟩
    unfold allG at q6
    split at q6
    · obtain ⟨hz, q7⟩ := q6
      obtain ⟨vs, hq, l⟩ := ow
      cases rp with
      | lst qb lb =>
        rename_i b ws
        have hb : F2 b = some (.lst ws) := qb
        refine ⟨q, b, vs, ws, rfl, rfl, hq, ok2.sf _ _ hb, (fun z => by rw [z, hb] at fq; cases fq), by rw [l.length, lb.length]; exact hz, ?_⟩
        have n1 := upd_new1 (o := .lst ws) ok2.sf fq
        obtain ⟨ok4, g4⟩ := back (d' := .lst _) n1 ⟨_, upd_same, lb⟩
        exact c.nx σ F2 _ _ ok4 (g2.ff.trans g4.ff) q7
    · exact q6.elim
theorem mSetAll_e {i : Nat} {me : MX} {De : PEnds} {ρ : Nv} : mSetAll i me De ρ = me ρ (fun r ρ1 => frz r ρ1 fun d ρ2 => rdS ρ2 i fun _ => owX ρ2 i (fun o => allG o d fun o' => setK ρ2 i (some (.ow o')) De.nx) (fun o => allG o d fun o' => setK ρ2 i (some (.lo o')) De.nx)) De.ex := by
  unfold mSetAll setK
  simp only [ownS_go]
end
theorem SQ6 : (∀ (i : Nat) (me : MX) (De : PEnds) (ρ : Nv), mSetAll i me De ρ = me ρ (fun r ρ1 => frz r ρ1 fun d ρ2 => rdS ρ2 i fun _ => owX ρ2 i (fun o => allG o d fun o' => setK ρ2 i (some (.ow o')) De.nx) (fun o => allG o d fun o' => setK ρ2 i (some (.lo o')) De.nx)) De.ex) ∧
  (∀ (xs ys : List D) (Q : D → Prop), allG (.lst xs) (.lst ys) Q = (xs.length + ys.length ≤ sizeLine ∧ Q (.lst ys))) ∧ (∀ (n : Nat) (h : MGs) (ds : List D) (ρ : Nv) (Q : Nv → Prop), gTpL n h (.lst ds) ρ Q = (ds.length = n ∧ h ds ρ Q)) :=
  ⟨by intros; apply mSetAll_e, by intros; rfl, by intros; rfl⟩
end WR

set_option Elab.async false
set_option linter.all false
set_option maxRecDepth 100000
set_option maxHeartbeats 4000000
set_option autoImplicit false
/-! Fractions made whole, weights read back. -/
namespace WR
def lcmS (b d : Nat) : Nat := b / Nat.gcd b d * d
theorem lcmS_l (b d : Nat) : b ∣ lcmS b d := by
  unfold lcmS
  obtain ⟨x, hx⟩ := Nat.gcd_dvd_left b d
  obtain ⟨y, hy⟩ := Nat.gcd_dvd_right b d
  by_cases h : Nat.gcd b d = 0
  · have := Nat.eq_zero_of_gcd_eq_zero_right h
    subst this
    exact ⟨0, by simp⟩
  · have e : b / Nat.gcd b d = x := by
      conv => lhs; lhs; rw [hx]
      exact Nat.mul_div_cancel_left _ (by omega)
    rw [e]
    refine ⟨y, ?_⟩
    conv => lhs; rw [hy]
    conv => rhs; lhs; rw [hx]
    rw [Nat.mul_left_comm, Nat.mul_assoc]
theorem lcmS_r (b d : Nat) : d ∣ lcmS b d := ⟨_, Nat.mul_comm _ _⟩
theorem lcmS_pos {b d : Nat} (hb : 0 < b) (hd : 0 < d) : 0 < lcmS b d := by
  unfold lcmS
  exact Nat.mul_pos (Nat.div_pos (Nat.le_of_dvd hb (Nat.gcd_dvd_left b d)) (Nat.gcd_pos_of_pos_left _ hb)) hd
theorem lcmS_le (b d : Nat) : lcmS b d ≤ b * d := Nat.mul_le_mul_right _ (Nat.div_le_self _ _)
def lcmL : List Rat → Nat → Nat
  | [], b => b
  | q :: qs, b => lcmL qs (lcmS b q.den)
theorem lcmL_ok {k : Nat} : ∀ (qs : List Rat) (b j : Nat), 0 < b → b < 2 ^ j → (∀ q ∈ qs, Rb k q) → b ∣ lcmL qs b ∧ 0 < lcmL qs b ∧ lcmL qs b < 2 ^ (j + k * qs.length) ∧ ∀ q ∈ qs, q.den ∣ lcmL qs b
  | [], b, j, hb, hj, hq => ⟨Nat.dvd_refl _, hb, by simpa [lcmL] using hj, by simp⟩
  | q :: qs, b, j, hb, hj, hq => by
    have hd := q.den_pos
    have hq1 := (hq q (by simp)).2
    have h2 : lcmS b q.den < 2 ^ (j + k) := by
      have h3 : q.den < 2 ^ k := by simpa [Bs] using hq1
      refine Nat.lt_of_le_of_lt (lcmS_le _ _) ?_
      rw [Nat.pow_add]
      exact Nat.mul_lt_mul_of_lt_of_lt hj h3
    obtain ⟨a1, a2, a3, a4⟩ := lcmL_ok qs (lcmS b q.den) (j + k) (lcmS_pos hb hd) h2 (fun x hx => hq x (List.mem_cons_of_mem _ hx))
    refine ⟨Nat.dvd_trans (lcmS_l _ _) a1, a2, ?_, fun x hx => ?_⟩
    · show lcmL qs (lcmS b q.den) < _
      rw [List.length_cons, Nat.mul_succ, show j + (k * qs.length + k) = j + k + k * qs.length by omega]
      exact a3
    · rcases List.mem_cons.mp hx with rfl | hx
      · exact Nat.dvd_trans (lcmS_r _ _) a1
      · exact a4 x hx
def wholeL (qs : List Rat) : List Int := qs.map fun q => q.num * ((lcmL qs 1 / q.den : Nat) : Int)
def gcdI : List Int → Int → Int
  | [], g => g
  | x :: xs, g => gcdI xs (Int.gcd g x : Nat)
theorem gcdI_dvd : ∀ (xs : List Int) (g : Int), gcdI xs g ∣ g ∧ ∀ x ∈ xs, gcdI xs g ∣ x
  | [], g => ⟨Int.dvd_refl _, by simp⟩
  | x :: xs, g => by
    obtain ⟨a, b⟩ := gcdI_dvd xs (Int.gcd g x : Nat)
    refine ⟨Int.dvd_trans a (Int.gcd_dvd_left ..), fun y hy => ?_⟩
    rcases List.mem_cons.mp hy with rfl | hy
    · exact Int.dvd_trans a (Int.gcd_dvd_right ..)
    · exact b y hy
theorem gcdI_pos : ∀ (xs : List Int) (g : Int), 0 < g → 0 < gcdI xs g
  | [], g, h => h
  | x :: xs, g, h => gcdI_pos xs _ (by
    have := Int.gcd_pos_of_ne_zero_left x (a := g) (by omega)
    omega)
theorem gcdI_nn : ∀ (xs : List Int) (g : Int), 0 ≤ g → 0 ≤ gcdI xs g
  | [], g, h => h
  | x :: xs, g, h => gcdI_nn xs _ (by omega)
theorem gcdI_pos0 {x : Int} {xs : List Int} (h : 0 < x) : 0 < gcdI (x :: xs) 0 := gcdI_pos xs _ (by
  have := Int.gcd_pos_of_ne_zero_right 0 (b := x) (by omega)
  omega)
theorem gcdI_mul {c : Int} (hc : 0 ≤ c) : ∀ (xs : List Int) (g : Int), gcdI (xs.map (· * c)) (g * c) = gcdI xs g * c
  | [], g => rfl
  | x :: xs, g => by
    show gcdI (xs.map (· * c)) (Int.gcd (g * c) (x * c) : Nat) = gcdI xs (Int.gcd g x : Nat) * c
    rw [← gcdI_mul hc xs, Int.gcd_mul_right]
    congr 1
    rw [Int.natCast_mul]
    congr 1
    omega
def wbL (qs : List Rat) : List Int := (wholeL qs).map (· / gcdI (wholeL qs) 0)
theorem wbL_len {qs : List Rat} : (wbL qs).length = qs.length := by simp [wbL, wholeL]
structure WB (qs : List Rat) (G L : Int) : Prop where
  g0 : 0 < G
  l0 : 0 < L
  mul : (wbL qs).map (· * G) = wholeL qs
  whole : ∀ q : Rat, q ∈ qs → q.num * ((lcmL qs 1 / q.den : Nat) : Int) * q.den = q.num * L
theorem wb_ok {k : Nat} {qs : List Rat} (h0 : qs ≠ []) (hp : ∀ q ∈ qs, 0 < q) (hq : ∀ q ∈ qs, Rb k q) : WB qs (gcdI (wholeL qs) 0) (lcmL qs 1 : Nat) := by
  obtain ⟨a1, a2, a3, a4⟩ := lcmL_ok qs 1 1 (by decide) (by decide) hq
  have wp : ∀ x ∈ wholeL qs, 0 < x := fun x hx => by
    obtain ⟨q, hq, rfl⟩ := List.mem_map.mp hx
    have h1 : 0 < q.num := Rat.num_gt (hp q hq)
    have h2 : 0 < lcmL qs 1 / q.den := Nat.div_pos (Nat.le_of_dvd a2 (a4 q hq)) q.den_pos
    exact Int.mul_pos h1 (by omega)
  have g0 : 0 < gcdI (wholeL qs) 0 := by
    cases hw : wholeL qs with
    | nil => exact absurd (by simpa [wholeL] using hw) h0
    | cons x xs => exact gcdI_pos0 (wp x (by rw [hw]; simp))
  refine ⟨g0, by omega, ?_, fun q hq => ?_⟩
  · unfold wbL
    rw [List.map_map]
    conv => rhs; rw [← List.map_id (wholeL qs)]
    refine List.map_congr_left fun x hx => ?_
    exact Int.ediv_mul_cancel ((gcdI_dvd (wholeL qs) 0).2 x hx)
  · rw [Int.mul_assoc, ← Int.natCast_mul, Nat.div_mul_cancel (a4 q hq)]
theorem wb_pos {k : Nat} {qs : List Rat} (hp : ∀ q ∈ qs, 0 < q) (hq : ∀ q ∈ qs, Rb k q) : ∀ x ∈ wbL qs, 0 < x := by
  intro x hx
  have h0 : qs ≠ [] := fun z => by subst z; simp [wbL, wholeL] at hx
  have W := wb_ok h0 hp hq
  obtain ⟨a1, a2, a3, a4⟩ := lcmL_ok qs 1 1 (by decide) (by decide) hq
  have : x * gcdI (wholeL qs) 0 ∈ wholeL qs := by rw [← W.mul]; exact List.mem_map.mpr ⟨x, hx, by rw [W.mul]⟩
  obtain ⟨q, hq', e⟩ := List.mem_map.mp this
  have h1 : 0 < q.num := Rat.num_gt (hp q hq')
  have h2 : 0 < lcmL qs 1 / q.den := Nat.div_pos (Nat.le_of_dvd a2 (a4 q hq')) q.den_pos
  have h3 : 0 < x * gcdI (wholeL qs) 0 := by rw [← e]; exact Int.mul_pos h1 (by omega)
  exact Int.pos_of_mul_pos_left h3 (by have := W.g0; omega)
theorem wb_gcd {k : Nat} {qs : List Rat} (h0 : qs ≠ []) (hp : ∀ q ∈ qs, 0 < q) (hq : ∀ q ∈ qs, Rb k q) : gcdI (wbL qs) 0 = 1 := by
  have W := wb_ok h0 hp hq
  have h := gcdI_mul (Int.le_of_lt W.g0) (wbL qs) 0
  rw [W.mul, Int.zero_mul] at h
  have h2 := W.g0
  generalize gcdI (wholeL qs) 0 = G at *
  have : gcdI (wbL qs) 0 * G = 1 * G := by rw [← h, Int.one_mul]
  exact Int.eq_of_mul_eq_mul_right (by omega) this
theorem wb_get {k : Nat} {qs : List Rat} {i : Nat} {q : Rat} {x : Int} (hp : ∀ q ∈ qs, 0 < q) (hq : ∀ q ∈ qs, Rb k q) (h : qs[i]? = some q) (hx : (wbL qs)[i]? = some x) : x * gcdI (wholeL qs) 0 * q.den = q.num * (lcmL qs 1 : Nat) := by
  have hm : q ∈ qs := List.mem_of_getElem? h
  have W := wb_ok (fun z => by subst z; simp at h) hp hq
  rw [← W.whole q hm]
  congr 1
  have e := congrArg (·[i]?) W.mul
  simp only [List.getElem?_map, hx, Option.map_some] at e
  unfold wholeL at e ⊢
  rw [List.getElem?_map, h] at e
  simpa using e
theorem wb_cross {k : Nat} {qs : List Rat} {i j : Nat} {q p : Rat} {x y : Int} (hp : ∀ q ∈ qs, 0 < q) (hq : ∀ q ∈ qs, Rb k q) (h : qs[i]? = some q) (hx : (wbL qs)[i]? = some x) (h' : qs[j]? = some p) (hy : (wbL qs)[j]? = some y) : x * p.num * q.den = y * q.num * p.den := by
  have e1 := wb_get hp hq h hx
  have e2 := wb_get hp hq h' hy
  have W := wb_ok (fun z => by subst z; simp at h) hp hq
  have g0 := W.g0
  generalize gcdI (wholeL qs) 0 = G at *
  generalize ((lcmL qs 1 : Nat) : Int) = L at *
  refine Int.eq_of_mul_eq_mul_right (show G ≠ 0 by omega) ?_
  calc x * p.num * q.den * G = (x * G * q.den) * p.num := by grind
    _ = q.num * L * p.num := by rw [e1]
    _ = (p.num * L) * q.num := by grind
    _ = (y * G * p.den) * q.num := by rw [e2]
    _ = y * q.num * p.den * G := by grind
theorem wb_bs {k : Nat} {qs : List Rat} (hp : ∀ q ∈ qs, 0 < q) (hq : ∀ q ∈ qs, Rb k q) (hk : (qs.length + 1) * k ≤ 8000) : ∀ x ∈ wbL qs, Bs 8990 x := by
  intro x hx
  have h0 : qs ≠ [] := fun z => by subst z; simp [wbL, wholeL] at hx
  have W := wb_ok h0 hp hq
  have x0 := wb_pos hp hq x hx
  obtain ⟨a1, a2, a3, a4⟩ := lcmL_ok qs 1 1 (by decide) (by decide) hq
  have : x * gcdI (wholeL qs) 0 ∈ wholeL qs := by rw [← W.mul]; exact List.mem_map.mpr ⟨x, hx, by rw [W.mul]⟩
  obtain ⟨q, hq', e⟩ := List.mem_map.mp this
  have hL : Bs (1 + k * qs.length) ((lcmL qs 1 : Nat) : Int) := by simpa [Bs] using a3
  have hX : Bs (k + (1 + k * qs.length)) (q.num * ((lcmL qs 1 / q.den : Nat) : Int)) := by
    rw [Int.natCast_ediv]
    exact (hq q hq').1.mul (hL.div (by have := q.den_pos; omega))
  have hX2 := hX.mono (n := 8990) (by
    have : (qs.length + 1) * k = k * qs.length + k := by rw [Nat.mul_comm, Nat.mul_succ]
    omega)
  rw [e] at hX2
  have g0 := W.g0
  have le : x ≤ x * gcdI (wholeL qs) 0 := by
    have := Int.mul_le_mul_of_nonneg_left (show 1 ≤ gcdI (wholeL qs) 0 by omega) (show 0 ≤ x by omega)
    omega
  unfold Bs at hX2 ⊢
  generalize 2 ^ 8990 = z at *
  generalize x * gcdI (wholeL qs) 0 = y at *
  omega
end WR

set_option Elab.async false
set_option linter.all false
set_option maxRecDepth 100000
set_option maxHeartbeats 4000000
set_option autoImplicit false
/-! Walks over lists that stay owned. -/
namespace WR
open PySem PySem.Spec PyProof.Rows L2
/-- a local's own list, held at its place -/
def pinG (G : Gm) (k : Nat) (p : Addr) : Gm := { G with ows := (k, p) :: G.ows }
section
variable {K : PySem.W.Frag} {G : Gm} {F : Hp} {σ : L2.St} {H : Hp} {ρ : Nv} {k : Nat} {p : Addr} {d : D}
theorem Ok.kne (ok : Ok K G F σ H ρ) (h : ρ[k]? = some (some (.lo d))) : ∀ q ∈ G.ows, q.1 ≠ k := fun q hq z => by
  obtain ⟨_, d', e⟩ := ok.fx q hq
  rw [z, h] at e; cases e
theorem Ok.pin (ok : Ok K G F σ H ρ) (h : ρ[k]? = some (some (.lo d))) (hs : σ[k]? = some (some (.ref p))) : Ok K (pinG G k p) F σ H (ρ.set k (some (.ow d))) where
  sf := ok.sf
  frame := fun b o e nb => ok.frame b o e fun z => nb (List.mem_cons_of_mem _ z)
  fresh := ok.fresh
  f0 := ok.f0
  len := by rw [List.length_set]; exact ok.len
  sl := fun i s e => by
    rcases set_some e with ⟨rfl, z⟩ | ⟨hn, e1⟩
    · cases z
      obtain ⟨v, e2, q, rfl, f, h0, w⟩ := ok.sl i _ h
      rw [hs] at e2; cases e2
      exact ⟨_, hs, p, rfl, f, by simp [pinG], w⟩
    · obtain ⟨v, e2, x⟩ := ok.sl i s e1
      refine ⟨v, e2, ?_⟩
      cases s with
      | fz d => exact x
      | ow d => obtain ⟨q, a, b, c, w⟩ := x; exact ⟨q, a, b, List.mem_cons_of_mem _ c, w⟩
      | lo d => exact x
  dist := fun i j q s t e1 e2 o1 o2 h1 h2 => by
    have f : ∀ {i : Nat} {s : Sl}, (ρ.set k (some (.ow d)))[i]? = some (some s) → s.own = true → ∃ s', ρ[i]? = some (some s') ∧ s'.own = true := fun {i s} e o => by
      rcases set_some e with ⟨rfl, z⟩ | ⟨hn, e1⟩
      · exact ⟨_, h, rfl⟩
      · exact ⟨s, e1, o⟩
    obtain ⟨s', a1, a2⟩ := f e1 o1
    obtain ⟨t', b1, b2⟩ := f e2 o2
    exact ok.dist i j q s' t' a1 b1 a2 b2 h1 h2
  fx := fun q hq => by
    rcases List.mem_cons.mp hq with rfl | hq
    · refine ⟨hs, d, ?_⟩
      rw [List.getElem?_set_self]
      exact (List.getElem?_eq_some_iff.mp h).1
    · obtain ⟨a, d', e⟩ := ok.fx q hq
      exact ⟨a, d', by rw [List.getElem?_set_ne (Ne.symm (ok.kne h q hq))]; exact e⟩
theorem Ok.unpin (ok : Ok K (pinG G k p) F σ H ρ) (h0 : G.H0 p = none) (hk : ∀ q ∈ G.ows, q.1 ≠ k) (h : ρ[k]? = some (some (.ow d))) : Ok K G F σ H (ρ.set k (some (.lo d))) where
  sf := ok.sf
  frame := fun b o e nb => ok.frame b o e fun z => by
    rcases List.mem_cons.mp z with z | z
    · have e' : G.H0 b = some o := e
      rw [show b = p from z, h0] at e'; cases e'
    · exact nb z
  fresh := ok.fresh
  f0 := ok.f0
  len := by rw [List.length_set]; exact ok.len
  sl := fun i s e => by
    have hs := (ok.fx (k, p) (by simp [pinG])).1
    rcases set_some e with ⟨rfl, z⟩ | ⟨hn, e1⟩
    · cases z
      obtain ⟨v, e2, q, rfl, f, hm, w⟩ := ok.sl i _ h
      rw [hs] at e2; cases e2
      exact ⟨_, hs, p, rfl, f, h0, w⟩
    · obtain ⟨v, e2, x⟩ := ok.sl i s e1
      refine ⟨v, e2, ?_⟩
      cases s with
      | fz d => exact x
      | ow d' =>
        obtain ⟨q, a, b, c, w⟩ := x
        refine ⟨q, a, b, ?_, w⟩
        rcases List.mem_cons.mp c with c | c
        · subst a
          exact absurd (ok.dist i k p _ _ e1 h rfl rfl (by rw [e2, show q = p from c]) hs) hn
        · exact c
      | lo d => exact x
  dist := fun i j q s t e1 e2 o1 o2 h1 h2 => by
    have f : ∀ {i : Nat} {s : Sl}, (ρ.set k (some (.lo d)))[i]? = some (some s) → s.own = true → ∃ s', ρ[i]? = some (some s') ∧ s'.own = true := fun {i s} e o => by
      rcases set_some e with ⟨rfl, z⟩ | ⟨hn, e1⟩
      · exact ⟨_, h, rfl⟩
      · exact ⟨s, e1, o⟩
    obtain ⟨s', a1, a2⟩ := f e1 o1
    obtain ⟨t', b1, b2⟩ := f e2 o2
    exact ok.dist i j q s' t' a1 b1 a2 b2 h1 h2
  fx := fun q hq => by
    obtain ⟨a, d', e⟩ := ok.fx q (List.mem_cons_of_mem _ hq)
    exact ⟨a, d', by rw [List.getElem?_set_ne (Ne.symm (hk q hq))]; exact e⟩
end
def unK (k : Nat) (f : Nv → Prop) (ρ : Nv) : Prop := ∃ d, ρ[k]? = some (some (.ow d)) ∧ f (ρ.set k (some (.lo d)))
def unP (k : Nat) (De : PEnds) : PEnds := { nx := unK k De.nx, rt := fun r ρ => ∃ d, r = .va d ∧ unK k (De.rt r) ρ, bk := unK k De.bk, ct := unK k De.ct, ex := fun x ρ => unK k (De.ex x) ρ }
theorem Co.pin {K : PySem.W.Frag} {W : WX} {G : Gm} {F : Hp} {De : PEnds} {D : Ends} {k : Nat} {p : Addr} (c : Co K W G F De D) (h0 : G.H0 p = none) (hk : ∀ q ∈ G.ows, q.1 ≠ k) : Co K W (pinG G k p) F (unP k De) D where
  nx := fun σ' F' H' ρ' ok s ⟨d, e, h⟩ => c.nx σ' F' H' _ (ok.unpin h0 hk e) s h
  rt := fun r v σ' F' H' ρ' ok s re ⟨x, er, d, e, h⟩ => by
    subst er
    exact c.rt (.va x) v σ' F' H' _ (ok.unpin h0 hk e) s re h
  bk := fun σ' F' H' ρ' ok s ⟨d, e, h⟩ => c.bk σ' F' H' _ (ok.unpin h0 hk e) s h
  ct := fun σ' F' H' ρ' ok s ⟨d, e, h⟩ => c.ct σ' F' H' _ (ok.unpin h0 hk e) s h
  ex := fun x σ' F' H' ρ' da ok s xo ⟨d, e, h⟩ => c.ex x σ' F' H' _ da (ok.unpin h0 hk e) s xo h
/-! ### for .. in zip(x, ys), x stays owned -/
def forP (k : Nat) (xs0 : List D) (g : MG) (b : MS) (De : PEnds) : List D → Nv → Prop
  | [], ρ => ρ[k]? = some (some (.ow (.lst xs0))) ∧ De.nx ρ
  | x :: xs, ρ => ρ[k]? = some (some (.ow (.lst xs0))) ∧ g x ρ fun ρ1 => b { De with nx := forP k xs0 g b De xs, ct := forP k xs0 g b De xs, bk := De.nx } ρ1
def zGo (k : Nat) (g : MG) (b : MS) (De : PEnds) (d : D) (ρ : Nv) : Prop := ∃ xs0 ys, ρ[k]? = some (some (.lo (.lst xs0))) ∧ d = .lst ys ∧ forP k xs0 g b (unP k De) (zipD xs0 ys) (ρ.set k (some (.ow (.lst xs0))))
def mForZ (k : Nat) (m : MX) (g : MG) (b : MS) : MS := fun De ρ => rdS ρ k fun _ => m ρ (fun r ρ1 => frz r ρ1 fun d ρ2 => zGo k g b De d ρ2) De.ex
section
variable {X : Cx} {W : WX} {pos p tpos zpos : Pos} {mas : MA} {tg : Expr}
theorem q_forZ {k : Nat} {x : Str} {px : Pos} {e : Expr} {m : MX} {body : List Stmt} {g : MG} {is : List Nat} {mb : MS} {elts : List Expr} {kk : Nat} (hp : PassesOwn (model X.prog X.w) X.A X.env X.xe) (hc : X.calm = true) (hm : X.mg "zip" = none) (he : QX X W e m) (hgg : QG X (.Tuple elts kk tpos) is g) (hb : QSs X W body mb)
    (hN : X.N[k]? = some x := by rfl) (hv : Vis X.env.scope x := by first | exact Or.inl rfl | exact Or.inr (Or.inl rfl) | exact Or.inr (Or.inr rfl)) (hd : (x == ("__debug__" : Str)) = false := by decide) (hcd : (x == ("__classdict__" : Str)) = false := by decide)
    (hg : Gl X "zip" := by rfl) (hst : starEach [.Name x px, e] X.env = (false, eval (.Name x px) X.env) :: starEach [e] X.env := by rfl) (hst2 : starEach [e] X.env = (false, eval e X.env) :: starEach [] X.env := by rfl) (hpl : (backTo zpos (starEach [e] X.env)).any (·.1) = false := by rfl)
    (hs : ∀ z, foldedSetIterable (.Call (.Name "zip" p) [.Name x px, e] [] zpos) X.env z = pure z := by intro _; rfl) : QS X W (.For (.Tuple elts kk tpos) (.Call (.Name "zip" p) [.Name x px, e] [] zpos) body [] pos) (mForZ k m g mb) :=
  (ps_for hp hc (RZ.pi_zipA hg hm (pa_cons (pe_var hN hv hd hcd) (pa_cons he pa_nil hst2) hst) hst hpl) hgg hb hs).imp fun D σ H ⟨G, F, ρ, De, ok, h, co⟩ => by
    obtain ⟨u, ru, eu, reu, rfu, h1⟩ := rdS_ok ok h
    refine ⟨u, eu, tX.mk ok h1 (fun r v ρ1 F1 H1 ok1 g1 re1 rf1 q1 => ?_) fun x ρ' F' H' da ok' g xo e => co.ex x σ F' H' ρ' da ok' g.ff xo e⟩
    obtain ⟨d, F2, ρ2, ok2, g2, s2, rp, xs0, ys, hk, ed, h2⟩ := frz_ok ok1 g1 re1 rf1 q1
    subst ed
    cases rp with
    | lst qb lb =>
      rename_i b ws
      obtain ⟨v', e2, q, rfl, fq, h0, vs, hq, l⟩ := ok2.sl k _ hk
      rw [eu] at e2; cases e2
      have okp := ok2.pin hk eu
      have cop := (co.mono g2.ff).pin h0 (ok2.kne hk)
      refine ⟨q, b, vs, ws, rfl, .inl ⟨SqL.of hq, ok2.sf.seq (SqL.of qb), ?_⟩⟩
      generalize ezs : zipD xs0 ys = zs at h2
      refine ⟨fun i m σ H => m = zs.length - i ∧ i ≤ zs.length ∧ ∃ F3 ρ3, Ok X.K (pinG G k q) F3 σ H ρ3 ∧ Same F2 F3 ∧ forP k xs0 g mb (unP k De) (zs.drop i) ρ3, ⟨zs.length, by simp, Nat.zero_le _, F2, _, okp, .refl _, h2⟩, ?_⟩
      rintro i m σ3 H3 ⟨rfl, hi, F3, ρ3, ok3, s3, h3⟩
      have key : ρ3[k]? = some (some (.ow (.lst xs0))) → ∃ vs3, H3 q = some (.lst vs3) ∧ RepL X.K F3 vs3 xs0 := fun hk3 => by
        obtain ⟨v3, e3, q3, rfl, f3, _, vs3, hq3, l3⟩ := ok3.sl k _ hk3
        rw [(ok3.fx (k, q) (by simp [pinG])).1] at e3; cases e3
        exact ⟨vs3, hq3, l3⟩
      have qb3 : SqL X.K H3 b ws := (s3.trans ok3.sf).seq (SqL.of qb)
      by_cases hl : i < zs.length
      · rw [List.drop_eq_getElem_cons hl] at h3
        obtain ⟨hk3, h3⟩ := h3
        obtain ⟨vs3, hq3, l3⟩ := key hk3
        have hl2 := hl
        rw [← ezs, zipD_len] at hl2
        have i1 : i < vs3.length := by rw [l3.length]; omega
        have i2 : i < ws.length := by rw [lb.length]; omega
        refine .inr ⟨⟨vs3, ws, vs3[i], ws[i], SqL.of hq3, qb3, List.getElem?_eq_getElem i1, List.getElem?_eq_getElem i2⟩, fun σ' H' => ∃ F4 ρ4, Ok X.K (pinG G k q) F4 σ' H' ρ4 ∧ Same F2 F4 ∧ forP k xs0 g mb (unP k De) (zs.drop (i + 1)) ρ4, fun σ' H' z => ⟨zs.length - (i + 1), by omega, rfl, hl, z⟩, fun x H' y => ?_⟩
        obtain ⟨T, x1, y1, ev, hT, eH, f1, f2⟩ := y
        subst ev; subst eH
        obtain ⟨d1, hd1, rd⟩ := l3.get' (f1 vs3 (SqL.of hq3))
        obtain ⟨d2, hd2, re⟩ := (lb.mono s3).get' (f2 ws qb3)
        obtain ⟨n, r⟩ := new_tup ok3.sf hT (RepL.cons rd (RepL.cons re RepL.nil))
        have ok4 := ok3.grow n
        have ed2 : zs[i] = .tup [d1, d2] := by
          have := zipD_get hd1 hd2
          rw [ezs, List.getElem?_eq_getElem hl] at this
          exact Option.some.inj this
        rw [ed2] at h3
        refine ⟨pinG G k q, _, ρ3, _, _, ok4, r, h3, fun σ4 ρ4 ok5 _ q4 => ⟨pinG G k q, _, ρ4, _, ok5, q4, ?_⟩⟩
        have s4 := s3.trans n.ff
        exact ⟨fun σ' F' H' ρ' ok' s q => ⟨F', ρ', ok', s4.trans s, q⟩, (cop.mono s4).rt, (cop.mono s4).nx, fun σ' F' H' ρ' ok' s q => ⟨F', ρ', ok', s4.trans s, q⟩, (cop.mono s4).ex⟩
      · have e : i = zs.length := by omega
        subst e
        rw [List.drop_length] at h3
        obtain ⟨hk3, h3⟩ := h3
        obtain ⟨vs3, hq3, l3⟩ := key hk3
        refine .inl ⟨⟨vs3, ws, SqL.of hq3, qb3, ?_⟩, cop.nx σ3 F3 H3 ρ3 ok3 s3 h3⟩
        rw [l3.length, lb.length, ← ezs, zipD_len]
        omega
end
/-! ### comprehensions over a list that stays owned -/
def atS (ρ : Nv) (k : Nat) (xs : List D) : Prop := ρ[k]? = some (some (.lo (.lst xs))) ∨ ρ[k]? = some (some (.ow (.lst xs)))
theorem Ok.ownAt {K : PySem.W.Frag} {G : Gm} {F : Hp} {σ : L2.St} {H : Hp} {ρ : Nv} {k : Nat} {xs : List D} (ok : Ok K G F σ H ρ) (h : atS ρ k xs) : ∃ v, σ[k]? = some (some v) ∧ ∃ p, v = .ref p ∧ ∃ vs, H p = some (.lst vs) ∧ RepL K F vs xs := by
  rcases h with h | h
  · obtain ⟨v, e, p, e2, _, _, o⟩ := ok.sl k _ h
    exact ⟨v, e, p, e2, o⟩
  · obtain ⟨v, e, p, e2, _, _, o⟩ := ok.sl k _ h
    exact ⟨v, e, p, e2, o⟩
def lcO (k : Nat) (xs0 : List D) (g : MG) (t : MT) (e : MX) (vs : List Nat) (Q : List D → Nv → Prop) : List D → List D → Nv → Prop
  | [], acc, ρ => atS ρ k xs0 ∧ Q acc ρ
  | x :: xs, acc, ρ => atS ρ k xs0 ∧ g x (wipN ρ vs) fun ρ1 => t ρ1 (fun b ρ2 => cIf b (e ρ2 (fun r ρ3 => frz r ρ3 fun d ρ4 => acc.length < sizeLine ∧ clnN ρ4 vs ∧ lcO k xs0 g t e vs Q xs (acc ++ [d]) (wipN ρ4 vs)) (fun _ _ => False)) (clnN ρ2 vs ∧ lcO k xs0 g t e vs Q xs acc (wipN ρ2 vs))) (fun _ _ => False)
def mLcO (k : Nat) (g : MG) (t : MT) (e : MX) (vs : List Nat) : MX := fun ρ Q E => ∃ xs, atS ρ k xs ∧ k ∉ vs ∧ clnN ρ vs ∧ lcO k xs g t e vs (fun acc ρ2 => Q (.nw (.lst acc)) (bckN ρ ρ2 vs)) xs [] (wipN ρ vs)
section
variable {X : Cx} {W : WX} {pos : Pos} {tg : Expr}
theorem lcO_snd {k : Nat} {g : MG} {is : List Nat} {mt : MT} {me : MX} {own : List (Str × Nat)} {σ : L2.St} {H : Hp} {Q' : VK} (hsub : ∀ i ∈ is, i ∈ own.map (·.2)) (h : tX X.K W (mLcO k g mt me (own.map (·.2))) σ H Q') :
    tLc (iList X.K (tVar k)) (tG X.K is g) (tT X.K wN mt) (tX X.K wN me) (own.map (·.2)) σ H Q' := by
  obtain ⟨G, F1, ρ1, Q, E, ok1, ⟨xs, hk0, hkv, cln, h1⟩, hp, hE⟩ := h
  obtain ⟨v0, eσ, pk, ev, hq0⟩ := ok1.ownAt hk0
  subst ev
  refine ⟨.ref pk, eσ, pk, rfl, ?_, fun D hD => ?_⟩
  · obtain ⟨vs0, e0, _⟩ := hq0
    exact ⟨vs0, SqL.of e0⟩
  have g1 : Gr σ F1 F1 H H ρ1 ρ1 := .refl
  generalize own.map (·.2) = vs at *
  have hw : ∀ i ∈ vs, ∀ x, (L2.wipe σ vs)[i]? ≠ some (some x) := fun i hi x e => (wipe_some e).2 hi
  have okw : Ok X.K G F1 (L2.wipe σ vs) H (wipN ρ1 vs) := ok1.wipe fun i hi s e => clnN_ok cln hi e
  have noD : ¬ OwnAt (L2.wipe σ vs) (wipN ρ1 vs) D := fun z => by
    obtain ⟨_, o, e⟩ := OwnAt.there okw z
    rw [hD] at e; cases e
  have fD : F1 D = none := ok1.sf.free hD
  have h0D : G.H0 D = none := by
    by_cases hb : D ∈ G.ows.map (·.2)
    · obtain ⟨q, hq, e2⟩ := List.mem_map.mp hb
      obtain ⟨s1, d, s2⟩ := ok1.fx q hq
      obtain ⟨_, u, hu⟩ := OwnAt.there ok1 ⟨q.1, _, s2, rfl, by rw [s1, e2]⟩
      rw [hD] at hu; cases hu
    · cases q : G.H0 D with
      | none => rfl
      | some u => rw [ok1.frame D u q hb] at hD; cases hD
  obtain ⟨nD, _⟩ := new_obj (o := .lst []) ok1.sf hD
  refine ⟨fun i m H2 => m = xs.length - i ∧ i ≤ xs.length ∧ ∃ F2 ρ2 acc accV, Ok X.K G F2 (L2.wipe σ vs) H2 ρ2 ∧ Gr (L2.wipe σ vs) F1 F2 H H2 (wipN ρ1 vs) ρ2 ∧ F2 D = none ∧ H2 D = some (.lst accV) ∧ RepL X.K F2 accV acc ∧ lcO k xs g mt me vs (fun acc ρ2 => Q (.nw (.lst acc)) (bckN ρ1 ρ2 vs)) (xs.drop i) acc ρ2,
    ⟨xs.length, by simp, Nat.zero_le _, F1, _, [], [], okw.grow nD, .new nD, fD, upd_same, .nil, h1⟩, ?_⟩
  rintro i m H2 ⟨rfl, hil, F2, ρ2, acc, accV, ok2, g2, f2D, h2D, rl, h2⟩
  have hk2 : atS ρ2 k xs := by
    cases hd : xs.drop i with
    | nil => rw [hd] at h2; exact h2.1
    | cons a r => rw [hd] at h2; exact h2.1
  obtain ⟨vk, ek, pk', evk, vsk, hqk, lk⟩ := ok2.ownAt hk2
  rw [WR.wipe_out hkv, eσ] at ek
  cases ek
  cases evk
  by_cases hl : i < xs.length
  · refine .inr ⟨⟨vsk, vsk[i]'(by rw [lk.length]; exact hl), SqL.of hqk, List.getElem?_eq_getElem _⟩, fun H' => ∃ F3 ρ3 acc3 accV3, Ok X.K G F3 (L2.wipe σ vs) H' ρ3 ∧ Gr (L2.wipe σ vs) F1 F3 H H' (wipN ρ1 vs) ρ3 ∧ F3 D = none ∧ H' D = some (.lst accV3) ∧ RepL X.K F3 accV3 acc3 ∧ lcO k xs g mt me vs (fun acc ρ2 => Q (.nw (.lst acc)) (bckN ρ1 ρ2 vs)) (xs.drop (i + 1)) acc3 ρ3,
      fun H' z => ⟨xs.length - (i + 1), by omega, rfl, hl, z⟩, fun x H3 y => ?_⟩
    obtain ⟨eH, y⟩ := y
    subst eH
    obtain ⟨d, ed, r⟩ := lk.get' (y vsk (SqL.of hqk))
    obtain ⟨F3, eF3⟩ : ∃ F3, F3 = F2 := ⟨_, rfl⟩
    have n : New F2 F3 H3 H3 := by rw [eF3]; exact .refl ok2.sf
    rw [← eF3] at r
    rw [List.drop_eq_getElem_cons hl] at h2
    replace h2 := h2.2
    have ed2 : xs[i] = d := by
      rw [List.getElem?_eq_getElem hl] at ed
      exact Option.some.inj ed
    rw [ed2] at h2
    have nv2 : ∀ i ∈ vs, ∀ s, ρ2[i]? ≠ some (some s) := fun i hi s e => by
      obtain ⟨v, e2, _⟩ := ok2.sl i s e
      exact hw i hi v e2
    have ok3 : Ok X.K G F3 (L2.wipe σ vs) H3 (wipN ρ2 vs) := by
      have := (ok2.grow n).wipe (vs := vs) fun i hi s e => absurd e (nv2 i hi s)
      rw [wipe_wipe] at this
      exact this
    have g3 : Gr (L2.wipe σ vs) F1 F3 H H3 (wipN ρ1 vs) (wipN ρ2 vs) := by
      have a := g2.trans (Gr.new (σ := L2.wipe σ vs) (ρ := ρ2) n)
      refine ⟨a.ff, a.hh, a.th, fun i s e => ?_, fun b z => a.on b ?_, a.nf⟩
      · obtain ⟨s', e'⟩ := a.kn i s e
        have hi : i ∉ vs := (wipN_some e).2
        exact ⟨s', by rw [wipN_out hi]; exact e'⟩
      · obtain ⟨i, s, e1, e2, e3⟩ := z
        exact ⟨i, s, (wipN_some e1).1, e2, e3⟩
    have h3D : H3 D = some (.lst accV) := n.hh _ _ h2D
    have f3D : F3 D = none := n.none h2D f2D
    have no3 : ¬ OwnAt (L2.wipe σ vs) (wipN ρ2 vs) D := fun z => noD (g3.on D z)
    refine ⟨G, F3, wipN ρ2 vs, d, _, ok3, r, h2, fun σ4 ρ4 ok4 c4 q4 => ?_⟩
    have ws : L2.wipe σ4 vs = L2.wipe σ vs := by
      have e1 : L2.wipe σ4 vs = L2.wipe (L2.wipe σ vs) vs := wipe_congr c4.len fun j hj => c4.st j fun z => hj (hsub j z)
      rw [e1, wipe_wipe]
    have fin : ∀ {F5 H5 : Hp} {ρ5 : Nv}, Ok X.K G F5 σ4 H5 ρ5 → Gr σ4 F3 F5 H3 H5 ρ4 ρ5 → clnN ρ5 vs → Ok X.K G F5 (L2.wipe σ vs) H5 (wipN ρ5 vs) ∧ Gr (L2.wipe σ vs) F1 F5 H H5 (wipN ρ1 vs) (wipN ρ5 vs) ∧ F5 D = none ∧ H5 D = some (.lst accV) := fun {F5 H5 ρ5} ok5 g5 cl5 => by
      have o5 := ok5.wipe (vs := vs) fun i hi s e => clnN_ok cl5 hi e
      rw [ws] at o5
      obtain ⟨g6, bk⟩ := turn_gr (K := X.K) (G := G) (vs := vs) (ρ := ρ2) hsub hw c4 g5
      have no4 : ¬ OwnAt σ4 ρ4 D := fun z => no3 (bk D z)
      exact ⟨o5, g3.trans g6, g5.nf D _ h3D f3D no4, g5.hh D _ h3D no4⟩
    refine ⟨ws, G, F3, ρ4, _, fun _ _ => False, ok4, q4, fun b ρ5 F5 H5 ok5 g5 q5 => ?_, fun x ρ' F' H' da _ _ _ z => z⟩
    cases b with
    | true =>
      refine ⟨G, F5, ρ5, _, fun _ _ => False, ok5, q5, fun r6 v6 ρ6 F6 H6 ok6 g6 re6 rf6 q6 => ?_, fun x ρ' F' H' da _ _ _ z => z⟩
      obtain ⟨d7, F7, ρ7, ok7, g7, s7, rp7, hz, cl7, q7⟩ := frz_ok ok6 g6 re6 rf6 q6
      obtain ⟨o8, g8, f8, h8⟩ := fin ok7 (g5.trans g7) cl7
      have no8 : ¬ OwnAt (L2.wipe σ vs) (wipN ρ7 vs) D := fun z => noD (g8.on D z)
      refine ⟨accV, h8, by rw [rl.length]; exact hz, F7, _, _, _, o8.other f8 h0D no8, ?_, f8, upd_same, (rl.mono (n.ff.trans (g5.trans g7).ff)).snoc rp7, q7⟩
      have hne : ∀ {b : Addr} {o : HO}, H b = some o → b ≠ D := fun e => ne_of_none e hD
      exact ⟨g8.ff, fun b o e nn => by rw [upd_ne (hne e)]; exact g8.hh b o e nn, fun b o e => by rw [upd_ne (hne e)]; exact g8.th b o e, g8.kn, g8.on, g8.nf⟩
    | false =>
      obtain ⟨cl5, q5⟩ := q5
      obtain ⟨o8, g8, f8, h8⟩ := fin ok5 g5 cl5
      exact ⟨F5, _, acc, accV, o8, g8, f8, h8, rl.mono (n.ff.trans g5.ff), q5⟩
  · have e : i = xs.length := by omega
    subst e
    rw [List.drop_length] at h2
    replace h2 := h2.2
    refine .inl ⟨⟨vsk, SqL.of hqk, by rw [lk.length]; exact Nat.le_refl _⟩, ?_⟩
    have okb : Ok X.K G F2 σ H2 (bckN ρ1 ρ2 vs) := ok1.unwipe cln ok2 g2.ff
    have no2 : ¬ OwnAt (L2.wipe σ vs) ρ2 D := fun z => noD (g2.on D z)
    have onb : ∀ b, OwnAt σ (bckN ρ1 ρ2 vs) b → OwnAt σ ρ1 b := fun b ⟨i, s, e1, e2, e3⟩ => by
      rcases bckN_some e1 with ⟨hi, z⟩ | ⟨hi, z⟩
      · exact ⟨i, s, z, e2, e3⟩
      · exact ownAt_wipe (g2.on b ⟨i, s, z, e2, by rw [WR.wipe_out hi]; exact e3⟩)
    have g4 : Gr σ F1 F2 H H2 ρ1 (bckN ρ1 ρ2 vs) := ⟨g2.ff, fun b o e nn => g2.hh b o e fun z => nn (ownAt_wipe z), g2.th, fun i s e => by
      by_cases hi : i ∈ vs
      · exact ⟨s, bckN_in (by rw [ok2.len, wipe_length, ok1.len]) e hi⟩
      · obtain ⟨s', e'⟩ := g2.kn i s (by rw [wipN_out hi]; exact e)
        exact ⟨s', by rw [bckN_out hi]; exact e'⟩, onb, fun b o e f nn => g2.nf b o e f fun z => nn (ownAt_wipe z)⟩
    have noD' : ¬ OwnAt σ (bckN ρ1 ρ2 vs) D := fun z => by
      obtain ⟨_, u, hu⟩ := OwnAt.there ok1 (onb D z)
      rw [hD] at hu; cases hu
    exact hp (.nw (.lst acc)) (.ref D) _ F2 H2 okb (g1.trans g4) ⟨D, rfl, f2D, h0D, ⟨accV, h2D, rl⟩, noD'⟩ (fun p e => by cases e; exact g1.free hD) h2
theorem q_lcO {k : Nat} {x : Str} {px : Pos} {elt : Expr} {ifs : List Expr} {scope : Scope} {own : List (Str × Nat)} {g : MG} {is : List Nat} {mt : MT} {me : MX} (hc : X.calm = true) (hN : X.N.Nodup) (ok : BlkOk X.N X.env.scope scope own)
    (hg : ∀ (s : Shared) (H : Hp) (C : Addr) (cl : List (Str × Addr)) (fp : List Addr), QG (X.blk s H scope (compEnvC scope cl C X.env) fp) tg is g) (ht : ∀ (s : Shared) (H : Hp) (C : Addr) (cl : List (Str × Addr)) (fp : List Addr), QTs (X.blk s H scope (compEnvC scope cl C X.env) fp) wN ifs mt)
    (he : ∀ (s : Shared) (H : Hp) (C : Addr) (cl : List (Str × Addr)) (fp : List Addr), QX (X.blk s H scope (compEnvC scope cl C X.env) fp) wN elt me) (hsub : ∀ i ∈ is, i ∈ own.map (·.2) := by decide) (hk : X.N[k]? = some x := by rfl) (hv : Vis X.env.scope x := by first | exact Or.inl rfl | exact Or.inr (Or.inl rfl) | exact Or.inr (Or.inr rfl)) (hd : (x == ("__debug__" : Str)) = false := by decide) (hcd : (x == ("__classdict__" : Str)) = false := by decide) (hs : ∀ z, foldedSetIterable (.Name x px) X.env z = pure z := by intro _; rfl) :
    QX X W (.ListComp elt [⟨tg, .Name x px, ifs, 0⟩] scope pos) (mLcO k g mt me (own.map (·.2))) := (pe_lc (g := tG X.K is g) (tt := tT X.K wN mt) (te := tX X.K wN me) hc hN (pi_list (pe_var hk hv hd hcd)) ok hg ht he hs).imp fun σ H Q' h => lcO_snd hsub h
theorem q_setLcO {k : Nat} {x : Str} {px : Pos} {i : Nat} {y : Str} {py spos : Pos} {elt : Expr} {ifs : List Expr} {scope : Scope} {own : List (Str × Nat)} {g : MG} {is : List Nat} {mt : MT} {me : MX} (hc : X.calm = true) (hN : X.N.Nodup) (ok : BlkOk X.N X.env.scope scope own)
    (hg : ∀ (s : Shared) (H : Hp) (C : Addr) (cl : List (Str × Addr)) (fp : List Addr), QG (X.blk s H scope (compEnvC scope cl C X.env) fp) tg is g) (ht : ∀ (s : Shared) (H : Hp) (C : Addr) (cl : List (Str × Addr)) (fp : List Addr), QTs (X.blk s H scope (compEnvC scope cl C X.env) fp) wN ifs mt)
    (he : ∀ (s : Shared) (H : Hp) (C : Addr) (cl : List (Str × Addr)) (fp : List Addr), QX (X.blk s H scope (compEnvC scope cl C X.env) fp) wN elt me) (hsw : swapsWith (.ListComp elt [⟨tg, .Name x px, ifs, 0⟩] scope pos) (some (.Name y py)) spos.line X.env = pure true) (hsub : ∀ i ∈ is, i ∈ own.map (·.2) := by decide) (hy : X.N[i]? = some y := by rfl) (hyl : X.env.scope.names.lookup y = some .local := by rfl)
    (hk : X.N[k]? = some x := by rfl) (hv : Vis X.env.scope x := by first | exact Or.inl rfl | exact Or.inr (Or.inl rfl) | exact Or.inr (Or.inr rfl)) (hd : (x == ("__debug__" : Str)) = false := by decide) (hcd : (x == ("__classdict__" : Str)) = false := by decide) (hs : ∀ z, foldedSetIterable (.Name x px) X.env z = pure z := by intro _; rfl) :
    QS X W (.Assign [.Name y py] (.ListComp elt [⟨tg, .Name x px, ifs, 0⟩] scope pos) spos) (mSet i (mLcO k g mt me (own.map (·.2)))) := (ps_setLc (g := tG X.K is g) (tt := tT X.K wN mt) (te := tX X.K wN me) hc hN hy hyl hsw (pi_list (pe_var hk hv hd hcd)) ok hg ht he hs).imp fun D σ H ⟨G, F, ρ, De, ok, h, c⟩ =>
  lcO_snd hsub (tX.st ok c h fun r v ρ' F' H' ok' g re rf q => by
    obtain ⟨F2, ρ2, ok2, s2, k2⟩ := stS_ok ok' re q
    exact c.nx _ F2 H' ρ2 ok2 (g.ff.trans s2) k2)
end
/-! ### rows -/
def LCO (k : Nat) (g : MG) (t : MT) (e : MX) (vs : List Nat) [Q : KL] (ρ : Nv) : Prop := ∃ xs, atS ρ k xs ∧ k ∉ vs ∧ clnN ρ vs ∧ lcO k xs g t e vs Q.q xs [] (wipN ρ vs)
theorem mLcO_e {k : Nat} {g : MG} {t : MT} {e : MX} {vs : List Nat} {ρ : Nv} {Q : QK} {E : EK} : mLcO k g t e vs ρ Q E = @LCO k g t e vs ⟨fun acc ρ2 => bckK ρ ρ2 vs fun ρ4 => Q (.nw (.lst acc)) ρ4⟩ ρ := rfl
theorem lcO_steps {α : Type} {f g : α → D} {ga : MG} {e : MX} {vs : List Nat} {Q : List D → Nv → Prop} {ρ : Nv} {k : Nat} {xs0 : List D} (h : atS ρ k xs0) : ∀ (as : List α) (acc : List D), acc.length + as.length ≤ 1000 →
    (∀ a ∈ as, ∀ kk : D → Nv → Prop, (∀ ρ4, clnN ρ4 vs → wipN ρ4 vs = ρ → kk (g a) ρ4) → ga (f a) (wipN ρ vs) fun ρ1 => e ρ1 (fun r ρ3 => frz r ρ3 kk) (fun _ _ => False)) →
    Q (acc ++ as.map g) ρ → lcO k xs0 ga mYes e vs Q (as.map f) acc ρ
  | [], acc, hl, st, fin => by
    unfold lcO
    exact ⟨h, by simpa using fin⟩
  | a :: as, acc, hl, st, fin => by
    simp only [List.length_cons] at hl
    show lcO k xs0 ga mYes e vs Q (f a :: as.map f) acc ρ
    unfold lcO
    refine ⟨h, st a (by simp) _ fun ρ4 h4 e4 => ⟨by simp only [sizeLine]; omega, h4, ?_⟩⟩
    rw [e4]
    exact lcO_steps h as (acc ++ [g a]) (by simp; omega) (fun b hb => st b (List.mem_cons_of_mem _ hb)) (by simpa using fin)
theorem lcO_map {α : Type} {f g : α → D} {ga : MG} {e : MX} {vs : List Nat} {Q : KL} {ρ : Nv} {k : Nat} (as : List α) (hl : as.length ≤ 1000) (h : atS ρ k (as.map f)) (hk : k ∉ vs) (hc : clnN ρ vs) (hw : atS (wipN ρ vs) k (as.map f))
    (step : ∀ a ∈ as, ∀ kk : D → Nv → Prop, (∀ ρ4, clnN ρ4 vs → wipN ρ4 vs = wipN ρ vs → kk (g a) ρ4) → ga (f a) (wipN (wipN ρ vs) vs) fun ρ1 => e ρ1 (fun r ρ3 => frz r ρ3 kk) (fun _ _ => False))
    (fin : Q.q (as.map g) (wipN ρ vs)) : @LCO k ga mYes e vs Q ρ := ⟨as.map f, h, hk, hc, lcO_steps hw as [] (by simpa using hl) step (by simpa using fin)⟩
def ZGo (k : Nat) (g : MG) (b : MS) [e : KE] (d : D) (ρ : Nv) : Prop := zGo k g b e.d d ρ
theorem mForZ_e {k : Nat} {m : MX} {g : MG} {b : MS} {De : PEnds} {ρ : Nv} : mForZ k m g b De ρ = rdS ρ k fun _ => m ρ (fun r ρ1 => frz r ρ1 fun d ρ2 => @ZGo k g b ⟨De⟩ d ρ2) De.ex := rfl
theorem ZGo_i {k : Nat} {g : MG} {b : MS} {e : KE} {ρ : Nv} {xs0 ys : List D} (h : ρ[k]? = some (some (.lo (.lst xs0)))) (h2 : forP k xs0 g b (unP k e.d) (zipD xs0 ys) (ρ.set k (some (.ow (.lst xs0))))) : @ZGo k g b e (.lst ys) ρ := ⟨xs0, ys, h, rfl, h2⟩
theorem SQ7 : (∀ (k : Nat) (g : MG) (t : MT) (e : MX) (vs : List Nat) (ρ : Nv) (Q : QK) (E : EK), mLcO k g t e vs ρ Q E = @LCO k g t e vs ⟨fun acc ρ2 => bckK ρ ρ2 vs fun ρ4 => Q (.nw (.lst acc)) ρ4⟩ ρ) ∧
  (∀ (k : Nat) (m : MX) (g : MG) (b : MS) (De : PEnds) (ρ : Nv), mForZ k m g b De ρ = rdS ρ k fun _ => m ρ (fun r ρ1 => frz r ρ1 fun d ρ2 => @ZGo k g b ⟨De⟩ d ρ2) De.ex) := ⟨by intros; apply mLcO_e, by intros; apply mForZ_e⟩
end WR

set_option Elab.async false
set_option linter.all false
set_option maxRecDepth 100000
set_option maxHeartbeats 0
set_option autoImplicit false
namespace WR
open PySem PySem.Spec PyProof.Rows L2
def top (i : Nat) : Stmt := PySem.Challenge.pw_weightrooms_k76_weights_back.main.body.getD i (.Pass ⟨0, 0, 0, 0⟩)
abbrev s_is_whole : Stmt := top 5
abbrev s_divisor : Stmt := top 6
abbrev s_fraction : Stmt := top 7
abbrev s_is_fraction : Stmt := top 8
abbrev s_times : Stmt := top 9
abbrev s_is_less : Stmt := top 10
abbrev s_is_box : Stmt := top 13
abbrev s_look_box : Stmt := top 14
abbrev s_area : Stmt := top 15
abbrev s_whole_ones : Stmt := top 17
abbrev s_weights_back : Stmt := top 18
abbrev s__law_feed : Stmt := top 20
abbrev s__law_draw : Stmt := top 21
abbrev s__law_great : Stmt := top 22
abbrev s__law_low : Stmt := top 23
abbrev s__law_times : Stmt := top 24
abbrev s__law_side : Stmt := top 25
abbrev s__law_divisor : Stmt := top 26
abbrev s__law_box : Stmt := top 27
abbrev s_law : Stmt := top 28
def d_is_whole : He.DefD := ⟨("is_whole", none), "is_whole", "is_whole", defArgs s_is_whole, defBody s_is_whole, defScope s_is_whole, [], []⟩
def d_divisor : He.DefD := ⟨("divisor", none), "divisor", "divisor", defArgs s_divisor, defBody s_divisor, defScope s_divisor, [], []⟩
def d_fraction : He.DefD := ⟨("fraction", none), "fraction", "fraction", defArgs s_fraction, defBody s_fraction, defScope s_fraction, [], []⟩
def d_is_fraction : He.DefD := ⟨("is_fraction", none), "is_fraction", "is_fraction", defArgs s_is_fraction, defBody s_is_fraction, defScope s_is_fraction, [], []⟩
def d_times : He.DefD := ⟨("times", none), "times", "times", defArgs s_times, defBody s_times, defScope s_times, [], []⟩
def d_is_less : He.DefD := ⟨("is_less", none), "is_less", "is_less", defArgs s_is_less, defBody s_is_less, defScope s_is_less, [], []⟩
def d_is_box : He.DefD := ⟨("is_box", none), "is_box", "is_box", defArgs s_is_box, defBody s_is_box, defScope s_is_box, [], []⟩
def d_look_box : He.DefD := ⟨("look_box", none), "look_box", "look_box", defArgs s_look_box, defBody s_look_box, defScope s_look_box, [], []⟩
def d_area : He.DefD := ⟨("area", none), "area", "area", defArgs s_area, defBody s_area, defScope s_area, [], []⟩
def d_whole_ones : He.DefD := ⟨("whole_ones", none), "whole_ones", "whole_ones", defArgs s_whole_ones, defBody s_whole_ones, defScope s_whole_ones, [], []⟩
def d_weights_back : He.DefD := ⟨("weights_back", none), "weights_back", "weights_back", defArgs s_weights_back, defBody s_weights_back, defScope s_weights_back, [], []⟩
def d__law_feed : He.DefD := ⟨("_law_feed", none), "_law_feed", "_law_feed", defArgs s__law_feed, defBody s__law_feed, defScope s__law_feed, [], []⟩
def d__law_draw : He.DefD := ⟨("_law_draw", none), "_law_draw", "_law_draw", defArgs s__law_draw, defBody s__law_draw, defScope s__law_draw, [], []⟩
def d__law_great : He.DefD := ⟨("_law_great", none), "_law_great", "_law_great", defArgs s__law_great, defBody s__law_great, defScope s__law_great, [], []⟩
def d__law_low : He.DefD := ⟨("_law_low", none), "_law_low", "_law_low", defArgs s__law_low, defBody s__law_low, defScope s__law_low, [], []⟩
def d__law_times : He.DefD := ⟨("_law_times", none), "_law_times", "_law_times", defArgs s__law_times, defBody s__law_times, defScope s__law_times, [], []⟩
def d__law_side : He.DefD := ⟨("_law_side", none), "_law_side", "_law_side", defArgs s__law_side, defBody s__law_side, defScope s__law_side, [], []⟩
def d__law_divisor : He.DefD := ⟨("_law_divisor", none), "_law_divisor", "_law_divisor", defArgs s__law_divisor, defBody s__law_divisor, defScope s__law_divisor, [], []⟩
def d__law_box : He.DefD := ⟨("_law_box", none), "_law_box", "_law_box", defArgs s__law_box, defBody s__law_box, defScope s__law_box, [], []⟩
def d_law : He.DefD := ⟨("law", none), "law", "law", defArgs s_law, defBody s_law, defScope s_law, [], []⟩
def fn : List He.DefD := [d_is_whole, d_divisor, d_fraction, d_is_fraction, d_times, d_is_less, d_is_box, d_look_box, d_area, d_whole_ones, d_weights_back, d__law_feed, d__law_draw, d__law_great, d__law_low, d__law_times, d__law_side, d__law_divisor, d__law_box, d_law]
def fa : List He.Fa := ([.glo "is_whole", .glo "divisor", .glo "fraction", .glo "is_fraction", .glo "times", .glo "is_less", .glo "is_box", .glo "look_box", .glo "area", .glo "whole_ones", .glo "weights_back", .glo "_law_feed", .glo "_law_draw", .glo "_law_great", .glo "_law_low", .glo "_law_times", .glo "_law_side", .glo "_law_divisor", .glo "_law_box", .glo "law", .glo "RoomError", .glo "NoFraction", .glo "NoBox", .free "len", .free "abs", .free "range", .free "isinstance", .free "all", .free "any", .free "list"] : List He.Fa) ++ ([.free "tuple", .free "zip", .free "int", .free "bool", .free "ValueError", .glo "NOUGHT"] : List He.Fa)
def cs : Cls0 := [("RoomError", []), ("NoFraction", ["RoomError"]), ("NoBox", ["RoomError"])]
def k_NOUGHT : D := .tup [.int 0, .int 1]
def exB (K : PySem.W.Frag) : Bool := clsB K cs && (He.tupB K "NOUGHT" [.int 0, .int 1] && true)
abbrev R : PySem.W.OpenRow := PySem.W.OpenLaw.row PySem.Challenge.rw_weightrooms_k76_weights_back
abbrev hk : PySem.W.Hook := He.hookX 6 fa fn [] [] exB
def ob (s : PySem.W.SharedT) : He.AlX := He.obsX 6 fa fn [] [] exB (HandSHeadRun.getT s)
theorem ob_eq (s : PySem.W.SharedT) : ob s = hk.obs s.abs := He.obsX_eq (HandSHeadRun.getT_eq s)
def loose : List Str := ["RoomError", "NoFraction", "NoBox", "is_whole", "divisor", "fraction", "is_fraction", "times", "is_less", "NOUGHT", "is_box", "look_box", "area", "whole_ones", "weights_back", "_law_feed", "_law_draw", "_law_great", "_law_low", "_law_times", "_law_side", "_law_divisor", "_law_box"]
theorem run (w : World) : HandSHeadRun.RunEq R (PySem.W.view R.prog [28]) hk ob 20000 loose w := by
  intro os
  kernel_rfl
structure T (K : PySem.W.Frag) (mg : Str → Option Value) : Prop where
  g_is_whole : mg "is_whole" = some (.ref (He.ga K "is_whole"))
  g_divisor : mg "divisor" = some (.ref (He.ga K "divisor"))
  g_fraction : mg "fraction" = some (.ref (He.ga K "fraction"))
  g_is_fraction : mg "is_fraction" = some (.ref (He.ga K "is_fraction"))
  g_times : mg "times" = some (.ref (He.ga K "times"))
  g_is_less : mg "is_less" = some (.ref (He.ga K "is_less"))
  g_is_box : mg "is_box" = some (.ref (He.ga K "is_box"))
  g_look_box : mg "look_box" = some (.ref (He.ga K "look_box"))
  g_area : mg "area" = some (.ref (He.ga K "area"))
  g_whole_ones : mg "whole_ones" = some (.ref (He.ga K "whole_ones"))
  g_weights_back : mg "weights_back" = some (.ref (He.ga K "weights_back"))
  g__law_feed : mg "_law_feed" = some (.ref (He.ga K "_law_feed"))
  g__law_draw : mg "_law_draw" = some (.ref (He.ga K "_law_draw"))
  g__law_great : mg "_law_great" = some (.ref (He.ga K "_law_great"))
  g__law_low : mg "_law_low" = some (.ref (He.ga K "_law_low"))
  g__law_times : mg "_law_times" = some (.ref (He.ga K "_law_times"))
  g__law_side : mg "_law_side" = some (.ref (He.ga K "_law_side"))
  g__law_divisor : mg "_law_divisor" = some (.ref (He.ga K "_law_divisor"))
  g__law_box : mg "_law_box" = some (.ref (He.ga K "_law_box"))
  g_law : mg "law" = some (.ref (He.ga K "law"))
  g_RoomError : mg "RoomError" = some (.ref (He.ga K "RoomError"))
  g_NoFraction : mg "NoFraction" = some (.ref (He.ga K "NoFraction"))
  g_NoBox : mg "NoBox" = some (.ref (He.ga K "NoBox"))
  f_len : mg "len" = none
  f_abs : mg "abs" = none
  f_range : mg "range" = none
  f_isinstance : mg "isinstance" = none
  f_all : mg "all" = none
  f_any : mg "any" = none
  f_list : mg "list" = none
  f_tuple : mg "tuple" = none
  f_zip : mg "zip" = none
  f_int : mg "int" = none
  f_bool : mg "bool" = none
  f_ValueError : mg "ValueError" = none
  g_NOUGHT : mg "NOUGHT" = some (.ref (He.ga K "NOUGHT"))
  d_is_whole : FnA K "is_whole" s_is_whole
  d_divisor : FnA K "divisor" s_divisor
  d_fraction : FnA K "fraction" s_fraction
  d_is_fraction : FnA K "is_fraction" s_is_fraction
  d_times : FnA K "times" s_times
  d_is_less : FnA K "is_less" s_is_less
  d_is_box : FnA K "is_box" s_is_box
  d_look_box : FnA K "look_box" s_look_box
  d_area : FnA K "area" s_area
  d_whole_ones : FnA K "whole_ones" s_whole_ones
  d_weights_back : FnA K "weights_back" s_weights_back
  d__law_feed : FnA K "_law_feed" s__law_feed
  d__law_draw : FnA K "_law_draw" s__law_draw
  d__law_great : FnA K "_law_great" s__law_great
  d__law_low : FnA K "_law_low" s__law_low
  d__law_times : FnA K "_law_times" s__law_times
  d__law_side : FnA K "_law_side" s__law_side
  d__law_divisor : FnA K "_law_divisor" s__law_divisor
  d__law_box : FnA K "_law_box" s__law_box
  d_law : FnA K "law" s_law
  cl : ClsOk K cs
  x_RoomError : ExcF K (He.ga K "RoomError")
  x_NoFraction : ExcF K (He.ga K "NoFraction")
  x_NoBox : ExcF K (He.ga K "NoBox")
  v_NOUGHT : ∀ F, Rep K F (.ref (He.ga K "NOUGHT")) k_NOUGHT
theorem t_of {K : PySem.W.Frag} {h : Heap} {mg : Str → Option Value} {w : World} (X : K.In h) (G : h.Ns mainGlobals mg) (c : He.SaysX fa fn [] [] exB w h K) : T K mg :=
  have CL : ClsOk K cs := clsB_ok (He.ba c.more).1
  have H2 := (He.ba c.more).2
  { g_is_whole := He.glo_ok X G (c.t.d.fact 0 rfl),
    g_divisor := He.glo_ok X G (c.t.d.fact 1 rfl),
    g_fraction := He.glo_ok X G (c.t.d.fact 2 rfl),
    g_is_fraction := He.glo_ok X G (c.t.d.fact 3 rfl),
    g_times := He.glo_ok X G (c.t.d.fact 4 rfl),
    g_is_less := He.glo_ok X G (c.t.d.fact 5 rfl),
    g_is_box := He.glo_ok X G (c.t.d.fact 6 rfl),
    g_look_box := He.glo_ok X G (c.t.d.fact 7 rfl),
    g_area := He.glo_ok X G (c.t.d.fact 8 rfl),
    g_whole_ones := He.glo_ok X G (c.t.d.fact 9 rfl),
    g_weights_back := He.glo_ok X G (c.t.d.fact 10 rfl),
    g__law_feed := He.glo_ok X G (c.t.d.fact 11 rfl),
    g__law_draw := He.glo_ok X G (c.t.d.fact 12 rfl),
    g__law_great := He.glo_ok X G (c.t.d.fact 13 rfl),
    g__law_low := He.glo_ok X G (c.t.d.fact 14 rfl),
    g__law_times := He.glo_ok X G (c.t.d.fact 15 rfl),
    g__law_side := He.glo_ok X G (c.t.d.fact 16 rfl),
    g__law_divisor := He.glo_ok X G (c.t.d.fact 17 rfl),
    g__law_box := He.glo_ok X G (c.t.d.fact 18 rfl),
    g_law := He.glo_ok X G (c.t.d.fact 19 rfl),
    g_RoomError := He.glo_ok X G (c.t.d.fact 20 rfl),
    g_NoFraction := He.glo_ok X G (c.t.d.fact 21 rfl),
    g_NoBox := He.glo_ok X G (c.t.d.fact 22 rfl),
    f_len := He.free_ok X G (c.t.d.fact 23 rfl),
    f_abs := He.free_ok X G (c.t.d.fact 24 rfl),
    f_range := He.free_ok X G (c.t.d.fact 25 rfl),
    f_isinstance := He.free_ok X G (c.t.d.fact 26 rfl),
    f_all := He.free_ok X G (c.t.d.fact 27 rfl),
    f_any := He.free_ok X G (c.t.d.fact 28 rfl),
    f_list := He.free_ok X G (c.t.d.fact 29 rfl),
    f_tuple := He.free_ok X G (c.t.d.fact 30 rfl),
    f_zip := He.free_ok X G (c.t.d.fact 31 rfl),
    f_int := He.free_ok X G (c.t.d.fact 32 rfl),
    f_bool := He.free_ok X G (c.t.d.fact 33 rfl),
    f_ValueError := He.free_ok X G (c.t.d.fact 34 rfl),
    g_NOUGHT := He.glo_ok X G (c.t.d.fact 35 rfl),
    d_is_whole := c.t.d.def_ 0 (d := d_is_whole) rfl,
    d_divisor := c.t.d.def_ 1 (d := d_divisor) rfl,
    d_fraction := c.t.d.def_ 2 (d := d_fraction) rfl,
    d_is_fraction := c.t.d.def_ 3 (d := d_is_fraction) rfl,
    d_times := c.t.d.def_ 4 (d := d_times) rfl,
    d_is_less := c.t.d.def_ 5 (d := d_is_less) rfl,
    d_is_box := c.t.d.def_ 6 (d := d_is_box) rfl,
    d_look_box := c.t.d.def_ 7 (d := d_look_box) rfl,
    d_area := c.t.d.def_ 8 (d := d_area) rfl,
    d_whole_ones := c.t.d.def_ 9 (d := d_whole_ones) rfl,
    d_weights_back := c.t.d.def_ 10 (d := d_weights_back) rfl,
    d__law_feed := c.t.d.def_ 11 (d := d__law_feed) rfl,
    d__law_draw := c.t.d.def_ 12 (d := d__law_draw) rfl,
    d__law_great := c.t.d.def_ 13 (d := d__law_great) rfl,
    d__law_low := c.t.d.def_ 14 (d := d__law_low) rfl,
    d__law_times := c.t.d.def_ 15 (d := d__law_times) rfl,
    d__law_side := c.t.d.def_ 16 (d := d__law_side) rfl,
    d__law_divisor := c.t.d.def_ 17 (d := d__law_divisor) rfl,
    d__law_box := c.t.d.def_ 18 (d := d__law_box) rfl,
    d_law := c.t.d.def_ 19 (d := d_law) rfl,
    cl := CL,
    x_RoomError := CL.f _ (List.mem_of_getElem? (i := 0) rfl),
    x_NoFraction := CL.f _ (List.mem_of_getElem? (i := 1) rfl),
    x_NoBox := CL.f _ (List.mem_of_getElem? (i := 2) rfl),
    v_NOUGHT := fun F => .tup (He.tupB_ok ((He.ba H2).1) F) (.cons (.int _) (.cons (.int _) (.nil))) }

section
variable {P : Program} {w : World} {K : PySem.W.Frag} {mg : Str → Option Value} {base : Heap}
def p_is_whole (K : PySem.W.Frag) : P0 := fun ds Q E => match ds with
  | [d] => d.tyd = true ∧ Q (.va (.bl d.isInt))
  | _ => False
theorem len_is_whole {K : PySem.W.Frag} {ds : List D} {Q : Re → Prop} {E : Xc → Prop} (h : p_is_whole K ds Q E) : ds.length = 1 := by
  unfold p_is_whole at h; split at h <;> first | rfl | exact h.elim
def m_is_whole (K : PySem.W.Frag) : MS := fun De ρ => (mRet (mAndV (mCallB (fIsi K) (mConsA (mVar 0) (mConsA (mC (.ty "int")) (mNilA)))) (mNotV (mCallB (fIsi K) (mConsA (mVar 0) (mConsA (mC (.ty "bool")) (mNilA))))))) De ρ
abbrev N_is_whole : List Str := ["thing"]
theorem i_is_whole (d0 : D) : in0 N_is_whole [d0] = [some (.fz d0)] := rfl
theorem sc_is_whole : FnScope N_is_whole ["thing"] (defScope s_is_whole) := ⟨rfl, rfl, rfl, by decide +kernel, rfl, by decide +kernel, by decide +kernel⟩
theorem pure_is_whole (K : PySem.W.Frag) : ∀ ds Q E, p_is_whole K ds Q E → m_is_whole K (ends0 Q E) (in0 N_is_whole ds) := by
  intro ds Q E h
  unfold p_is_whole at h
  split at h
  · rename_i d
    obtain ⟨ht, h⟩ := h
    rw [i_is_whole]
    cases d <;> first | (simp only [D.tyd] at ht; exact absurd ht (by decide)) | (simp only [↓SP, ↓SP2, ↓SP3, ↓SP4, ↓SQ5, ↓SQ6, ↓SQ7, ↓SB, ↓SB2, ↓SB3, ↓SB4, ↓SFD, SB, SB2, SB3, SB4, SO, SF, SW, SV, SX, SG, SH, SI, SQ, Int.reduceEq, Int.reduceLT, Int.reduceLE, Int.reduceToNat, Int.reducePow, Int.reduceNeg, Int.reduceSub, Int.reduceAdd, Int.reduceMul, Option.isSome_some, Option.isSome_none, eq_self, decide_true, decide_false, SBQ, SPL, SEE, SEC, SED, Bool.true_or, Bool.false_or, Bool.or_false, Bool.or_true, if_true, if_false, Bool.false_eq_true, reduceCtorEq, implies_true, Int.reduceNe, ne_eq, not_false_eq_true, ↓m_is_whole]; exact h)
  · exact h.elim
theorem w_is_whole (t : T K mg) (cdv : Value) (A : Around) (outer : List Env) (s : Shared) (H : Hp) (E : XK) (hr : Room 0 (A.deeper (envOfC "is_whole" (defScope s_is_whole) s.heap.objs.size (He.ga K "is_whole") cdv))) : QSs (CxA P w K mg base N_is_whole "is_whole" (defScope s_is_whole) cdv A outer s H E) (wE E) (defBody s_is_whole) (m_is_whole K) :=
  show QSs _ (wE E) (defBody s_is_whole) (mRet (mAndV (mCallB (fIsi K) (mConsA (mVar 0) (mConsA (mC (.ty "int")) (mNilA)))) (mNotV (mCallB (fIsi K) (mConsA (mVar 0) (mConsA (mC (.ty "bool")) (mNilA))))))) from
  q_one (q_ret (q_and (q_isi t.f_isinstance (qa_cons (q_var 0) (qa_cons (q_bltn t.f_int (by decide +kernel)) (qa_nil)))) (q_one1 (q_not (q_isi t.f_isinstance (qa_cons (q_var 0) (qa_cons (q_bltn t.f_bool (by decide +kernel)) (qa_nil))))))))
theorem ok_is_whole (t : T K mg) : Fok P w K mg base 1 (He.ga K "is_whole") ["thing"] (sp0 K (p_is_whole K)) :=
  fok0 (st := s_is_whole) (N := N_is_whole) (m := m_is_whole K) t.d_is_whole sc_is_whole (fun _ _ _ _ _ _ us hl => match us, hl with | [_], _ => rfl) (fun ds Q E h => len_is_whole h) (w_is_whole t) (pure_is_whole K)
def p_divisor (K : PySem.W.Frag) : P0 := fun ds Q E => match ds with
  | [.int a, .int b] => Q (.va (.int (Int.gcd a b : Nat)))
  | _ => False
theorem len_divisor {K : PySem.W.Frag} {ds : List D} {Q : Re → Prop} {E : Xc → Prop} (h : p_divisor K ds Q E) : ds.length = 2 := by
  unfold p_divisor at h; split at h <;> first | rfl | exact h.elim
def c_divisor_1 (K : PySem.W.Frag) : MT := fun ρ Q E => (mTest (mBin fGt (mVar 1) (mC (.int 0)))) ρ Q E
def b_divisor_2 (K : PySem.W.Frag) : MS := fun De ρ => (mPar 0 1 (mConsA (mVar 1) (mConsA (mBin fMod (mVar 0) (mVar 1)) (mNilA)))) De ρ
def k_divisor_2 (K : PySem.W.Frag) : MS := fun De ρ => (mRet (mVar 0)) De ρ
def k_divisor_1 (K : PySem.W.Frag) : MS := fun De ρ => (mSeq (mWhile (c_divisor_1 K) (b_divisor_2 K)) (k_divisor_2 K)) De ρ
def m_divisor (K : PySem.W.Frag) : MS := fun De ρ => (mSeq (mPar 0 1 (mConsA (mCallB fAbs (mConsA (mVar 0) (mNilA))) (mConsA (mCallB fAbs (mConsA (mVar 1) (mNilA))) (mNilA)))) (k_divisor_1 K)) De ρ
abbrev N_divisor : List Str := ["one", "other"]
theorem i_divisor (d0 d1 : D) : in0 N_divisor [d0, d1] = [some (.fz d0), some (.fz d1)] := rfl
theorem sc_divisor : FnScope N_divisor ["one", "other"] (defScope s_divisor) := ⟨rfl, rfl, rfl, by decide +kernel, rfl, by decide +kernel, by decide +kernel⟩
theorem pure_divisor (K : PySem.W.Frag) : ∀ ds Q E, p_divisor K ds Q E → m_divisor K (ends0 Q E) (in0 N_divisor ds) := by
  intro ds Q E h
  unfold p_divisor at h
  split at h
  · rename_i a b
    rw [i_divisor]
    simp only [↓SP, ↓SP2, ↓SP3, ↓SP4, ↓SQ5, ↓SQ6, ↓SQ7, ↓SB, ↓SB2, ↓SB3, ↓SB4, ↓SFD, SB, SB2, SB3, SB4, SO, SF, SW, SV, SX, SG, SH, SI, SQ, Int.reduceEq, Int.reduceLT, Int.reduceLE, Int.reduceToNat, Int.reducePow, Int.reduceNeg, Int.reduceSub, Int.reduceAdd, Int.reduceMul, Option.isSome_some, Option.isSome_none, eq_self, decide_true, decide_false, SBQ, SPL, SEE, SEC, SED, Bool.true_or, Bool.false_or, Bool.or_false, Bool.or_true, if_true, if_false, Bool.false_eq_true, reduceCtorEq, implies_true, Int.reduceNe, ne_eq, not_false_eq_true, ↓m_divisor, ↓c_divisor_1, ↓b_divisor_2, ↓k_divisor_2, ↓k_divisor_1]
    refine ⟨fun n ρ => ∃ x y : Nat, ρ = [some (.fz (.int x)), some (.fz (.int y))] ∧ n = y ∧ Nat.gcd x y = Int.gcd a b, ⟨b.natAbs, a.natAbs, b.natAbs, rfl, rfl, rfl⟩, ?_⟩
    rintro n ρ ⟨x, y, rfl, rfl, e⟩
    simp only [↓SP, ↓SP2, ↓SP3, ↓SP4, ↓SQ5, ↓SQ6, ↓SQ7, ↓SB, ↓SB2, ↓SB3, ↓SB4, ↓SFD, SB, SB2, SB3, SB4, SO, SF, SW, SV, SX, SG, SH, SI, SQ, Int.reduceEq, Int.reduceLT, Int.reduceLE, Int.reduceToNat, Int.reducePow, Int.reduceNeg, Int.reduceSub, Int.reduceAdd, Int.reduceMul, Option.isSome_some, Option.isSome_none, eq_self, decide_true, decide_false, SBQ, SPL, SEE, SEC, SED, Bool.true_or, Bool.false_or, Bool.or_false, Bool.or_true, if_true, if_false, Bool.false_eq_true, reduceCtorEq, implies_true, Int.reduceNe, ne_eq, not_false_eq_true, ↓m_divisor, ↓c_divisor_1, ↓b_divisor_2, ↓k_divisor_2, ↓k_divisor_1]
    refine CI_d (fun hn => ?_) (fun hn => ?_)
    · simp only [↓SP, ↓SP2, ↓SP3, ↓SP4, ↓SQ5, ↓SQ6, ↓SQ7, ↓SB, ↓SB2, ↓SB3, ↓SB4, ↓SFD, SB, SB2, SB3, SB4, SO, SF, SW, SV, SX, SG, SH, SI, SQ, Int.reduceEq, Int.reduceLT, Int.reduceLE, Int.reduceToNat, Int.reducePow, Int.reduceNeg, Int.reduceSub, Int.reduceAdd, Int.reduceMul, Option.isSome_some, Option.isSome_none, eq_self, decide_true, decide_false, SBQ, SPL, SEE, SEC, SED, Bool.true_or, Bool.false_or, Bool.or_false, Bool.or_true, if_true, if_false, Bool.false_eq_true, reduceCtorEq, implies_true, Int.reduceNe, ne_eq, not_false_eq_true, ↓m_divisor, ↓c_divisor_1, ↓b_divisor_2, ↓k_divisor_2, ↓k_divisor_1]
      refine ⟨hn, x % n, Nat.mod_lt _ (by omega), n, x % n, by simp, rfl, ?_⟩
      rw [← e, Nat.gcd_comm x n, Nat.gcd_rec n x, Nat.gcd_comm]
    · simp only [↓SP, ↓SP2, ↓SP3, ↓SP4, ↓SQ5, ↓SQ6, ↓SQ7, ↓SB, ↓SB2, ↓SB3, ↓SB4, ↓SFD, SB, SB2, SB3, SB4, SO, SF, SW, SV, SX, SG, SH, SI, SQ, Int.reduceEq, Int.reduceLT, Int.reduceLE, Int.reduceToNat, Int.reducePow, Int.reduceNeg, Int.reduceSub, Int.reduceAdd, Int.reduceMul, Option.isSome_some, Option.isSome_none, eq_self, decide_true, decide_false, SBQ, SPL, SEE, SEC, SED, Bool.true_or, Bool.false_or, Bool.or_false, Bool.or_true, if_true, if_false, Bool.false_eq_true, reduceCtorEq, implies_true, Int.reduceNe, ne_eq, not_false_eq_true, ↓m_divisor, ↓c_divisor_1, ↓b_divisor_2, ↓k_divisor_2, ↓k_divisor_1]
      have hz : n = 0 := by omega
      subst hz
      rw [Nat.gcd_zero_right] at e
      rw [e]; exact h
  · exact h.elim
theorem w_divisor (t : T K mg) (cdv : Value) (A : Around) (outer : List Env) (s : Shared) (H : Hp) (E : XK) (hr : Room 0 (A.deeper (envOfC "divisor" (defScope s_divisor) s.heap.objs.size (He.ga K "divisor") cdv))) : QSs (CxA P w K mg base N_divisor "divisor" (defScope s_divisor) cdv A outer s H E) (wE E) (defBody s_divisor) (m_divisor K) :=
  show QSs _ (wE E) (defBody s_divisor) (mSeq (mPar 0 1 (mConsA (mCallB fAbs (mConsA (mVar 0) (mNilA))) (mConsA (mCallB fAbs (mConsA (mVar 1) (mNilA))) (mNilA)))) (mSeq (mWhile (mTest (mBin fGt (mVar 1) (mC (.int 0)))) (mPar 0 1 (mConsA (mVar 1) (mConsA (mBin fMod (mVar 0) (mVar 1)) (mNilA))))) (mRet (mVar 0)))) from
  q_cons (q_par (i := 0) (j := 1) rfl sc_divisor.nd (qa_cons (q_abs t.f_abs (qa_cons (q_var 0) (qa_nil))) (qa_cons (q_abs t.f_abs (qa_cons (q_var 1) (qa_nil))) (qa_nil)))) (q_cons (q_while (passes_of rfl) (q_tgt (q_var 1) (q_int)) (q_one (q_par (i := 0) (j := 1) rfl sc_divisor.nd (qa_cons (q_var 1) (qa_cons (q_mod (q_var 0) (q_var 1)) (qa_nil)))))) (q_one (q_ret (q_var 0))))
theorem ok_divisor (t : T K mg) : Fok P w K mg base 1 (He.ga K "divisor") ["one", "other"] (sp0 K (p_divisor K)) :=
  fok0 (st := s_divisor) (N := N_divisor) (m := m_divisor K) t.d_divisor sc_divisor (fun _ _ _ _ _ _ us hl => match us, hl with | [_, _], _ => rfl) (fun ds Q E h => len_divisor h) (w_divisor t) (pure_divisor K)
def p_fraction (K : PySem.W.Frag) : P0 := fun ds Q E => match ds with
  | [.int t, .int b] => Bs 8990 b ∧ cIf (decide (b = 0)) (E (He.ga K "NoFraction", none)) (Q (.va (fD ((t : Rat) / b))))
  | _ => False
theorem len_fraction {K : PySem.W.Frag} {ds : List D} {Q : Re → Prop} {E : Xc → Prop} (h : p_fraction K ds Q E) : ds.length = 2 := by
  unfold p_fraction at h; split at h <;> first | rfl | exact h.elim
def k_fraction_3 (K : PySem.W.Frag) : MS := fun De ρ => (mRet (mTup (mConsA (mBin fDiv (mVar 0) (mVar 2)) (mConsA (mBin fDiv (mVar 1) (mVar 2)) (mNilA))))) De ρ
def k_fraction_2 (K : PySem.W.Frag) : MS := fun De ρ => (mSeq (mSet 2 (mCall (p_divisor K) (mConsA (mVar 0) (mConsA (mVar 1) (mNilA))))) (k_fraction_3 K)) De ρ
def k_fraction_1 (K : PySem.W.Frag) : MS := fun De ρ => (mSeq (mIf (mTest (mBin fLt (mVar 1) (mC (.int 0)))) (mPar 0 1 (mConsA (mBin fSub (mC (.int 0)) (mVar 0)) (mConsA (mBin fSub (mC (.int 0)) (mVar 1)) (mNilA)))) (mNext)) (k_fraction_2 K)) De ρ
def m_fraction (K : PySem.W.Frag) : MS := fun De ρ => (mSeq (mIf (mTest (mBin fEq (mVar 1) (mC (.int 0)))) (mRaise (He.ga K "NoFraction")) (mNext)) (k_fraction_1 K)) De ρ
abbrev N_fraction : List Str := ["top", "bottom", "by"]
theorem i_fraction (d0 d1 : D) : in0 N_fraction [d0, d1] = [some (.fz d0), some (.fz d1), none] := rfl
theorem sc_fraction : FnScope N_fraction ["top", "bottom"] (defScope s_fraction) := ⟨rfl, rfl, rfl, by decide +kernel, rfl, by decide +kernel, by decide +kernel⟩
theorem pure_fraction (K : PySem.W.Frag) : ∀ ds Q E, p_fraction K ds Q E → m_fraction K (ends0 Q E) (in0 N_fraction ds) := by
  intro ds Q E h
  unfold p_fraction at h
  split at h
  · rename_i t b
    obtain ⟨hb, h⟩ := h
    rw [← Rat.divInt_eq_div] at h
    rw [i_fraction]
    simp only [↓SP, ↓SP2, ↓SP3, ↓SP4, ↓SQ5, ↓SQ6, ↓SQ7, ↓SB, ↓SB2, ↓SB3, ↓SB4, ↓SFD, SB, SB2, SB3, SB4, SO, SF, SW, SV, SX, SG, SH, SI, SQ, Int.reduceEq, Int.reduceLT, Int.reduceLE, Int.reduceToNat, Int.reducePow, Int.reduceNeg, Int.reduceSub, Int.reduceAdd, Int.reduceMul, Option.isSome_some, Option.isSome_none, eq_self, decide_true, decide_false, SBQ, SPL, SEE, SEC, SED, Bool.true_or, Bool.false_or, Bool.or_false, Bool.or_true, if_true, if_false, Bool.false_eq_true, reduceCtorEq, implies_true, Int.reduceNe, ne_eq, not_false_eq_true, ↓m_fraction, ↓k_fraction_3, ↓k_fraction_2, ↓k_fraction_1, ↓p_divisor]
    refine CI_d (fun hz => ?_) (fun hz => ?_)
    · simp only [↓SP, ↓SP2, ↓SP3, ↓SP4, ↓SQ5, ↓SQ6, ↓SQ7, ↓SB, ↓SB2, ↓SB3, ↓SB4, ↓SFD, SB, SB2, SB3, SB4, SO, SF, SW, SV, SX, SG, SH, SI, SQ, Int.reduceEq, Int.reduceLT, Int.reduceLE, Int.reduceToNat, Int.reducePow, Int.reduceNeg, Int.reduceSub, Int.reduceAdd, Int.reduceMul, Option.isSome_some, Option.isSome_none, eq_self, decide_true, decide_false, SBQ, SPL, SEE, SEC, SED, Bool.true_or, Bool.false_or, Bool.or_false, Bool.or_true, if_true, if_false, Bool.false_eq_true, reduceCtorEq, implies_true, Int.reduceNe, ne_eq, not_false_eq_true, ↓m_fraction, ↓k_fraction_3, ↓k_fraction_2, ↓k_fraction_1]
      rw [decide_eq_true hz] at h; exact h
    · rw [decide_eq_false hz, cIf_f] at h
      have e0 : ∀ x : Int, 0 - x = -x := fun x => by omega
      simp only [↓SP, ↓SP2, ↓SP3, ↓SP4, ↓SQ5, ↓SQ6, ↓SQ7, ↓SB, ↓SB2, ↓SB3, ↓SB4, ↓SFD, SB, SB2, SB3, SB4, SO, SF, SW, SV, SX, SG, SH, SI, SQ, Int.reduceEq, Int.reduceLT, Int.reduceLE, Int.reduceToNat, Int.reducePow, Int.reduceNeg, Int.reduceSub, Int.reduceAdd, Int.reduceMul, Option.isSome_some, Option.isSome_none, eq_self, decide_true, decide_false, SBQ, SPL, SEE, SEC, SED, Bool.true_or, Bool.false_or, Bool.or_false, Bool.or_true, if_true, if_false, Bool.false_eq_true, reduceCtorEq, implies_true, Int.reduceNe, ne_eq, not_false_eq_true, ↓m_fraction, ↓k_fraction_3, ↓k_fraction_2, ↓k_fraction_1, ↓p_divisor]
      refine CI_d (fun hn => ?_) (fun hn => ?_)
      · obtain ⟨e1, e2⟩ := divInt_neg (t := t) hn
        have hg : (0 : Int) < (Int.gcd (0 - t) (0 - b) : Nat) := by have := Int.gcd_pos_of_ne_zero_right (0 - t) (b := 0 - b) (by omega); omega
        have hB : Bs 8990 (Int.gcd (0 - t) (0 - b) : Nat) := Bs.gcd (by omega) (by rw [e0]; exact hb.neg)
        simp only [↓SP, ↓SP2, ↓SP3, ↓SP4, ↓SQ5, ↓SQ6, ↓SQ7, ↓SB, ↓SB2, ↓SB3, ↓SB4, ↓SFD, SB, SB2, SB3, SB4, SO, SF, SW, SV, SX, SG, SH, SI, SQ, Int.reduceEq, Int.reduceLT, Int.reduceLE, Int.reduceToNat, Int.reducePow, Int.reduceNeg, Int.reduceSub, Int.reduceAdd, Int.reduceMul, Option.isSome_some, Option.isSome_none, eq_self, decide_true, decide_false, SBQ, SPL, SEE, SEC, SED, Bool.true_or, Bool.false_or, Bool.or_false, Bool.or_true, if_true, if_false, Bool.false_eq_true, reduceCtorEq, implies_true, Int.reduceNe, ne_eq, not_false_eq_true, ↓m_fraction, ↓k_fraction_3, ↓k_fraction_2, ↓k_fraction_1, ↓p_divisor]
        refine ⟨hB.cdiv hg (by decide), hB.cdiv hg (by decide), ?_⟩
        unfold fD at h
        rw [e1, e2] at h; exact h
      · have hp : 0 < b := by omega
        obtain ⟨e1, e2⟩ := divInt_pos (t := t) hp
        have hg : (0 : Int) < (Int.gcd t b : Nat) := by have := Int.gcd_pos_of_ne_zero_right t (b := b) (by omega); omega
        have hB : Bs 8990 (Int.gcd t b : Nat) := Bs.gcd (by omega) hb
        simp only [↓SP, ↓SP2, ↓SP3, ↓SP4, ↓SQ5, ↓SQ6, ↓SQ7, ↓SB, ↓SB2, ↓SB3, ↓SB4, ↓SFD, SB, SB2, SB3, SB4, SO, SF, SW, SV, SX, SG, SH, SI, SQ, Int.reduceEq, Int.reduceLT, Int.reduceLE, Int.reduceToNat, Int.reducePow, Int.reduceNeg, Int.reduceSub, Int.reduceAdd, Int.reduceMul, Option.isSome_some, Option.isSome_none, eq_self, decide_true, decide_false, SBQ, SPL, SEE, SEC, SED, Bool.true_or, Bool.false_or, Bool.or_false, Bool.or_true, if_true, if_false, Bool.false_eq_true, reduceCtorEq, implies_true, Int.reduceNe, ne_eq, not_false_eq_true, ↓m_fraction, ↓k_fraction_3, ↓k_fraction_2, ↓k_fraction_1, ↓p_divisor]
        refine ⟨hB.cdiv hg (by decide), hB.cdiv hg (by decide), ?_⟩
        unfold fD at h
        rw [e1, e2] at h; exact h
  · exact h.elim
theorem w_fraction (t : T K mg) (cdv : Value) (A : Around) (outer : List Env) (s : Shared) (H : Hp) (E : XK) (hr : Room 1 (A.deeper (envOfC "fraction" (defScope s_fraction) s.heap.objs.size (He.ga K "fraction") cdv))) : QSs (CxA P w K mg base N_fraction "fraction" (defScope s_fraction) cdv A outer s H E) (wE E) (defBody s_fraction) (m_fraction K) :=
  show QSs _ (wE E) (defBody s_fraction) (mSeq (mIf (mTest (mBin fEq (mVar 1) (mC (.int 0)))) (mRaise (He.ga K "NoFraction")) (mNext)) (mSeq (mIf (mTest (mBin fLt (mVar 1) (mC (.int 0)))) (mPar 0 1 (mConsA (mBin fSub (mC (.int 0)) (mVar 0)) (mConsA (mBin fSub (mC (.int 0)) (mVar 1)) (mNilA)))) (mNext)) (mSeq (mSet 2 (mCall (p_divisor K) (mConsA (mVar 0) (mConsA (mVar 1) (mNilA))))) (mRet (mTup (mConsA (mBin fDiv (mVar 0) (mVar 2)) (mConsA (mBin fDiv (mVar 1) (mVar 2)) (mNilA)))))))) from
  q_cons (q_if (q_teq hr (q_var 1) (q_int)) (q_one (q_raise t.x_NoFraction t.g_NoFraction rfl (takes_of rfl rfl rfl rfl))) (q_nil)) (q_cons (q_if (q_tlt (q_var 1) (q_int)) (q_one (q_par (i := 0) (j := 1) rfl sc_fraction.nd (qa_cons (q_sub (q_int) (q_var 0)) (qa_cons (q_sub (q_int) (q_var 1)) (qa_nil))))) (q_nil)) (q_cons (q_set (i := 2) sc_fraction.nd (c_call (ok_divisor t) (hr.mono (by omega)) t.g_divisor (takes_of rfl rfl rfl rfl) (qa_cons (q_var 0) (qa_cons (q_var 1) (qa_nil))))) (q_one (q_ret (q_tup (qa_cons (q_div (q_var 0) (q_var 2)) (qa_cons (q_div (q_var 1) (q_var 2)) (qa_nil))))))))
theorem ok_fraction (t : T K mg) : Fok P w K mg base 2 (He.ga K "fraction") ["top", "bottom"] (sp0 K (p_fraction K)) :=
  fok0 (st := s_fraction) (N := N_fraction) (m := m_fraction K) t.d_fraction sc_fraction (fun _ _ _ _ _ _ us hl => match us, hl with | [_, _], _ => rfl) (fun ds Q E h => len_fraction h) (w_fraction t) (pure_fraction K)
def p_is_fraction (K : PySem.W.Frag) : P0 := fun ds Q E => match ds with
  | [d] => d.tyd = true ∧ Q (.va (.bl d.frac.isSome))
  | _ => False
theorem len_is_fraction {K : PySem.W.Frag} {ds : List D} {Q : Re → Prop} {E : Xc → Prop} (h : p_is_fraction K ds Q E) : ds.length = 1 := by
  unfold p_is_fraction at h; split at h <;> first | rfl | exact h.elim
def k_is_fraction_1 (K : PySem.W.Frag) : MS := fun De ρ => (mRet (mAndV (mBin fGt (mBin fIxG (mVar 0) (mC (.int 1))) (mC (.int 0))) (mBin fEq (mCall (p_divisor K) (mConsA (mBin fIxG (mVar 0) (mC (.int 0))) (mConsA (mBin fIxG (mVar 0) (mC (.int 1))) (mNilA)))) (mC (.int 1))))) De ρ
def m_is_fraction (K : PySem.W.Frag) : MS := fun De ρ => (mSeq (mIf (mOr (mNot (mTest (mCallB (fIsi K) (mConsA (mVar 0) (mConsA (mC (.ty "tuple")) (mNilA)))))) (mOr (mTest (mBin fNe (mCallB fLenG (mConsA (mVar 0) (mNilA))) (mC (.int 2)))) (mOr (mNot (mTest (mCall (p_is_whole K) (mConsA (mBin fIxG (mVar 0) (mC (.int 0))) (mNilA))))) (mNot (mTest (mCall (p_is_whole K) (mConsA (mBin fIxG (mVar 0) (mC (.int 1))) (mNilA)))))))) (mRet (mC (.bl false))) (mNext)) (k_is_fraction_1 K)) De ρ
abbrev N_is_fraction : List Str := ["thing"]
theorem i_is_fraction (d0 : D) : in0 N_is_fraction [d0] = [some (.fz d0)] := rfl
theorem sc_is_fraction : FnScope N_is_fraction ["thing"] (defScope s_is_fraction) := ⟨rfl, rfl, rfl, by decide +kernel, rfl, by decide +kernel, by decide +kernel⟩
theorem pure_is_fraction (K : PySem.W.Frag) : ∀ ds Q E, p_is_fraction K ds Q E → m_is_fraction K (ends0 Q E) (in0 N_is_fraction ds) := by
  intro ds Q E h
  unfold p_is_fraction at h
  split at h
  · rename_i d
    obtain ⟨ht, h⟩ := h
    rw [i_is_fraction]
    by_cases hd : d.isTup = true
    · cases d with
      | tup xs =>
        simp only [D.tyd] at ht
        simp only [↓SP, ↓SP2, ↓SP3, ↓SP4, ↓SQ5, ↓SQ6, ↓SQ7, ↓SB, ↓SB2, ↓SB3, ↓SB4, ↓SFD, SB, SB2, SB3, SB4, SO, SF, SW, SV, SX, SG, SH, SI, SQ, Int.reduceEq, Int.reduceLT, Int.reduceLE, Int.reduceToNat, Int.reducePow, Int.reduceNeg, Int.reduceSub, Int.reduceAdd, Int.reduceMul, Option.isSome_some, Option.isSome_none, eq_self, decide_true, decide_false, SBQ, SPL, SEE, SEC, SED, Bool.true_or, Bool.false_or, Bool.or_false, Bool.or_true, if_true, if_false, Bool.false_eq_true, reduceCtorEq, implies_true, Int.reduceNe, ne_eq, not_false_eq_true, ↓m_is_fraction, ↓k_is_fraction_1]
        refine CI_d (fun hl => ?_) (fun hl => ?_)
        · match xs, hl with
          | [a, b], _ =>
            simp only [tydL, Bool.and_eq_true] at ht
            obtain ⟨ha, hb, _⟩ := ht
            simp only [↓SP, ↓SP2, ↓SP3, ↓SP4, ↓SQ5, ↓SQ6, ↓SQ7, ↓SB, ↓SB2, ↓SB3, ↓SB4, ↓SFD, SB, SB2, SB3, SB4, SO, SF, SW, SV, SX, SG, SH, SI, SQ, Int.reduceEq, Int.reduceLT, Int.reduceLE, Int.reduceToNat, Int.reducePow, Int.reduceNeg, Int.reduceSub, Int.reduceAdd, Int.reduceMul, Option.isSome_some, Option.isSome_none, eq_self, decide_true, decide_false, SBQ, SPL, SEE, SEC, SED, Bool.true_or, Bool.false_or, Bool.or_false, Bool.or_true, if_true, if_false, Bool.false_eq_true, reduceCtorEq, implies_true, Int.reduceNe, ne_eq, not_false_eq_true, ↓m_is_fraction, ↓k_is_fraction_1, ↓p_is_whole]
            refine ⟨ha, CI_b (fun ia => ?_) (fun ia => ?_)⟩
            · simp only [↓SP, ↓SP2, ↓SP3, ↓SP4, ↓SQ5, ↓SQ6, ↓SQ7, ↓SB, ↓SB2, ↓SB3, ↓SB4, ↓SFD, SB, SB2, SB3, SB4, SO, SF, SW, SV, SX, SG, SH, SI, SQ, Int.reduceEq, Int.reduceLT, Int.reduceLE, Int.reduceToNat, Int.reducePow, Int.reduceNeg, Int.reduceSub, Int.reduceAdd, Int.reduceMul, Option.isSome_some, Option.isSome_none, eq_self, decide_true, decide_false, SBQ, SPL, SEE, SEC, SED, Bool.true_or, Bool.false_or, Bool.or_false, Bool.or_true, if_true, if_false, Bool.false_eq_true, reduceCtorEq, implies_true, Int.reduceNe, ne_eq, not_false_eq_true, ↓m_is_fraction, ↓k_is_fraction_1, ↓p_is_whole]
              refine ⟨hb, CI_b (fun ib => ?_) (fun ib => ?_)⟩
              · cases a with
                | int x =>
                  cases b with
                  | int y =>
                    simp only [↓SP, ↓SP2, ↓SP3, ↓SP4, ↓SQ5, ↓SQ6, ↓SQ7, ↓SB, ↓SB2, ↓SB3, ↓SB4, ↓SFD, SB, SB2, SB3, SB4, SO, SF, SW, SV, SX, SG, SH, SI, SQ, Int.reduceEq, Int.reduceLT, Int.reduceLE, Int.reduceToNat, Int.reducePow, Int.reduceNeg, Int.reduceSub, Int.reduceAdd, Int.reduceMul, Option.isSome_some, Option.isSome_none, eq_self, decide_true, decide_false, SBQ, SPL, SEE, SEC, SED, Bool.true_or, Bool.false_or, Bool.or_false, Bool.or_true, if_true, if_false, Bool.false_eq_true, reduceCtorEq, implies_true, Int.reduceNe, ne_eq, not_false_eq_true, ↓m_is_fraction, ↓k_is_fraction_1, ↓p_divisor]
                    refine CI_d (fun hy => ?_) (fun hy => ?_)
                    · simp only [↓SP, ↓SP2, ↓SP3, ↓SP4, ↓SQ5, ↓SQ6, ↓SQ7, ↓SB, ↓SB2, ↓SB3, ↓SB4, ↓SFD, SB, SB2, SB3, SB4, SO, SF, SW, SV, SX, SG, SH, SI, SQ, Int.reduceEq, Int.reduceLT, Int.reduceLE, Int.reduceToNat, Int.reducePow, Int.reduceNeg, Int.reduceSub, Int.reduceAdd, Int.reduceMul, Option.isSome_some, Option.isSome_none, eq_self, decide_true, decide_false, SBQ, SPL, SEE, SEC, SED, Bool.true_or, Bool.false_or, Bool.or_false, Bool.or_true, if_true, if_false, Bool.false_eq_true, reduceCtorEq, implies_true, Int.reduceNe, ne_eq, not_false_eq_true, ↓m_is_fraction, ↓k_is_fraction_1, ↓p_divisor]
                      have e : (D.tup [.int x, .int y]).frac.isSome = decide (((Int.gcd x y : Nat) : Int) = 1) := by
                        show (if 0 < y ∧ Int.gcd x y = 1 then some (Rat.divInt x y) else none).isSome = _
                        by_cases hg : Int.gcd x y = 1
                        · rw [if_pos ⟨hy, hg⟩, hg]; rfl
                        · rw [if_neg (fun z => hg z.2), decide_eq_false (by omega)]; rfl
                      rw [e] at h
                      exact h
                    · simp only [↓SP, ↓SP2, ↓SP3, ↓SP4, ↓SQ5, ↓SQ6, ↓SQ7, ↓SB, ↓SB2, ↓SB3, ↓SB4, ↓SFD, SB, SB2, SB3, SB4, SO, SF, SW, SV, SX, SG, SH, SI, SQ, Int.reduceEq, Int.reduceLT, Int.reduceLE, Int.reduceToNat, Int.reducePow, Int.reduceNeg, Int.reduceSub, Int.reduceAdd, Int.reduceMul, Option.isSome_some, Option.isSome_none, eq_self, decide_true, decide_false, SBQ, SPL, SEE, SEC, SED, Bool.true_or, Bool.false_or, Bool.or_false, Bool.or_true, if_true, if_false, Bool.false_eq_true, reduceCtorEq, implies_true, Int.reduceNe, ne_eq, not_false_eq_true, ↓m_is_fraction, ↓k_is_fraction_1, ↓p_divisor]
                      have e : (D.tup [.int x, .int y]).frac = none := by
                        show (if 0 < y ∧ Int.gcd x y = 1 then some (Rat.divInt x y) else none) = none
                        rw [if_neg (fun z => hy z.1)]
                      rw [e] at h
                      exact h
                  | _ => cases ib
                | _ => cases ia
              · simp only [↓SP, ↓SP2, ↓SP3, ↓SP4, ↓SQ5, ↓SQ6, ↓SQ7, ↓SB, ↓SB2, ↓SB3, ↓SB4, ↓SFD, SB, SB2, SB3, SB4, SO, SF, SW, SV, SX, SG, SH, SI, SQ, Int.reduceEq, Int.reduceLT, Int.reduceLE, Int.reduceToNat, Int.reducePow, Int.reduceNeg, Int.reduceSub, Int.reduceAdd, Int.reduceMul, Option.isSome_some, Option.isSome_none, eq_self, decide_true, decide_false, SBQ, SPL, SEE, SEC, SED, Bool.true_or, Bool.false_or, Bool.or_false, Bool.or_true, if_true, if_false, Bool.false_eq_true, reduceCtorEq, implies_true, Int.reduceNe, ne_eq, not_false_eq_true, ↓m_is_fraction, ↓k_is_fraction_1]
                have e : (D.tup [a, b]).frac = none := by
                  cases b with
                  | int y => cases ib
                  | _ => cases a <;> rfl
                rw [e] at h
                exact h
            · simp only [↓SP, ↓SP2, ↓SP3, ↓SP4, ↓SQ5, ↓SQ6, ↓SQ7, ↓SB, ↓SB2, ↓SB3, ↓SB4, ↓SFD, SB, SB2, SB3, SB4, SO, SF, SW, SV, SX, SG, SH, SI, SQ, Int.reduceEq, Int.reduceLT, Int.reduceLE, Int.reduceToNat, Int.reducePow, Int.reduceNeg, Int.reduceSub, Int.reduceAdd, Int.reduceMul, Option.isSome_some, Option.isSome_none, eq_self, decide_true, decide_false, SBQ, SPL, SEE, SEC, SED, Bool.true_or, Bool.false_or, Bool.or_false, Bool.or_true, if_true, if_false, Bool.false_eq_true, reduceCtorEq, implies_true, Int.reduceNe, ne_eq, not_false_eq_true, ↓m_is_fraction, ↓k_is_fraction_1]
              have e : (D.tup [a, b]).frac = none := by
                cases a with
                | int y => cases ia
                | _ => rfl
              rw [e] at h
              exact h
        · simp only [↓SP, ↓SP2, ↓SP3, ↓SP4, ↓SQ5, ↓SQ6, ↓SQ7, ↓SB, ↓SB2, ↓SB3, ↓SB4, ↓SFD, SB, SB2, SB3, SB4, SO, SF, SW, SV, SX, SG, SH, SI, SQ, Int.reduceEq, Int.reduceLT, Int.reduceLE, Int.reduceToNat, Int.reducePow, Int.reduceNeg, Int.reduceSub, Int.reduceAdd, Int.reduceMul, Option.isSome_some, Option.isSome_none, eq_self, decide_true, decide_false, SBQ, SPL, SEE, SEC, SED, Bool.true_or, Bool.false_or, Bool.or_false, Bool.or_true, if_true, if_false, Bool.false_eq_true, reduceCtorEq, implies_true, Int.reduceNe, ne_eq, not_false_eq_true, ↓m_is_fraction, ↓k_is_fraction_1]
          have e : (D.tup xs).frac = none := frac_len (fun z => hl (by rw [z]; rfl))
          rw [e] at h
          exact h
      | _ => cases hd
    · cases d <;> first | (simp only [D.tyd] at ht; exact absurd ht (by decide)) | (simp only [↓SP, ↓SP2, ↓SP3, ↓SP4, ↓SQ5, ↓SQ6, ↓SQ7, ↓SB, ↓SB2, ↓SB3, ↓SB4, ↓SFD, SB, SB2, SB3, SB4, SO, SF, SW, SV, SX, SG, SH, SI, SQ, Int.reduceEq, Int.reduceLT, Int.reduceLE, Int.reduceToNat, Int.reducePow, Int.reduceNeg, Int.reduceSub, Int.reduceAdd, Int.reduceMul, Option.isSome_some, Option.isSome_none, eq_self, decide_true, decide_false, SBQ, SPL, SEE, SEC, SED, Bool.true_or, Bool.false_or, Bool.or_false, Bool.or_true, if_true, if_false, Bool.false_eq_true, reduceCtorEq, implies_true, Int.reduceNe, ne_eq, not_false_eq_true, ↓m_is_fraction, ↓k_is_fraction_1]; exact h) | exact absurd rfl hd
  · exact h.elim
theorem w_is_fraction (t : T K mg) (cdv : Value) (A : Around) (outer : List Env) (s : Shared) (H : Hp) (E : XK) (hr : Room 1 (A.deeper (envOfC "is_fraction" (defScope s_is_fraction) s.heap.objs.size (He.ga K "is_fraction") cdv))) : QSs (CxA P w K mg base N_is_fraction "is_fraction" (defScope s_is_fraction) cdv A outer s H E) (wE E) (defBody s_is_fraction) (m_is_fraction K) :=
  show QSs _ (wE E) (defBody s_is_fraction) (mSeq (mIf (mOr (mNot (mTest (mCallB (fIsi K) (mConsA (mVar 0) (mConsA (mC (.ty "tuple")) (mNilA)))))) (mOr (mTest (mBin fNe (mCallB fLenG (mConsA (mVar 0) (mNilA))) (mC (.int 2)))) (mOr (mNot (mTest (mCall (p_is_whole K) (mConsA (mBin fIxG (mVar 0) (mC (.int 0))) (mNilA))))) (mNot (mTest (mCall (p_is_whole K) (mConsA (mBin fIxG (mVar 0) (mC (.int 1))) (mNilA)))))))) (mRet (mC (.bl false))) (mNext)) (mRet (mAndV (mBin fGt (mBin fIxG (mVar 0) (mC (.int 1))) (mC (.int 0))) (mBin fEq (mCall (p_divisor K) (mConsA (mBin fIxG (mVar 0) (mC (.int 0))) (mConsA (mBin fIxG (mVar 0) (mC (.int 1))) (mNilA)))) (mC (.int 1)))))) from
  q_cons (q_if (q_w (w_or (q_tnot (q_tval (q_isi t.f_isinstance (qa_cons (q_var 0) (qa_cons (q_bltn t.f_tuple (by decide +kernel)) (qa_nil)))))) (w_or (q_tne hr (q_lenG t.f_len (qa_cons (q_var 0) (qa_nil))) (q_int)) (w_or (q_tnot (q_tval (c_call (ok_is_whole t) (hr.mono (by omega)) t.g_is_whole (takes_of rfl rfl rfl rfl) (qa_cons (q_ixG hr (q_var 0) (q_int)) (qa_nil))))) (w_or1 (q_tnot (q_tval (c_call (ok_is_whole t) (hr.mono (by omega)) t.g_is_whole (takes_of rfl rfl rfl rfl) (qa_cons (q_ixG hr (q_var 0) (q_int)) (qa_nil)))))))))) (q_one (q_ret (q_bl))) (q_nil)) (q_one (q_ret (q_and (q_gt (q_ixG hr (q_var 0) (q_int)) (q_int)) (q_one1 (q_eq hr (c_call (ok_divisor t) (hr.mono (by omega)) t.g_divisor (takes_of rfl rfl rfl rfl) (qa_cons (q_ixG hr (q_var 0) (q_int)) (qa_cons (q_ixG hr (q_var 0) (q_int)) (qa_nil)))) (q_int))))))
theorem ok_is_fraction (t : T K mg) : Fok P w K mg base 2 (He.ga K "is_fraction") ["thing"] (sp0 K (p_is_fraction K)) :=
  fok0 (st := s_is_fraction) (N := N_is_fraction) (m := m_is_fraction K) t.d_is_fraction sc_is_fraction (fun _ _ _ _ _ _ us hl => match us, hl with | [_], _ => rfl) (fun ds Q E h => len_is_fraction h) (w_is_fraction t) (pure_is_fraction K)
def p_times (K : PySem.W.Frag) : P0 := fun ds Q E => match ds with
  | [a, b] => onF a fun p => onF b fun q => Az p q ∧ Q (.va (fD (p * q)))
  | _ => False
theorem len_times {K : PySem.W.Frag} {ds : List D} {Q : Re → Prop} {E : Xc → Prop} (h : p_times K ds Q E) : ds.length = 2 := by
  unfold p_times at h; split at h <;> first | rfl | exact h.elim
def m_times (K : PySem.W.Frag) : MS := fun De ρ => (mRet (mCall (p_fraction K) (mConsA (mBin fMul (mBin fIxG (mVar 0) (mC (.int 0))) (mBin fIxG (mVar 1) (mC (.int 0)))) (mConsA (mBin fMul (mBin fIxG (mVar 0) (mC (.int 1))) (mBin fIxG (mVar 1) (mC (.int 1)))) (mNilA))))) De ρ
abbrev N_times : List Str := ["one", "other"]
theorem i_times (d0 d1 : D) : in0 N_times [d0, d1] = [some (.fz d0), some (.fz d1)] := rfl
theorem sc_times : FnScope N_times ["one", "other"] (defScope s_times) := ⟨rfl, rfl, rfl, by decide +kernel, rfl, by decide +kernel, by decide +kernel⟩
theorem pure_times (K : PySem.W.Frag) : ∀ ds Q E, p_times K ds Q E → m_times K (ends0 Q E) (in0 N_times ds) := by
  intro ds Q E h
  unfold p_times at h
  split at h
  · rename_i a b
    rw [i_times]
    obtain ⟨p, rfl, q, rfl, z, h⟩ := h
    simp only [↓SP, ↓SP2, ↓SP3, ↓SP4, ↓SQ5, ↓SQ6, ↓SQ7, ↓SB, ↓SB2, ↓SB3, ↓SB4, ↓SFD, SB, SB2, SB3, SB4, SO, SF, SW, SV, SX, SG, SH, SI, SQ, Int.reduceEq, Int.reduceLT, Int.reduceLE, Int.reduceToNat, Int.reducePow, Int.reduceNeg, Int.reduceSub, Int.reduceAdd, Int.reduceMul, Option.isSome_some, Option.isSome_none, eq_self, decide_true, decide_false, SBQ, SPL, SEE, SEC, SED, Bool.true_or, Bool.false_or, Bool.or_false, Bool.or_true, if_true, if_false, Bool.false_eq_true, reduceCtorEq, implies_true, Int.reduceNe, ne_eq, not_false_eq_true, ↓m_times, ↓p_fraction]
    refine ⟨z.p.1.cmul z.q.1 (by decide), z.p.2.cmul z.q.2 (by decide), z.d, CI_no (dens_ne p q) ?_⟩
    simp only [↓SP, ↓SP2, ↓SP3, ↓SP4, ↓SQ5, ↓SQ6, ↓SQ7, ↓SB, ↓SB2, ↓SB3, ↓SB4, ↓SFD, SB, SB2, SB3, SB4, SO, SF, SW, SV, SX, SG, SH, SI, SQ, Int.reduceEq, Int.reduceLT, Int.reduceLE, Int.reduceToNat, Int.reducePow, Int.reduceNeg, Int.reduceSub, Int.reduceAdd, Int.reduceMul, Option.isSome_some, Option.isSome_none, eq_self, decide_true, decide_false, SBQ, SPL, SEE, SEC, SED, Bool.true_or, Bool.false_or, Bool.or_false, Bool.or_true, if_true, if_false, Bool.false_eq_true, reduceCtorEq, implies_true, Int.reduceNe, ne_eq, not_false_eq_true, ↓m_times, ↓p_fraction]
    rw [← Rat.divInt_eq_div, ← rat_mul]
    exact h
  · exact h.elim
theorem w_times (t : T K mg) (cdv : Value) (A : Around) (outer : List Env) (s : Shared) (H : Hp) (E : XK) (hr : Room 2 (A.deeper (envOfC "times" (defScope s_times) s.heap.objs.size (He.ga K "times") cdv))) : QSs (CxA P w K mg base N_times "times" (defScope s_times) cdv A outer s H E) (wE E) (defBody s_times) (m_times K) :=
  show QSs _ (wE E) (defBody s_times) (mRet (mCall (p_fraction K) (mConsA (mBin fMul (mBin fIxG (mVar 0) (mC (.int 0))) (mBin fIxG (mVar 1) (mC (.int 0)))) (mConsA (mBin fMul (mBin fIxG (mVar 0) (mC (.int 1))) (mBin fIxG (mVar 1) (mC (.int 1)))) (mNilA))))) from
  q_one (q_ret (c_call (ok_fraction t) (hr.mono (by omega)) t.g_fraction (takes_of rfl rfl rfl rfl) (qa_cons (q_mul (q_ixG hr (q_var 0) (q_int)) (q_ixG hr (q_var 1) (q_int))) (qa_cons (q_mul (q_ixG hr (q_var 0) (q_int)) (q_ixG hr (q_var 1) (q_int))) (qa_nil)))))
theorem ok_times (t : T K mg) : Fok P w K mg base 3 (He.ga K "times") ["one", "other"] (sp0 K (p_times K)) :=
  fok0 (st := s_times) (N := N_times) (m := m_times K) t.d_times sc_times (fun _ _ _ _ _ _ us hl => match us, hl with | [_, _], _ => rfl) (fun ds Q E h => len_times h) (w_times t) (pure_times K)
def p_is_less (K : PySem.W.Frag) : P0 := fun ds Q E => match ds with
  | [a, b] => onF a fun p => onF b fun q => Rb 400000 p ∧ Rb 400000 q ∧ Q (.va (.bl (decide (p < q))))
  | _ => False
theorem len_is_less {K : PySem.W.Frag} {ds : List D} {Q : Re → Prop} {E : Xc → Prop} (h : p_is_less K ds Q E) : ds.length = 2 := by
  unfold p_is_less at h; split at h <;> first | rfl | exact h.elim
def m_is_less (K : PySem.W.Frag) : MS := fun De ρ => (mRet (mBin fLt (mBin fMul (mBin fIxG (mVar 0) (mC (.int 0))) (mBin fIxG (mVar 1) (mC (.int 1)))) (mBin fMul (mBin fIxG (mVar 1) (mC (.int 0))) (mBin fIxG (mVar 0) (mC (.int 1)))))) De ρ
abbrev N_is_less : List Str := ["one", "other"]
theorem i_is_less (d0 d1 : D) : in0 N_is_less [d0, d1] = [some (.fz d0), some (.fz d1)] := rfl
theorem sc_is_less : FnScope N_is_less ["one", "other"] (defScope s_is_less) := ⟨rfl, rfl, rfl, by decide +kernel, rfl, by decide +kernel, by decide +kernel⟩
theorem pure_is_less (K : PySem.W.Frag) : ∀ ds Q E, p_is_less K ds Q E → m_is_less K (ends0 Q E) (in0 N_is_less ds) := by
  intro ds Q E h
  unfold p_is_less at h
  split at h
  · rename_i a b
    rw [i_is_less]
    obtain ⟨p, rfl, q, rfl, hp, hq, h⟩ := h
    simp only [↓SP, ↓SP2, ↓SP3, ↓SP4, ↓SQ5, ↓SQ6, ↓SQ7, ↓SB, ↓SB2, ↓SB3, ↓SB4, ↓SFD, SB, SB2, SB3, SB4, SO, SF, SW, SV, SX, SG, SH, SI, SQ, Int.reduceEq, Int.reduceLT, Int.reduceLE, Int.reduceToNat, Int.reducePow, Int.reduceNeg, Int.reduceSub, Int.reduceAdd, Int.reduceMul, Option.isSome_some, Option.isSome_none, eq_self, decide_true, decide_false, SBQ, SPL, SEE, SEC, SED, Bool.true_or, Bool.false_or, Bool.or_false, Bool.or_true, if_true, if_false, Bool.false_eq_true, reduceCtorEq, implies_true, Int.reduceNe, ne_eq, not_false_eq_true, ↓m_is_less]
    refine ⟨hp.1.cmul hq.2 (by decide), hq.1.cmul hp.2 (by decide), ?_⟩
    rw [rat_lt]
    exact h
  · exact h.elim
theorem w_is_less (t : T K mg) (cdv : Value) (A : Around) (outer : List Env) (s : Shared) (H : Hp) (E : XK) (hr : Room 0 (A.deeper (envOfC "is_less" (defScope s_is_less) s.heap.objs.size (He.ga K "is_less") cdv))) : QSs (CxA P w K mg base N_is_less "is_less" (defScope s_is_less) cdv A outer s H E) (wE E) (defBody s_is_less) (m_is_less K) :=
  show QSs _ (wE E) (defBody s_is_less) (mRet (mBin fLt (mBin fMul (mBin fIxG (mVar 0) (mC (.int 0))) (mBin fIxG (mVar 1) (mC (.int 1)))) (mBin fMul (mBin fIxG (mVar 1) (mC (.int 0))) (mBin fIxG (mVar 0) (mC (.int 1)))))) from
  q_one (q_ret (q_lt (q_mul (q_ixG hr (q_var 0) (q_int)) (q_ixG hr (q_var 1) (q_int))) (q_mul (q_ixG hr (q_var 1) (q_int)) (q_ixG hr (q_var 0) (q_int)))))
theorem ok_is_less (t : T K mg) : Fok P w K mg base 1 (He.ga K "is_less") ["one", "other"] (sp0 K (p_is_less K)) :=
  fok0 (st := s_is_less) (N := N_is_less) (m := m_is_less K) t.d_is_less sc_is_less (fun _ _ _ _ _ _ us hl => match us, hl with | [_, _], _ => rfl) (fun ds Q E h => len_is_less h) (w_is_less t) (pure_is_less K)
def p_is_box (K : PySem.W.Frag) : P0 := fun ds Q E => match ds with
  | [d] => d.tame ∧ Q (.va (.bl d.box.isSome))
  | _ => False
theorem len_is_box {K : PySem.W.Frag} {ds : List D} {Q : Re → Prop} {E : Xc → Prop} (h : p_is_box K ds Q E) : ds.length = 1 := by
  unfold p_is_box at h; split at h <;> first | rfl | exact h.elim
def e_is_box_1 (K : PySem.W.Frag) : MX := fun ρ Q E => (mCall (p_is_fraction K) (mConsA (mVar 1) (mNilA))) ρ Q E
def k_is_box_1 (K : PySem.W.Frag) : MS := fun De ρ => (mRet (mAndV (mCall (p_is_less K) (mConsA (mC k_NOUGHT) (mConsA (mBin fIxG (mVar 0) (mC (.int 2))) (mNilA)))) (mCall (p_is_less K) (mConsA (mC k_NOUGHT) (mConsA (mBin fIxG (mVar 0) (mC (.int 3))) (mNilA)))))) De ρ
def m_is_box (K : PySem.W.Frag) : MS := fun De ρ => (mSeq (mIf (mOr (mNot (mTest (mCallB (fIsi K) (mConsA (mVar 0) (mConsA (mC (.ty "tuple")) (mNilA)))))) (mOr (mTest (mBin fNe (mCallB fLenG (mConsA (mVar 0) (mNilA))) (mC (.int 4)))) (mNot (mTest (mCallB fAll (mConsA (mLc (mIt (mVar 0)) (gNm 1) mYes (e_is_box_1 K) [1]) (mNilA))))))) (mRet (mC (.bl false))) (mNext)) (k_is_box_1 K)) De ρ
abbrev N_is_box : List Str := ["thing", "one"]
theorem i_is_box (d0 : D) : in0 N_is_box [d0] = [some (.fz d0), none] := rfl
theorem sc_is_box : FnScope N_is_box ["thing"] (defScope s_is_box) := ⟨rfl, rfl, rfl, by decide +kernel, rfl, by decide +kernel, by decide +kernel⟩
theorem pure_is_box (K : PySem.W.Frag) : ∀ ds Q E, p_is_box K ds Q E → m_is_box K (ends0 Q E) (in0 N_is_box ds) := by
  intro ds Q E h
  unfold p_is_box at h
  split at h
  · rename_i d
    rw [i_is_box]
    obtain ⟨⟨ht, hs⟩, h⟩ := h
    by_cases hd : d.isTup = true
    · cases d with
      | tup xs =>
        simp only [D.tyd] at ht
        simp only [↓SP, ↓SP2, ↓SP3, ↓SP4, ↓SQ5, ↓SQ6, ↓SQ7, ↓SB, ↓SB2, ↓SB3, ↓SB4, ↓SFD, SB, SB2, SB3, SB4, SO, SF, SW, SV, SX, SG, SH, SI, SQ, Int.reduceEq, Int.reduceLT, Int.reduceLE, Int.reduceToNat, Int.reducePow, Int.reduceNeg, Int.reduceSub, Int.reduceAdd, Int.reduceMul, Option.isSome_some, Option.isSome_none, eq_self, decide_true, decide_false, SBQ, SPL, SEE, SEC, SED, Bool.true_or, Bool.false_or, Bool.or_false, Bool.or_true, if_true, if_false, Bool.false_eq_true, reduceCtorEq, implies_true, Int.reduceNe, ne_eq, not_false_eq_true, ↓m_is_box, ↓e_is_box_1, ↓k_is_box_1, ↓p_is_less, ↓p_is_fraction, k_NOUGHT]
        refine CI_d (fun hl => ?_) (fun hl => ?_)
        · match xs, hl with
          | [a, b, c, d], _ =>
            simp only [tydL, Bool.and_eq_true] at ht
            obtain ⟨ha, hb, hc, hd, _⟩ := ht
            simp only [↓SP, ↓SP2, ↓SP3, ↓SP4, ↓SQ5, ↓SQ6, ↓SQ7, ↓SB, ↓SB2, ↓SB3, ↓SB4, ↓SFD, SB, SB2, SB3, SB4, SO, SF, SW, SV, SX, SG, SH, SI, SQ, Int.reduceEq, Int.reduceLT, Int.reduceLE, Int.reduceToNat, Int.reducePow, Int.reduceNeg, Int.reduceSub, Int.reduceAdd, Int.reduceMul, Option.isSome_some, Option.isSome_none, eq_self, decide_true, decide_false, SBQ, SPL, SEE, SEC, SED, Bool.true_or, Bool.false_or, Bool.or_false, Bool.or_true, if_true, if_false, Bool.false_eq_true, reduceCtorEq, implies_true, Int.reduceNe, ne_eq, not_false_eq_true, ↓m_is_box, ↓e_is_box_1, ↓k_is_box_1, ↓p_is_less, ↓p_is_fraction, k_NOUGHT, LC_c, LC_n]
            refine ⟨ha, hb, hc, hd, ?_⟩
            refine CI_b (fun hf => ?_) (fun hf => ?_)
            · simp only [Bool.and_eq_true] at hf
              obtain ⟨fa, fb, fc, fd⟩ := hf
              obtain ⟨qa, fa⟩ := Option.isSome_iff_exists.mp fa
              obtain ⟨qb, fb⟩ := Option.isSome_iff_exists.mp fb
              obtain ⟨qc, fc⟩ := Option.isSome_iff_exists.mp fc
              obtain ⟨qd, fd⟩ := Option.isSome_iff_exists.mp fd
              have rc := hs _ rfl c (by simp) qc fc
              have rd := hs _ rfl d (by simp) qd fd
              rw [frac_some fa, frac_some fb, frac_some fc, frac_some fd, box_4] at h
              rw [frac_some fc, frac_some fd]
              simp only [↓SP, ↓SP2, ↓SP3, ↓SP4, ↓SQ5, ↓SQ6, ↓SQ7, ↓SB, ↓SB2, ↓SB3, ↓SB4, ↓SFD, SB, SB2, SB3, SB4, SO, SF, SW, SV, SX, SG, SH, SI, SQ, Int.reduceEq, Int.reduceLT, Int.reduceLE, Int.reduceToNat, Int.reducePow, Int.reduceNeg, Int.reduceSub, Int.reduceAdd, Int.reduceMul, Option.isSome_some, Option.isSome_none, eq_self, decide_true, decide_false, SBQ, SPL, SEE, SEC, SED, Bool.true_or, Bool.false_or, Bool.or_false, Bool.or_true, if_true, if_false, Bool.false_eq_true, reduceCtorEq, implies_true, Int.reduceNe, ne_eq, not_false_eq_true, ↓m_is_box, ↓e_is_box_1, ↓k_is_box_1, ↓p_is_less, ↓p_is_fraction, k_NOUGHT]
              refine ⟨Rb.zero (by decide), rc, CI_d (fun h1 => ?_) (fun h1 => ?_)⟩
              · simp only [↓SP, ↓SP2, ↓SP3, ↓SP4, ↓SQ5, ↓SQ6, ↓SQ7, ↓SB, ↓SB2, ↓SB3, ↓SB4, ↓SFD, SB, SB2, SB3, SB4, SO, SF, SW, SV, SX, SG, SH, SI, SQ, Int.reduceEq, Int.reduceLT, Int.reduceLE, Int.reduceToNat, Int.reducePow, Int.reduceNeg, Int.reduceSub, Int.reduceAdd, Int.reduceMul, Option.isSome_some, Option.isSome_none, eq_self, decide_true, decide_false, SBQ, SPL, SEE, SEC, SED, Bool.true_or, Bool.false_or, Bool.or_false, Bool.or_true, if_true, if_false, Bool.false_eq_true, reduceCtorEq, implies_true, Int.reduceNe, ne_eq, not_false_eq_true, ↓m_is_box, ↓e_is_box_1, ↓k_is_box_1, ↓p_is_less, ↓p_is_fraction, k_NOUGHT]
                refine ⟨Rb.zero (by decide), rd, ?_⟩
                by_cases h2 : 0 < qd
                · rw [dif_pos ⟨h1, h2⟩] at h
                  rw [show (decide (((0 : Int) : Rat) < qd)) = true from decide_eq_true h2]
                  exact h
                · rw [dif_neg (fun z => h2 z.2)] at h
                  rw [show (decide (((0 : Int) : Rat) < qd)) = false from decide_eq_false h2]
                  exact h
              · simp only [↓SP, ↓SP2, ↓SP3, ↓SP4, ↓SQ5, ↓SQ6, ↓SQ7, ↓SB, ↓SB2, ↓SB3, ↓SB4, ↓SFD, SB, SB2, SB3, SB4, SO, SF, SW, SV, SX, SG, SH, SI, SQ, Int.reduceEq, Int.reduceLT, Int.reduceLE, Int.reduceToNat, Int.reducePow, Int.reduceNeg, Int.reduceSub, Int.reduceAdd, Int.reduceMul, Option.isSome_some, Option.isSome_none, eq_self, decide_true, decide_false, SBQ, SPL, SEE, SEC, SED, Bool.true_or, Bool.false_or, Bool.or_false, Bool.or_true, if_true, if_false, Bool.false_eq_true, reduceCtorEq, implies_true, Int.reduceNe, ne_eq, not_false_eq_true, ↓m_is_box, ↓e_is_box_1, ↓k_is_box_1, ↓p_is_less, ↓p_is_fraction, k_NOUGHT]
                rw [dif_neg (fun z => h1 z.1)] at h
                exact h
            · simp only [↓SP, ↓SP2, ↓SP3, ↓SP4, ↓SQ5, ↓SQ6, ↓SQ7, ↓SB, ↓SB2, ↓SB3, ↓SB4, ↓SFD, SB, SB2, SB3, SB4, SO, SF, SW, SV, SX, SG, SH, SI, SQ, Int.reduceEq, Int.reduceLT, Int.reduceLE, Int.reduceToNat, Int.reducePow, Int.reduceNeg, Int.reduceSub, Int.reduceAdd, Int.reduceMul, Option.isSome_some, Option.isSome_none, eq_self, decide_true, decide_false, SBQ, SPL, SEE, SEC, SED, Bool.true_or, Bool.false_or, Bool.or_false, Bool.or_true, if_true, if_false, Bool.false_eq_true, reduceCtorEq, implies_true, Int.reduceNe, ne_eq, not_false_eq_true, ↓m_is_box, ↓e_is_box_1, ↓k_is_box_1, ↓p_is_less, ↓p_is_fraction, k_NOUGHT]
              have eb : (D.tup [a, b, c, d]).box = none := by
                unfold D.box
                simp only
                split
                · rename_i z1 z2 z3 z4
                  rw [z1, z2, z3, z4] at hf
                  cases hf
                · rfl
              rw [eb] at h
              exact h
        · simp only [↓SP, ↓SP2, ↓SP3, ↓SP4, ↓SQ5, ↓SQ6, ↓SQ7, ↓SB, ↓SB2, ↓SB3, ↓SB4, ↓SFD, SB, SB2, SB3, SB4, SO, SF, SW, SV, SX, SG, SH, SI, SQ, Int.reduceEq, Int.reduceLT, Int.reduceLE, Int.reduceToNat, Int.reducePow, Int.reduceNeg, Int.reduceSub, Int.reduceAdd, Int.reduceMul, Option.isSome_some, Option.isSome_none, eq_self, decide_true, decide_false, SBQ, SPL, SEE, SEC, SED, Bool.true_or, Bool.false_or, Bool.or_false, Bool.or_true, if_true, if_false, Bool.false_eq_true, reduceCtorEq, implies_true, Int.reduceNe, ne_eq, not_false_eq_true, ↓m_is_box, ↓e_is_box_1, ↓k_is_box_1, ↓p_is_less, ↓p_is_fraction, k_NOUGHT]
          have e : (D.tup xs).box = none := box_len (fun z => hl (by rw [z]; rfl))
          rw [e] at h
          exact h
      | _ => cases hd
    · cases d <;> first | (simp only [D.tyd] at ht; exact absurd ht (by decide)) | (simp only [↓SP, ↓SP2, ↓SP3, ↓SP4, ↓SQ5, ↓SQ6, ↓SQ7, ↓SB, ↓SB2, ↓SB3, ↓SB4, ↓SFD, SB, SB2, SB3, SB4, SO, SF, SW, SV, SX, SG, SH, SI, SQ, Int.reduceEq, Int.reduceLT, Int.reduceLE, Int.reduceToNat, Int.reducePow, Int.reduceNeg, Int.reduceSub, Int.reduceAdd, Int.reduceMul, Option.isSome_some, Option.isSome_none, eq_self, decide_true, decide_false, SBQ, SPL, SEE, SEC, SED, Bool.true_or, Bool.false_or, Bool.or_false, Bool.or_true, if_true, if_false, Bool.false_eq_true, reduceCtorEq, implies_true, Int.reduceNe, ne_eq, not_false_eq_true, ↓m_is_box, ↓e_is_box_1, ↓k_is_box_1, ↓p_is_less, ↓p_is_fraction, k_NOUGHT]; exact h) | exact absurd rfl hd
  · exact h.elim
theorem w_is_box (t : T K mg) (cdv : Value) (A : Around) (outer : List Env) (s : Shared) (H : Hp) (E : XK) (hr : Room 2 (A.deeper (envOfC "is_box" (defScope s_is_box) s.heap.objs.size (He.ga K "is_box") cdv))) : QSs (CxA P w K mg base N_is_box "is_box" (defScope s_is_box) cdv A outer s H E) (wE E) (defBody s_is_box) (m_is_box K) :=
  show QSs _ (wE E) (defBody s_is_box) (mSeq (mIf (mOr (mNot (mTest (mCallB (fIsi K) (mConsA (mVar 0) (mConsA (mC (.ty "tuple")) (mNilA)))))) (mOr (mTest (mBin fNe (mCallB fLenG (mConsA (mVar 0) (mNilA))) (mC (.int 4)))) (mNot (mTest (mCallB fAll (mConsA (mLc (mIt (mVar 0)) (gNm 1) mYes (mCall (p_is_fraction K) (mConsA (mVar 1) (mNilA))) [1]) (mNilA))))))) (mRet (mC (.bl false))) (mNext)) (mRet (mAndV (mCall (p_is_less K) (mConsA (mC k_NOUGHT) (mConsA (mBin fIxG (mVar 0) (mC (.int 2))) (mNilA)))) (mCall (p_is_less K) (mConsA (mC k_NOUGHT) (mConsA (mBin fIxG (mVar 0) (mC (.int 3))) (mNilA))))))) from
  q_cons (q_if (q_w (w_or (q_tnot (q_tval (q_isi t.f_isinstance (qa_cons (q_var 0) (qa_cons (q_bltn t.f_tuple (by decide +kernel)) (qa_nil)))))) (w_or (q_tne hr (q_lenG t.f_len (qa_cons (q_var 0) (qa_nil))) (q_int)) (w_or1 (q_tnot (q_tval (q_all rfl t.f_all (qa_cons (q_lc (own := [("one", 1)]) rfl sc_is_box.nd (qi_val (q_var 0)) (blkOk_by (N := N_is_box) (sc := defScope s_is_box) (by decide +kernel)) (fun _ _ _ _ _ => g_name (i := 1) sc_is_box.nd) (fun _ _ _ _ _ => qts_nil) (fun _ _ _ _ _ => c_call (ok_is_fraction t) (hr.mono (by omega)) t.g_is_fraction takes_wN (qa_cons (q_var 1) (qa_nil)))) (qa_nil))))))))) (q_one (q_ret (q_bl))) (q_nil)) (q_one (q_ret (q_and (c_call (ok_is_less t) (hr.mono (by omega)) t.g_is_less (takes_of rfl rfl rfl rfl) (qa_cons (q_glob (v := .ref (He.ga K "NOUGHT")) t.g_NOUGHT rfl t.v_NOUGHT) (qa_cons (q_ixG hr (q_var 0) (q_int)) (qa_nil)))) (q_one1 (c_call (ok_is_less t) (hr.mono (by omega)) t.g_is_less (takes_of rfl rfl rfl rfl) (qa_cons (q_glob (v := .ref (He.ga K "NOUGHT")) t.g_NOUGHT rfl t.v_NOUGHT) (qa_cons (q_ixG hr (q_var 0) (q_int)) (qa_nil))))))))
theorem ok_is_box (t : T K mg) : Fok P w K mg base 3 (He.ga K "is_box") ["thing"] (sp0 K (p_is_box K)) :=
  fok0 (st := s_is_box) (N := N_is_box) (m := m_is_box K) t.d_is_box sc_is_box (fun _ _ _ _ _ _ us hl => match us, hl with | [_], _ => rfl) (fun ds Q E h => len_is_box h) (w_is_box t) (pure_is_box K)
def p_look_box (K : PySem.W.Frag) : P0 := fun ds Q E => match ds with
  | [d] => d.tame ∧ onO d.box (fun _ => Q (.va .non)) (E (He.ga K "NoBox", none))
  | _ => False
theorem len_look_box {K : PySem.W.Frag} {ds : List D} {Q : Re → Prop} {E : Xc → Prop} (h : p_look_box K ds Q E) : ds.length = 1 := by
  unfold p_look_box at h; split at h <;> first | rfl | exact h.elim
def m_look_box (K : PySem.W.Frag) : MS := fun De ρ => (mIf (mNot (mTest (mCall (p_is_box K) (mConsA (mVar 0) (mNilA))))) (mRaise (He.ga K "NoBox")) (mNext)) De ρ
abbrev N_look_box : List Str := ["thing"]
theorem i_look_box (d0 : D) : in0 N_look_box [d0] = [some (.fz d0)] := rfl
theorem sc_look_box : FnScope N_look_box ["thing"] (defScope s_look_box) := ⟨rfl, rfl, rfl, by decide +kernel, rfl, by decide +kernel, by decide +kernel⟩
theorem pure_look_box (K : PySem.W.Frag) : ∀ ds Q E, p_look_box K ds Q E → m_look_box K (ends0 Q E) (in0 N_look_box ds) := by
  intro ds Q E h
  unfold p_look_box at h
  split at h
  · rename_i d
    rw [i_look_box]
    obtain ⟨ht, h⟩ := h
    simp only [↓SP, ↓SP2, ↓SP3, ↓SP4, ↓SQ5, ↓SQ6, ↓SQ7, ↓SB, ↓SB2, ↓SB3, ↓SB4, ↓SFD, SB, SB2, SB3, SB4, SO, SF, SW, SV, SX, SG, SH, SI, SQ, Int.reduceEq, Int.reduceLT, Int.reduceLE, Int.reduceToNat, Int.reducePow, Int.reduceNeg, Int.reduceSub, Int.reduceAdd, Int.reduceMul, Option.isSome_some, Option.isSome_none, eq_self, decide_true, decide_false, SBQ, SPL, SEE, SEC, SED, Bool.true_or, Bool.false_or, Bool.or_false, Bool.or_true, if_true, if_false, Bool.false_eq_true, reduceCtorEq, implies_true, Int.reduceNe, ne_eq, not_false_eq_true, ↓m_look_box, ↓p_is_box]
    rcases onO_e h with ⟨b, hb, h⟩ | ⟨hb, h⟩
    · refine ⟨ht, ?_⟩
      rw [hb]
      simp only [↓SP, ↓SP2, ↓SP3, ↓SP4, ↓SQ5, ↓SQ6, ↓SQ7, ↓SB, ↓SB2, ↓SB3, ↓SB4, ↓SFD, SB, SB2, SB3, SB4, SO, SF, SW, SV, SX, SG, SH, SI, SQ, Int.reduceEq, Int.reduceLT, Int.reduceLE, Int.reduceToNat, Int.reducePow, Int.reduceNeg, Int.reduceSub, Int.reduceAdd, Int.reduceMul, Option.isSome_some, Option.isSome_none, eq_self, decide_true, decide_false, SBQ, SPL, SEE, SEC, SED, Bool.true_or, Bool.false_or, Bool.or_false, Bool.or_true, if_true, if_false, Bool.false_eq_true, reduceCtorEq, implies_true, Int.reduceNe, ne_eq, not_false_eq_true, ↓m_look_box, ↓p_is_box, Option.isSome_some]
      exact h
    · refine ⟨ht, ?_⟩
      rw [hb]
      simp only [↓SP, ↓SP2, ↓SP3, ↓SP4, ↓SQ5, ↓SQ6, ↓SQ7, ↓SB, ↓SB2, ↓SB3, ↓SB4, ↓SFD, SB, SB2, SB3, SB4, SO, SF, SW, SV, SX, SG, SH, SI, SQ, Int.reduceEq, Int.reduceLT, Int.reduceLE, Int.reduceToNat, Int.reducePow, Int.reduceNeg, Int.reduceSub, Int.reduceAdd, Int.reduceMul, Option.isSome_some, Option.isSome_none, eq_self, decide_true, decide_false, SBQ, SPL, SEE, SEC, SED, Bool.true_or, Bool.false_or, Bool.or_false, Bool.or_true, if_true, if_false, Bool.false_eq_true, reduceCtorEq, implies_true, Int.reduceNe, ne_eq, not_false_eq_true, ↓m_look_box, ↓p_is_box, Option.isSome_none]
      exact h
  · exact h.elim
theorem w_look_box (t : T K mg) (cdv : Value) (A : Around) (outer : List Env) (s : Shared) (H : Hp) (E : XK) (hr : Room 3 (A.deeper (envOfC "look_box" (defScope s_look_box) s.heap.objs.size (He.ga K "look_box") cdv))) : QSs (CxA P w K mg base N_look_box "look_box" (defScope s_look_box) cdv A outer s H E) (wE E) (defBody s_look_box) (m_look_box K) :=
  show QSs _ (wE E) (defBody s_look_box) (mIf (mNot (mTest (mCall (p_is_box K) (mConsA (mVar 0) (mNilA))))) (mRaise (He.ga K "NoBox")) (mNext)) from
  q_one (q_if (q_tnot (q_tval (c_call (ok_is_box t) (hr.mono (by omega)) t.g_is_box (takes_of rfl rfl rfl rfl) (qa_cons (q_var 0) (qa_nil))))) (q_one (q_raise t.x_NoBox t.g_NoBox rfl (takes_of rfl rfl rfl rfl))) (q_nil))
theorem ok_look_box (t : T K mg) : Fok P w K mg base 4 (He.ga K "look_box") ["thing"] (sp0 K (p_look_box K)) :=
  fok0 (st := s_look_box) (N := N_look_box) (m := m_look_box K) t.d_look_box sc_look_box (fun _ _ _ _ _ _ us hl => match us, hl with | [_], _ => rfl) (fun ds Q E h => len_look_box h) (w_look_box t) (pure_look_box K)
def p_area (K : PySem.W.Frag) : P0 := fun ds Q E => match ds with
  | [d] => d.tame ∧ onO d.box (fun b => Az b.w b.h ∧ Q (.va (fD (b.w * b.h)))) (E (He.ga K "NoBox", none))
  | _ => False
theorem len_area {K : PySem.W.Frag} {ds : List D} {Q : Re → Prop} {E : Xc → Prop} (h : p_area K ds Q E) : ds.length = 1 := by
  unfold p_area at h; split at h <;> first | rfl | exact h.elim
def k_area_1 (K : PySem.W.Frag) : MS := fun De ρ => (mRet (mCall (p_times K) (mConsA (mBin fIxG (mVar 0) (mC (.int 2))) (mConsA (mBin fIxG (mVar 0) (mC (.int 3))) (mNilA))))) De ρ
def m_area (K : PySem.W.Frag) : MS := fun De ρ => (mSeq (mExpr (mCall (p_look_box K) (mConsA (mVar 0) (mNilA)))) (k_area_1 K)) De ρ
abbrev N_area : List Str := ["box"]
theorem i_area (d0 : D) : in0 N_area [d0] = [some (.fz d0)] := rfl
theorem sc_area : FnScope N_area ["box"] (defScope s_area) := ⟨rfl, rfl, rfl, by decide +kernel, rfl, by decide +kernel, by decide +kernel⟩
theorem pure_area (K : PySem.W.Frag) : ∀ ds Q E, p_area K ds Q E → m_area K (ends0 Q E) (in0 N_area ds) := by
  intro ds Q E h
  unfold p_area at h
  split at h
  · rename_i d
    rw [i_area]
    obtain ⟨ht, h⟩ := h
    simp only [↓SP, ↓SP2, ↓SP3, ↓SP4, ↓SQ5, ↓SQ6, ↓SQ7, ↓SB, ↓SB2, ↓SB3, ↓SB4, ↓SFD, SB, SB2, SB3, SB4, SO, SF, SW, SV, SX, SG, SH, SI, SQ, Int.reduceEq, Int.reduceLT, Int.reduceLE, Int.reduceToNat, Int.reducePow, Int.reduceNeg, Int.reduceSub, Int.reduceAdd, Int.reduceMul, Option.isSome_some, Option.isSome_none, eq_self, decide_true, decide_false, SBQ, SPL, SEE, SEC, SED, Bool.true_or, Bool.false_or, Bool.or_false, Bool.or_true, if_true, if_false, Bool.false_eq_true, reduceCtorEq, implies_true, Int.reduceNe, ne_eq, not_false_eq_true, ↓m_area, ↓k_area_1, ↓p_look_box, ↓p_times]
    refine ⟨ht, ?_⟩
    rcases onO_e h with ⟨b, hb, z, h⟩ | ⟨hb, h⟩
    · rw [hb, box_some hb]
      simp only [↓SP, ↓SP2, ↓SP3, ↓SP4, ↓SQ5, ↓SQ6, ↓SQ7, ↓SB, ↓SB2, ↓SB3, ↓SB4, ↓SFD, SB, SB2, SB3, SB4, SO, SF, SW, SV, SX, SG, SH, SI, SQ, Int.reduceEq, Int.reduceLT, Int.reduceLE, Int.reduceToNat, Int.reducePow, Int.reduceNeg, Int.reduceSub, Int.reduceAdd, Int.reduceMul, Option.isSome_some, Option.isSome_none, eq_self, decide_true, decide_false, SBQ, SPL, SEE, SEC, SED, Bool.true_or, Bool.false_or, Bool.or_false, Bool.or_true, if_true, if_false, Bool.false_eq_true, reduceCtorEq, implies_true, Int.reduceNe, ne_eq, not_false_eq_true, ↓m_area, ↓k_area_1, ↓p_look_box, ↓p_times]
      exact ⟨z, h⟩
    · rw [hb]
      simp only [↓SP, ↓SP2, ↓SP3, ↓SP4, ↓SQ5, ↓SQ6, ↓SQ7, ↓SB, ↓SB2, ↓SB3, ↓SB4, ↓SFD, SB, SB2, SB3, SB4, SO, SF, SW, SV, SX, SG, SH, SI, SQ, Int.reduceEq, Int.reduceLT, Int.reduceLE, Int.reduceToNat, Int.reducePow, Int.reduceNeg, Int.reduceSub, Int.reduceAdd, Int.reduceMul, Option.isSome_some, Option.isSome_none, eq_self, decide_true, decide_false, SBQ, SPL, SEE, SEC, SED, Bool.true_or, Bool.false_or, Bool.or_false, Bool.or_true, if_true, if_false, Bool.false_eq_true, reduceCtorEq, implies_true, Int.reduceNe, ne_eq, not_false_eq_true, ↓m_area, ↓k_area_1, ↓p_look_box, ↓p_times]
      exact h
  · exact h.elim
theorem w_area (t : T K mg) (cdv : Value) (A : Around) (outer : List Env) (s : Shared) (H : Hp) (E : XK) (hr : Room 4 (A.deeper (envOfC "area" (defScope s_area) s.heap.objs.size (He.ga K "area") cdv))) : QSs (CxA P w K mg base N_area "area" (defScope s_area) cdv A outer s H E) (wE E) (defBody s_area) (m_area K) :=
  show QSs _ (wE E) (defBody s_area) (mSeq (mExpr (mCall (p_look_box K) (mConsA (mVar 0) (mNilA)))) (mRet (mCall (p_times K) (mConsA (mBin fIxG (mVar 0) (mC (.int 2))) (mConsA (mBin fIxG (mVar 0) (mC (.int 3))) (mNilA)))))) from
  q_cons (q_expr (c_call (ok_look_box t) (hr.mono (by omega)) t.g_look_box (takes_of rfl rfl rfl rfl) (qa_cons (q_var 0) (qa_nil)))) (q_one (q_ret (c_call (ok_times t) (hr.mono (by omega)) t.g_times (takes_of rfl rfl rfl rfl) (qa_cons (q_ixG hr (q_var 0) (q_int)) (qa_cons (q_ixG hr (q_var 0) (q_int)) (qa_nil))))))
theorem ok_area (t : T K mg) : Fok P w K mg base 5 (He.ga K "area") ["box"] (sp0 K (p_area K)) :=
  fok0 (st := s_area) (N := N_area) (m := m_area K) t.d_area sc_area (fun _ _ _ _ _ _ us hl => match us, hl with | [_], _ => rfl) (fun ds Q E h => len_area h) (w_area t) (pure_area K)
def p_whole_ones (K : PySem.W.Frag) : P0 := fun ds Q E => match ds with
  | [.lst xs] => ∃ (qs : List Rat) (k : Nat), xs = qs.map fD ∧ (∀ q ∈ qs, Rb k q) ∧ (qs.length + 1) * k ≤ 8000 ∧ qs.length ≤ 1000 ∧ Q (.nw (.lst ((wholeL qs).map .int)))
  | _ => False
theorem len_whole_ones {K : PySem.W.Frag} {ds : List D} {Q : Re → Prop} {E : Xc → Prop} (h : p_whole_ones K ds Q E) : ds.length = 1 := by
  unfold p_whole_ones at h; split at h <;> first | rfl | exact h.elim
def b_whole_ones_1 (K : PySem.W.Frag) : MS := fun De ρ => (mSet 1 (mBin fMul (mBin fDiv (mVar 1) (mCall (p_divisor K) (mConsA (mVar 1) (mConsA (mVar 3) (mNilA))))) (mVar 3))) De ρ
def e_whole_ones_2 (K : PySem.W.Frag) : MX := fun ρ Q E => (mBin fMul (mVar 2) (mBin fDiv (mVar 1) (mVar 3))) ρ Q E
def k_whole_ones_2 (K : PySem.W.Frag) : MS := fun De ρ => (mRet (mLc (mIt (mVar 0)) (gTp 2 (gsCons (gNm 2) (gsCons (gNm 3) (gsNil)))) mYes (e_whole_ones_2 K) [2, 3])) De ρ
def k_whole_ones_1 (K : PySem.W.Frag) : MS := fun De ρ => (mSeq (mFor (mIt (mVar 0)) (gTp 2 (gsCons (gNm 2) (gsCons (gNm 3) (gsNil)))) (b_whole_ones_1 K)) (k_whole_ones_2 K)) De ρ
def m_whole_ones (K : PySem.W.Frag) : MS := fun De ρ => (mSeq (mSet 1 (mC (.int 1))) (k_whole_ones_1 K)) De ρ
abbrev N_whole_ones : List Str := ["fractions", "bottom", "top", "under"]
theorem i_whole_ones (d0 : D) : in0 N_whole_ones [d0] = [some (.fz d0), none, none, none] := rfl
theorem sc_whole_ones : FnScope N_whole_ones ["fractions"] (defScope s_whole_ones) := ⟨rfl, rfl, rfl, by decide +kernel, rfl, by decide +kernel, by decide +kernel⟩
theorem loop_whole_ones (K : PySem.W.Frag) (De : PEnds) (e0 : D) (k : Nat) : ∀ (qs : List Rat) (b j : Nat) (s2 s3 : Option D), 0 < b → b < 2 ^ j → (∀ q ∈ qs, Rb k q) → j + k * qs.length ≤ 8500 → (∀ s2 s3 : Option D, De.nx [some (.fz e0), some (.fz (.int (lcmL qs b : Nat))), fo s2, fo s3]) → forL (gTp 2 (gsCons (gNm 2) (gsCons (gNm 3) gsNil))) (b_whole_ones_1 K) De (qs.map fD) [some (.fz e0), some (.fz (.int (b : Nat))), fo s2, fo s3]
  | [], b, j, s2, s3, hb, hj, hq, hl, h => by
    simp only [List.map_nil]
    unfold forL
    exact h s2 s3
  | q :: qs, b, j, s2, s3, hb, hj, hq, hl, h => by
    have hd := q.den_pos
    have hq1 := (hq q (by simp)).2
    simp only [List.length_cons, Nat.mul_succ] at hl
    have h3 : q.den < 2 ^ k := by simpa [Bs] using hq1
    have h2 : lcmS b q.den < 2 ^ (j + k) := by
      refine Nat.lt_of_le_of_lt (lcmS_le _ _) ?_
      rw [Nat.pow_add]
      exact Nat.mul_lt_mul_of_lt_of_lt hj h3
    have hB : Bs j (b : Int) := by simpa [Bs] using hj
    have hg : Bs k (Int.gcd b q.den : Nat) := Bs.gcd (by omega) hq1
    have g0 : (0 : Int) < (Int.gcd b q.den : Nat) := by
      have := Int.gcd_pos_of_ne_zero_right (b : Int) (b := (q.den : Int)) (by omega)
      omega
    have e : (b : Int) / (Int.gcd b q.den : Nat) * q.den = (lcmS b q.den : Nat) := by
      unfold lcmS
      rw [Int.natCast_mul, Int.natCast_ediv]; rfl
    simp only [List.map_cons]
    unfold forL
    simp only [↓SP, ↓SP2, ↓SP3, ↓SP4, ↓SQ5, ↓SQ6, ↓SQ7, ↓SB, ↓SB2, ↓SB3, ↓SB4, ↓SFD, SB, SB2, SB3, SB4, SO, SF, SW, SV, SX, SG, SH, SI, SQ, Int.reduceEq, Int.reduceLT, Int.reduceLE, Int.reduceToNat, Int.reducePow, Int.reduceNeg, Int.reduceSub, Int.reduceAdd, Int.reduceMul, Option.isSome_some, Option.isSome_none, eq_self, decide_true, decide_false, SBQ, SPL, SEE, SEC, SED, Bool.true_or, Bool.false_or, Bool.or_false, Bool.or_true, if_true, if_false, Bool.false_eq_true, reduceCtorEq, implies_true, Int.reduceNe, ne_eq, not_false_eq_true, ↓m_whole_ones, ↓b_whole_ones_1, ↓e_whole_ones_2, ↓k_whole_ones_2, ↓k_whole_ones_1, ↓p_divisor]
    refine ⟨hg.cdiv g0 (by omega), (hB.div g0).cmul hq1 (by omega), ?_⟩
    rw [e]
    exact loop_whole_ones K De e0 k qs (lcmS b q.den) (j + k) (some (.int q.num)) (some (.int q.den)) (lcmS_pos hb hd) h2 (fun x hx => hq x (List.mem_cons_of_mem _ hx)) (by omega) h
theorem pure_whole_ones (K : PySem.W.Frag) : ∀ ds Q E, p_whole_ones K ds Q E → m_whole_ones K (ends0 Q E) (in0 N_whole_ones ds) := by
  intro ds Q E h
  unfold p_whole_ones at h
  split at h
  · rename_i xs
    rw [i_whole_ones]
    obtain ⟨qs, k, rfl, hq, hk, hl, h⟩ := h
    have hk2 : 1 + k * qs.length ≤ 8500 := by
      have : (qs.length + 1) * k = k * qs.length + k := by rw [Nat.mul_comm, Nat.mul_succ]
      omega
    obtain ⟨a1, a2, a3, a4⟩ := lcmL_ok qs 1 1 (by decide) (by decide) hq
    simp only [↓SP, ↓SP2, ↓SP3, ↓SP4, ↓SQ5, ↓SQ6, ↓SQ7, ↓SB, ↓SB2, ↓SB3, ↓SB4, ↓SFD, SB, SB2, SB3, SB4, SO, SF, SW, SV, SX, SG, SH, SI, SQ, Int.reduceEq, Int.reduceLT, Int.reduceLE, Int.reduceToNat, Int.reducePow, Int.reduceNeg, Int.reduceSub, Int.reduceAdd, Int.reduceMul, Option.isSome_some, Option.isSome_none, eq_self, decide_true, decide_false, SBQ, SPL, SEE, SEC, SED, Bool.true_or, Bool.false_or, Bool.or_false, Bool.or_true, if_true, if_false, Bool.false_eq_true, reduceCtorEq, implies_true, Int.reduceNe, ne_eq, not_false_eq_true, ↓m_whole_ones, ↓b_whole_ones_1, ↓e_whole_ones_2, ↓k_whole_ones_2, ↓k_whole_ones_1, ↓p_divisor]
    refine loop_whole_ones K _ _ k qs 1 1 none none (by decide) (by decide) hq hk2 (fun s2 s3 => ?_)
    simp only [↓SP, ↓SP2, ↓SP3, ↓SP4, ↓SQ5, ↓SQ6, ↓SQ7, ↓SB, ↓SB2, ↓SB3, ↓SB4, ↓SFD, SB, SB2, SB3, SB4, SO, SF, SW, SV, SX, SG, SH, SI, SQ, Int.reduceEq, Int.reduceLT, Int.reduceLE, Int.reduceToNat, Int.reducePow, Int.reduceNeg, Int.reduceSub, Int.reduceAdd, Int.reduceMul, Option.isSome_some, Option.isSome_none, eq_self, decide_true, decide_false, SBQ, SPL, SEE, SEC, SED, Bool.true_or, Bool.false_or, Bool.or_false, Bool.or_true, if_true, if_false, Bool.false_eq_true, reduceCtorEq, implies_true, Int.reduceNe, ne_eq, not_false_eq_true, ↓m_whole_ones, ↓b_whole_ones_1, ↓e_whole_ones_2, ↓k_whole_ones_2, ↓k_whole_ones_1, ↓p_divisor]
    refine lc_map (f := fD) (g := fun q => .int (q.num * ((lcmL qs 1 / q.den : Nat) : Int))) qs hl (fun q hm kk hkk => ?_) ?_
    · simp only [↓SP, ↓SP2, ↓SP3, ↓SP4, ↓SQ5, ↓SQ6, ↓SQ7, ↓SB, ↓SB2, ↓SB3, ↓SB4, ↓SFD, SB, SB2, SB3, SB4, SO, SF, SW, SV, SX, SG, SH, SI, SQ, Int.reduceEq, Int.reduceLT, Int.reduceLE, Int.reduceToNat, Int.reducePow, Int.reduceNeg, Int.reduceSub, Int.reduceAdd, Int.reduceMul, Option.isSome_some, Option.isSome_none, eq_self, decide_true, decide_false, SBQ, SPL, SEE, SEC, SED, Bool.true_or, Bool.false_or, Bool.or_false, Bool.or_true, if_true, if_false, Bool.false_eq_true, reduceCtorEq, implies_true, Int.reduceNe, ne_eq, not_false_eq_true, ↓m_whole_ones, ↓b_whole_ones_1, ↓e_whole_ones_2, ↓k_whole_ones_2, ↓k_whole_ones_1, ↓p_divisor]
      have hd := q.den_pos
      have hq1 := hq q hm
      have hB : Bs (1 + k * qs.length) ((lcmL qs 1 : Nat) : Int) := by simpa [Bs] using a3
      have hk3 : k ≤ 8000 := Nat.le_trans (by simp) (Nat.le_trans (Nat.mul_le_mul_right k (show 1 ≤ qs.length + 1 by omega)) hk)
      refine ⟨hq1.2.cdiv (by omega) (by omega), hq1.1.cmul (hB.div (by omega)) (by omega), ?_⟩
      rw [← Int.natCast_ediv]
      exact hkk _ ⟨trivial, trivial, trivial⟩ rfl
    · simp only [↓SP, ↓SP2, ↓SP3, ↓SP4, ↓SQ5, ↓SQ6, ↓SQ7, ↓SB, ↓SB2, ↓SB3, ↓SB4, ↓SFD, SB, SB2, SB3, SB4, SO, SF, SW, SV, SX, SG, SH, SI, SQ, Int.reduceEq, Int.reduceLT, Int.reduceLE, Int.reduceToNat, Int.reducePow, Int.reduceNeg, Int.reduceSub, Int.reduceAdd, Int.reduceMul, Option.isSome_some, Option.isSome_none, eq_self, decide_true, decide_false, SBQ, SPL, SEE, SEC, SED, Bool.true_or, Bool.false_or, Bool.or_false, Bool.or_true, if_true, if_false, Bool.false_eq_true, reduceCtorEq, implies_true, Int.reduceNe, ne_eq, not_false_eq_true, ↓m_whole_ones, ↓b_whole_ones_1, ↓e_whole_ones_2, ↓k_whole_ones_2, ↓k_whole_ones_1, ↓p_divisor]
      unfold wholeL at h
      rw [List.map_map] at h
      exact h
  · exact h.elim
theorem w_whole_ones (t : T K mg) (cdv : Value) (A : Around) (outer : List Env) (s : Shared) (H : Hp) (E : XK) (hr : Room 1 (A.deeper (envOfC "whole_ones" (defScope s_whole_ones) s.heap.objs.size (He.ga K "whole_ones") cdv))) : QSs (CxA P w K mg base N_whole_ones "whole_ones" (defScope s_whole_ones) cdv A outer s H E) (wE E) (defBody s_whole_ones) (m_whole_ones K) :=
  show QSs _ (wE E) (defBody s_whole_ones) (mSeq (mSet 1 (mC (.int 1))) (mSeq (mFor (mIt (mVar 0)) (gTp 2 (gsCons (gNm 2) (gsCons (gNm 3) (gsNil)))) (mSet 1 (mBin fMul (mBin fDiv (mVar 1) (mCall (p_divisor K) (mConsA (mVar 1) (mConsA (mVar 3) (mNilA))))) (mVar 3)))) (mRet (mLc (mIt (mVar 0)) (gTp 2 (gsCons (gNm 2) (gsCons (gNm 3) (gsNil)))) mYes (mBin fMul (mVar 2) (mBin fDiv (mVar 1) (mVar 3))) [2, 3])))) from
  q_cons (q_set (i := 1) sc_whole_ones.nd (q_int)) (q_cons (q_for (passes_of rfl) rfl (qi_val (q_var 0)) (g_tup (n := 2) rfl (gs_cons (g_name (i := 2) sc_whole_ones.nd) (gs_cons (g_name (i := 3) sc_whole_ones.nd) (gs_nil)))) (q_one (q_set (i := 1) sc_whole_ones.nd (q_mul (q_div (q_var 1) (c_call (ok_divisor t) (hr.mono (by omega)) t.g_divisor (takes_of rfl rfl rfl rfl) (qa_cons (q_var 1) (qa_cons (q_var 3) (qa_nil))))) (q_var 3))))) (q_one (q_ret (q_lc (own := [("top", 2), ("under", 3)]) rfl sc_whole_ones.nd (qi_val (q_var 0)) (blkOk_by (N := N_whole_ones) (sc := defScope s_whole_ones) (by decide +kernel)) (fun _ _ _ _ _ => g_tup (n := 2) rfl (gs_cons (g_name (i := 2) sc_whole_ones.nd) (gs_cons (g_name (i := 3) sc_whole_ones.nd) (gs_nil)))) (fun _ _ _ _ _ => qts_nil) (fun _ _ _ _ _ => q_mul (q_var 2) (q_div (q_var 1) (q_var 3)))))))
theorem ok_whole_ones (t : T K mg) : Fok P w K mg base 2 (He.ga K "whole_ones") ["fractions"] (sp0 K (p_whole_ones K)) :=
  fok0 (st := s_whole_ones) (N := N_whole_ones) (m := m_whole_ones K) t.d_whole_ones sc_whole_ones (fun _ _ _ _ _ _ us hl => match us, hl with | [_], _ => rfl) (fun ds Q E h => len_whole_ones h) (w_whole_ones t) (pure_whole_ones K)
def p_weights_back (K : PySem.W.Frag) : P0 := fun ds Q E => match ds with
  | [.lst xs] => ∃ (bs : List Bx) (k : Nat), xs = bs.map bD ∧ (∀ b ∈ bs, b.sz 4000 ∧ Rb k b.area) ∧ bs ≠ [] ∧ (bs.length + 1) * k ≤ 8000 ∧ bs.length ≤ 1000 ∧ Q (.nw (.lst ((wbL (bs.map Bx.area)).map .int)))
  | _ => False
theorem len_weights_back {K : PySem.W.Frag} {ds : List D} {Q : Re → Prop} {E : Xc → Prop} (h : p_weights_back K ds Q E) : ds.length = 1 := by
  unfold p_weights_back at h; split at h <;> first | rfl | exact h.elim
def b_weights_back_1 (K : PySem.W.Frag) : MS := fun De ρ => (mExpr (mCall (p_look_box K) (mConsA (mVar 1) (mNilA)))) De ρ
def e_weights_back_2 (K : PySem.W.Frag) : MX := fun ρ Q E => (mCall (p_area K) (mConsA (mVar 1) (mNilA))) ρ Q E
def b_weights_back_3 (K : PySem.W.Frag) : MS := fun De ρ => (mSet 3 (mCall (p_divisor K) (mConsA (mVar 3) (mConsA (mVar 4) (mNilA))))) De ρ
def e_weights_back_4 (K : PySem.W.Frag) : MX := fun ρ Q E => (mBin fDiv (mVar 4) (mVar 3)) ρ Q E
def k_weights_back_4 (K : PySem.W.Frag) : MS := fun De ρ => (mRet (mLc (mIt (mVar 2)) (gNm 4) mYes (e_weights_back_4 K) [4])) De ρ
def k_weights_back_3 (K : PySem.W.Frag) : MS := fun De ρ => (mSeq (mFor (mIt (mVar 2)) (gNm 4) (b_weights_back_3 K)) (k_weights_back_4 K)) De ρ
def k_weights_back_2 (K : PySem.W.Frag) : MS := fun De ρ => (mSeq (mSet 3 (mC (.int 0))) (k_weights_back_3 K)) De ρ
def k_weights_back_1 (K : PySem.W.Frag) : MS := fun De ρ => (mSeq (mSet 2 (mCall (p_whole_ones K) (mConsA (mLc (mIt (mVar 0)) (gNm 1) mYes (e_weights_back_2 K) [1]) (mNilA)))) (k_weights_back_2 K)) De ρ
def m_weights_back (K : PySem.W.Frag) : MS := fun De ρ => (mSeq (mFor (mIt (mVar 0)) (gNm 1) (b_weights_back_1 K)) (k_weights_back_1 K)) De ρ
abbrev N_weights_back : List Str := ["boxes", "box", "areas", "by", "number"]
theorem i_weights_back (d0 : D) : in0 N_weights_back [d0] = [some (.fz d0), none, none, none, none] := rfl
theorem sc_weights_back : FnScope N_weights_back ["boxes"] (defScope s_weights_back) := ⟨rfl, rfl, rfl, by decide +kernel, rfl, by decide +kernel, by decide +kernel⟩
theorem loop1_weights_back (K : PySem.W.Frag) (De : PEnds) (e0 : D) (s2 s3 s4 : Option Sl) : ∀ (bs : List Bx) (s1 : Option D), (∀ b ∈ bs, b.sz 4000) → (∀ s1 : Option D, De.nx [some (.fz e0), fo s1, s2, s3, s4]) → forL (gNm 1) (b_weights_back_1 K) De (bs.map bD) [some (.fz e0), fo s1, s2, s3, s4]
  | [], s1, hz, h => by
    simp only [List.map_nil]
    unfold forL
    exact h s1
  | b :: bs, s1, hz, h => by
    simp only [List.map_cons]
    unfold forL
    simp only [↓SP, ↓SP2, ↓SP3, ↓SP4, ↓SQ5, ↓SQ6, ↓SQ7, ↓SB, ↓SB2, ↓SB3, ↓SB4, ↓SFD, SB, SB2, SB3, SB4, SO, SF, SW, SV, SX, SG, SH, SI, SQ, Int.reduceEq, Int.reduceLT, Int.reduceLE, Int.reduceToNat, Int.reducePow, Int.reduceNeg, Int.reduceSub, Int.reduceAdd, Int.reduceMul, Option.isSome_some, Option.isSome_none, eq_self, decide_true, decide_false, SBQ, SPL, SEE, SEC, SED, Bool.true_or, Bool.false_or, Bool.or_false, Bool.or_true, if_true, if_false, Bool.false_eq_true, reduceCtorEq, implies_true, Int.reduceNe, ne_eq, not_false_eq_true, ↓m_weights_back, ↓b_weights_back_1, ↓e_weights_back_2, ↓b_weights_back_3, ↓e_weights_back_4, ↓k_weights_back_4, ↓k_weights_back_3, ↓k_weights_back_2, ↓k_weights_back_1, ↓p_whole_ones, ↓p_look_box, ↓p_divisor, ↓p_area]
    exact ⟨tame_bD (hz b (by simp)) (by decide), loop1_weights_back K De e0 s2 s3 s4 bs (some (bD b)) (fun x hx => hz x (List.mem_cons_of_mem _ hx)) h⟩
theorem loop2_weights_back (K : PySem.W.Frag) (De : PEnds) (e0 e2 : D) (s1 : Option D) : ∀ (xs : List Int) (g : Int) (s4 : Option D), 0 ≤ g → (∀ s4 : Option D, De.nx [some (.fz e0), fo s1, some (.fz e2), some (.fz (.int (gcdI xs g))), fo s4]) → forL (gNm 4) (b_weights_back_3 K) De (xs.map .int) [some (.fz e0), fo s1, some (.fz e2), some (.fz (.int g)), fo s4]
  | [], g, s4, hg, h => by
    simp only [List.map_nil]
    unfold forL
    exact h s4
  | x :: xs, g, s4, hg, h => by
    simp only [List.map_cons]
    unfold forL
    simp only [↓SP, ↓SP2, ↓SP3, ↓SP4, ↓SQ5, ↓SQ6, ↓SQ7, ↓SB, ↓SB2, ↓SB3, ↓SB4, ↓SFD, SB, SB2, SB3, SB4, SO, SF, SW, SV, SX, SG, SH, SI, SQ, Int.reduceEq, Int.reduceLT, Int.reduceLE, Int.reduceToNat, Int.reducePow, Int.reduceNeg, Int.reduceSub, Int.reduceAdd, Int.reduceMul, Option.isSome_some, Option.isSome_none, eq_self, decide_true, decide_false, SBQ, SPL, SEE, SEC, SED, Bool.true_or, Bool.false_or, Bool.or_false, Bool.or_true, if_true, if_false, Bool.false_eq_true, reduceCtorEq, implies_true, Int.reduceNe, ne_eq, not_false_eq_true, ↓m_weights_back, ↓b_weights_back_1, ↓e_weights_back_2, ↓b_weights_back_3, ↓e_weights_back_4, ↓k_weights_back_4, ↓k_weights_back_3, ↓k_weights_back_2, ↓k_weights_back_1, ↓p_whole_ones, ↓p_look_box, ↓p_divisor, ↓p_area]
    exact loop2_weights_back K De e0 e2 s1 xs (Int.gcd g x : Nat) (some (.int x)) (by omega) h
theorem pure_weights_back (K : PySem.W.Frag) : ∀ ds Q E, p_weights_back K ds Q E → m_weights_back K (ends0 Q E) (in0 N_weights_back ds) := by
  intro ds Q E h
  unfold p_weights_back at h
  split at h
  · rename_i xs
    rw [i_weights_back]
    obtain ⟨bs, k, rfl, hb, h0, hk, hl, h⟩ := h
    simp only [↓SP, ↓SP2, ↓SP3, ↓SP4, ↓SQ5, ↓SQ6, ↓SQ7, ↓SB, ↓SB2, ↓SB3, ↓SB4, ↓SFD, SB, SB2, SB3, SB4, SO, SF, SW, SV, SX, SG, SH, SI, SQ, Int.reduceEq, Int.reduceLT, Int.reduceLE, Int.reduceToNat, Int.reducePow, Int.reduceNeg, Int.reduceSub, Int.reduceAdd, Int.reduceMul, Option.isSome_some, Option.isSome_none, eq_self, decide_true, decide_false, SBQ, SPL, SEE, SEC, SED, Bool.true_or, Bool.false_or, Bool.or_false, Bool.or_true, if_true, if_false, Bool.false_eq_true, reduceCtorEq, implies_true, Int.reduceNe, ne_eq, not_false_eq_true, ↓m_weights_back, ↓b_weights_back_1, ↓e_weights_back_2, ↓b_weights_back_3, ↓e_weights_back_4, ↓k_weights_back_4, ↓k_weights_back_3, ↓k_weights_back_2, ↓k_weights_back_1, ↓p_whole_ones, ↓p_look_box, ↓p_divisor, ↓p_area]
    refine loop1_weights_back K _ _ _ _ _ bs none (fun b hm => (hb b hm).1) (fun s1 => ?_)
    simp only [↓SP, ↓SP2, ↓SP3, ↓SP4, ↓SQ5, ↓SQ6, ↓SQ7, ↓SB, ↓SB2, ↓SB3, ↓SB4, ↓SFD, SB, SB2, SB3, SB4, SO, SF, SW, SV, SX, SG, SH, SI, SQ, Int.reduceEq, Int.reduceLT, Int.reduceLE, Int.reduceToNat, Int.reducePow, Int.reduceNeg, Int.reduceSub, Int.reduceAdd, Int.reduceMul, Option.isSome_some, Option.isSome_none, eq_self, decide_true, decide_false, SBQ, SPL, SEE, SEC, SED, Bool.true_or, Bool.false_or, Bool.or_false, Bool.or_true, if_true, if_false, Bool.false_eq_true, reduceCtorEq, implies_true, Int.reduceNe, ne_eq, not_false_eq_true, ↓m_weights_back, ↓b_weights_back_1, ↓e_weights_back_2, ↓b_weights_back_3, ↓e_weights_back_4, ↓k_weights_back_4, ↓k_weights_back_3, ↓k_weights_back_2, ↓k_weights_back_1, ↓p_whole_ones, ↓p_look_box, ↓p_divisor, ↓p_area]
    refine lc_map (f := bD) (g := fun b => fD b.area) bs hl (fun b hm kk hkk => ?_) ?_
    · simp only [↓SP, ↓SP2, ↓SP3, ↓SP4, ↓SQ5, ↓SQ6, ↓SQ7, ↓SB, ↓SB2, ↓SB3, ↓SB4, ↓SFD, SB, SB2, SB3, SB4, SO, SF, SW, SV, SX, SG, SH, SI, SQ, Int.reduceEq, Int.reduceLT, Int.reduceLE, Int.reduceToNat, Int.reducePow, Int.reduceNeg, Int.reduceSub, Int.reduceAdd, Int.reduceMul, Option.isSome_some, Option.isSome_none, eq_self, decide_true, decide_false, SBQ, SPL, SEE, SEC, SED, Bool.true_or, Bool.false_or, Bool.or_false, Bool.or_true, if_true, if_false, Bool.false_eq_true, reduceCtorEq, implies_true, Int.reduceNe, ne_eq, not_false_eq_true, ↓m_weights_back, ↓b_weights_back_1, ↓e_weights_back_2, ↓b_weights_back_3, ↓e_weights_back_4, ↓k_weights_back_4, ↓k_weights_back_3, ↓k_weights_back_2, ↓k_weights_back_1, ↓p_whole_ones, ↓p_look_box, ↓p_divisor, ↓p_area]
      have z := (hb b hm).1
      exact ⟨tame_bD z (by decide), Az.of z.2.2.1 z.2.2.2 (by decide), hkk _ ⟨trivial, trivial⟩ rfl⟩
    · simp only [↓SP, ↓SP2, ↓SP3, ↓SP4, ↓SQ5, ↓SQ6, ↓SQ7, ↓SB, ↓SB2, ↓SB3, ↓SB4, ↓SFD, SB, SB2, SB3, SB4, SO, SF, SW, SV, SX, SG, SH, SI, SQ, Int.reduceEq, Int.reduceLT, Int.reduceLE, Int.reduceToNat, Int.reducePow, Int.reduceNeg, Int.reduceSub, Int.reduceAdd, Int.reduceMul, Option.isSome_some, Option.isSome_none, eq_self, decide_true, decide_false, SBQ, SPL, SEE, SEC, SED, Bool.true_or, Bool.false_or, Bool.or_false, Bool.or_true, if_true, if_false, Bool.false_eq_true, reduceCtorEq, implies_true, Int.reduceNe, ne_eq, not_false_eq_true, ↓m_weights_back, ↓b_weights_back_1, ↓e_weights_back_2, ↓b_weights_back_3, ↓e_weights_back_4, ↓k_weights_back_4, ↓k_weights_back_3, ↓k_weights_back_2, ↓k_weights_back_1, ↓p_whole_ones, ↓p_look_box, ↓p_divisor, ↓p_area]
      have hq : ∀ q ∈ bs.map Bx.area, Rb k q := fun q hm => by
        obtain ⟨b, hm2, rfl⟩ := List.mem_map.mp hm
        exact (hb b hm2).2
      have hp : ∀ q ∈ bs.map Bx.area, 0 < q := fun q hm => by
        obtain ⟨b, hm, rfl⟩ := List.mem_map.mp hm
        exact Rat.mul_pos b.w0 b.h0
      have W := wb_ok (by simpa using h0) hp hq
      obtain ⟨a1, a2, a3, a4⟩ := lcmL_ok (bs.map Bx.area) 1 1 (by decide) (by decide) hq
      refine ⟨bs.map Bx.area, k, by rw [List.map_map]; rfl, hq, by simpa using hk, by simpa using hl, ?_⟩
      refine loop2_weights_back K _ _ _ _ _ 0 none (by decide) (fun s4 => ?_)
      simp only [↓SP, ↓SP2, ↓SP3, ↓SP4, ↓SQ5, ↓SQ6, ↓SQ7, ↓SB, ↓SB2, ↓SB3, ↓SB4, ↓SFD, SB, SB2, SB3, SB4, SO, SF, SW, SV, SX, SG, SH, SI, SQ, Int.reduceEq, Int.reduceLT, Int.reduceLE, Int.reduceToNat, Int.reducePow, Int.reduceNeg, Int.reduceSub, Int.reduceAdd, Int.reduceMul, Option.isSome_some, Option.isSome_none, eq_self, decide_true, decide_false, SBQ, SPL, SEE, SEC, SED, Bool.true_or, Bool.false_or, Bool.or_false, Bool.or_true, if_true, if_false, Bool.false_eq_true, reduceCtorEq, implies_true, Int.reduceNe, ne_eq, not_false_eq_true, ↓m_weights_back, ↓b_weights_back_1, ↓e_weights_back_2, ↓b_weights_back_3, ↓e_weights_back_4, ↓k_weights_back_4, ↓k_weights_back_3, ↓k_weights_back_2, ↓k_weights_back_1, ↓p_whole_ones, ↓p_look_box, ↓p_divisor, ↓p_area]
      have g0 := W.g0
      have hG : Bs 8990 (gcdI (wholeL (bs.map Bx.area)) 0) := by
        cases bs with
        | nil => exact absurd rfl h0
        | cons b bs =>
          have d := (gcdI_dvd (wholeL ((b :: bs).map Bx.area)) 0).2 (b.area.num * ((lcmL ((b :: bs).map Bx.area) 1 / b.area.den : Nat) : Int)) (List.mem_map.mpr ⟨b.area, by simp, rfl⟩)
          have hn := (hq b.area (by simp)).1
          have hL : Bs (1 + k * ((b :: bs).map Bx.area).length) ((lcmL ((b :: bs).map Bx.area) 1 : Nat) : Int) := by simpa [Bs] using a3
          have hp1 := Rat.num_gt (hp b.area (by simp))
          have h2 : 0 < lcmL ((b :: bs).map Bx.area) 1 / b.area.den := Nat.div_pos (Nat.le_of_dvd a2 (a4 b.area (by simp))) b.area.den_pos
          have h3 : 0 < b.area.num * ((lcmL ((b :: bs).map Bx.area) 1 / b.area.den : Nat) : Int) := Int.mul_pos hp1 (by omega)
          have h4 := Int.le_of_dvd h3 d
          have hX : Bs (k + (1 + k * ((b :: bs).map Bx.area).length)) (b.area.num * ((lcmL ((b :: bs).map Bx.area) 1 / b.area.den : Nat) : Int)) := by
            rw [Int.natCast_ediv]
            exact hn.mul (hL.div (by have := b.area.den_pos; omega))
          have hX2 := hX.mono (n := 8990) (by
            have : (((b :: bs).length) + 1) * k = k * (b :: bs).length + k := by rw [Nat.mul_comm, Nat.mul_succ]
            rw [List.length_map]
            omega)
          unfold Bs at hX2 ⊢
          generalize 2 ^ 8990 = z at *
          omega
      refine lc_map (f := .int) (g := fun x => .int (x / gcdI (wholeL (bs.map Bx.area)) 0)) (wholeL (bs.map Bx.area)) (by simp [wholeL]; omega) (fun x hm kk hkk => ?_) ?_
      · simp only [↓SP, ↓SP2, ↓SP3, ↓SP4, ↓SQ5, ↓SQ6, ↓SQ7, ↓SB, ↓SB2, ↓SB3, ↓SB4, ↓SFD, SB, SB2, SB3, SB4, SO, SF, SW, SV, SX, SG, SH, SI, SQ, Int.reduceEq, Int.reduceLT, Int.reduceLE, Int.reduceToNat, Int.reducePow, Int.reduceNeg, Int.reduceSub, Int.reduceAdd, Int.reduceMul, Option.isSome_some, Option.isSome_none, eq_self, decide_true, decide_false, SBQ, SPL, SEE, SEC, SED, Bool.true_or, Bool.false_or, Bool.or_false, Bool.or_true, if_true, if_false, Bool.false_eq_true, reduceCtorEq, implies_true, Int.reduceNe, ne_eq, not_false_eq_true, ↓m_weights_back, ↓b_weights_back_1, ↓e_weights_back_2, ↓b_weights_back_3, ↓e_weights_back_4, ↓k_weights_back_4, ↓k_weights_back_3, ↓k_weights_back_2, ↓k_weights_back_1, ↓p_whole_ones, ↓p_look_box, ↓p_divisor, ↓p_area]
        exact ⟨hG.cdiv g0 (by decide), hkk _ ⟨trivial, trivial⟩ rfl⟩
      · simp only [↓SP, ↓SP2, ↓SP3, ↓SP4, ↓SQ5, ↓SQ6, ↓SQ7, ↓SB, ↓SB2, ↓SB3, ↓SB4, ↓SFD, SB, SB2, SB3, SB4, SO, SF, SW, SV, SX, SG, SH, SI, SQ, Int.reduceEq, Int.reduceLT, Int.reduceLE, Int.reduceToNat, Int.reducePow, Int.reduceNeg, Int.reduceSub, Int.reduceAdd, Int.reduceMul, Option.isSome_some, Option.isSome_none, eq_self, decide_true, decide_false, SBQ, SPL, SEE, SEC, SED, Bool.true_or, Bool.false_or, Bool.or_false, Bool.or_true, if_true, if_false, Bool.false_eq_true, reduceCtorEq, implies_true, Int.reduceNe, ne_eq, not_false_eq_true, ↓m_weights_back, ↓b_weights_back_1, ↓e_weights_back_2, ↓b_weights_back_3, ↓e_weights_back_4, ↓k_weights_back_4, ↓k_weights_back_3, ↓k_weights_back_2, ↓k_weights_back_1, ↓p_whole_ones, ↓p_look_box, ↓p_divisor, ↓p_area]
        unfold wbL at h
        rw [List.map_map] at h
        exact h
  · exact h.elim
theorem w_weights_back (t : T K mg) (cdv : Value) (A : Around) (outer : List Env) (s : Shared) (H : Hp) (E : XK) (hr : Room 5 (A.deeper (envOfC "weights_back" (defScope s_weights_back) s.heap.objs.size (He.ga K "weights_back") cdv))) : QSs (CxA P w K mg base N_weights_back "weights_back" (defScope s_weights_back) cdv A outer s H E) (wE E) (defBody s_weights_back) (m_weights_back K) :=
  show QSs _ (wE E) (defBody s_weights_back) (mSeq (mFor (mIt (mVar 0)) (gNm 1) (mExpr (mCall (p_look_box K) (mConsA (mVar 1) (mNilA))))) (mSeq (mSet 2 (mCall (p_whole_ones K) (mConsA (mLc (mIt (mVar 0)) (gNm 1) mYes (mCall (p_area K) (mConsA (mVar 1) (mNilA))) [1]) (mNilA)))) (mSeq (mSet 3 (mC (.int 0))) (mSeq (mFor (mIt (mVar 2)) (gNm 4) (mSet 3 (mCall (p_divisor K) (mConsA (mVar 3) (mConsA (mVar 4) (mNilA)))))) (mRet (mLc (mIt (mVar 2)) (gNm 4) mYes (mBin fDiv (mVar 4) (mVar 3)) [4])))))) from
  q_cons (q_for (passes_of rfl) rfl (qi_val (q_var 0)) (g_name (i := 1) sc_weights_back.nd) (q_one (q_expr (c_call (ok_look_box t) (hr.mono (by omega)) t.g_look_box (takes_of rfl rfl rfl rfl) (qa_cons (q_var 1) (qa_nil)))))) (q_cons (q_set (i := 2) sc_weights_back.nd (c_call (ok_whole_ones t) (hr.mono (by omega)) t.g_whole_ones (takes_of rfl rfl rfl rfl) (qa_cons (q_lc (own := [("box", 1)]) rfl sc_weights_back.nd (qi_val (q_var 0)) (blkOk_by (N := N_weights_back) (sc := defScope s_weights_back) (by decide +kernel)) (fun _ _ _ _ _ => g_name (i := 1) sc_weights_back.nd) (fun _ _ _ _ _ => qts_nil) (fun _ _ _ _ _ => c_call (ok_area t) (hr.mono (by omega)) t.g_area takes_wN (qa_cons (q_var 1) (qa_nil)))) (qa_nil)))) (q_cons (q_set (i := 3) sc_weights_back.nd (q_int)) (q_cons (q_for (passes_of rfl) rfl (qi_val (q_var 2)) (g_name (i := 4) sc_weights_back.nd) (q_one (q_set (i := 3) sc_weights_back.nd (c_call (ok_divisor t) (hr.mono (by omega)) t.g_divisor (takes_of rfl rfl rfl rfl) (qa_cons (q_var 3) (qa_cons (q_var 4) (qa_nil))))))) (q_one (q_ret (q_lc (own := [("number", 4)]) rfl sc_weights_back.nd (qi_val (q_var 2)) (blkOk_by (N := N_weights_back) (sc := defScope s_weights_back) (by decide +kernel)) (fun _ _ _ _ _ => g_name (i := 4) sc_weights_back.nd) (fun _ _ _ _ _ => qts_nil) (fun _ _ _ _ _ => q_div (q_var 4) (q_var 3))))))))
theorem ok_weights_back (t : T K mg) : Fok P w K mg base 6 (He.ga K "weights_back") ["boxes"] (sp0 K (p_weights_back K)) :=
  fok0 (st := s_weights_back) (N := N_weights_back) (m := m_weights_back K) t.d_weights_back sc_weights_back (fun _ _ _ _ _ _ us hl => match us, hl with | [_], _ => rfl) (fun ds Q E h => len_weights_back h) (w_weights_back t) (pure_weights_back K)
def p__law_feed (K : PySem.W.Frag) : P0 := fun ds Q E => match ds with
  | [.scr ns] => ns.length ≤ 63 ∧ ∀ o, Gd 1000000 o → Q (.nw o)
  | _ => False
theorem len__law_feed {K : PySem.W.Frag} {ds : List D} {Q : Re → Prop} {E : Xc → Prop} (h : p__law_feed K ds Q E) : ds.length = 1 := by
  unfold p__law_feed at h; split at h <;> first | rfl | exact h.elim
def m__law_feed (K : PySem.W.Frag) : MS := fun De ρ => (mRet (mDisp [(mC (.str "cells"), mCallB fList (mConsA (mSl (mVar 0) (mNoPart) (mPart (mC (.int 63)))) (mNilA))), (mC (.str "at"), mC (.int 0)), (mC (.str "left"), mC (.int 0))])) De ρ
abbrev N__law_feed : List Str := ["_law_script"]
theorem i__law_feed (d0 : D) : in0 N__law_feed [d0] = [some (.fz d0)] := rfl
theorem sc__law_feed : FnScope N__law_feed ["_law_script"] (defScope s__law_feed) := ⟨rfl, rfl, rfl, by decide +kernel, rfl, by decide +kernel, by decide +kernel⟩
theorem pure__law_feed (K : PySem.W.Frag) : ∀ ds Q E, p__law_feed K ds Q E → m__law_feed K (ends0 Q E) (in0 N__law_feed ds) := by
  intro ds Q E h
  unfold p__law_feed at h
  split at h
  · rename_i ns
    rw [i__law_feed]
    obtain ⟨hl, h⟩ := h
    simp only [↓SP, ↓SP2, ↓SP3, ↓SP4, ↓SQ5, ↓SQ6, ↓SQ7, ↓SB, ↓SB2, ↓SB3, ↓SB4, ↓SFD, SB, SB2, SB3, SB4, SO, SF, SW, SV, SX, SG, SH, SI, SQ, Int.reduceEq, Int.reduceLT, Int.reduceLE, Int.reduceToNat, Int.reducePow, Int.reduceNeg, Int.reduceSub, Int.reduceAdd, Int.reduceMul, Option.isSome_some, Option.isSome_none, eq_self, decide_true, decide_false, SBQ, SPL, SEE, SEC, SED, Bool.true_or, Bool.false_or, Bool.or_false, Bool.or_true, if_true, if_false, Bool.false_eq_true, reduceCtorEq, implies_true, Int.reduceNe, ne_eq, not_false_eq_true, ↓m__law_feed, SDK]
    refine AK_i (d := [.inr "cells", .inr "at", .inr "left"]) rfl ?_
    simp only [↓SP, ↓SP2, ↓SP3, ↓SP4, ↓SQ5, ↓SQ6, ↓SQ7, ↓SB, ↓SB2, ↓SB3, ↓SB4, ↓SFD, SB, SB2, SB3, SB4, SO, SF, SW, SV, SX, SG, SH, SI, SQ, Int.reduceEq, Int.reduceLT, Int.reduceLE, Int.reduceToNat, Int.reducePow, Int.reduceNeg, Int.reduceSub, Int.reduceAdd, Int.reduceMul, Option.isSome_some, Option.isSome_none, eq_self, decide_true, decide_false, SBQ, SPL, SEE, SEC, SED, Bool.true_or, Bool.false_or, Bool.or_false, Bool.or_true, if_true, if_false, Bool.false_eq_true, reduceCtorEq, implies_true, Int.reduceNe, ne_eq, not_false_eq_true, ↓m__law_feed]
    refine ⟨by decide, ?_⟩
    refine h (fdD ((cutD ns none (some 63)).map .int) 0 0) ⟨_, _, _, rfl, by decide, ?_, by decide⟩
    rw [cut_to (by decide), List.length_take]
    omega
  · exact h.elim
theorem w__law_feed (t : T K mg) (cdv : Value) (A : Around) (outer : List Env) (s : Shared) (H : Hp) (E : XK) (hr : Room 0 (A.deeper (envOfC "_law_feed" (defScope s__law_feed) s.heap.objs.size (He.ga K "_law_feed") cdv))) : QSs (CxA P w K mg base N__law_feed "_law_feed" (defScope s__law_feed) cdv A outer s H E) (wE E) (defBody s__law_feed) (m__law_feed K) :=
  show QSs _ (wE E) (defBody s__law_feed) (mRet (mDisp [(mC (.str "cells"), mCallB fList (mConsA (mSl (mVar 0) (mNoPart) (mPart (mC (.int 63)))) (mNilA))), (mC (.str "at"), mC (.int 0)), (mC (.str "left"), mC (.int 0))])) from
  q_one (q_ret (q_disp (l := [(mC (.str "cells"), mCallB fList (mConsA (mSl (mVar 0) (mNoPart) (mPart (mC (.int 63)))) (mNilA))), (mC (.str "at"), mC (.int 0)), (mC (.str "left"), mC (.int 0))]) (pps_cons (q_str) (q_list t.f_list (qa_cons (q_sl (q_var 0) (qo_none) (qo_some (q_int))) (qa_nil))) (pps_cons (q_str) (q_int) (pps_cons (q_str) (q_int) (pps_nil))))))
theorem ok__law_feed (t : T K mg) : Fok P w K mg base 1 (He.ga K "_law_feed") ["_law_script"] (sp0 K (p__law_feed K)) :=
  fok0 (st := s__law_feed) (N := N__law_feed) (m := m__law_feed K) t.d__law_feed sc__law_feed (fun _ _ _ _ _ _ us hl => match us, hl with | [_], _ => rfl) (fun ds Q E h => len__law_feed h) (w__law_feed t) (pure__law_feed K)
def p__law_draw (K : PySem.W.Frag) : P1 := fun ds o Q E => match ds with
  | [.int m] => 0 < m ∧ m < 1000000000000 ∧ ∃ n, Gd (n + 1) o ∧ ∀ (r : Int) (o' : D), 0 ≤ r → r < m → Gd n o' → Q (.va (.int r)) o'
  | _ => False
theorem len__law_draw {K : PySem.W.Frag} {ds : List D} {o : D} {Q : Re → D → Prop} {E : Xc → D → Prop} (h : p__law_draw K ds o Q E) : ds.length + 1 = 2 := by
  unfold p__law_draw at h; split at h <;> first | rfl | exact h.elim
def k__law_draw_7 (K : PySem.W.Frag) : MS := fun De ρ => (mRet (mBin fMod (mBin fDiv (mBin fMod (mBin fMul (mBin fMod (mBin fAdd (mBin fMul (mVar 5) (mC (.int 69623))) (mBin fMul (mC (.int 7919)) (mVar 3))) (mC (.int 1999993))) (mC (.int 16811))) (mC (.int 524287))) (mC (.int 5))) (mVar 1))) De ρ
def k__law_draw_6 (K : PySem.W.Frag) : MS := fun De ρ => (mSeq (mSet 5 (mBin fMod (mBin fMul (mBin fAdd (mBin fAdd (mBin fAdd (mBin fMod (mVar 4) (mC (.int 1000003))) (mBin fMul (mBin fMul (mC (.int 61)) (mVar 3)) (mVar 3))) (mBin fMul (mC (.int 7)) (mVar 3))) (mC (.int 1))) (mC (.int 48271))) (mC (.int 999983)))) (k__law_draw_7 K)) De ρ
def k__law_draw_5 (K : PySem.W.Frag) : MS := fun De ρ => (mSeq (mIf (mAnd (mTest (mBin fGe (mVar 4) (mBin fPow (mC (.int 10)) (mC (.int 18))))) (mTest (mBin fLt (mVar 3) (mCallB fLenG (mConsA (mBin fIxG (mVar 0) (mC (.str "cells"))) (mNilA)))))) (mSeq (mSetG 0 (mC (.str "left")) (mBin fDiv (mVar 4) (mVar 1))) (mRet (mBin fMod (mVar 4) (mVar 1)))) (mNext)) (k__law_draw_6 K)) De ρ
def k__law_draw_4 (K : PySem.W.Frag) : MS := fun De ρ => (mSeq (mIf (mTest (mBin fGt (mCallB fLenG (mConsA (mBin fIxG (mVar 0) (mC (.str "cells"))) (mNilA))) (mC (.int 0)))) (mSet 4 (mBin fIxG (mBin fIxG (mVar 0) (mC (.str "cells"))) (mBin fMod (mVar 3) (mCallB fLenG (mConsA (mBin fIxG (mVar 0) (mC (.str "cells"))) (mNilA)))))) (mNext)) (k__law_draw_5 K)) De ρ
def k__law_draw_3 (K : PySem.W.Frag) : MS := fun De ρ => (mSeq (mSet 4 (mVar 3)) (k__law_draw_4 K)) De ρ
def k__law_draw_2 (K : PySem.W.Frag) : MS := fun De ρ => (mSeq (mSetG 0 (mC (.str "at")) (mBin fAdd (mVar 3) (mC (.int 1)))) (k__law_draw_3 K)) De ρ
def k__law_draw_1 (K : PySem.W.Frag) : MS := fun De ρ => (mSeq (mSet 3 (mBin fIxG (mVar 0) (mC (.str "at")))) (k__law_draw_2 K)) De ρ
def m__law_draw (K : PySem.W.Frag) : MS := fun De ρ => (mSeq (mIf (mTest (mBin fGt (mBin fIxG (mVar 0) (mC (.str "left"))) (mC (.int 0)))) (mSeq (mSet 2 (mBin fMod (mBin fIxG (mVar 0) (mC (.str "left"))) (mVar 1))) (mSeq (mSetG 0 (mC (.str "left")) (mBin fDiv (mBin fIxG (mVar 0) (mC (.str "left"))) (mVar 1))) (mRet (mVar 2)))) (mNext)) (k__law_draw_1 K)) De ρ
abbrev N__law_draw : List Str := ["_law_feed_here", "_law_many", "_law_found", "_law_at", "_law_cell", "_law_number"]
theorem i__law_draw (d0 : D) (o : D) : in1 N__law_draw 0 [d0] o = [some (.ow o), some (.fz d0), none, none, none, none] := rfl
theorem sc__law_draw : FnScope N__law_draw ["_law_feed_here", "_law_many"] (defScope s__law_draw) := ⟨rfl, rfl, rfl, by decide +kernel, rfl, by decide +kernel, by decide +kernel⟩
theorem t6__law_draw (K : PySem.W.Frag) (De : PEnds) {o : D} {m a c : Int} (h1 : 0 ≤ a) (h3 : a ≤ 1000000) (hm : 0 < m) (hcd : ∀ x : Int, CDivW x m) (h : ∀ x : Int, ∀ ρ, De.rt (.va (.int (x % m))) (some (.ow o) :: ρ)) : k__law_draw_6 K De [some (.ow o), some (.fz (.int m)), none, some (.fz (.int a)), some (.fz (.int c)), none] := by
  have a2 : a * a ≤ 1000000000000 := by
    have := Int.mul_le_mul h3 h3 h1 (by decide)
    omega
  have a3 : 0 ≤ a * a := Int.mul_nonneg h1 h1
  have e1 := Int.emod_nonneg c (b := 1000003) (by decide)
  have e2 := Int.emod_lt_of_pos c (b := 1000003) (by decide)
  simp only [↓SP, ↓SP2, ↓SP3, ↓SP4, ↓SQ5, ↓SQ6, ↓SQ7, ↓SB, ↓SB2, ↓SB3, ↓SB4, ↓SFD, SB, SB2, SB3, SB4, SO, SF, SW, SV, SX, SG, SH, SI, SQ, Int.reduceEq, Int.reduceLT, Int.reduceLE, Int.reduceToNat, Int.reducePow, Int.reduceNeg, Int.reduceSub, Int.reduceAdd, Int.reduceMul, Option.isSome_some, Option.isSome_none, eq_self, decide_true, decide_false, SBQ, SPL, SEE, SEC, SED, Bool.true_or, Bool.false_or, Bool.or_false, Bool.or_true, if_true, if_false, Bool.false_eq_true, reduceCtorEq, implies_true, Int.reduceNe, ne_eq, not_false_eq_true, ↓m__law_draw, ↓k__law_draw_7, ↓k__law_draw_6, ↓k__law_draw_5, ↓k__law_draw_4, ↓k__law_draw_3, ↓k__law_draw_2, ↓k__law_draw_1]
  rw [show 61 * a * a = 61 * (a * a) from Int.mul_assoc ..]
  generalize c % 1000003 = y at *
  refine ⟨cmul_lt (by decide) (by decide) (by omega) (by omega), cmul_lt (by omega) (by omega) (by omega) (by omega), cmul_lt (by decide) (by decide) (by omega) (by omega), cmul_lt (by omega) (by omega) (by decide) (by decide), ?_⟩
  have e3 := Int.emod_nonneg ((y + 61 * (a * a) + 7 * a + 1) * 48271) (b := 999983) (by decide)
  have e4 := Int.emod_lt_of_pos ((y + 61 * (a * a) + 7 * a + 1) * 48271) (b := 999983) (by decide)
  generalize (y + 61 * (a * a) + 7 * a + 1) * 48271 % 999983 = z at *
  refine ⟨cmul_lt (by omega) (by omega) (by decide) (by decide), cmul_lt (by decide) (by decide) (by omega) (by omega), ?_⟩
  have e5 := Int.emod_nonneg (z * 69623 + 7919 * a) (b := 1999993) (by decide)
  have e6 := Int.emod_lt_of_pos (z * 69623 + 7919 * a) (b := 1999993) (by decide)
  generalize (z * 69623 + 7919 * a) % 1999993 = u at *
  refine ⟨cmul_lt (by omega) (by omega) (by decide) (by decide), ?_⟩
  exact ⟨Bs.cdiv (n := 10) (by decide) (by unfold Bs; decide) (by decide), hm, h _ _⟩
theorem t5__law_draw (K : PySem.W.Frag) (De : PEnds) {cs : List Int} {m a b l c : Int} (h1 : 0 ≤ a) (h3 : a ≤ 1000000) (hm : 0 < m) (hcd : ∀ x : Int, CDivW x m) (h : ∀ x l' : Int, ∀ ρ, De.rt (.va (.int (x % m))) (some (.ow (fdD (cs.map .int) b l')) :: ρ)) : k__law_draw_5 K De [some (.ow (fdD (cs.map .int) b l)), some (.fz (.int m)), none, some (.fz (.int a)), some (.fz (.int c)), none] := by
  have t := t6__law_draw K De (o := fdD (cs.map .int) b l) (c := c) h1 h3 hm hcd (fun x => h x l)
  simp only [↓SP, ↓SP2, ↓SP3, ↓SP4, ↓SQ5, ↓SQ6, ↓SQ7, ↓SB, ↓SB2, ↓SB3, ↓SB4, ↓SFD, SB, SB2, SB3, SB4, SO, SF, SW, SV, SX, SG, SH, SI, SQ, Int.reduceEq, Int.reduceLT, Int.reduceLE, Int.reduceToNat, Int.reducePow, Int.reduceNeg, Int.reduceSub, Int.reduceAdd, Int.reduceMul, Option.isSome_some, Option.isSome_none, eq_self, decide_true, decide_false, SBQ, SPL, SEE, SEC, SED, Bool.true_or, Bool.false_or, Bool.or_false, Bool.or_true, if_true, if_false, Bool.false_eq_true, reduceCtorEq, implies_true, Int.reduceNe, ne_eq, not_false_eq_true, ↓k__law_draw_5]
  refine CI_d (fun hz => ?_) (fun hz => ?_)
  · simp only [↓SP, ↓SP2, ↓SP3, ↓SP4, ↓SQ5, ↓SQ6, ↓SQ7, ↓SB, ↓SB2, ↓SB3, ↓SB4, ↓SFD, SB, SB2, SB3, SB4, SO, SF, SW, SV, SX, SG, SH, SI, SQ, Int.reduceEq, Int.reduceLT, Int.reduceLE, Int.reduceToNat, Int.reducePow, Int.reduceNeg, Int.reduceSub, Int.reduceAdd, Int.reduceMul, Option.isSome_some, Option.isSome_none, eq_self, decide_true, decide_false, SBQ, SPL, SEE, SEC, SED, Bool.true_or, Bool.false_or, Bool.or_false, Bool.or_true, if_true, if_false, Bool.false_eq_true, reduceCtorEq, implies_true, Int.reduceNe, ne_eq, not_false_eq_true]
    refine CI_d (fun hz => ?_) (fun hz => ?_)
    · simp only [↓SP, ↓SP2, ↓SP3, ↓SP4, ↓SQ5, ↓SQ6, ↓SQ7, ↓SB, ↓SB2, ↓SB3, ↓SB4, ↓SFD, SB, SB2, SB3, SB4, SO, SF, SW, SV, SX, SG, SH, SI, SQ, Int.reduceEq, Int.reduceLT, Int.reduceLE, Int.reduceToNat, Int.reducePow, Int.reduceNeg, Int.reduceSub, Int.reduceAdd, Int.reduceMul, Option.isSome_some, Option.isSome_none, eq_self, decide_true, decide_false, SBQ, SPL, SEE, SEC, SED, Bool.true_or, Bool.false_or, Bool.or_false, Bool.or_true, if_true, if_false, Bool.false_eq_true, reduceCtorEq, implies_true, Int.reduceNe, ne_eq, not_false_eq_true]
      exact ⟨hcd _, hm, h _ _ _⟩
    · simp only [↓SP, ↓SP2, ↓SP3, ↓SP4, ↓SQ5, ↓SQ6, ↓SQ7, ↓SB, ↓SB2, ↓SB3, ↓SB4, ↓SFD, SB, SB2, SB3, SB4, SO, SF, SW, SV, SX, SG, SH, SI, SQ, Int.reduceEq, Int.reduceLT, Int.reduceLE, Int.reduceToNat, Int.reducePow, Int.reduceNeg, Int.reduceSub, Int.reduceAdd, Int.reduceMul, Option.isSome_some, Option.isSome_none, eq_self, decide_true, decide_false, SBQ, SPL, SEE, SEC, SED, Bool.true_or, Bool.false_or, Bool.or_false, Bool.or_true, if_true, if_false, Bool.false_eq_true, reduceCtorEq, implies_true, Int.reduceNe, ne_eq, not_false_eq_true]
      exact t
  · simp only [↓SP, ↓SP2, ↓SP3, ↓SP4, ↓SQ5, ↓SQ6, ↓SQ7, ↓SB, ↓SB2, ↓SB3, ↓SB4, ↓SFD, SB, SB2, SB3, SB4, SO, SF, SW, SV, SX, SG, SH, SI, SQ, Int.reduceEq, Int.reduceLT, Int.reduceLE, Int.reduceToNat, Int.reducePow, Int.reduceNeg, Int.reduceSub, Int.reduceAdd, Int.reduceMul, Option.isSome_some, Option.isSome_none, eq_self, decide_true, decide_false, SBQ, SPL, SEE, SEC, SED, Bool.true_or, Bool.false_or, Bool.or_false, Bool.or_true, if_true, if_false, Bool.false_eq_true, reduceCtorEq, implies_true, Int.reduceNe, ne_eq, not_false_eq_true]
    exact t
theorem pure__law_draw (K : PySem.W.Frag) : ∀ ds o Q E, p__law_draw K ds o Q E → m__law_draw K (ends1 0 Q E) (in1 N__law_draw 0 ds o) := by
  intro ds o Q E h
  unfold p__law_draw at h
  split at h
  · rename_i m
    rw [i__law_draw]
    obtain ⟨hm, hb, n, ⟨cs, a, l, rfl, h1, h2, h3⟩, h⟩ := h
    have hb : Bs 8990 m := Bs.lit (by omega) (by decide)
    have hcd : ∀ x : Int, CDivW x m := fun x => hb.cdiv hm (by decide)
    have fin : ∀ x b : Int, 0 ≤ b → b ≤ a + 1 → ∀ l', Q (.va (.int (x % m))) (fdD (cs.map .int) b l') := fun x b h4 h5 l' => h _ _ (Int.emod_nonneg _ (by omega)) (Int.emod_lt_of_pos _ hm) ⟨cs, b, l', rfl, h4, h2, by omega⟩
    simp only [↓SP, ↓SP2, ↓SP3, ↓SP4, ↓SQ5, ↓SQ6, ↓SQ7, ↓SB, ↓SB2, ↓SB3, ↓SB4, ↓SFD, SB, SB2, SB3, SB4, SO, SF, SW, SV, SX, SG, SH, SI, SQ, Int.reduceEq, Int.reduceLT, Int.reduceLE, Int.reduceToNat, Int.reducePow, Int.reduceNeg, Int.reduceSub, Int.reduceAdd, Int.reduceMul, Option.isSome_some, Option.isSome_none, eq_self, decide_true, decide_false, SBQ, SPL, SEE, SEC, SED, Bool.true_or, Bool.false_or, Bool.or_false, Bool.or_true, if_true, if_false, Bool.false_eq_true, reduceCtorEq, implies_true, Int.reduceNe, ne_eq, not_false_eq_true, ↓m__law_draw]
    refine CI_d (fun hz => ?_) (fun hz => ?_)
    · simp only [↓SP, ↓SP2, ↓SP3, ↓SP4, ↓SQ5, ↓SQ6, ↓SQ7, ↓SB, ↓SB2, ↓SB3, ↓SB4, ↓SFD, SB, SB2, SB3, SB4, SO, SF, SW, SV, SX, SG, SH, SI, SQ, Int.reduceEq, Int.reduceLT, Int.reduceLE, Int.reduceToNat, Int.reducePow, Int.reduceNeg, Int.reduceSub, Int.reduceAdd, Int.reduceMul, Option.isSome_some, Option.isSome_none, eq_self, decide_true, decide_false, SBQ, SPL, SEE, SEC, SED, Bool.true_or, Bool.false_or, Bool.or_false, Bool.or_true, if_true, if_false, Bool.false_eq_true, reduceCtorEq, implies_true, Int.reduceNe, ne_eq, not_false_eq_true, ↓m__law_draw, ↓k__law_draw_7, ↓k__law_draw_6, ↓k__law_draw_5, ↓k__law_draw_4, ↓k__law_draw_3, ↓k__law_draw_2, ↓k__law_draw_1]
      exact ⟨hm, hcd _, fin _ _ h1 (by omega) _⟩
    · simp only [↓SP, ↓SP2, ↓SP3, ↓SP4, ↓SQ5, ↓SQ6, ↓SQ7, ↓SB, ↓SB2, ↓SB3, ↓SB4, ↓SFD, SB, SB2, SB3, SB4, SO, SF, SW, SV, SX, SG, SH, SI, SQ, Int.reduceEq, Int.reduceLT, Int.reduceLE, Int.reduceToNat, Int.reducePow, Int.reduceNeg, Int.reduceSub, Int.reduceAdd, Int.reduceMul, Option.isSome_some, Option.isSome_none, eq_self, decide_true, decide_false, SBQ, SPL, SEE, SEC, SED, Bool.true_or, Bool.false_or, Bool.or_false, Bool.or_true, if_true, if_false, Bool.false_eq_true, reduceCtorEq, implies_true, Int.reduceNe, ne_eq, not_false_eq_true, ↓k__law_draw_1, ↓k__law_draw_2, ↓k__law_draw_3, ↓k__law_draw_4]
      refine CI_d (fun hz => ?_) (fun hz => ?_)
      · simp only [↓SP, ↓SP2, ↓SP3, ↓SP4, ↓SQ5, ↓SQ6, ↓SQ7, ↓SB, ↓SB2, ↓SB3, ↓SB4, ↓SFD, SB, SB2, SB3, SB4, SO, SF, SW, SV, SX, SG, SH, SI, SQ, Int.reduceEq, Int.reduceLT, Int.reduceLE, Int.reduceToNat, Int.reducePow, Int.reduceNeg, Int.reduceSub, Int.reduceAdd, Int.reduceMul, Option.isSome_some, Option.isSome_none, eq_self, decide_true, decide_false, SBQ, SPL, SEE, SEC, SED, Bool.true_or, Bool.false_or, Bool.or_false, Bool.or_true, if_true, if_false, Bool.false_eq_true, reduceCtorEq, implies_true, Int.reduceNe, ne_eq, not_false_eq_true]
        simp only [List.length_map] at hz ⊢
        have e1 := Int.emod_nonneg a (b := (cs.length : Int)) (by omega)
        have e2 := Int.emod_lt_of_pos a hz
        refine ⟨hz, AK_i (d := .int (cs[(a % (cs.length : Int)).toNat]'(by omega))) ?_ ?_⟩
        · rw [atI_int e1 (by rw [List.length_map]; omega), List.getElem_map]
        · simp only [↓SP, ↓SP2, ↓SP3, ↓SP4, ↓SQ5, ↓SQ6, ↓SQ7, ↓SB, ↓SB2, ↓SB3, ↓SB4, ↓SFD, SB, SB2, SB3, SB4, SO, SF, SW, SV, SX, SG, SH, SI, SQ, Int.reduceEq, Int.reduceLT, Int.reduceLE, Int.reduceToNat, Int.reducePow, Int.reduceNeg, Int.reduceSub, Int.reduceAdd, Int.reduceMul, Option.isSome_some, Option.isSome_none, eq_self, decide_true, decide_false, SBQ, SPL, SEE, SEC, SED, Bool.true_or, Bool.false_or, Bool.or_false, Bool.or_true, if_true, if_false, Bool.false_eq_true, reduceCtorEq, implies_true, Int.reduceNe, ne_eq, not_false_eq_true]
          exact t5__law_draw K _ h1 (by omega) hm hcd (fun x l' ρ => fin x _ (by omega) (by omega) l')
      · simp only [↓SP, ↓SP2, ↓SP3, ↓SP4, ↓SQ5, ↓SQ6, ↓SQ7, ↓SB, ↓SB2, ↓SB3, ↓SB4, ↓SFD, SB, SB2, SB3, SB4, SO, SF, SW, SV, SX, SG, SH, SI, SQ, Int.reduceEq, Int.reduceLT, Int.reduceLE, Int.reduceToNat, Int.reducePow, Int.reduceNeg, Int.reduceSub, Int.reduceAdd, Int.reduceMul, Option.isSome_some, Option.isSome_none, eq_self, decide_true, decide_false, SBQ, SPL, SEE, SEC, SED, Bool.true_or, Bool.false_or, Bool.or_false, Bool.or_true, if_true, if_false, Bool.false_eq_true, reduceCtorEq, implies_true, Int.reduceNe, ne_eq, not_false_eq_true]
        exact t5__law_draw K _ h1 (by omega) hm hcd (fun x l' ρ => fin x _ (by omega) (by omega) l')
  · exact h.elim
theorem w__law_draw (t : T K mg) (cdv : Value) (A : Around) (outer : List Env) (s : Shared) (H : Hp) (E : XK) (hr : Room 0 (A.deeper (envOfC "_law_draw" (defScope s__law_draw) s.heap.objs.size (He.ga K "_law_draw") cdv))) : QSs (CxA P w K mg base N__law_draw "_law_draw" (defScope s__law_draw) cdv A outer s H E) (wE E) (defBody s__law_draw) (m__law_draw K) :=
  show QSs _ (wE E) (defBody s__law_draw) (mSeq (mIf (mTest (mBin fGt (mBin fIxG (mVar 0) (mC (.str "left"))) (mC (.int 0)))) (mSeq (mSet 2 (mBin fMod (mBin fIxG (mVar 0) (mC (.str "left"))) (mVar 1))) (mSeq (mSetG 0 (mC (.str "left")) (mBin fDiv (mBin fIxG (mVar 0) (mC (.str "left"))) (mVar 1))) (mRet (mVar 2)))) (mNext)) (mSeq (mSet 3 (mBin fIxG (mVar 0) (mC (.str "at")))) (mSeq (mSetG 0 (mC (.str "at")) (mBin fAdd (mVar 3) (mC (.int 1)))) (mSeq (mSet 4 (mVar 3)) (mSeq (mIf (mTest (mBin fGt (mCallB fLenG (mConsA (mBin fIxG (mVar 0) (mC (.str "cells"))) (mNilA))) (mC (.int 0)))) (mSet 4 (mBin fIxG (mBin fIxG (mVar 0) (mC (.str "cells"))) (mBin fMod (mVar 3) (mCallB fLenG (mConsA (mBin fIxG (mVar 0) (mC (.str "cells"))) (mNilA)))))) (mNext)) (mSeq (mIf (mAnd (mTest (mBin fGe (mVar 4) (mBin fPow (mC (.int 10)) (mC (.int 18))))) (mTest (mBin fLt (mVar 3) (mCallB fLenG (mConsA (mBin fIxG (mVar 0) (mC (.str "cells"))) (mNilA)))))) (mSeq (mSetG 0 (mC (.str "left")) (mBin fDiv (mVar 4) (mVar 1))) (mRet (mBin fMod (mVar 4) (mVar 1)))) (mNext)) (mSeq (mSet 5 (mBin fMod (mBin fMul (mBin fAdd (mBin fAdd (mBin fAdd (mBin fMod (mVar 4) (mC (.int 1000003))) (mBin fMul (mBin fMul (mC (.int 61)) (mVar 3)) (mVar 3))) (mBin fMul (mC (.int 7)) (mVar 3))) (mC (.int 1))) (mC (.int 48271))) (mC (.int 999983)))) (mRet (mBin fMod (mBin fDiv (mBin fMod (mBin fMul (mBin fMod (mBin fAdd (mBin fMul (mVar 5) (mC (.int 69623))) (mBin fMul (mC (.int 7919)) (mVar 3))) (mC (.int 1999993))) (mC (.int 16811))) (mC (.int 524287))) (mC (.int 5))) (mVar 1)))))))))) from
  q_cons (q_if (q_tgt (q_ixG hr (q_var 0) (q_str)) (q_int)) (q_cons (q_set (i := 2) sc__law_draw.nd (q_mod (q_ixG hr (q_var 0) (q_str)) (q_var 1))) (q_cons (q_setG (i := 0) hr (q_str) (q_div (q_ixG hr (q_var 0) (q_str)) (q_var 1))) (q_one (q_ret (q_var 2))))) (q_nil)) (q_cons (q_set (i := 3) sc__law_draw.nd (q_ixG hr (q_var 0) (q_str))) (q_cons (q_setG (i := 0) hr (q_str) (q_add (q_var 3) (q_int))) (q_cons (q_set (i := 4) sc__law_draw.nd (q_var 3)) (q_cons (q_if (q_tgt (q_lenG t.f_len (qa_cons (q_ixG hr (q_var 0) (q_str)) (qa_nil))) (q_int)) (q_one (q_set (i := 4) sc__law_draw.nd (q_ixG hr (q_ixG hr (q_var 0) (q_str)) (q_mod (q_var 3) (q_lenG t.f_len (qa_cons (q_ixG hr (q_var 0) (q_str)) (qa_nil))))))) (q_nil)) (q_cons (q_if (q_w (w_and (q_tge (q_var 4) (q_pow (q_int) (q_int))) (w_and1 (q_tlt (q_var 3) (q_lenG t.f_len (qa_cons (q_ixG hr (q_var 0) (q_str)) (qa_nil))))))) (q_cons (q_setG (i := 0) hr (q_str) (q_div (q_var 4) (q_var 1))) (q_one (q_ret (q_mod (q_var 4) (q_var 1))))) (q_nil)) (q_cons (q_set (i := 5) sc__law_draw.nd (q_mod (q_mul (q_add (q_add (q_add (q_mod (q_var 4) (q_int)) (q_mul (q_mul (q_int) (q_var 3)) (q_var 3))) (q_mul (q_int) (q_var 3))) (q_int)) (q_int)) (q_int))) (q_one (q_ret (q_mod (q_div (q_mod (q_mul (q_mod (q_add (q_mul (q_var 5) (q_int)) (q_mul (q_int) (q_var 3))) (q_int)) (q_int)) (q_int)) (q_int)) (q_var 1))))))))))
theorem ok__law_draw (t : T K mg) : Fok P w K mg base 1 (He.ga K "_law_draw") ["_law_feed_here", "_law_many"] (sp1 K 0 (p__law_draw K)) :=
  fok1 (st := s__law_draw) (N := N__law_draw) (j := 0) (m := m__law_draw K) t.d__law_draw sc__law_draw (fun _ _ _ _ _ _ us hl => match us, hl with | [_, _], _ => rfl) (fun ds o Q E h => len__law_draw h) (w__law_draw t) (pure__law_draw K)
def p__law_great (K : PySem.W.Frag) : P1 := fun ds o Q E => match ds with
  | [.int f] => 0 ≤ f ∧ f ≤ 100 ∧ ∃ n, Gd (n + f.toNat) o ∧ ∀ (r : Int) (o' : D), 0 ≤ r → Gd n o' → Q (.va (.int r)) o'
  | _ => False
theorem len__law_great {K : PySem.W.Frag} {ds : List D} {o : D} {Q : Re → D → Prop} {E : Xc → D → Prop} (h : p__law_great K ds o Q E) : ds.length + 1 = 2 := by
  unfold p__law_great at h; split at h <;> first | rfl | exact h.elim
def b__law_great_1 (K : PySem.W.Frag) : MS := fun De ρ => (mSet 2 (mBin fAdd (mBin fMul (mVar 2) (mC (.int 100000))) (mCallO 0 (p__law_draw K) (mConsA (mVar 0) (mConsA (mC (.int 100000)) (mNilA)))))) De ρ
def k__law_great_2 (K : PySem.W.Frag) : MS := fun De ρ => (mRet (mVar 2)) De ρ
def k__law_great_1 (K : PySem.W.Frag) : MS := fun De ρ => (mSeq (mFor (mRng1 (mConsA (mVar 1) (mNilA))) (gNm 3) (b__law_great_1 K)) (k__law_great_2 K)) De ρ
def m__law_great (K : PySem.W.Frag) : MS := fun De ρ => (mSeq (mSet 2 (mC (.int 0))) (k__law_great_1 K)) De ρ
abbrev N__law_great : List Str := ["_law_feed_here", "_law_pieces", "_law_number", "_law_k"]
theorem i__law_great (d0 : D) (o : D) : in1 N__law_great 0 [d0] o = [some (.ow o), some (.fz d0), none, none] := rfl
theorem sc__law_great : FnScope N__law_great ["_law_feed_here", "_law_pieces"] (defScope s__law_great) := ⟨rfl, rfl, rfl, by decide +kernel, rfl, by decide +kernel, by decide +kernel⟩
theorem loop__law_great (K : PySem.W.Frag) (De : PEnds) (f : Int) (n : Nat) : ∀ (xs : List D) (j : Nat) (o : D) (v : Int) (s : Option D), 0 ≤ v → Bs (17 * j) v → j + xs.length ≤ 1000 → Gd (n + xs.length) o →
    (∀ (o' : D) (w : Int) (s' : Option D), Gd n o' → 0 ≤ w → De.nx [some (.ow o'), some (.fz (.int f)), some (.fz (.int w)), fo s']) → forL (gNm 3) (b__law_great_1 K) De xs [some (.ow o), some (.fz (.int f)), some (.fz (.int v)), fo s]
  | [], j, o, v, s, hv, hb, hj, hF, h => by
    unfold forL
    exact h o v s hF hv
  | x :: xs, j, o, v, s, hv, hb, hj, hF, h => by
    simp only [List.length_cons] at hF hj
    have hm : Bs 17 100000 := by unfold Bs; decide
    unfold forL
    simp only [↓SP, ↓SP2, ↓SP3, ↓SP4, ↓SQ5, ↓SQ6, ↓SQ7, ↓SB, ↓SB2, ↓SB3, ↓SB4, ↓SFD, SB, SB2, SB3, SB4, SO, SF, SW, SV, SX, SG, SH, SI, SQ, Int.reduceEq, Int.reduceLT, Int.reduceLE, Int.reduceToNat, Int.reducePow, Int.reduceNeg, Int.reduceSub, Int.reduceAdd, Int.reduceMul, Option.isSome_some, Option.isSome_none, eq_self, decide_true, decide_false, SBQ, SPL, SEE, SEC, SED, Bool.true_or, Bool.false_or, Bool.or_false, Bool.or_true, if_true, if_false, Bool.false_eq_true, reduceCtorEq, implies_true, Int.reduceNe, ne_eq, not_false_eq_true, ↓m__law_great, ↓b__law_great_1, ↓k__law_great_2, ↓k__law_great_1, ↓p__law_draw]
    refine ⟨Bs.cmul hb hm (by omega), n + xs.length, hF, fun r o' h0 h1 hF' => ?_⟩
    refine loop__law_great K De f n xs (j + 1) o' _ (some x) (by omega) ?_ (by omega) hF' h
    have h2 := hb.lt
    have h5 : (2 : Int) ^ (17 * (j + 1)) = 2 ^ (17 * j) * 131072 := by
      rw [Nat.mul_add, Int.pow_add]; rfl
    exact Bs.of_lt (by rw [h5]; omega) (by rw [h5]; omega)
theorem pure__law_great (K : PySem.W.Frag) : ∀ ds o Q E, p__law_great K ds o Q E → m__law_great K (ends1 0 Q E) (in1 N__law_great 0 ds o) := by
  intro ds o Q E h
  unfold p__law_great at h
  split at h
  · rename_i f
    rw [i__law_great]
    obtain ⟨hf, hb, n, hF, h⟩ := h
    simp only [↓SP, ↓SP2, ↓SP3, ↓SP4, ↓SQ5, ↓SQ6, ↓SQ7, ↓SB, ↓SB2, ↓SB3, ↓SB4, ↓SFD, SB, SB2, SB3, SB4, SO, SF, SW, SV, SX, SG, SH, SI, SQ, Int.reduceEq, Int.reduceLT, Int.reduceLE, Int.reduceToNat, Int.reducePow, Int.reduceNeg, Int.reduceSub, Int.reduceAdd, Int.reduceMul, Option.isSome_some, Option.isSome_none, eq_self, decide_true, decide_false, SBQ, SPL, SEE, SEC, SED, Bool.true_or, Bool.false_or, Bool.or_false, Bool.or_true, if_true, if_false, Bool.false_eq_true, reduceCtorEq, implies_true, Int.reduceNe, ne_eq, not_false_eq_true, ↓m__law_great, ↓b__law_great_1, ↓k__law_great_2, ↓k__law_great_1, ↓p__law_draw]
    refine ⟨by omega, by omega, ?_⟩
    refine loop__law_great K _ f n _ 0 o 0 none (Int.le_refl _) (by unfold Bs; decide) (by rw [rngD_len]; omega) (by rw [rngD_len]; exact hF) ?_
    intro o' w s' hF' hw
    simp only [↓SP, ↓SP2, ↓SP3, ↓SP4, ↓SQ5, ↓SQ6, ↓SQ7, ↓SB, ↓SB2, ↓SB3, ↓SB4, ↓SFD, SB, SB2, SB3, SB4, SO, SF, SW, SV, SX, SG, SH, SI, SQ, Int.reduceEq, Int.reduceLT, Int.reduceLE, Int.reduceToNat, Int.reducePow, Int.reduceNeg, Int.reduceSub, Int.reduceAdd, Int.reduceMul, Option.isSome_some, Option.isSome_none, eq_self, decide_true, decide_false, SBQ, SPL, SEE, SEC, SED, Bool.true_or, Bool.false_or, Bool.or_false, Bool.or_true, if_true, if_false, Bool.false_eq_true, reduceCtorEq, implies_true, Int.reduceNe, ne_eq, not_false_eq_true, ↓m__law_great, ↓b__law_great_1, ↓k__law_great_2, ↓k__law_great_1, ↓p__law_draw]
    exact h _ _ hw hF'
  · exact h.elim
theorem w__law_great (t : T K mg) (cdv : Value) (A : Around) (outer : List Env) (s : Shared) (H : Hp) (E : XK) (hr : Room 1 (A.deeper (envOfC "_law_great" (defScope s__law_great) s.heap.objs.size (He.ga K "_law_great") cdv))) : QSs (CxA P w K mg base N__law_great "_law_great" (defScope s__law_great) cdv A outer s H E) (wE E) (defBody s__law_great) (m__law_great K) :=
  show QSs _ (wE E) (defBody s__law_great) (mSeq (mSet 2 (mC (.int 0))) (mSeq (mFor (mRng1 (mConsA (mVar 1) (mNilA))) (gNm 3) (mSet 2 (mBin fAdd (mBin fMul (mVar 2) (mC (.int 100000))) (mCallO 0 (p__law_draw K) (mConsA (mVar 0) (mConsA (mC (.int 100000)) (mNilA))))))) (mRet (mVar 2)))) from
  q_cons (q_set (i := 2) sc__law_great.nd (q_int)) (q_cons (q_for (passes_of rfl) rfl (qi_rng1 t.f_range (qa_cons (q_var 1) (qa_nil))) (g_name (i := 3) sc__law_great.nd) (q_one (q_set (i := 2) sc__law_great.nd (q_add (q_mul (q_var 2) (q_int)) (c_callO (ok__law_draw t) (hr.mono (by omega)) t.g__law_draw (takes_of rfl rfl rfl rfl) (qa_cons (q_var 0) (qa_cons (q_int) (qa_nil)))))))) (q_one (q_ret (q_var 2))))
theorem ok__law_great (t : T K mg) : Fok P w K mg base 2 (He.ga K "_law_great") ["_law_feed_here", "_law_pieces"] (sp1 K 0 (p__law_great K)) :=
  fok1 (st := s__law_great) (N := N__law_great) (j := 0) (m := m__law_great K) t.d__law_great sc__law_great (fun _ _ _ _ _ _ us hl => match us, hl with | [_, _], _ => rfl) (fun ds o Q E h => len__law_great h) (w__law_great t) (pure__law_great K)
def p__law_low (K : PySem.W.Frag) : P0 := fun ds Q E => match ds with
  | [.int t, .int b] => Bs 8990 b ∧ 0 < b ∧ ∀ q, q = Rat.divInt t b → Q (.va (fD q))
  | _ => False
theorem len__law_low {K : PySem.W.Frag} {ds : List D} {Q : Re → Prop} {E : Xc → Prop} (h : p__law_low K ds Q E) : ds.length = 2 := by
  unfold p__law_low at h; split at h <;> first | rfl | exact h.elim
def c__law_low_1 (K : PySem.W.Frag) : MT := fun ρ Q E => (mTest (mBin fGt (mVar 3) (mC (.int 0)))) ρ Q E
def b__law_low_2 (K : PySem.W.Frag) : MS := fun De ρ => (mPar 2 3 (mConsA (mVar 3) (mConsA (mBin fMod (mVar 2) (mVar 3)) (mNilA)))) De ρ
def k__law_low_2 (K : PySem.W.Frag) : MS := fun De ρ => (mRet (mTup (mConsA (mBin fDivN (mVar 0) (mVar 2)) (mConsA (mBin fDivN (mVar 1) (mVar 2)) (mNilA))))) De ρ
def k__law_low_1 (K : PySem.W.Frag) : MS := fun De ρ => (mSeq (mWhile (c__law_low_1 K) (b__law_low_2 K)) (k__law_low_2 K)) De ρ
def m__law_low (K : PySem.W.Frag) : MS := fun De ρ => (mSeq (mPar 2 3 (mConsA (mCallB fAbs (mConsA (mVar 0) (mNilA))) (mConsA (mVar 1) (mNilA)))) (k__law_low_1 K)) De ρ
abbrev N__law_low : List Str := ["_law_top", "_law_bottom", "_law_one", "_law_other"]
theorem i__law_low (d0 d1 : D) : in0 N__law_low [d0, d1] = [some (.fz d0), some (.fz d1), none, none] := rfl
theorem sc__law_low : FnScope N__law_low ["_law_top", "_law_bottom"] (defScope s__law_low) := ⟨rfl, rfl, rfl, by decide +kernel, rfl, by decide +kernel, by decide +kernel⟩
theorem pure__law_low (K : PySem.W.Frag) : ∀ ds Q E, p__law_low K ds Q E → m__law_low K (ends0 Q E) (in0 N__law_low ds) := by
  intro ds Q E h
  unfold p__law_low at h
  split at h
  · rename_i t b
    rw [i__law_low]
    obtain ⟨hb, hz, h⟩ := h
    replace h := h _ rfl
    simp only [↓SP, ↓SP2, ↓SP3, ↓SP4, ↓SQ5, ↓SQ6, ↓SQ7, ↓SB, ↓SB2, ↓SB3, ↓SB4, ↓SFD, SB, SB2, SB3, SB4, SO, SF, SW, SV, SX, SG, SH, SI, SQ, Int.reduceEq, Int.reduceLT, Int.reduceLE, Int.reduceToNat, Int.reducePow, Int.reduceNeg, Int.reduceSub, Int.reduceAdd, Int.reduceMul, Option.isSome_some, Option.isSome_none, eq_self, decide_true, decide_false, SBQ, SPL, SEE, SEC, SED, Bool.true_or, Bool.false_or, Bool.or_false, Bool.or_true, if_true, if_false, Bool.false_eq_true, reduceCtorEq, implies_true, Int.reduceNe, ne_eq, not_false_eq_true, ↓m__law_low, ↓c__law_low_1, ↓b__law_low_2, ↓k__law_low_2, ↓k__law_low_1]
    refine ⟨fun n ρ => ∃ x y : Nat, ρ = [some (.fz (.int t)), some (.fz (.int b)), some (.fz (.int x)), some (.fz (.int y))] ∧ n = y ∧ Nat.gcd x y = Int.gcd t b, ⟨b.natAbs, t.natAbs, b.natAbs, ?_, rfl, rfl⟩, ?_⟩
    · rw [show ((b.natAbs : Nat) : Int) = b by omega]
    rintro n ρ ⟨x, y, rfl, rfl, e⟩
    simp only [↓SP, ↓SP2, ↓SP3, ↓SP4, ↓SQ5, ↓SQ6, ↓SQ7, ↓SB, ↓SB2, ↓SB3, ↓SB4, ↓SFD, SB, SB2, SB3, SB4, SO, SF, SW, SV, SX, SG, SH, SI, SQ, Int.reduceEq, Int.reduceLT, Int.reduceLE, Int.reduceToNat, Int.reducePow, Int.reduceNeg, Int.reduceSub, Int.reduceAdd, Int.reduceMul, Option.isSome_some, Option.isSome_none, eq_self, decide_true, decide_false, SBQ, SPL, SEE, SEC, SED, Bool.true_or, Bool.false_or, Bool.or_false, Bool.or_true, if_true, if_false, Bool.false_eq_true, reduceCtorEq, implies_true, Int.reduceNe, ne_eq, not_false_eq_true, ↓m__law_low, ↓c__law_low_1, ↓b__law_low_2, ↓k__law_low_2, ↓k__law_low_1]
    refine CI_d (fun hn => ?_) (fun hn => ?_)
    · simp only [↓SP, ↓SP2, ↓SP3, ↓SP4, ↓SQ5, ↓SQ6, ↓SQ7, ↓SB, ↓SB2, ↓SB3, ↓SB4, ↓SFD, SB, SB2, SB3, SB4, SO, SF, SW, SV, SX, SG, SH, SI, SQ, Int.reduceEq, Int.reduceLT, Int.reduceLE, Int.reduceToNat, Int.reducePow, Int.reduceNeg, Int.reduceSub, Int.reduceAdd, Int.reduceMul, Option.isSome_some, Option.isSome_none, eq_self, decide_true, decide_false, SBQ, SPL, SEE, SEC, SED, Bool.true_or, Bool.false_or, Bool.or_false, Bool.or_true, if_true, if_false, Bool.false_eq_true, reduceCtorEq, implies_true, Int.reduceNe, ne_eq, not_false_eq_true, ↓m__law_low, ↓c__law_low_1, ↓b__law_low_2, ↓k__law_low_2, ↓k__law_low_1]
      refine ⟨hn, x % n, Nat.mod_lt _ (by omega), n, x % n, by simp, rfl, ?_⟩
      rw [← e, Nat.gcd_comm x n, Nat.gcd_rec n x, Nat.gcd_comm]
    · simp only [↓SP, ↓SP2, ↓SP3, ↓SP4, ↓SQ5, ↓SQ6, ↓SQ7, ↓SB, ↓SB2, ↓SB3, ↓SB4, ↓SFD, SB, SB2, SB3, SB4, SO, SF, SW, SV, SX, SG, SH, SI, SQ, Int.reduceEq, Int.reduceLT, Int.reduceLE, Int.reduceToNat, Int.reducePow, Int.reduceNeg, Int.reduceSub, Int.reduceAdd, Int.reduceMul, Option.isSome_some, Option.isSome_none, eq_self, decide_true, decide_false, SBQ, SPL, SEE, SEC, SED, Bool.true_or, Bool.false_or, Bool.or_false, Bool.or_true, if_true, if_false, Bool.false_eq_true, reduceCtorEq, implies_true, Int.reduceNe, ne_eq, not_false_eq_true, ↓m__law_low, ↓c__law_low_1, ↓b__law_low_2, ↓k__law_low_2, ↓k__law_low_1]
      have hy : n = 0 := by omega
      subst hy
      rw [Nat.gcd_zero_right] at e
      subst e
      have hB : Bs 8990 (Int.gcd t b : Nat) := Bs.gcd (by omega) hb
      have hg : (0 : Int) < (Int.gcd t b : Nat) := by have := Int.gcd_pos_of_ne_zero_right t (b := b) (by omega); omega
      obtain ⟨e1, e2⟩ := divInt_pos (t := t) hz
      refine ⟨⟨by omega, (hB.cdiv (x := t) hg (by decide)).2⟩, ⟨by omega, (hB.cdiv (x := t) hg (by decide)).2⟩, ?_⟩
      rw [Int.fdiv_eq_ediv_of_nonneg _ (by omega), Int.fdiv_eq_ediv_of_nonneg _ (by omega)]
      unfold fD at h
      rw [e1, e2] at h
      exact h
  · exact h.elim
theorem w__law_low (t : T K mg) (cdv : Value) (A : Around) (outer : List Env) (s : Shared) (H : Hp) (E : XK) (hr : Room 0 (A.deeper (envOfC "_law_low" (defScope s__law_low) s.heap.objs.size (He.ga K "_law_low") cdv))) : QSs (CxA P w K mg base N__law_low "_law_low" (defScope s__law_low) cdv A outer s H E) (wE E) (defBody s__law_low) (m__law_low K) :=
  show QSs _ (wE E) (defBody s__law_low) (mSeq (mPar 2 3 (mConsA (mCallB fAbs (mConsA (mVar 0) (mNilA))) (mConsA (mVar 1) (mNilA)))) (mSeq (mWhile (mTest (mBin fGt (mVar 3) (mC (.int 0)))) (mPar 2 3 (mConsA (mVar 3) (mConsA (mBin fMod (mVar 2) (mVar 3)) (mNilA))))) (mRet (mTup (mConsA (mBin fDivN (mVar 0) (mVar 2)) (mConsA (mBin fDivN (mVar 1) (mVar 2)) (mNilA))))))) from
  q_cons (q_par (i := 2) (j := 3) rfl sc__law_low.nd (qa_cons (q_abs t.f_abs (qa_cons (q_var 0) (qa_nil))) (qa_cons (q_var 1) (qa_nil)))) (q_cons (q_while (passes_of rfl) (q_tgt (q_var 3) (q_int)) (q_one (q_par (i := 2) (j := 3) rfl sc__law_low.nd (qa_cons (q_var 3) (qa_cons (q_mod (q_var 2) (q_var 3)) (qa_nil)))))) (q_one (q_ret (q_tup (qa_cons (q_divN (q_var 0) (q_var 2)) (qa_cons (q_divN (q_var 1) (q_var 2)) (qa_nil)))))))
theorem ok__law_low (t : T K mg) : Fok P w K mg base 1 (He.ga K "_law_low") ["_law_top", "_law_bottom"] (sp0 K (p__law_low K)) :=
  fok0 (st := s__law_low) (N := N__law_low) (m := m__law_low K) t.d__law_low sc__law_low (fun _ _ _ _ _ _ us hl => match us, hl with | [_, _], _ => rfl) (fun ds Q E h => len__law_low h) (w__law_low t) (pure__law_low K)
def p__law_times (K : PySem.W.Frag) : P0 := fun ds Q E => match ds with
  | [p, q] => ∃ a b : Rat, p = fD a ∧ q = fD b ∧ Rb 4000 a ∧ Rb 4000 b ∧ Q (.va (fD (a * b)))
  | _ => False
theorem len__law_times {K : PySem.W.Frag} {ds : List D} {Q : Re → Prop} {E : Xc → Prop} (h : p__law_times K ds Q E) : ds.length = 2 := by
  unfold p__law_times at h; split at h <;> first | rfl | exact h.elim
def m__law_times (K : PySem.W.Frag) : MS := fun De ρ => (mRet (mCall (p__law_low K) (mConsA (mBin fMul (mBin fIxG (mVar 0) (mC (.int 0))) (mBin fIxG (mVar 1) (mC (.int 0)))) (mConsA (mBin fMul (mBin fIxG (mVar 0) (mC (.int 1))) (mBin fIxG (mVar 1) (mC (.int 1)))) (mNilA))))) De ρ
abbrev N__law_times : List Str := ["_law_one", "_law_other"]
theorem i__law_times (d0 d1 : D) : in0 N__law_times [d0, d1] = [some (.fz d0), some (.fz d1)] := rfl
theorem sc__law_times : FnScope N__law_times ["_law_one", "_law_other"] (defScope s__law_times) := ⟨rfl, rfl, rfl, by decide +kernel, rfl, by decide +kernel, by decide +kernel⟩
theorem pure__law_times (K : PySem.W.Frag) : ∀ ds Q E, p__law_times K ds Q E → m__law_times K (ends0 Q E) (in0 N__law_times ds) := by
  intro ds Q E h
  unfold p__law_times at h
  split at h
  · rename_i p q
    rw [i__law_times]
    obtain ⟨a, b, rfl, rfl, ha, hb, h⟩ := h
    simp only [↓SP, ↓SP2, ↓SP3, ↓SP4, ↓SQ5, ↓SQ6, ↓SQ7, ↓SB, ↓SB2, ↓SB3, ↓SB4, ↓SFD, SB, SB2, SB3, SB4, SO, SF, SW, SV, SX, SG, SH, SI, SQ, Int.reduceEq, Int.reduceLT, Int.reduceLE, Int.reduceToNat, Int.reducePow, Int.reduceNeg, Int.reduceSub, Int.reduceAdd, Int.reduceMul, Option.isSome_some, Option.isSome_none, eq_self, decide_true, decide_false, SBQ, SPL, SEE, SEC, SED, Bool.true_or, Bool.false_or, Bool.or_false, Bool.or_true, if_true, if_false, Bool.false_eq_true, reduceCtorEq, implies_true, Int.reduceNe, ne_eq, not_false_eq_true, ↓m__law_times, ↓p__law_low]
    refine ⟨ha.1.cmul hb.1 (by decide), ha.2.cmul hb.2 (by decide), (ha.2.mul hb.2).mono (by decide), ?_, fun q e => ?_⟩
    · have := a.den_pos; have := b.den_pos
      exact Int.mul_pos (by omega) (by omega)
    · subst e
      rw [← rat_mul]
      exact h
  · exact h.elim
theorem w__law_times (t : T K mg) (cdv : Value) (A : Around) (outer : List Env) (s : Shared) (H : Hp) (E : XK) (hr : Room 1 (A.deeper (envOfC "_law_times" (defScope s__law_times) s.heap.objs.size (He.ga K "_law_times") cdv))) : QSs (CxA P w K mg base N__law_times "_law_times" (defScope s__law_times) cdv A outer s H E) (wE E) (defBody s__law_times) (m__law_times K) :=
  show QSs _ (wE E) (defBody s__law_times) (mRet (mCall (p__law_low K) (mConsA (mBin fMul (mBin fIxG (mVar 0) (mC (.int 0))) (mBin fIxG (mVar 1) (mC (.int 0)))) (mConsA (mBin fMul (mBin fIxG (mVar 0) (mC (.int 1))) (mBin fIxG (mVar 1) (mC (.int 1)))) (mNilA))))) from
  q_one (q_ret (c_call (ok__law_low t) (hr.mono (by omega)) t.g__law_low (takes_of rfl rfl rfl rfl) (qa_cons (q_mul (q_ixG hr (q_var 0) (q_int)) (q_ixG hr (q_var 1) (q_int))) (qa_cons (q_mul (q_ixG hr (q_var 0) (q_int)) (q_ixG hr (q_var 1) (q_int))) (qa_nil)))))
theorem ok__law_times (t : T K mg) : Fok P w K mg base 2 (He.ga K "_law_times") ["_law_one", "_law_other"] (sp0 K (p__law_times K)) :=
  fok0 (st := s__law_times) (N := N__law_times) (m := m__law_times K) t.d__law_times sc__law_times (fun _ _ _ _ _ _ us hl => match us, hl with | [_, _], _ => rfl) (fun ds Q E h => len__law_times h) (w__law_times t) (pure__law_times K)
def p__law_side (K : PySem.W.Frag) : P1 := fun ds o Q E => match ds with
  | [.int f] => 0 < f ∧ ∃ k n, 6 ≤ k ∧ k ≤ 110 ∧ Bs k f ∧ Gd (n + 13) o ∧ ∀ (q : Rat) (o' : D), 0 < q → Rb k q → Gd n o' → Q (.va (fD q)) o'
  | _ => False
theorem len__law_side {K : PySem.W.Frag} {ds : List D} {o : D} {Q : Re → D → Prop} {E : Xc → D → Prop} (h : p__law_side K ds o Q E) : ds.length + 1 = 2 := by
  unfold p__law_side at h; split at h <;> first | rfl | exact h.elim
def k__law_side_4 (K : PySem.W.Frag) : MS := fun De ρ => (mRet (mCall (p__law_low K) (mConsA (mBin fAdd (mC (.int 1)) (mBin fMod (mCallO 0 (p__law_great K) (mConsA (mVar 0) (mConsA (mC (.int 6)) (mNilA)))) (mVar 1))) (mConsA (mBin fAdd (mC (.int 1)) (mBin fMod (mCallO 0 (p__law_great K) (mConsA (mVar 0) (mConsA (mC (.int 6)) (mNilA)))) (mVar 1))) (mNilA))))) De ρ
def k__law_side_3 (K : PySem.W.Frag) : MS := fun De ρ => (mSeq (mIf (mTest (mBin fEq (mVar 2) (mC (.int 3)))) (mRet (mCall (p__law_low K) (mConsA (mBin fAdd (mC (.int 1)) (mCallO 0 (p__law_draw K) (mConsA (mVar 0) (mConsA (mC (.int 60)) (mNilA))))) (mConsA (mBin fAdd (mC (.int 1)) (mCallO 0 (p__law_draw K) (mConsA (mVar 0) (mConsA (mC (.int 12)) (mNilA))))) (mNilA))))) (mNext)) (k__law_side_4 K)) De ρ
def k__law_side_2 (K : PySem.W.Frag) : MS := fun De ρ => (mSeq (mIf (mTest (mBin fEq (mVar 2) (mC (.int 2)))) (mRet (mTup (mConsA (mC (.int 1)) (mConsA (mC (.int 1)) (mNilA))))) (mNext)) (k__law_side_3 K)) De ρ
def k__law_side_1 (K : PySem.W.Frag) : MS := fun De ρ => (mSeq (mIf (mTest (mBin fLt (mVar 2) (mC (.int 2)))) (mRet (mTup (mConsA (mBin fAdd (mC (.int 1)) (mCallO 0 (p__law_draw K) (mConsA (mVar 0) (mConsA (mC (.int 12)) (mNilA))))) (mConsA (mC (.int 1)) (mNilA))))) (mNext)) (k__law_side_2 K)) De ρ
def m__law_side (K : PySem.W.Frag) : MS := fun De ρ => (mSeq (mSet 2 (mCallO 0 (p__law_draw K) (mConsA (mVar 0) (mConsA (mC (.int 5)) (mNilA))))) (k__law_side_1 K)) De ρ
abbrev N__law_side : List Str := ["_law_feed_here", "_law_far", "_law_way"]
theorem i__law_side (d0 : D) (o : D) : in1 N__law_side 0 [d0] o = [some (.ow o), some (.fz d0), none] := rfl
theorem sc__law_side : FnScope N__law_side ["_law_feed_here", "_law_far"] (defScope s__law_side) := ⟨rfl, rfl, rfl, by decide +kernel, rfl, by decide +kernel, by decide +kernel⟩
theorem pure__law_side (K : PySem.W.Frag) : ∀ ds o Q E, p__law_side K ds o Q E → m__law_side K (ends1 0 Q E) (in1 N__law_side 0 ds o) := by
  intro ds o Q E h
  unfold p__law_side at h
  split at h
  · rename_i f
    rw [i__law_side]
    obtain ⟨hf, k, n, k6, k1, hb, hF, h⟩ := h
    have one : fD 1 = .tup [.int 1, .int 1] := rfl
    have sm : ∀ x : Int, 0 < x → x ≤ 60 → Bs k x := fun x h1 h2 => Bs.mono (m := 6) (Bs.of_le (b := 60) (by omega) (by omega) (by decide)) k6
    have fin : ∀ (a b : Int) (o' : D), 0 < a → 0 < b → Bs k a → Bs k b → Gd n o' → Q (.va (fD (Rat.divInt a b))) o' := fun a b o' a0 b0 ha hb hF => h _ _ (divInt_gt a0 b0) (Rb.divInt ha hb (by omega)) hF
    simp only [↓SP, ↓SP2, ↓SP3, ↓SP4, ↓SQ5, ↓SQ6, ↓SQ7, ↓SB, ↓SB2, ↓SB3, ↓SB4, ↓SFD, SB, SB2, SB3, SB4, SO, SF, SW, SV, SX, SG, SH, SI, SQ, Int.reduceEq, Int.reduceLT, Int.reduceLE, Int.reduceToNat, Int.reducePow, Int.reduceNeg, Int.reduceSub, Int.reduceAdd, Int.reduceMul, Option.isSome_some, Option.isSome_none, eq_self, decide_true, decide_false, SBQ, SPL, SEE, SEC, SED, Bool.true_or, Bool.false_or, Bool.or_false, Bool.or_true, if_true, if_false, Bool.false_eq_true, reduceCtorEq, implies_true, Int.reduceNe, ne_eq, not_false_eq_true, ↓m__law_side, ↓k__law_side_4, ↓k__law_side_3, ↓k__law_side_2, ↓k__law_side_1, ↓p__law_draw, ↓p__law_low, ↓p__law_great]
    refine ⟨_, hF.mono (show (n + 12) + 1 ≤ _ by omega), fun w o1 w0 w1 hF => ?_⟩
    refine CI_d (fun hz => ?_) (fun hz => ?_)
    · simp only [↓SP, ↓SP2, ↓SP3, ↓SP4, ↓SQ5, ↓SQ6, ↓SQ7, ↓SB, ↓SB2, ↓SB3, ↓SB4, ↓SFD, SB, SB2, SB3, SB4, SO, SF, SW, SV, SX, SG, SH, SI, SQ, Int.reduceEq, Int.reduceLT, Int.reduceLE, Int.reduceToNat, Int.reducePow, Int.reduceNeg, Int.reduceSub, Int.reduceAdd, Int.reduceMul, Option.isSome_some, Option.isSome_none, eq_self, decide_true, decide_false, SBQ, SPL, SEE, SEC, SED, Bool.true_or, Bool.false_or, Bool.or_false, Bool.or_true, if_true, if_false, Bool.false_eq_true, reduceCtorEq, implies_true, Int.reduceNe, ne_eq, not_false_eq_true, ↓m__law_side, ↓k__law_side_4, ↓k__law_side_3, ↓k__law_side_2, ↓k__law_side_1, ↓p__law_draw, ↓p__law_low, ↓p__law_great]
      refine ⟨_, hF, fun a o2 a0 a1 hF => ?_⟩
      have := fin (1 + a) 1 o2 (by omega) (by decide) (sm _ (by omega) (by omega)) (sm _ (by decide) (by decide)) (hF.mono (by omega))
      have e := divInt_pos (t := 1 + a) (b := 1) (by decide)
      unfold fD at this
      rw [e.1, e.2, Int.gcd_one] at this
      simpa using this
    · simp only [↓SP, ↓SP2, ↓SP3, ↓SP4, ↓SQ5, ↓SQ6, ↓SQ7, ↓SB, ↓SB2, ↓SB3, ↓SB4, ↓SFD, SB, SB2, SB3, SB4, SO, SF, SW, SV, SX, SG, SH, SI, SQ, Int.reduceEq, Int.reduceLT, Int.reduceLE, Int.reduceToNat, Int.reducePow, Int.reduceNeg, Int.reduceSub, Int.reduceAdd, Int.reduceMul, Option.isSome_some, Option.isSome_none, eq_self, decide_true, decide_false, SBQ, SPL, SEE, SEC, SED, Bool.true_or, Bool.false_or, Bool.or_false, Bool.or_true, if_true, if_false, Bool.false_eq_true, reduceCtorEq, implies_true, Int.reduceNe, ne_eq, not_false_eq_true, ↓m__law_side, ↓k__law_side_4, ↓k__law_side_3, ↓k__law_side_2, ↓k__law_side_1, ↓p__law_draw, ↓p__law_low, ↓p__law_great]
      refine CI_d (fun hz => ?_) (fun hz => ?_)
      · simp only [↓SP, ↓SP2, ↓SP3, ↓SP4, ↓SQ5, ↓SQ6, ↓SQ7, ↓SB, ↓SB2, ↓SB3, ↓SB4, ↓SFD, SB, SB2, SB3, SB4, SO, SF, SW, SV, SX, SG, SH, SI, SQ, Int.reduceEq, Int.reduceLT, Int.reduceLE, Int.reduceToNat, Int.reducePow, Int.reduceNeg, Int.reduceSub, Int.reduceAdd, Int.reduceMul, Option.isSome_some, Option.isSome_none, eq_self, decide_true, decide_false, SBQ, SPL, SEE, SEC, SED, Bool.true_or, Bool.false_or, Bool.or_false, Bool.or_true, if_true, if_false, Bool.false_eq_true, reduceCtorEq, implies_true, Int.reduceNe, ne_eq, not_false_eq_true, ↓m__law_side, ↓k__law_side_4, ↓k__law_side_3, ↓k__law_side_2, ↓k__law_side_1, ↓p__law_draw, ↓p__law_low, ↓p__law_great]
        rw [← one]
        exact h 1 _ (by decide) ⟨sm _ (by decide) (by decide), sm _ (by decide) (by decide)⟩ (hF.mono (by omega))
      · simp only [↓SP, ↓SP2, ↓SP3, ↓SP4, ↓SQ5, ↓SQ6, ↓SQ7, ↓SB, ↓SB2, ↓SB3, ↓SB4, ↓SFD, SB, SB2, SB3, SB4, SO, SF, SW, SV, SX, SG, SH, SI, SQ, Int.reduceEq, Int.reduceLT, Int.reduceLE, Int.reduceToNat, Int.reducePow, Int.reduceNeg, Int.reduceSub, Int.reduceAdd, Int.reduceMul, Option.isSome_some, Option.isSome_none, eq_self, decide_true, decide_false, SBQ, SPL, SEE, SEC, SED, Bool.true_or, Bool.false_or, Bool.or_false, Bool.or_true, if_true, if_false, Bool.false_eq_true, reduceCtorEq, implies_true, Int.reduceNe, ne_eq, not_false_eq_true, ↓m__law_side, ↓k__law_side_4, ↓k__law_side_3, ↓k__law_side_2, ↓k__law_side_1, ↓p__law_draw, ↓p__law_low, ↓p__law_great]
        refine CI_d (fun hz => ?_) (fun hz => ?_)
        · simp only [↓SP, ↓SP2, ↓SP3, ↓SP4, ↓SQ5, ↓SQ6, ↓SQ7, ↓SB, ↓SB2, ↓SB3, ↓SB4, ↓SFD, SB, SB2, SB3, SB4, SO, SF, SW, SV, SX, SG, SH, SI, SQ, Int.reduceEq, Int.reduceLT, Int.reduceLE, Int.reduceToNat, Int.reducePow, Int.reduceNeg, Int.reduceSub, Int.reduceAdd, Int.reduceMul, Option.isSome_some, Option.isSome_none, eq_self, decide_true, decide_false, SBQ, SPL, SEE, SEC, SED, Bool.true_or, Bool.false_or, Bool.or_false, Bool.or_true, if_true, if_false, Bool.false_eq_true, reduceCtorEq, implies_true, Int.reduceNe, ne_eq, not_false_eq_true, ↓m__law_side, ↓k__law_side_4, ↓k__law_side_3, ↓k__law_side_2, ↓k__law_side_1, ↓p__law_draw, ↓p__law_low, ↓p__law_great]
          refine ⟨_, hF, fun a o2 a0 a1 hF => ⟨_, hF, fun b o3 b0 b1 hF => ?_⟩⟩
          refine ⟨(sm _ (by omega) (by omega)).mono (by omega), by omega, fun q e => ?_⟩
          subst e
          exact fin _ _ _ (by omega) (by omega) (sm _ (by omega) (by omega)) (sm _ (by omega) (by omega)) (hF.mono (by omega))
        · simp only [↓SP, ↓SP2, ↓SP3, ↓SP4, ↓SQ5, ↓SQ6, ↓SQ7, ↓SB, ↓SB2, ↓SB3, ↓SB4, ↓SFD, SB, SB2, SB3, SB4, SO, SF, SW, SV, SX, SG, SH, SI, SQ, Int.reduceEq, Int.reduceLT, Int.reduceLE, Int.reduceToNat, Int.reducePow, Int.reduceNeg, Int.reduceSub, Int.reduceAdd, Int.reduceMul, Option.isSome_some, Option.isSome_none, eq_self, decide_true, decide_false, SBQ, SPL, SEE, SEC, SED, Bool.true_or, Bool.false_or, Bool.or_false, Bool.or_true, if_true, if_false, Bool.false_eq_true, reduceCtorEq, implies_true, Int.reduceNe, ne_eq, not_false_eq_true, ↓m__law_side, ↓k__law_side_4, ↓k__law_side_3, ↓k__law_side_2, ↓k__law_side_1, ↓p__law_draw, ↓p__law_low, ↓p__law_great]
          refine ⟨n + 6, hF, fun a o2 a0 hF => ⟨hf, n, hF, fun b o3 b0 hF => ⟨hf, ?_⟩⟩⟩
          have md : ∀ x : Int, 0 < 1 + x % f ∧ Bs k (1 + x % f) := fun x => by
            have e1 := Int.emod_nonneg x (b := f) (by omega)
            have e2 := Int.emod_lt_of_pos x hf
            have := hb.lt
            exact ⟨by omega, Bs.of_lt (by omega) (by omega)⟩
          refine ⟨(md b).2.mono (by omega), (md b).1, fun q e => ?_⟩
          subst e
          exact fin _ _ _ (md a).1 (md b).1 (md a).2 (md b).2 hF
  · exact h.elim
theorem w__law_side (t : T K mg) (cdv : Value) (A : Around) (outer : List Env) (s : Shared) (H : Hp) (E : XK) (hr : Room 2 (A.deeper (envOfC "_law_side" (defScope s__law_side) s.heap.objs.size (He.ga K "_law_side") cdv))) : QSs (CxA P w K mg base N__law_side "_law_side" (defScope s__law_side) cdv A outer s H E) (wE E) (defBody s__law_side) (m__law_side K) :=
  show QSs _ (wE E) (defBody s__law_side) (mSeq (mSet 2 (mCallO 0 (p__law_draw K) (mConsA (mVar 0) (mConsA (mC (.int 5)) (mNilA))))) (mSeq (mIf (mTest (mBin fLt (mVar 2) (mC (.int 2)))) (mRet (mTup (mConsA (mBin fAdd (mC (.int 1)) (mCallO 0 (p__law_draw K) (mConsA (mVar 0) (mConsA (mC (.int 12)) (mNilA))))) (mConsA (mC (.int 1)) (mNilA))))) (mNext)) (mSeq (mIf (mTest (mBin fEq (mVar 2) (mC (.int 2)))) (mRet (mTup (mConsA (mC (.int 1)) (mConsA (mC (.int 1)) (mNilA))))) (mNext)) (mSeq (mIf (mTest (mBin fEq (mVar 2) (mC (.int 3)))) (mRet (mCall (p__law_low K) (mConsA (mBin fAdd (mC (.int 1)) (mCallO 0 (p__law_draw K) (mConsA (mVar 0) (mConsA (mC (.int 60)) (mNilA))))) (mConsA (mBin fAdd (mC (.int 1)) (mCallO 0 (p__law_draw K) (mConsA (mVar 0) (mConsA (mC (.int 12)) (mNilA))))) (mNilA))))) (mNext)) (mRet (mCall (p__law_low K) (mConsA (mBin fAdd (mC (.int 1)) (mBin fMod (mCallO 0 (p__law_great K) (mConsA (mVar 0) (mConsA (mC (.int 6)) (mNilA)))) (mVar 1))) (mConsA (mBin fAdd (mC (.int 1)) (mBin fMod (mCallO 0 (p__law_great K) (mConsA (mVar 0) (mConsA (mC (.int 6)) (mNilA)))) (mVar 1))) (mNilA))))))))) from
  q_cons (q_set (i := 2) sc__law_side.nd (c_callO (ok__law_draw t) (hr.mono (by omega)) t.g__law_draw (takes_of rfl rfl rfl rfl) (qa_cons (q_var 0) (qa_cons (q_int) (qa_nil))))) (q_cons (q_if (q_tlt (q_var 2) (q_int)) (q_one (q_ret (q_tup (qa_cons (q_add (q_int) (c_callO (ok__law_draw t) (hr.mono (by omega)) t.g__law_draw (takes_of rfl rfl rfl rfl) (qa_cons (q_var 0) (qa_cons (q_int) (qa_nil))))) (qa_cons (q_int) (qa_nil)))))) (q_nil)) (q_cons (q_if (q_teq hr (q_var 2) (q_int)) (q_one (q_ret (q_tup (qa_cons (q_int) (qa_cons (q_int) (qa_nil)))))) (q_nil)) (q_cons (q_if (q_teq hr (q_var 2) (q_int)) (q_one (q_ret (c_call (ok__law_low t) (hr.mono (by omega)) t.g__law_low (takes_of rfl rfl rfl rfl) (qa_cons (q_add (q_int) (c_callO (ok__law_draw t) (hr.mono (by omega)) t.g__law_draw (takes_of rfl rfl rfl rfl) (qa_cons (q_var 0) (qa_cons (q_int) (qa_nil))))) (qa_cons (q_add (q_int) (c_callO (ok__law_draw t) (hr.mono (by omega)) t.g__law_draw (takes_of rfl rfl rfl rfl) (qa_cons (q_var 0) (qa_cons (q_int) (qa_nil))))) (qa_nil)))))) (q_nil)) (q_one (q_ret (c_call (ok__law_low t) (hr.mono (by omega)) t.g__law_low (takes_of rfl rfl rfl rfl) (qa_cons (q_add (q_int) (q_mod (c_callO (ok__law_great t) (hr.mono (by omega)) t.g__law_great (takes_of rfl rfl rfl rfl) (qa_cons (q_var 0) (qa_cons (q_int) (qa_nil)))) (q_var 1))) (qa_cons (q_add (q_int) (q_mod (c_callO (ok__law_great t) (hr.mono (by omega)) t.g__law_great (takes_of rfl rfl rfl rfl) (qa_cons (q_var 0) (qa_cons (q_int) (qa_nil)))) (q_var 1))) (qa_nil)))))))))
theorem ok__law_side (t : T K mg) : Fok P w K mg base 3 (He.ga K "_law_side") ["_law_feed_here", "_law_far"] (sp1 K 0 (p__law_side K)) :=
  fok1 (st := s__law_side) (N := N__law_side) (j := 0) (m := m__law_side K) t.d__law_side sc__law_side (fun _ _ _ _ _ _ us hl => match us, hl with | [_, _], _ => rfl) (fun ds o Q E h => len__law_side h) (w__law_side t) (pure__law_side K)
def p__law_divisor (K : PySem.W.Frag) : P0 := fun ds Q E => match ds with
  | [.int a, .int b] => 0 ≤ a ∧ 0 ≤ b ∧ Q (.va (.int (Int.gcd a b : Nat)))
  | _ => False
theorem len__law_divisor {K : PySem.W.Frag} {ds : List D} {Q : Re → Prop} {E : Xc → Prop} (h : p__law_divisor K ds Q E) : ds.length = 2 := by
  unfold p__law_divisor at h; split at h <;> first | rfl | exact h.elim
def c__law_divisor_1 (K : PySem.W.Frag) : MT := fun ρ Q E => (mTest (mBin fGt (mVar 1) (mC (.int 0)))) ρ Q E
def b__law_divisor_2 (K : PySem.W.Frag) : MS := fun De ρ => (mPar 0 1 (mConsA (mVar 1) (mConsA (mBin fMod (mVar 0) (mVar 1)) (mNilA)))) De ρ
def k__law_divisor_1 (K : PySem.W.Frag) : MS := fun De ρ => (mRet (mVar 0)) De ρ
def m__law_divisor (K : PySem.W.Frag) : MS := fun De ρ => (mSeq (mWhile (c__law_divisor_1 K) (b__law_divisor_2 K)) (k__law_divisor_1 K)) De ρ
abbrev N__law_divisor : List Str := ["_law_one", "_law_other"]
theorem i__law_divisor (d0 d1 : D) : in0 N__law_divisor [d0, d1] = [some (.fz d0), some (.fz d1)] := rfl
theorem sc__law_divisor : FnScope N__law_divisor ["_law_one", "_law_other"] (defScope s__law_divisor) := ⟨rfl, rfl, rfl, by decide +kernel, rfl, by decide +kernel, by decide +kernel⟩
theorem pure__law_divisor (K : PySem.W.Frag) : ∀ ds Q E, p__law_divisor K ds Q E → m__law_divisor K (ends0 Q E) (in0 N__law_divisor ds) := by
  intro ds Q E h
  unfold p__law_divisor at h
  split at h
  · rename_i a b
    rw [i__law_divisor]
    obtain ⟨ha, hb, h⟩ := h
    simp only [↓SP, ↓SP2, ↓SP3, ↓SP4, ↓SQ5, ↓SQ6, ↓SQ7, ↓SB, ↓SB2, ↓SB3, ↓SB4, ↓SFD, SB, SB2, SB3, SB4, SO, SF, SW, SV, SX, SG, SH, SI, SQ, Int.reduceEq, Int.reduceLT, Int.reduceLE, Int.reduceToNat, Int.reducePow, Int.reduceNeg, Int.reduceSub, Int.reduceAdd, Int.reduceMul, Option.isSome_some, Option.isSome_none, eq_self, decide_true, decide_false, SBQ, SPL, SEE, SEC, SED, Bool.true_or, Bool.false_or, Bool.or_false, Bool.or_true, if_true, if_false, Bool.false_eq_true, reduceCtorEq, implies_true, Int.reduceNe, ne_eq, not_false_eq_true, ↓m__law_divisor, ↓c__law_divisor_1, ↓b__law_divisor_2, ↓k__law_divisor_1]
    refine ⟨fun n ρ => ∃ x y : Nat, ρ = [some (.fz (.int x)), some (.fz (.int y))] ∧ n = y ∧ Nat.gcd x y = Int.gcd a b, ⟨b.natAbs, a.natAbs, b.natAbs, ?_, rfl, rfl⟩, ?_⟩
    · rw [show ((b.natAbs : Nat) : Int) = b by omega, show ((a.natAbs : Nat) : Int) = a by omega]
    rintro n ρ ⟨x, y, rfl, rfl, e⟩
    simp only [↓SP, ↓SP2, ↓SP3, ↓SP4, ↓SQ5, ↓SQ6, ↓SQ7, ↓SB, ↓SB2, ↓SB3, ↓SB4, ↓SFD, SB, SB2, SB3, SB4, SO, SF, SW, SV, SX, SG, SH, SI, SQ, Int.reduceEq, Int.reduceLT, Int.reduceLE, Int.reduceToNat, Int.reducePow, Int.reduceNeg, Int.reduceSub, Int.reduceAdd, Int.reduceMul, Option.isSome_some, Option.isSome_none, eq_self, decide_true, decide_false, SBQ, SPL, SEE, SEC, SED, Bool.true_or, Bool.false_or, Bool.or_false, Bool.or_true, if_true, if_false, Bool.false_eq_true, reduceCtorEq, implies_true, Int.reduceNe, ne_eq, not_false_eq_true, ↓m__law_divisor, ↓c__law_divisor_1, ↓b__law_divisor_2, ↓k__law_divisor_1]
    refine CI_d (fun hn => ?_) (fun hn => ?_)
    · simp only [↓SP, ↓SP2, ↓SP3, ↓SP4, ↓SQ5, ↓SQ6, ↓SQ7, ↓SB, ↓SB2, ↓SB3, ↓SB4, ↓SFD, SB, SB2, SB3, SB4, SO, SF, SW, SV, SX, SG, SH, SI, SQ, Int.reduceEq, Int.reduceLT, Int.reduceLE, Int.reduceToNat, Int.reducePow, Int.reduceNeg, Int.reduceSub, Int.reduceAdd, Int.reduceMul, Option.isSome_some, Option.isSome_none, eq_self, decide_true, decide_false, SBQ, SPL, SEE, SEC, SED, Bool.true_or, Bool.false_or, Bool.or_false, Bool.or_true, if_true, if_false, Bool.false_eq_true, reduceCtorEq, implies_true, Int.reduceNe, ne_eq, not_false_eq_true, ↓m__law_divisor, ↓c__law_divisor_1, ↓b__law_divisor_2, ↓k__law_divisor_1]
      refine ⟨hn, x % n, Nat.mod_lt _ (by omega), n, x % n, by simp, rfl, ?_⟩
      rw [← e, Nat.gcd_comm x n, Nat.gcd_rec n x, Nat.gcd_comm]
    · simp only [↓SP, ↓SP2, ↓SP3, ↓SP4, ↓SQ5, ↓SQ6, ↓SQ7, ↓SB, ↓SB2, ↓SB3, ↓SB4, ↓SFD, SB, SB2, SB3, SB4, SO, SF, SW, SV, SX, SG, SH, SI, SQ, Int.reduceEq, Int.reduceLT, Int.reduceLE, Int.reduceToNat, Int.reducePow, Int.reduceNeg, Int.reduceSub, Int.reduceAdd, Int.reduceMul, Option.isSome_some, Option.isSome_none, eq_self, decide_true, decide_false, SBQ, SPL, SEE, SEC, SED, Bool.true_or, Bool.false_or, Bool.or_false, Bool.or_true, if_true, if_false, Bool.false_eq_true, reduceCtorEq, implies_true, Int.reduceNe, ne_eq, not_false_eq_true, ↓m__law_divisor, ↓c__law_divisor_1, ↓b__law_divisor_2, ↓k__law_divisor_1]
      have hy : n = 0 := by omega
      subst hy
      rw [Nat.gcd_zero_right] at e
      subst e
      exact h
  · exact h.elim
theorem w__law_divisor (t : T K mg) (cdv : Value) (A : Around) (outer : List Env) (s : Shared) (H : Hp) (E : XK) (hr : Room 0 (A.deeper (envOfC "_law_divisor" (defScope s__law_divisor) s.heap.objs.size (He.ga K "_law_divisor") cdv))) : QSs (CxA P w K mg base N__law_divisor "_law_divisor" (defScope s__law_divisor) cdv A outer s H E) (wE E) (defBody s__law_divisor) (m__law_divisor K) :=
  show QSs _ (wE E) (defBody s__law_divisor) (mSeq (mWhile (mTest (mBin fGt (mVar 1) (mC (.int 0)))) (mPar 0 1 (mConsA (mVar 1) (mConsA (mBin fMod (mVar 0) (mVar 1)) (mNilA))))) (mRet (mVar 0))) from
  q_cons (q_while (passes_of rfl) (q_tgt (q_var 1) (q_int)) (q_one (q_par (i := 0) (j := 1) rfl sc__law_divisor.nd (qa_cons (q_var 1) (qa_cons (q_mod (q_var 0) (q_var 1)) (qa_nil)))))) (q_one (q_ret (q_var 0)))
theorem ok__law_divisor (t : T K mg) : Fok P w K mg base 1 (He.ga K "_law_divisor") ["_law_one", "_law_other"] (sp0 K (p__law_divisor K)) :=
  fok0 (st := s__law_divisor) (N := N__law_divisor) (m := m__law_divisor K) t.d__law_divisor sc__law_divisor (fun _ _ _ _ _ _ us hl => match us, hl with | [_, _], _ => rfl) (fun ds Q E h => len__law_divisor h) (w__law_divisor t) (pure__law_divisor K)
def p__law_box (K : PySem.W.Frag) : P1 := fun ds o Q E => match ds with
  | [.int f] => 0 < f ∧ ∃ k n, 6 ≤ k ∧ k ≤ 110 ∧ Bs k f ∧ Gd (n + 30) o ∧ ∀ (b : Bx) (o' : D), Rb 6 b.l → Rb 6 b.t → Rb k b.w → Rb k b.h → Gd n o' → Q (.va (bD b)) o'
  | _ => False
theorem len__law_box {K : PySem.W.Frag} {ds : List D} {o : D} {Q : Re → D → Prop} {E : Xc → D → Prop} (h : p__law_box K ds o Q E) : ds.length + 1 = 2 := by
  unfold p__law_box at h; split at h <;> first | rfl | exact h.elim
def e__law_box_1 (K : PySem.W.Frag) : MX := fun ρ Q E => (mCall (p__law_low K) (mConsA (mBin fSub (mCallO 0 (p__law_draw K) (mConsA (mVar 0) (mConsA (mC (.int 41)) (mNilA)))) (mC (.int 20))) (mConsA (mBin fAdd (mC (.int 1)) (mCallO 0 (p__law_draw K) (mConsA (mVar 0) (mConsA (mC (.int 9)) (mNilA))))) (mNilA)))) ρ Q E
def k__law_box_1 (K : PySem.W.Frag) : MS := fun De ρ => (mRet (mTup (mConsA (mVar 2) (mConsA (mVar 3) (mConsA (mCallO 0 (p__law_side K) (mConsA (mVar 0) (mConsA (mVar 1) (mNilA)))) (mConsA (mCallO 0 (p__law_side K) (mConsA (mVar 0) (mConsA (mVar 1) (mNilA)))) (mNilA))))))) De ρ
def m__law_box (K : PySem.W.Frag) : MS := fun De ρ => (mSeq (mAsg (mLc (mRng1 (mConsA (mC (.int 2)) (mNilA))) (gNm 4) mYes (e__law_box_1 K) [4]) (gTpL 2 (gsCons (gNm 2) (gsCons (gNm 3) (gsNil))))) (k__law_box_1 K)) De ρ
abbrev N__law_box : List Str := ["_law_feed_here", "_law_far", "_law_left", "_law_top", "_law_k"]
theorem i__law_box (d0 : D) (o : D) : in1 N__law_box 0 [d0] o = [some (.ow o), some (.fz d0), none, none, none] := rfl
theorem sc__law_box : FnScope N__law_box ["_law_feed_here", "_law_far"] (defScope s__law_box) := ⟨rfl, rfl, rfl, by decide +kernel, rfl, by decide +kernel, by decide +kernel⟩
theorem pure__law_box (K : PySem.W.Frag) : ∀ ds o Q E, p__law_box K ds o Q E → m__law_box K (ends1 0 Q E) (in1 N__law_box 0 ds o) := by
  intro ds o Q E h
  unfold p__law_box at h
  split at h
  · rename_i f
    rw [i__law_box]
    obtain ⟨hf, k, n, k6, k1, hb, hF, h⟩ := h
    have sm : ∀ a b : Int, 0 ≤ a → a < 41 → 0 ≤ b → b < 9 → Rb 6 (Rat.divInt (a - 20) (1 + b)) ∧ Bs 8990 (1 + b) := fun a b h1 h2 h3 h4 => ⟨Rb.divInt (Bs.of_le (b := 60) (by omega) (by omega) (by decide)) (Bs.of_le (b := 60) (by omega) (by omega) (by decide)) (by omega), Bs.mono (m := 6) (Bs.of_le (b := 60) (by omega) (by omega) (by decide)) (by decide)⟩
    simp only [↓SP, ↓SP2, ↓SP3, ↓SP4, ↓SQ5, ↓SQ6, ↓SQ7, ↓SB, ↓SB2, ↓SB3, ↓SB4, ↓SFD, SB, SB2, SB3, SB4, SO, SF, SW, SV, SX, SG, SH, SI, SQ, Int.reduceEq, Int.reduceLT, Int.reduceLE, Int.reduceToNat, Int.reducePow, Int.reduceNeg, Int.reduceSub, Int.reduceAdd, Int.reduceMul, Option.isSome_some, Option.isSome_none, eq_self, decide_true, decide_false, SBQ, SPL, SEE, SEC, SED, Bool.true_or, Bool.false_or, Bool.or_false, Bool.or_true, if_true, if_false, Bool.false_eq_true, reduceCtorEq, implies_true, Int.reduceNe, ne_eq, not_false_eq_true, ↓m__law_box, ↓e__law_box_1, ↓k__law_box_1, ↓p__law_low, ↓p__law_side, ↓p__law_draw, LC_c, LC_n]
    refine ⟨_, hF.mono (show (n + 29) + 1 ≤ _ by omega), fun a o1 a0 a1 hF => ⟨_, hF, fun b o2 b0 b1 hF => ⟨(sm a b a0 a1 b0 b1).2, by omega, fun p ep => ⟨_, hF, fun c o3 c0 c1 hF => ⟨_, hF, fun d o4 d0 d1 hF => ⟨(sm c d c0 c1 d0 d1).2, by omega, fun q eq => ?_⟩⟩⟩⟩⟩⟩
    have hp := (sm a b a0 a1 b0 b1).1
    have hq := (sm c d c0 c1 d0 d1).1
    rw [← ep] at hp
    rw [← eq] at hq
    refine ⟨hf, k, n + 13, k6, k1, hb, hF.mono (by omega), fun w o5 w0 hw hF => ⟨hf, k, n, k6, k1, hb, hF, fun v o6 v0 hv hF => ?_⟩⟩
    exact h ⟨p, q, w, v, w0, v0⟩ _ hp hq hw hv hF
  · exact h.elim
theorem w__law_box (t : T K mg) (cdv : Value) (A : Around) (outer : List Env) (s : Shared) (H : Hp) (E : XK) (hr : Room 3 (A.deeper (envOfC "_law_box" (defScope s__law_box) s.heap.objs.size (He.ga K "_law_box") cdv))) : QSs (CxA P w K mg base N__law_box "_law_box" (defScope s__law_box) cdv A outer s H E) (wE E) (defBody s__law_box) (m__law_box K) :=
  show QSs _ (wE E) (defBody s__law_box) (mSeq (mAsg (mLc (mRng1 (mConsA (mC (.int 2)) (mNilA))) (gNm 4) mYes (mCall (p__law_low K) (mConsA (mBin fSub (mCallO 0 (p__law_draw K) (mConsA (mVar 0) (mConsA (mC (.int 41)) (mNilA)))) (mC (.int 20))) (mConsA (mBin fAdd (mC (.int 1)) (mCallO 0 (p__law_draw K) (mConsA (mVar 0) (mConsA (mC (.int 9)) (mNilA))))) (mNilA)))) [4]) (gTpL 2 (gsCons (gNm 2) (gsCons (gNm 3) (gsNil))))) (mRet (mTup (mConsA (mVar 2) (mConsA (mVar 3) (mConsA (mCallO 0 (p__law_side K) (mConsA (mVar 0) (mConsA (mVar 1) (mNilA)))) (mConsA (mCallO 0 (p__law_side K) (mConsA (mVar 0) (mConsA (mVar 1) (mNilA)))) (mNilA)))))))) from
  q_cons (q_asg (q_lc (own := [("_law_k", 4)]) rfl sc__law_box.nd (qi_rng1 t.f_range (qa_cons (q_int) (qa_nil))) (blkOk_by (N := N__law_box) (sc := defScope s__law_box) (by decide +kernel)) (fun _ _ _ _ _ => g_name (i := 4) sc__law_box.nd) (fun _ _ _ _ _ => qts_nil) (fun _ _ _ _ _ => c_call (ok__law_low t) (hr.mono (by omega)) t.g__law_low takes_wN (qa_cons (q_sub (c_callO (ok__law_draw t) (hr.mono (by omega)) t.g__law_draw takes_wN (qa_cons (q_var 0) (qa_cons (q_int) (qa_nil)))) (q_int)) (qa_cons (q_add (q_int) (c_callO (ok__law_draw t) (hr.mono (by omega)) t.g__law_draw takes_wN (qa_cons (q_var 0) (qa_cons (q_int) (qa_nil))))) (qa_nil))))) (g_tupL (n := 2) rfl (gs_cons (g_name (i := 2) sc__law_box.nd) (gs_cons (g_name (i := 3) sc__law_box.nd) (gs_nil))))) (q_one (q_ret (q_tup (qa_cons (q_var 2) (qa_cons (q_var 3) (qa_cons (c_callO (ok__law_side t) (hr.mono (by omega)) t.g__law_side (takes_of rfl rfl rfl rfl) (qa_cons (q_var 0) (qa_cons (q_var 1) (qa_nil)))) (qa_cons (c_callO (ok__law_side t) (hr.mono (by omega)) t.g__law_side (takes_of rfl rfl rfl rfl) (qa_cons (q_var 0) (qa_cons (q_var 1) (qa_nil)))) (qa_nil))))))))
theorem ok__law_box (t : T K mg) : Fok P w K mg base 4 (He.ga K "_law_box") ["_law_feed_here", "_law_far"] (sp1 K 0 (p__law_box K)) :=
  fok1 (st := s__law_box) (N := N__law_box) (j := 0) (m := m__law_box K) t.d__law_box sc__law_box (fun _ _ _ _ _ _ us hl => match us, hl with | [_, _], _ => rfl) (fun ds o Q E h => len__law_box h) (w__law_box t) (pure__law_box K)
def p_law (K : PySem.W.Frag) : P0 := fun ds Q E => match ds with
  | [.scr ns] => ns.length ≤ 63 ∧ Q (.va (.bl true))
  | _ => False
theorem len_law {K : PySem.W.Frag} {ds : List D} {Q : Re → Prop} {E : Xc → Prop} (h : p_law K ds Q E) : ds.length = 1 := by
  unfold p_law at h; split at h <;> first | rfl | exact h.elim
def j_law_2_1 (K : PySem.W.Frag) : MS := fun De ρ => (mIf (mTest (mBin fEq (mCallO 0 (p__law_draw K) (mConsA (mVar 1) (mConsA (mC (.int 5)) (mNilA)))) (mC (.int 0)))) (mSetG 5 (mNeg (mC (.int 1))) (mBin fIxG (mVar 5) (mCallO 0 (p__law_draw K) (mConsA (mVar 1) (mConsA (mBin fAdd (mVar 6) (mC (.int 1))) (mNilA)))))) (mNext)) De ρ
def b_law_1 (K : PySem.W.Frag) : MS := fun De ρ => (mSeq (mExpr (mMth 5 "list" fAppend (mConsA (mCallO 0 (p__law_box K) (mConsA (mVar 1) (mConsA (mVar 3) (mNilA)))) (mNilA)))) (j_law_2_1 K)) De ρ
def e_law_2 (K : PySem.W.Frag) : MX := fun ρ Q E => (mOrV (mCallB (fIsi K) (mConsA (mVar 11) (mConsA (mC (.ty "bool")) (mNilA)))) (mOrV (mNotV (mCallB (fIsi K) (mConsA (mVar 11) (mConsA (mC (.ty "int")) (mNilA))))) (mBin fLt (mVar 11) (mC (.int 1))))) ρ Q E
def e_law_3 (K : PySem.W.Frag) : MX := fun ρ Q E => (mCall (p__law_times K) (mConsA (mBin fIxG (mVar 14) (mC (.int 2))) (mConsA (mBin fIxG (mVar 14) (mC (.int 3))) (mNilA)))) ρ Q E
def j_law_3_1 (K : PySem.W.Frag) : MS := fun De ρ => (mSet 10 (mCall (p__law_divisor K) (mConsA (mVar 10) (mConsA (mVar 11) (mNilA))))) De ρ
def b_law_4 (K : PySem.W.Frag) : MS := fun De ρ => (mSeq (mIf (mTest (mBin fNe (mBin fMul (mBin fMul (mVar 11) (mBin fIxG (mBin fIxG (mVar 9) (mC (.int 0))) (mC (.int 0)))) (mBin fIxG (mVar 12) (mC (.int 1)))) (mBin fMul (mBin fMul (mBin fIxG (mVar 8) (mC (.int 0))) (mBin fIxG (mVar 12) (mC (.int 0)))) (mBin fIxG (mBin fIxG (mVar 9) (mC (.int 0))) (mC (.int 1)))))) (mRet (mC (.bl false))) (mNext)) (j_law_3_1 K)) De ρ
def j_law_1_17 (K : PySem.W.Frag) : MS := fun De ρ => (mIf (mTest (mBin fNe (mCallW (p_weights_back K) (mConsA (mVar 7) (mNilA))) (mCall (p_weights_back K) (mConsA (mCallB fList (mConsA (mVar 5) (mNilA))) (mNilA))))) (mRet (mC (.bl false))) (mNext)) De ρ
def j_law_1_16 (K : PySem.W.Frag) : MS := fun De ρ => (mSeq (mSetAll 7 (mVar 5)) (j_law_1_17 K)) De ρ
def j_law_1_15 (K : PySem.W.Frag) : MS := fun De ρ => (mSeq (mSetG 5 (mCallO 0 (p__law_draw K) (mConsA (mVar 1) (mConsA (mVar 4) (mNilA)))) (mCallO 0 (p__law_box K) (mConsA (mVar 1) (mConsA (mVar 3) (mNilA))))) (j_law_1_16 K)) De ρ
def j_law_1_14 (K : PySem.W.Frag) : MS := fun De ρ => (mSeq (mIf (mTest (mBin fNe (mCallW (p_weights_back K) (mConsA (mVar 7) (mNilA))) (mVar 13))) (mRet (mC (.bl false))) (mNext)) (j_law_1_15 K)) De ρ
def j_law_1_13 (K : PySem.W.Frag) : MS := fun De ρ => (mSeq (mExpr (mMth 8 "list" fAppend (mConsA (mC (.int 0)) (mNilA)))) (j_law_1_14 K)) De ρ
def j_law_1_12 (K : PySem.W.Frag) : MS := fun De ρ => (mSeq (mSet 13 (mCallB fList (mConsA (mVar 8) (mNilA)))) (j_law_1_13 K)) De ρ
def j_law_1_11 (K : PySem.W.Frag) : MS := fun De ρ => (mSeq (mIf (mTest (mBin fNe (mVar 10) (mC (.int 1)))) (mRet (mC (.bl false))) (mNext)) (j_law_1_12 K)) De ρ
def j_law_1_10 (K : PySem.W.Frag) : MS := fun De ρ => (mSeq (mForZ 8 (mVar 9) (gTp 2 (gsCons (gNm 11) (gsCons (gNm 12) (gsNil)))) (b_law_4 K)) (j_law_1_11 K)) De ρ
def j_law_1_9 (K : PySem.W.Frag) : MS := fun De ρ => (mSeq (mSet 10 (mC (.int 0))) (j_law_1_10 K)) De ρ
def j_law_1_8 (K : PySem.W.Frag) : MS := fun De ρ => (mSeq (mSet 9 (mLcO 5 (gNm 14) mYes (e_law_3 K) [14])) (j_law_1_9 K)) De ρ
def j_law_1_7 (K : PySem.W.Frag) : MS := fun De ρ => (mSeq (mIf (mTest (mCallB fAny (mConsA (mLcO 8 (gNm 11) mYes (e_law_2 K) [11]) (mNilA)))) (mRet (mC (.bl false))) (mNext)) (j_law_1_8 K)) De ρ
def j_law_1_6 (K : PySem.W.Frag) : MS := fun De ρ => (mSeq (mIf (mOr (mNot (mTest (mCallB (fIsi K) (mConsA (mVar 8) (mConsA (mC (.ty "list")) (mNilA)))))) (mOr (mTest (mBin fNe (mCallB fLenG (mConsA (mVar 8) (mNilA))) (mVar 4))) (mTest (mBin fNe (mVar 7) (mVar 5))))) (mRet (mC (.bl false))) (mNext)) (j_law_1_7 K)) De ρ
def j_law_1_5 (K : PySem.W.Frag) : MS := fun De ρ => (mSeq (mSet 8 (mCallW (p_weights_back K) (mConsA (mVar 7) (mNilA)))) (j_law_1_6 K)) De ρ
def j_law_1_4 (K : PySem.W.Frag) : MS := fun De ρ => (mSeq (mSet 7 (mCallB fList (mConsA (mVar 5) (mNilA)))) (j_law_1_5 K)) De ρ
def j_law_1_3 (K : PySem.W.Frag) : MS := fun De ρ => (mSeq (mFor (mRng1 (mConsA (mVar 4) (mNilA))) (gNm 6) (b_law_1 K)) (j_law_1_4 K)) De ρ
def j_law_1_2 (K : PySem.W.Frag) : MS := fun De ρ => (mSeq (mSet 5 (mLst (mNilA))) (j_law_1_3 K)) De ρ
def j_law_1_1 (K : PySem.W.Frag) : MS := fun De ρ => (mSeq (mIf (mTest (mBin fEq (mCallO 0 (p__law_draw K) (mConsA (mVar 1) (mConsA (mC (.int 4)) (mNilA)))) (mC (.int 0)))) (mPar 3 4 (mConsA (mBin fSub (mBin fPow (mC (.int 10)) (mC (.int 30))) (mC (.int 1))) (mConsA (mBin fAdd (mC (.int 1)) (mCallO 0 (p__law_draw K) (mConsA (mVar 1) (mConsA (mC (.int 8)) (mNilA))))) (mNilA)))) (mNext)) (j_law_1_2 K)) De ρ
def b_law_5 (K : PySem.W.Frag) : MS := fun De ρ => (mSeq (mPar 3 4 (mConsA (mC (.int 60)) (mConsA (mBin fIxG (mLst (mConsA (mBin fAdd (mC (.int 1)) (mCallO 0 (p__law_draw K) (mConsA (mVar 1) (mConsA (mC (.int 40)) (mNilA))))) (mConsA (mBin fAdd (mC (.int 1)) (mCallO 0 (p__law_draw K) (mConsA (mVar 1) (mConsA (mC (.int 5)) (mNilA))))) (mConsA (mC (.int 40)) (mNilA))))) (mCallO 0 (p__law_draw K) (mConsA (mVar 1) (mConsA (mC (.int 3)) (mNilA))))) (mNilA)))) (j_law_1_1 K)) De ρ
def k_law_2 (K : PySem.W.Frag) : MS := fun De ρ => (mRet (mC (.bl true))) De ρ
def k_law_1 (K : PySem.W.Frag) : MS := fun De ρ => (mSeq (mFor (mRng1 (mConsA (mC (.int 2)) (mNilA))) (gNm 2) (b_law_5 K)) (k_law_2 K)) De ρ
def m_law (K : PySem.W.Frag) : MS := fun De ρ => (mSeq (mSet 1 (mCall (p__law_feed K) (mConsA (mVar 0) (mNilA)))) (k_law_1 K)) De ρ
abbrev N_law : List Str := ["_law_script", "_law_feed_here", "_law_bout", "_law_far", "_law_many", "_law_boxes", "_law_k", "_law_handed", "_law_found", "_law_spaces", "_law_by", "_law_one", "_law_space", "_law_told", "_law_box_here"]
theorem i_law (d0 : D) : in0 N_law [d0] = [some (.fz d0), none, none, none, none, none, none, none, none, none, none, none, none, none, none] := rfl
theorem sc_law : FnScope N_law ["_law_script"] (defScope s_law) := ⟨rfl, rfl, rfl, by decide +kernel, rfl, by decide +kernel, by decide +kernel⟩
def BP (k : Nat) (b : Bx) : Prop := Rb 6 b.l ∧ Rb 6 b.t ∧ Rb k b.w ∧ Rb k b.h
theorem loop_law (K : PySem.W.Frag) (De : PEnds) (e0 : D) (f : Int) (k n : Nat) (s2 s4 s7 s8 s9 s10 s11 s12 s13 s14 : Option Sl) (hf : 0 < f) (k6 : 6 ≤ k) (k1 : k ≤ 110) (hfb : Bs k f) : ∀ (m : Nat) (acc : List Bx) (o : D) (s6 : Option (Bool × D)), (∀ b ∈ acc, BP k b) → acc.length + m ≤ 100 → Gd (n + 40 * m) o →
    (∀ (bs : List Bx) (o' : D) (s6 : Option (Bool × D)), (∀ b ∈ bs, BP k b) → bs.length = acc.length + m → Gd n o' → De.nx [some (.fz e0), some (.lo o'), s2, some (.fz (.int f)), s4, some (.lo (.lst (bs.map bD))), fq s6, s7, s8, s9, s10, s11, s12, s13, s14]) →
    forL (gNm 6) (b_law_1 K) De (rngD acc.length m) [some (.fz e0), some (.lo o), s2, some (.fz (.int f)), s4, some (.lo (.lst (acc.map bD))), fq s6, s7, s8, s9, s10, s11, s12, s13, s14]
  | 0, acc, o, s6, ha, hl, hF, h => by
    show De.nx _
    exact h acc o s6 ha rfl (hF.mono (by omega))
  | m + 1, acc, o, s6, ha, hl, hF, h => by
    have sl : (acc.map bD).length < sizeLine := by simp only [List.length_map, sizeLine]; omega
    have next : ∀ (bs : List Bx) (o' : D), (∀ b ∈ bs, BP k b) → bs.length = acc.length + 1 → Gd (n + 40 * m) o' → forL (gNm 6) (b_law_1 K) De (rngD (acc.length + 1) m) [some (.fz e0), some (.lo o'), s2, some (.fz (.int f)), s4, some (.lo (.lst (bs.map bD))), some (.fz (.int acc.length)), s7, s8, s9, s10, s11, s12, s13, s14] := fun bs o' hb hn hF => by
      have ih := loop_law K De e0 f k n s2 s4 s7 s8 s9 s10 s11 s12 s13 s14 hf k6 k1 hfb m bs o' (some (false, .int acc.length)) hb (by omega) hF (fun cs o' s6 a b c => h cs o' s6 a (by omega) c)
      rw [hn] at ih
      exact ih
    rw [rngD_succ]
    unfold forL
    simp only [↓SP, ↓SP2, ↓SP3, ↓SP4, ↓SQ5, ↓SQ6, ↓SQ7, ↓SB, ↓SB2, ↓SB3, ↓SB4, ↓SFD, SB, SB2, SB3, SB4, SO, SF, SW, SV, SX, SG, SH, SI, SQ, Int.reduceEq, Int.reduceLT, Int.reduceLE, Int.reduceToNat, Int.reducePow, Int.reduceNeg, Int.reduceSub, Int.reduceAdd, Int.reduceMul, Option.isSome_some, Option.isSome_none, eq_self, decide_true, decide_false, SBQ, SPL, SEE, SEC, SED, Bool.true_or, Bool.false_or, Bool.or_false, Bool.or_true, if_true, if_false, Bool.false_eq_true, reduceCtorEq, implies_true, Int.reduceNe, ne_eq, not_false_eq_true, ↓m_law, ↓b_law_1, ↓e_law_2, ↓e_law_3, ↓b_law_4, ↓b_law_5, ↓p__law_feed, ↓p_weights_back, ↓p__law_box, ↓p__law_draw, ↓p__law_times, ↓p__law_divisor]
    refine ⟨hf, k, n + 40 * m + 10, k6, k1, hfb, hF.mono (by omega), fun b o1 b1 b2 b3 b4 hF => ⟨sl, ?_⟩⟩
    have ha2 : ∀ c ∈ acc ++ [b], BP k c := fun c hc => by
      rcases List.mem_append.mp hc with hc | hc
      · exact ha c hc
      · rw [show c = b by simpa using hc]; exact ⟨b1, b2, b3, b4⟩
    have em : acc.map bD ++ [bD b] = (acc ++ [b]).map bD := by simp
    rw [em]
    simp only [↓SP, ↓SP2, ↓SP3, ↓SP4, ↓SQ5, ↓SQ6, ↓SQ7, ↓SB, ↓SB2, ↓SB3, ↓SB4, ↓SFD, SB, SB2, SB3, SB4, SO, SF, SW, SV, SX, SG, SH, SI, SQ, Int.reduceEq, Int.reduceLT, Int.reduceLE, Int.reduceToNat, Int.reducePow, Int.reduceNeg, Int.reduceSub, Int.reduceAdd, Int.reduceMul, Option.isSome_some, Option.isSome_none, eq_self, decide_true, decide_false, SBQ, SPL, SEE, SEC, SED, Bool.true_or, Bool.false_or, Bool.or_false, Bool.or_true, if_true, if_false, Bool.false_eq_true, reduceCtorEq, implies_true, Int.reduceNe, ne_eq, not_false_eq_true, ↓j_law_2_1, ↓p__law_draw]
    refine ⟨_, hF, fun r o2 r0 r1 hF => CI_d (fun hc => ?_) (fun hc => ?_)⟩
    · simp only [↓SP, ↓SP2, ↓SP3, ↓SP4, ↓SQ5, ↓SQ6, ↓SQ7, ↓SB, ↓SB2, ↓SB3, ↓SB4, ↓SFD, SB, SB2, SB3, SB4, SO, SF, SW, SV, SX, SG, SH, SI, SQ, Int.reduceEq, Int.reduceLT, Int.reduceLE, Int.reduceToNat, Int.reducePow, Int.reduceNeg, Int.reduceSub, Int.reduceAdd, Int.reduceMul, Option.isSome_some, Option.isSome_none, eq_self, decide_true, decide_false, SBQ, SPL, SEE, SEC, SED, Bool.true_or, Bool.false_or, Bool.or_false, Bool.or_true, if_true, if_false, Bool.false_eq_true, reduceCtorEq, implies_true, Int.reduceNe, ne_eq, not_false_eq_true, ↓p__law_draw]
      refine ⟨by omega, by omega, _, hF, fun r o3 r2 r3 hF => ?_⟩
      have hr : r.toNat < (acc ++ [b]).length := by simp; omega
      refine AK_i (d := bD ((acc ++ [b])[r.toNat])) (by rw [atI_int r2 (by simp; omega), List.getElem_map]) ?_
      simp only [↓SP, ↓SP2, ↓SP3, ↓SP4, ↓SQ5, ↓SQ6, ↓SQ7, ↓SB, ↓SB2, ↓SB3, ↓SB4, ↓SFD, SB, SB2, SB3, SB4, SO, SF, SW, SV, SX, SG, SH, SI, SQ, Int.reduceEq, Int.reduceLT, Int.reduceLE, Int.reduceToNat, Int.reducePow, Int.reduceNeg, Int.reduceSub, Int.reduceAdd, Int.reduceMul, Option.isSome_some, Option.isSome_none, eq_self, decide_true, decide_false, SBQ, SPL, SEE, SEC, SED, Bool.true_or, Bool.false_or, Bool.or_false, Bool.or_true, if_true, if_false, Bool.false_eq_true, reduceCtorEq, implies_true, Int.reduceNe, ne_eq, not_false_eq_true]
      refine AK_i (d := acc.length) (by simp [ixN]; omega) ?_
      simp only [↓SP, ↓SP2, ↓SP3, ↓SP4, ↓SQ5, ↓SQ6, ↓SQ7, ↓SB, ↓SB2, ↓SB3, ↓SB4, ↓SFD, SB, SB2, SB3, SB4, SO, SF, SW, SV, SX, SG, SH, SI, SQ, Int.reduceEq, Int.reduceLT, Int.reduceLE, Int.reduceToNat, Int.reducePow, Int.reduceNeg, Int.reduceSub, Int.reduceAdd, Int.reduceMul, Option.isSome_some, Option.isSome_none, eq_self, decide_true, decide_false, SBQ, SPL, SEE, SEC, SED, Bool.true_or, Bool.false_or, Bool.or_false, Bool.or_true, if_true, if_false, Bool.false_eq_true, reduceCtorEq, implies_true, Int.reduceNe, ne_eq, not_false_eq_true]
      rw [← List.map_set]
      exact next _ _ (fun c hc => by
        rcases List.mem_or_eq_of_mem_set hc with hc | hc
        · exact ha2 c hc
        · rw [hc]; exact ha2 _ (List.getElem_mem _)) (by simp) (hF.mono (by omega))
    · simp only [↓SP, ↓SP2, ↓SP3, ↓SP4, ↓SQ5, ↓SQ6, ↓SQ7, ↓SB, ↓SB2, ↓SB3, ↓SB4, ↓SFD, SB, SB2, SB3, SB4, SO, SF, SW, SV, SX, SG, SH, SI, SQ, Int.reduceEq, Int.reduceLT, Int.reduceLE, Int.reduceToNat, Int.reducePow, Int.reduceNeg, Int.reduceSub, Int.reduceAdd, Int.reduceMul, Option.isSome_some, Option.isSome_none, eq_self, decide_true, decide_false, SBQ, SPL, SEE, SEC, SED, Bool.true_or, Bool.false_or, Bool.or_false, Bool.or_true, if_true, if_false, Bool.false_eq_true, reduceCtorEq, implies_true, Int.reduceNe, ne_eq, not_false_eq_true]
      exact next _ _ ha2 (by simp) (hF.mono (by omega))
theorem loop4_law (K : PySem.W.Frag) (De : PEnds) (e0 : D) (s1 s2 s3 s4 s5 s6 s7 s13 s14 : Option Sl) (w0 : Int) (wr : List Int) (q0 : Rat) (qr : List Rat) (hw0 : Bs 8990 w0) (hq0 : Rb 300 q0) : ∀ (ps : List (Int × Rat)) (g : Int) (s11 s12 : Option D), 0 ≤ g → (∀ p ∈ ps, p.1 * q0.num * p.2.den = w0 * p.2.num * q0.den ∧ Bs 8990 p.1 ∧ 0 < p.1 ∧ Rb 300 p.2) →
    (∀ (s11 s12 : Option D), De.nx [some (.fz e0), s1, s2, s3, s4, s5, s6, s7, some (.ow (.lst (.int w0 :: wr.map .int))), some (.fz (.lst (fD q0 :: qr.map fD))), some (.fz (.int (gcdI (ps.map (·.1)) g))), fo s11, fo s12, s13, s14]) →
    forP 8 (.int w0 :: wr.map .int) (gTp 2 (gsCons (gNm 11) (gsCons (gNm 12) gsNil))) (b_law_4 K) De (ps.map fun p => .tup [.int p.1, fD p.2]) [some (.fz e0), s1, s2, s3, s4, s5, s6, s7, some (.ow (.lst (.int w0 :: wr.map .int))), some (.fz (.lst (fD q0 :: qr.map fD))), some (.fz (.int g)), fo s11, fo s12, s13, s14]
  | [], g, s11, s12, hg, hp, h => by
    simp only [List.map_nil]
    unfold forP
    exact ⟨rfl, h s11 s12⟩
  | p :: ps, g, s11, s12, hg, hp, h => by
    obtain ⟨p1, p2, p3, p4⟩ := hp p (by simp)
    simp only [List.map_cons]
    unfold forP
    refine ⟨rfl, ?_⟩
    simp only [↓SP, ↓SP2, ↓SP3, ↓SP4, ↓SQ5, ↓SQ6, ↓SQ7, ↓SB, ↓SB2, ↓SB3, ↓SB4, ↓SFD, SB, SB2, SB3, SB4, SO, SF, SW, SV, SX, SG, SH, SI, SQ, Int.reduceEq, Int.reduceLT, Int.reduceLE, Int.reduceToNat, Int.reducePow, Int.reduceNeg, Int.reduceSub, Int.reduceAdd, Int.reduceMul, Option.isSome_some, Option.isSome_none, eq_self, decide_true, decide_false, SBQ, SPL, SEE, SEC, SED, Bool.true_or, Bool.false_or, Bool.or_false, Bool.or_true, if_true, if_false, Bool.false_eq_true, reduceCtorEq, implies_true, Int.reduceNe, ne_eq, not_false_eq_true, ↓m_law, ↓j_law_2_1, ↓b_law_1, ↓e_law_2, ↓e_law_3, ↓j_law_3_1, ↓b_law_4, ↓j_law_1_17, ↓j_law_1_16, ↓j_law_1_15, ↓j_law_1_14, ↓j_law_1_13, ↓j_law_1_12, ↓j_law_1_11, ↓j_law_1_10, ↓j_law_1_9, ↓j_law_1_8, ↓j_law_1_7, ↓j_law_1_6, ↓j_law_1_5, ↓j_law_1_4, ↓j_law_1_3, ↓j_law_1_2, ↓j_law_1_1, ↓b_law_5, ↓k_law_2, ↓k_law_1, ↓p__law_feed, ↓p_weights_back, ↓p__law_box, ↓p__law_draw, ↓p__law_times, ↓p__law_divisor]
    refine ⟨p2.cmul hq0.1 (by decide), (p2.mul hq0.1).cmul p4.2 (by decide), hw0.cmul p4.1 (by decide), (hw0.mul p4.1).cmul hq0.2 (by decide), CI_yes p1 ?_⟩
    simp only [↓SP, ↓SP2, ↓SP3, ↓SP4, ↓SQ5, ↓SQ6, ↓SQ7, ↓SB, ↓SB2, ↓SB3, ↓SB4, ↓SFD, SB, SB2, SB3, SB4, SO, SF, SW, SV, SX, SG, SH, SI, SQ, Int.reduceEq, Int.reduceLT, Int.reduceLE, Int.reduceToNat, Int.reducePow, Int.reduceNeg, Int.reduceSub, Int.reduceAdd, Int.reduceMul, Option.isSome_some, Option.isSome_none, eq_self, decide_true, decide_false, SBQ, SPL, SEE, SEC, SED, Bool.true_or, Bool.false_or, Bool.or_false, Bool.or_true, if_true, if_false, Bool.false_eq_true, reduceCtorEq, implies_true, Int.reduceNe, ne_eq, not_false_eq_true, ↓m_law, ↓j_law_2_1, ↓b_law_1, ↓e_law_2, ↓e_law_3, ↓j_law_3_1, ↓b_law_4, ↓j_law_1_17, ↓j_law_1_16, ↓j_law_1_15, ↓j_law_1_14, ↓j_law_1_13, ↓j_law_1_12, ↓j_law_1_11, ↓j_law_1_10, ↓j_law_1_9, ↓j_law_1_8, ↓j_law_1_7, ↓j_law_1_6, ↓j_law_1_5, ↓j_law_1_4, ↓j_law_1_3, ↓j_law_1_2, ↓j_law_1_1, ↓b_law_5, ↓k_law_2, ↓k_law_1, ↓p__law_feed, ↓p_weights_back, ↓p__law_box, ↓p__law_draw, ↓p__law_times, ↓p__law_divisor]
    exact ⟨hg, by omega, loop4_law K De e0 s1 s2 s3 s4 s5 s6 s7 s13 s14 w0 wr q0 qr hw0 hq0 ps _ (some (.int p.1)) (some (fD p.2)) (by omega) (fun x hx => hp x (List.mem_cons_of_mem _ hx)) h⟩
theorem tail2_law (K : PySem.W.Frag) (De : PEnds) (e0 d9 : D) (f : Int) (k n : Nat) (m : Int) (bs : List Bx) (hb : ∀ b ∈ bs, BP k b) (hf : 0 < f) (k6 : 6 ≤ k) (k1 : k ≤ 110) (hfb : Bs k f) (hm : (bs.length : Int) = m) (m1 : 1 ≤ m) (m2 : m ≤ 40) (s2 s6 s13 : Option (Bool × D)) (s11 s12 : Option D) (o : D) (hF : Gd (n + 40) o)
    (wb : ∀ cs : List Bx, (∀ b ∈ cs, BP k b) → cs.length = bs.length → (∀ b ∈ cs, b.sz 4000 ∧ Rb (k + k) b.area) ∧ cs ≠ [] ∧ (cs.length + 1) * (k + k) ≤ 8000 ∧ cs.length ≤ 1000)
    (h : ∀ (o' : D) (s5 s6 s7 s8 s9 s10 s13 : Option (Bool × D)) (s11 s12 : Option D), Gd n o' → De.nx [some (.fz e0), some (.lo o'), fq s2, some (.fz (.int f)), some (.fz (.int m)), fq s5, fq s6, fq s7, fq s8, fq s9, fq s10, fo s11, fo s12, fq s13, none]) :
    j_law_1_11 K De [some (.fz e0), some (.lo o), fq s2, some (.fz (.int f)), some (.fz (.int m)), some (.lo (.lst (bs.map bD))), fq s6, some (.lo (.lst (bs.map bD))), some (.lo (.lst ((wbL (bs.map Bx.area)).map .int))), some (.fz d9), some (.fz (.int 1)), fo s11, fo s12, fq s13, none] := by
  obtain ⟨w1, w2, w3, w4⟩ := wb bs hb rfl
  have wl : (wbL (bs.map Bx.area)).length = bs.length := by rw [wbL_len, List.length_map]
  simp only [↓SP, ↓SP2, ↓SP3, ↓SP4, ↓SQ5, ↓SQ6, ↓SQ7, ↓SB, ↓SB2, ↓SB3, ↓SB4, ↓SFD, SB, SB2, SB3, SB4, SO, SF, SW, SV, SX, SG, SH, SI, SQ, Int.reduceEq, Int.reduceLT, Int.reduceLE, Int.reduceToNat, Int.reducePow, Int.reduceNeg, Int.reduceSub, Int.reduceAdd, Int.reduceMul, Option.isSome_some, Option.isSome_none, eq_self, decide_true, decide_false, SBQ, SPL, SEE, SEC, SED, Bool.true_or, Bool.false_or, Bool.or_false, Bool.or_true, if_true, if_false, Bool.false_eq_true, reduceCtorEq, implies_true, Int.reduceNe, ne_eq, not_false_eq_true, ↓j_law_1_11, ↓j_law_1_12, ↓j_law_1_13]
  refine ⟨by simp only [List.length_map, wl, sizeLine]; omega, ?_⟩
  simp only [↓SP, ↓SP2, ↓SP3, ↓SP4, ↓SQ5, ↓SQ6, ↓SQ7, ↓SB, ↓SB2, ↓SB3, ↓SB4, ↓SFD, SB, SB2, SB3, SB4, SO, SF, SW, SV, SX, SG, SH, SI, SQ, Int.reduceEq, Int.reduceLT, Int.reduceLE, Int.reduceToNat, Int.reducePow, Int.reduceNeg, Int.reduceSub, Int.reduceAdd, Int.reduceMul, Option.isSome_some, Option.isSome_none, eq_self, decide_true, decide_false, SBQ, SPL, SEE, SEC, SED, Bool.true_or, Bool.false_or, Bool.or_false, Bool.or_true, if_true, if_false, Bool.false_eq_true, reduceCtorEq, implies_true, Int.reduceNe, ne_eq, not_false_eq_true, ↓j_law_1_14, ↓p_weights_back]
  refine ⟨bs, k + k, rfl, w1, w2, w3, w4, ?_⟩
  simp only [↓SP, ↓SP2, ↓SP3, ↓SP4, ↓SQ5, ↓SQ6, ↓SQ7, ↓SB, ↓SB2, ↓SB3, ↓SB4, ↓SFD, SB, SB2, SB3, SB4, SO, SF, SW, SV, SX, SG, SH, SI, SQ, Int.reduceEq, Int.reduceLT, Int.reduceLE, Int.reduceToNat, Int.reducePow, Int.reduceNeg, Int.reduceSub, Int.reduceAdd, Int.reduceMul, Option.isSome_some, Option.isSome_none, eq_self, decide_true, decide_false, SBQ, SPL, SEE, SEC, SED, Bool.true_or, Bool.false_or, Bool.or_false, Bool.or_true, if_true, if_false, Bool.false_eq_true, reduceCtorEq, implies_true, Int.reduceNe, ne_eq, not_false_eq_true, ↓j_law_1_15, ↓p__law_draw, ↓p__law_box]
  refine ⟨hf, k, n + 10, k6, k1, hfb, hF, fun b o1 b1 b2 b3 b4 hF => ⟨by omega, by omega, _, hF, fun r o2 r0 r1 hF => ?_⟩⟩
  have hr : r.toNat < bs.length := by omega
  refine AK_i (d := r.toNat) (by simp only [ixN, List.length_map]; rw [if_pos r0, if_pos (by omega)]) ?_
  simp only [↓SP, ↓SP2, ↓SP3, ↓SP4, ↓SQ5, ↓SQ6, ↓SQ7, ↓SB, ↓SB2, ↓SB3, ↓SB4, ↓SFD, SB, SB2, SB3, SB4, SO, SF, SW, SV, SX, SG, SH, SI, SQ, Int.reduceEq, Int.reduceLT, Int.reduceLE, Int.reduceToNat, Int.reducePow, Int.reduceNeg, Int.reduceSub, Int.reduceAdd, Int.reduceMul, Option.isSome_some, Option.isSome_none, eq_self, decide_true, decide_false, SBQ, SPL, SEE, SEC, SED, Bool.true_or, Bool.false_or, Bool.or_false, Bool.or_true, if_true, if_false, Bool.false_eq_true, reduceCtorEq, implies_true, Int.reduceNe, ne_eq, not_false_eq_true]
  rw [← List.map_set]
  have hb2 : ∀ c ∈ bs.set r.toNat b, BP k c := fun c hc => by
    rcases List.mem_or_eq_of_mem_set hc with hc | hc
    · exact hb c hc
    · rw [hc]; exact ⟨b1, b2, b3, b4⟩
  obtain ⟨v1, v2, v3, v4⟩ := wb _ hb2 (by simp)
  generalize bs.set r.toNat b = cs at *
  simp only [↓SP, ↓SP2, ↓SP3, ↓SP4, ↓SQ5, ↓SQ6, ↓SQ7, ↓SB, ↓SB2, ↓SB3, ↓SB4, ↓SFD, SB, SB2, SB3, SB4, SO, SF, SW, SV, SX, SG, SH, SI, SQ, Int.reduceEq, Int.reduceLT, Int.reduceLE, Int.reduceToNat, Int.reducePow, Int.reduceNeg, Int.reduceSub, Int.reduceAdd, Int.reduceMul, Option.isSome_some, Option.isSome_none, eq_self, decide_true, decide_false, SBQ, SPL, SEE, SEC, SED, Bool.true_or, Bool.false_or, Bool.or_false, Bool.or_true, if_true, if_false, Bool.false_eq_true, reduceCtorEq, implies_true, Int.reduceNe, ne_eq, not_false_eq_true, ↓j_law_1_16]
  refine ⟨by simp only [List.length_map, sizeLine]; omega, ?_⟩
  simp only [↓SP, ↓SP2, ↓SP3, ↓SP4, ↓SQ5, ↓SQ6, ↓SQ7, ↓SB, ↓SB2, ↓SB3, ↓SB4, ↓SFD, SB, SB2, SB3, SB4, SO, SF, SW, SV, SX, SG, SH, SI, SQ, Int.reduceEq, Int.reduceLT, Int.reduceLE, Int.reduceToNat, Int.reducePow, Int.reduceNeg, Int.reduceSub, Int.reduceAdd, Int.reduceMul, Option.isSome_some, Option.isSome_none, eq_self, decide_true, decide_false, SBQ, SPL, SEE, SEC, SED, Bool.true_or, Bool.false_or, Bool.or_false, Bool.or_true, if_true, if_false, Bool.false_eq_true, reduceCtorEq, implies_true, Int.reduceNe, ne_eq, not_false_eq_true, ↓j_law_1_17, ↓p_weights_back]
  refine ⟨cs, k + k, rfl, v1, v2, v3, v4, ?_⟩
  refine ⟨cs, k + k, rfl, v1, v2, v3, v4, ?_⟩
  simp only [↓SP, ↓SP2, ↓SP3, ↓SP4, ↓SQ5, ↓SQ6, ↓SQ7, ↓SB, ↓SB2, ↓SB3, ↓SB4, ↓SFD, SB, SB2, SB3, SB4, SO, SF, SW, SV, SX, SG, SH, SI, SQ, Int.reduceEq, Int.reduceLT, Int.reduceLE, Int.reduceToNat, Int.reducePow, Int.reduceNeg, Int.reduceSub, Int.reduceAdd, Int.reduceMul, Option.isSome_some, Option.isSome_none, eq_self, decide_true, decide_false, SBQ, SPL, SEE, SEC, SED, Bool.true_or, Bool.false_or, Bool.or_false, Bool.or_true, if_true, if_false, Bool.false_eq_true, reduceCtorEq, implies_true, Int.reduceNe, ne_eq, not_false_eq_true]
  exact h o2 (some (false, _)) s6 (some (true, _)) (some (true, _)) (some (false, _)) (some (false, _)) (some (true, _)) s11 s12 (hF.mono (by omega))
theorem tail_law (K : PySem.W.Frag) (De : PEnds) (e0 : D) (f : Int) (k n : Nat) (m : Int) (bs : List Bx) (hb : ∀ b ∈ bs, BP k b) (hf : 0 < f) (k6 : 6 ≤ k) (k1 : k ≤ 110) (hfb : Bs k f) (hm : (bs.length : Int) = m) (m1 : 1 ≤ m) (m2 : m ≤ 40) (hmk : (bs.length + 1) * (k + k) ≤ 8000) (s2 s6 s7 s8 s9 s10 s13 : Option (Bool × D)) (s11 s12 : Option D) (o : D) (hF : Gd (n + 40) o)
    (h : ∀ (o' : D) (s5 s6 s7 s8 s9 s10 s13 : Option (Bool × D)) (s11 s12 : Option D), Gd n o' → De.nx [some (.fz e0), some (.lo o'), fq s2, some (.fz (.int f)), some (.fz (.int m)), fq s5, fq s6, fq s7, fq s8, fq s9, fq s10, fo s11, fo s12, fq s13, none]) :
    j_law_1_4 K De [some (.fz e0), some (.lo o), fq s2, some (.fz (.int f)), some (.fz (.int m)), some (.lo (.lst (bs.map bD))), fq s6, fq s7, fq s8, fq s9, fq s10, fo s11, fo s12, fq s13, none] := by
  have wb : ∀ cs : List Bx, (∀ b ∈ cs, BP k b) → cs.length = bs.length → (∀ b ∈ cs, b.sz 4000 ∧ Rb (k + k) b.area) ∧ cs ≠ [] ∧ (cs.length + 1) * (k + k) ≤ 8000 ∧ cs.length ≤ 1000 := fun cs hc hl => ⟨fun b hb => by
    obtain ⟨a1, a2, a3, a4⟩ := hc b hb
    exact ⟨⟨a1.mono (by decide), a2.mono (by decide), a3.mono (by omega), a4.mono (by omega)⟩, a3.mul a4⟩, fun z => by subst z; simp at hl; omega, by rw [hl]; exact hmk, by omega⟩
  have ar : ∀ q ∈ bs.map Bx.area, 0 < q := fun q hq => by
    obtain ⟨b, _, rfl⟩ := List.mem_map.mp hq
    exact Rat.mul_pos b.w0 b.h0
  have arb : ∀ q ∈ bs.map Bx.area, Rb (k + k) q := fun q hq => by
    obtain ⟨b, hb2, rfl⟩ := List.mem_map.mp hq
    exact ((wb bs hb rfl).1 b hb2).2
  obtain ⟨w1, w2, w3, w4⟩ := wb bs hb rfl
  simp only [↓SP, ↓SP2, ↓SP3, ↓SP4, ↓SQ5, ↓SQ6, ↓SQ7, ↓SB, ↓SB2, ↓SB3, ↓SB4, ↓SFD, SB, SB2, SB3, SB4, SO, SF, SW, SV, SX, SG, SH, SI, SQ, Int.reduceEq, Int.reduceLT, Int.reduceLE, Int.reduceToNat, Int.reducePow, Int.reduceNeg, Int.reduceSub, Int.reduceAdd, Int.reduceMul, Option.isSome_some, Option.isSome_none, eq_self, decide_true, decide_false, SBQ, SPL, SEE, SEC, SED, Bool.true_or, Bool.false_or, Bool.or_false, Bool.or_true, if_true, if_false, Bool.false_eq_true, reduceCtorEq, implies_true, Int.reduceNe, ne_eq, not_false_eq_true, ↓j_law_1_4, ↓j_law_1_5, ↓p_weights_back]
  refine ⟨bs, k + k, rfl, w1, w2, w3, w4, ?_⟩
  have wl : (wbL (bs.map Bx.area)).length = bs.length := by rw [wbL_len, List.length_map]
  have wp := wb_pos ar arb
  have wg := wb_gcd (by simpa using w2) ar arb
  have wbs := wb_bs ar arb (by rw [List.length_map]; exact hmk)
  have wc := fun i j q p x y h1 h2 h3 h4 => wb_cross (i := i) (j := j) (q := q) (p := p) (x := x) (y := y) ar arb h1 h2 h3 h4
  generalize hws : wbL (bs.map Bx.area) = ws at *
  simp only [↓SP, ↓SP2, ↓SP3, ↓SP4, ↓SQ5, ↓SQ6, ↓SQ7, ↓SB, ↓SB2, ↓SB3, ↓SB4, ↓SFD, SB, SB2, SB3, SB4, SO, SF, SW, SV, SX, SG, SH, SI, SQ, Int.reduceEq, Int.reduceLT, Int.reduceLE, Int.reduceToNat, Int.reducePow, Int.reduceNeg, Int.reduceSub, Int.reduceAdd, Int.reduceMul, Option.isSome_some, Option.isSome_none, eq_self, decide_true, decide_false, SBQ, SPL, SEE, SEC, SED, Bool.true_or, Bool.false_or, Bool.or_false, Bool.or_true, if_true, if_false, Bool.false_eq_true, reduceCtorEq, implies_true, Int.reduceNe, ne_eq, not_false_eq_true, ↓j_law_1_6]
  refine CI_yes (by rw [List.length_map, wl]; exact hm) ?_
  simp only [↓SP, ↓SP2, ↓SP3, ↓SP4, ↓SQ5, ↓SQ6, ↓SQ7, ↓SB, ↓SB2, ↓SB3, ↓SB4, ↓SFD, SB, SB2, SB3, SB4, SO, SF, SW, SV, SX, SG, SH, SI, SQ, Int.reduceEq, Int.reduceLT, Int.reduceLE, Int.reduceToNat, Int.reducePow, Int.reduceNeg, Int.reduceSub, Int.reduceAdd, Int.reduceMul, Option.isSome_some, Option.isSome_none, eq_self, decide_true, decide_false, SBQ, SPL, SEE, SEC, SED, Bool.true_or, Bool.false_or, Bool.or_false, Bool.or_true, if_true, if_false, Bool.false_eq_true, reduceCtorEq, implies_true, Int.reduceNe, ne_eq, not_false_eq_true]
  simp only [↓SP, ↓SP2, ↓SP3, ↓SP4, ↓SQ5, ↓SQ6, ↓SQ7, ↓SB, ↓SB2, ↓SB3, ↓SB4, ↓SFD, SB, SB2, SB3, SB4, SO, SF, SW, SV, SX, SG, SH, SI, SQ, Int.reduceEq, Int.reduceLT, Int.reduceLE, Int.reduceToNat, Int.reducePow, Int.reduceNeg, Int.reduceSub, Int.reduceAdd, Int.reduceMul, Option.isSome_some, Option.isSome_none, eq_self, decide_true, decide_false, SBQ, SPL, SEE, SEC, SED, Bool.true_or, Bool.false_or, Bool.or_false, Bool.or_true, if_true, if_false, Bool.false_eq_true, reduceCtorEq, implies_true, Int.reduceNe, ne_eq, not_false_eq_true, ↓m_law, ↓b_law_1, ↓e_law_2, ↓e_law_3, ↓b_law_4, ↓b_law_5, ↓j_law_1_7]
  have wl1 : ws.length ≤ 1000 := by omega
  refine lcO_map (f := .int) (g := fun x => .bl (decide (x < 1))) ws wl1 (.inl rfl) (by decide) ?_ (.inl rfl) (fun x hx kk hkk => ?_) ?_
  · simp only [↓SP, ↓SP2, ↓SP3, ↓SP4, ↓SQ5, ↓SQ6, ↓SQ7, ↓SB, ↓SB2, ↓SB3, ↓SB4, ↓SFD, SB, SB2, SB3, SB4, SO, SF, SW, SV, SX, SG, SH, SI, SQ, Int.reduceEq, Int.reduceLT, Int.reduceLE, Int.reduceToNat, Int.reducePow, Int.reduceNeg, Int.reduceSub, Int.reduceAdd, Int.reduceMul, Option.isSome_some, Option.isSome_none, eq_self, decide_true, decide_false, SBQ, SPL, SEE, SEC, SED, Bool.true_or, Bool.false_or, Bool.or_false, Bool.or_true, if_true, if_false, Bool.false_eq_true, reduceCtorEq, implies_true, Int.reduceNe, ne_eq, not_false_eq_true]
  · simp only [↓SP, ↓SP2, ↓SP3, ↓SP4, ↓SQ5, ↓SQ6, ↓SQ7, ↓SB, ↓SB2, ↓SB3, ↓SB4, ↓SFD, SB, SB2, SB3, SB4, SO, SF, SW, SV, SX, SG, SH, SI, SQ, Int.reduceEq, Int.reduceLT, Int.reduceLE, Int.reduceToNat, Int.reducePow, Int.reduceNeg, Int.reduceSub, Int.reduceAdd, Int.reduceMul, Option.isSome_some, Option.isSome_none, eq_self, decide_true, decide_false, SBQ, SPL, SEE, SEC, SED, Bool.true_or, Bool.false_or, Bool.or_false, Bool.or_true, if_true, if_false, Bool.false_eq_true, reduceCtorEq, implies_true, Int.reduceNe, ne_eq, not_false_eq_true, ↓m_law, ↓b_law_1, ↓e_law_2, ↓e_law_3, ↓b_law_4, ↓b_law_5]
    exact hkk _ ⟨trivial, trivial⟩ rfl
  simp only [↓SP, ↓SP2, ↓SP3, ↓SP4, ↓SQ5, ↓SQ6, ↓SQ7, ↓SB, ↓SB2, ↓SB3, ↓SB4, ↓SFD, SB, SB2, SB3, SB4, SO, SF, SW, SV, SX, SG, SH, SI, SQ, Int.reduceEq, Int.reduceLT, Int.reduceLE, Int.reduceToNat, Int.reducePow, Int.reduceNeg, Int.reduceSub, Int.reduceAdd, Int.reduceMul, Option.isSome_some, Option.isSome_none, eq_self, decide_true, decide_false, SBQ, SPL, SEE, SEC, SED, Bool.true_or, Bool.false_or, Bool.or_false, Bool.or_true, if_true, if_false, Bool.false_eq_true, reduceCtorEq, implies_true, Int.reduceNe, ne_eq, not_false_eq_true]
  rw [obX_bls, show (ws.map fun x => decide (x < 1)).any id = false from ?_]
  rotate_left
  · rw [List.any_eq_false]
    intro y hy
    obtain ⟨x, hx, rfl⟩ := List.mem_map.mp hy
    have := wp x hx
    simp; omega
  simp only [↓SP, ↓SP2, ↓SP3, ↓SP4, ↓SQ5, ↓SQ6, ↓SQ7, ↓SB, ↓SB2, ↓SB3, ↓SB4, ↓SFD, SB, SB2, SB3, SB4, SO, SF, SW, SV, SX, SG, SH, SI, SQ, Int.reduceEq, Int.reduceLT, Int.reduceLE, Int.reduceToNat, Int.reducePow, Int.reduceNeg, Int.reduceSub, Int.reduceAdd, Int.reduceMul, Option.isSome_some, Option.isSome_none, eq_self, decide_true, decide_false, SBQ, SPL, SEE, SEC, SED, Bool.true_or, Bool.false_or, Bool.or_false, Bool.or_true, if_true, if_false, Bool.false_eq_true, reduceCtorEq, implies_true, Int.reduceNe, ne_eq, not_false_eq_true]
  simp only [↓SP, ↓SP2, ↓SP3, ↓SP4, ↓SQ5, ↓SQ6, ↓SQ7, ↓SB, ↓SB2, ↓SB3, ↓SB4, ↓SFD, SB, SB2, SB3, SB4, SO, SF, SW, SV, SX, SG, SH, SI, SQ, Int.reduceEq, Int.reduceLT, Int.reduceLE, Int.reduceToNat, Int.reducePow, Int.reduceNeg, Int.reduceSub, Int.reduceAdd, Int.reduceMul, Option.isSome_some, Option.isSome_none, eq_self, decide_true, decide_false, SBQ, SPL, SEE, SEC, SED, Bool.true_or, Bool.false_or, Bool.or_false, Bool.or_true, if_true, if_false, Bool.false_eq_true, reduceCtorEq, implies_true, Int.reduceNe, ne_eq, not_false_eq_true, ↓m_law, ↓b_law_1, ↓e_law_2, ↓e_law_3, ↓b_law_4, ↓b_law_5, ↓j_law_1_8, ↓p__law_times]
  refine lcO_map (f := bD) (g := fun b => fD b.area) bs w4 (.inl rfl) (by decide) ?_ (.inl rfl) (fun b hb2 kk hkk => ?_) ?_
  · simp only [↓SP, ↓SP2, ↓SP3, ↓SP4, ↓SQ5, ↓SQ6, ↓SQ7, ↓SB, ↓SB2, ↓SB3, ↓SB4, ↓SFD, SB, SB2, SB3, SB4, SO, SF, SW, SV, SX, SG, SH, SI, SQ, Int.reduceEq, Int.reduceLT, Int.reduceLE, Int.reduceToNat, Int.reducePow, Int.reduceNeg, Int.reduceSub, Int.reduceAdd, Int.reduceMul, Option.isSome_some, Option.isSome_none, eq_self, decide_true, decide_false, SBQ, SPL, SEE, SEC, SED, Bool.true_or, Bool.false_or, Bool.or_false, Bool.or_true, if_true, if_false, Bool.false_eq_true, reduceCtorEq, implies_true, Int.reduceNe, ne_eq, not_false_eq_true]
  · simp only [↓SP, ↓SP2, ↓SP3, ↓SP4, ↓SQ5, ↓SQ6, ↓SQ7, ↓SB, ↓SB2, ↓SB3, ↓SB4, ↓SFD, SB, SB2, SB3, SB4, SO, SF, SW, SV, SX, SG, SH, SI, SQ, Int.reduceEq, Int.reduceLT, Int.reduceLE, Int.reduceToNat, Int.reducePow, Int.reduceNeg, Int.reduceSub, Int.reduceAdd, Int.reduceMul, Option.isSome_some, Option.isSome_none, eq_self, decide_true, decide_false, SBQ, SPL, SEE, SEC, SED, Bool.true_or, Bool.false_or, Bool.or_false, Bool.or_true, if_true, if_false, Bool.false_eq_true, reduceCtorEq, implies_true, Int.reduceNe, ne_eq, not_false_eq_true, ↓m_law, ↓b_law_1, ↓e_law_2, ↓e_law_3, ↓b_law_4, ↓b_law_5, ↓p__law_times]
    obtain ⟨a1, a2, a3, a4⟩ := hb b hb2
    exact ⟨b.w, b.h, rfl, rfl, a3.mono (by omega), a4.mono (by omega), hkk _ ⟨trivial, trivial⟩ rfl⟩
  simp only [↓SP, ↓SP2, ↓SP3, ↓SP4, ↓SQ5, ↓SQ6, ↓SQ7, ↓SB, ↓SB2, ↓SB3, ↓SB4, ↓SFD, SB, SB2, SB3, SB4, SO, SF, SW, SV, SX, SG, SH, SI, SQ, Int.reduceEq, Int.reduceLT, Int.reduceLE, Int.reduceToNat, Int.reducePow, Int.reduceNeg, Int.reduceSub, Int.reduceAdd, Int.reduceMul, Option.isSome_some, Option.isSome_none, eq_self, decide_true, decide_false, SBQ, SPL, SEE, SEC, SED, Bool.true_or, Bool.false_or, Bool.or_false, Bool.or_true, if_true, if_false, Bool.false_eq_true, reduceCtorEq, implies_true, Int.reduceNe, ne_eq, not_false_eq_true, ↓j_law_1_9, ↓j_law_1_10]
  refine ZGo_i (xs0 := ws.map .int) rfl ?_
  obtain ⟨w0, wr, ew⟩ : ∃ w0 wr, ws = w0 :: wr := by
    cases ws with
    | nil => simp at wl; omega
    | cons a l => exact ⟨a, l, rfl⟩
  obtain ⟨q0, qr, eq⟩ : ∃ q0 qr, bs.map Bx.area = q0 :: qr := by
    cases hq : bs.map Bx.area with
    | nil => have := congrArg List.length hq; simp at this; subst this; simp at hm; omega
    | cons a l => exact ⟨a, l, rfl⟩
  have e1 : ws.map D.int = .int w0 :: wr.map .int := by rw [ew]; rfl
  have e2 : bs.map (fun b => fD b.area) = fD q0 :: qr.map fD := by
    rw [show (fun b : Bx => fD b.area) = fD ∘ Bx.area from rfl, ← List.map_map, eq]; rfl
  have e3 : zipD (ws.map .int) (bs.map (fun b => fD b.area)) = (ws.zip (bs.map Bx.area)).map fun p => .tup [.int p.1, fD p.2] := by
    unfold zipD
    rw [show (fun b : Bx => fD b.area) = fD ∘ Bx.area from rfl, ← List.map_map, List.zip_map, List.map_map]; rfl
  have e4 : (ws.zip (bs.map Bx.area)).map (·.1) = ws := List.map_fst_zip (by rw [wl, List.length_map]; exact Nat.le_refl _)
  have r3 : ∀ q ∈ bs.map Bx.area, Rb 300 q := fun q hq => (arb q hq).mono (by omega)
  rw [e3, e1, e2]
  refine loop4_law K _ _ _ _ _ _ _ _ _ _ _ w0 wr q0 qr (wbs w0 (by rw [ew]; simp)) (r3 q0 (by rw [eq]; simp)) _ 0 s11 s12 (by decide) (fun p hp => ?_) (fun s11 s12 => ?_)
  · obtain ⟨i, hi⟩ := List.mem_iff_getElem?.mp hp
    obtain ⟨i1, i2⟩ := List.getElem?_zip_eq_some.mp hi
    refine ⟨wc i 0 p.2 q0 p.1 w0 i2 i1 (by rw [eq]; rfl) (by rw [ew]; rfl), wbs _ (List.mem_of_getElem? i1), wp _ (List.mem_of_getElem? i1), r3 _ (List.mem_of_getElem? i2)⟩
  · rw [e4, wg, ← e1, ← hws]
    exact ⟨_, rfl, tail2_law K De e0 _ f k n m bs hb hf k6 k1 hfb hm m1 m2 s2 s6 s13 s11 s12 o hF wb h⟩
theorem pure_law (K : PySem.W.Frag) : ∀ ds Q E, p_law K ds Q E → m_law K (ends0 Q E) (in0 N_law ds) := by
  intro ds Q E h
  unfold p_law at h
  split at h
  · rename_i ns
    rw [i_law]
    obtain ⟨hl, h⟩ := h
    simp only [↓SP, ↓SP2, ↓SP3, ↓SP4, ↓SQ5, ↓SQ6, ↓SQ7, ↓SB, ↓SB2, ↓SB3, ↓SB4, ↓SFD, SB, SB2, SB3, SB4, SO, SF, SW, SV, SX, SG, SH, SI, SQ, Int.reduceEq, Int.reduceLT, Int.reduceLE, Int.reduceToNat, Int.reducePow, Int.reduceNeg, Int.reduceSub, Int.reduceAdd, Int.reduceMul, Option.isSome_some, Option.isSome_none, eq_self, decide_true, decide_false, SBQ, SPL, SEE, SEC, SED, Bool.true_or, Bool.false_or, Bool.or_false, Bool.or_true, if_true, if_false, Bool.false_eq_true, reduceCtorEq, implies_true, Int.reduceNe, ne_eq, not_false_eq_true, ↓m_law, ↓j_law_2_1, ↓b_law_1, ↓e_law_2, ↓e_law_3, ↓j_law_3_1, ↓b_law_4, ↓j_law_1_17, ↓j_law_1_16, ↓j_law_1_15, ↓j_law_1_14, ↓j_law_1_13, ↓j_law_1_12, ↓j_law_1_11, ↓j_law_1_10, ↓j_law_1_9, ↓j_law_1_8, ↓j_law_1_7, ↓j_law_1_6, ↓j_law_1_5, ↓j_law_1_4, ↓j_law_1_3, ↓j_law_1_2, ↓j_law_1_1, ↓b_law_5, ↓k_law_2, ↓k_law_1, ↓p__law_feed, ↓p_weights_back, ↓p__law_box, ↓p__law_draw, ↓p__law_times, ↓p__law_divisor]
    refine ⟨hl, fun o hF => ?_⟩
    refine for_inv2 (fun xs ρ => ∃ o s2 s3 s4 s5 s6 s7 s8 s9 s10 s11 s12 s13, Gd (3000 * xs.length) o ∧ ρ = [some (.fz (.scr ns)), some (.lo o), fq s2, fq s3, fq s4, fq s5, fq s6, fq s7, fq s8, fq s9, fq s10, fo s11, fo s12, fq s13, none]) ?_ ?_ _ _ ⟨o, none, none, none, none, none, none, none, none, none, none, none, none, hF.mono (by decide), rfl⟩
    · rintro x xs ρ ⟨o, s2, s3, s4, s5, s6, s7, s8, s9, s10, s11, s12, s13, hF, rfl⟩ De hk _ _ _ _
      simp only [List.length_cons] at hF
      have fin : ∀ (f : Int) (k : Nat) (m : Int) (o : D) (s3 s4 : Option (Bool × D)), 0 < f → 6 ≤ k → k ≤ 110 → Bs k f → 1 ≤ m → m ≤ 40 → (m.toNat + 1) * (k + k) ≤ 8000 → Gd (3000 * xs.length + 2900) o → j_law_1_2 K De [some (.fz (.scr ns)), some (.lo o), some (.fz x), some (.fz (.int f)), some (.fz (.int m)), fq s5, fq s6, fq s7, fq s8, fq s9, fq s10, fo s11, fo s12, fq s13, none] := fun f k m o s3 s4 hf k6 k1 hb m1 m2 hmk hF => by
        simp only [↓SP, ↓SP2, ↓SP3, ↓SP4, ↓SQ5, ↓SQ6, ↓SQ7, ↓SB, ↓SB2, ↓SB3, ↓SB4, ↓SFD, SB, SB2, SB3, SB4, SO, SF, SW, SV, SX, SG, SH, SI, SQ, Int.reduceEq, Int.reduceLT, Int.reduceLE, Int.reduceToNat, Int.reducePow, Int.reduceNeg, Int.reduceSub, Int.reduceAdd, Int.reduceMul, Option.isSome_some, Option.isSome_none, eq_self, decide_true, decide_false, SBQ, SPL, SEE, SEC, SED, Bool.true_or, Bool.false_or, Bool.or_false, Bool.or_true, if_true, if_false, Bool.false_eq_true, reduceCtorEq, implies_true, Int.reduceNe, ne_eq, not_false_eq_true, ↓j_law_1_2, ↓j_law_1_3]
        refine ⟨by omega, by omega, ?_⟩
        refine loop_law K _ _ f k (3000 * xs.length + 40) _ _ _ _ _ _ _ _ _ _ hf k6 k1 hb m.toNat [] o s6 (by simp) (by simp; omega) (hF.mono (by omega)) (fun bs o' s6 hbs hlen hF => ?_)
        simp only [List.length_nil, Nat.zero_add] at hlen
        exact tail_law K De _ f k (3000 * xs.length) m bs hbs hf k6 k1 hb (by omega) m1 m2 (by rw [hlen]; exact hmk) (some (false, x)) s6 s7 s8 s9 s10 s13 s11 s12 o' hF (fun o' s5 s6 s7 s8 s9 s10 s13 s11 s12 hF => hk _ ⟨o', some (false, x), some (false, _), some (false, _), s5, s6, s7, s8, s9, s10, s11, s12, s13, hF, rfl⟩)
      have b60 : Bs 6 60 := by unfold Bs; decide
      simp only [↓SP, ↓SP2, ↓SP3, ↓SP4, ↓SQ5, ↓SQ6, ↓SQ7, ↓SB, ↓SB2, ↓SB3, ↓SB4, ↓SFD, SB, SB2, SB3, SB4, SO, SF, SW, SV, SX, SG, SH, SI, SQ, Int.reduceEq, Int.reduceLT, Int.reduceLE, Int.reduceToNat, Int.reducePow, Int.reduceNeg, Int.reduceSub, Int.reduceAdd, Int.reduceMul, Option.isSome_some, Option.isSome_none, eq_self, decide_true, decide_false, SBQ, SPL, SEE, SEC, SED, Bool.true_or, Bool.false_or, Bool.or_false, Bool.or_true, if_true, if_false, Bool.false_eq_true, reduceCtorEq, implies_true, Int.reduceNe, ne_eq, not_false_eq_true, ↓m_law, ↓b_law_1, ↓e_law_2, ↓e_law_3, ↓b_law_4, ↓b_law_5, ↓p__law_feed, ↓p_weights_back, ↓p__law_box, ↓p__law_draw, ↓p__law_times, ↓p__law_divisor]
      refine ⟨_, hF.mono (show (3000 * xs.length + 2910) + 1 ≤ _ by omega), fun a o1 a0 a1 hF => ⟨_, hF, fun b o2 b0 b1 hF => ⟨_, hF, fun c o3 c0 c1 hF => ?_⟩⟩⟩
      refine AK_mem (fun d => ∃ m : Int, d = .int m ∧ 1 ≤ m ∧ m ≤ 40) c0 (by simpa using c1) (fun d hd => ?_) (fun d hd => ?_)
      · simp only [List.mem_cons, List.not_mem_nil, or_false] at hd
        rcases hd with rfl | rfl | rfl
        · exact ⟨_, rfl, by omega, by omega⟩
        · exact ⟨_, rfl, by omega, by omega⟩
        · exact ⟨_, rfl, by omega, by omega⟩
      · obtain ⟨m, rfl, m1, m2⟩ := hd
        simp only [↓SP, ↓SP2, ↓SP3, ↓SP4, ↓SQ5, ↓SQ6, ↓SQ7, ↓SB, ↓SB2, ↓SB3, ↓SB4, ↓SFD, SB, SB2, SB3, SB4, SO, SF, SW, SV, SX, SG, SH, SI, SQ, Int.reduceEq, Int.reduceLT, Int.reduceLE, Int.reduceToNat, Int.reducePow, Int.reduceNeg, Int.reduceSub, Int.reduceAdd, Int.reduceMul, Option.isSome_some, Option.isSome_none, eq_self, decide_true, decide_false, SBQ, SPL, SEE, SEC, SED, Bool.true_or, Bool.false_or, Bool.or_false, Bool.or_true, if_true, if_false, Bool.false_eq_true, reduceCtorEq, implies_true, Int.reduceNe, ne_eq, not_false_eq_true, ↓j_law_1_1, ↓p__law_draw]
        refine ⟨_, hF, fun c o4 c0 c1 hF => CI_d (fun hc => ?_) (fun hc => ?_)⟩
        · simp only [↓SP, ↓SP2, ↓SP3, ↓SP4, ↓SQ5, ↓SQ6, ↓SQ7, ↓SB, ↓SB2, ↓SB3, ↓SB4, ↓SFD, SB, SB2, SB3, SB4, SO, SF, SW, SV, SX, SG, SH, SI, SQ, Int.reduceEq, Int.reduceLT, Int.reduceLE, Int.reduceToNat, Int.reducePow, Int.reduceNeg, Int.reduceSub, Int.reduceAdd, Int.reduceMul, Option.isSome_some, Option.isSome_none, eq_self, decide_true, decide_false, SBQ, SPL, SEE, SEC, SED, Bool.true_or, Bool.false_or, Bool.or_false, Bool.or_true, if_true, if_false, Bool.false_eq_true, reduceCtorEq, implies_true, Int.reduceNe, ne_eq, not_false_eq_true, ↓p__law_draw]
          refine ⟨_, hF, fun c o5 c0 c1 hF => ?_⟩
          exact fin _ 100 (1 + c) _ none none (by decide) (by decide) (by decide) (by unfold Bs; decide) (by omega) (by omega) (by omega) (hF.mono (by omega))
        · simp only [↓SP, ↓SP2, ↓SP3, ↓SP4, ↓SQ5, ↓SQ6, ↓SQ7, ↓SB, ↓SB2, ↓SB3, ↓SB4, ↓SFD, SB, SB2, SB3, SB4, SO, SF, SW, SV, SX, SG, SH, SI, SQ, Int.reduceEq, Int.reduceLT, Int.reduceLE, Int.reduceToNat, Int.reducePow, Int.reduceNeg, Int.reduceSub, Int.reduceAdd, Int.reduceMul, Option.isSome_some, Option.isSome_none, eq_self, decide_true, decide_false, SBQ, SPL, SEE, SEC, SED, Bool.true_or, Bool.false_or, Bool.or_false, Bool.or_true, if_true, if_false, Bool.false_eq_true, reduceCtorEq, implies_true, Int.reduceNe, ne_eq, not_false_eq_true]
          exact fin 60 6 m _ none none (by decide) (by decide) (by decide) b60 m1 m2 (by omega) (hF.mono (by omega))
    · rintro ρ ⟨o, s2, s3, s4, s5, s6, s7, s8, s9, s10, s11, s12, s13, hF, rfl⟩
      simp only [↓SP, ↓SP2, ↓SP3, ↓SP4, ↓SQ5, ↓SQ6, ↓SQ7, ↓SB, ↓SB2, ↓SB3, ↓SB4, ↓SFD, SB, SB2, SB3, SB4, SO, SF, SW, SV, SX, SG, SH, SI, SQ, Int.reduceEq, Int.reduceLT, Int.reduceLE, Int.reduceToNat, Int.reducePow, Int.reduceNeg, Int.reduceSub, Int.reduceAdd, Int.reduceMul, Option.isSome_some, Option.isSome_none, eq_self, decide_true, decide_false, SBQ, SPL, SEE, SEC, SED, Bool.true_or, Bool.false_or, Bool.or_false, Bool.or_true, if_true, if_false, Bool.false_eq_true, reduceCtorEq, implies_true, Int.reduceNe, ne_eq, not_false_eq_true, ↓m_law, ↓j_law_2_1, ↓b_law_1, ↓e_law_2, ↓e_law_3, ↓j_law_3_1, ↓b_law_4, ↓j_law_1_17, ↓j_law_1_16, ↓j_law_1_15, ↓j_law_1_14, ↓j_law_1_13, ↓j_law_1_12, ↓j_law_1_11, ↓j_law_1_10, ↓j_law_1_9, ↓j_law_1_8, ↓j_law_1_7, ↓j_law_1_6, ↓j_law_1_5, ↓j_law_1_4, ↓j_law_1_3, ↓j_law_1_2, ↓j_law_1_1, ↓b_law_5, ↓k_law_2, ↓k_law_1, ↓p__law_feed, ↓p_weights_back, ↓p__law_box, ↓p__law_draw, ↓p__law_times, ↓p__law_divisor]
      exact h
  · exact h.elim
theorem w_law (t : T K mg) (cdv : Value) (A : Around) (outer : List Env) (s : Shared) (H : Hp) (E : XK) (hr : Room 6 (A.deeper (envOfC "law" (defScope s_law) s.heap.objs.size (He.ga K "law") cdv))) : QSs (CxN P w K mg base N_law "law" (defScope s_law) cdv A outer s H E) wN (defBody s_law) (m_law K) :=
  show QSs _ wN (defBody s_law) (mSeq (mSet 1 (mCall (p__law_feed K) (mConsA (mVar 0) (mNilA)))) (mSeq (mFor (mRng1 (mConsA (mC (.int 2)) (mNilA))) (gNm 2) (mSeq (mPar 3 4 (mConsA (mC (.int 60)) (mConsA (mBin fIxG (mLst (mConsA (mBin fAdd (mC (.int 1)) (mCallO 0 (p__law_draw K) (mConsA (mVar 1) (mConsA (mC (.int 40)) (mNilA))))) (mConsA (mBin fAdd (mC (.int 1)) (mCallO 0 (p__law_draw K) (mConsA (mVar 1) (mConsA (mC (.int 5)) (mNilA))))) (mConsA (mC (.int 40)) (mNilA))))) (mCallO 0 (p__law_draw K) (mConsA (mVar 1) (mConsA (mC (.int 3)) (mNilA))))) (mNilA)))) (mSeq (mIf (mTest (mBin fEq (mCallO 0 (p__law_draw K) (mConsA (mVar 1) (mConsA (mC (.int 4)) (mNilA)))) (mC (.int 0)))) (mPar 3 4 (mConsA (mBin fSub (mBin fPow (mC (.int 10)) (mC (.int 30))) (mC (.int 1))) (mConsA (mBin fAdd (mC (.int 1)) (mCallO 0 (p__law_draw K) (mConsA (mVar 1) (mConsA (mC (.int 8)) (mNilA))))) (mNilA)))) (mNext)) (mSeq (mSet 5 (mLst (mNilA))) (mSeq (mFor (mRng1 (mConsA (mVar 4) (mNilA))) (gNm 6) (mSeq (mExpr (mMth 5 "list" fAppend (mConsA (mCallO 0 (p__law_box K) (mConsA (mVar 1) (mConsA (mVar 3) (mNilA)))) (mNilA)))) (mIf (mTest (mBin fEq (mCallO 0 (p__law_draw K) (mConsA (mVar 1) (mConsA (mC (.int 5)) (mNilA)))) (mC (.int 0)))) (mSetG 5 (mNeg (mC (.int 1))) (mBin fIxG (mVar 5) (mCallO 0 (p__law_draw K) (mConsA (mVar 1) (mConsA (mBin fAdd (mVar 6) (mC (.int 1))) (mNilA)))))) (mNext)))) (mSeq (mSet 7 (mCallB fList (mConsA (mVar 5) (mNilA)))) (mSeq (mSet 8 (mCallW (p_weights_back K) (mConsA (mVar 7) (mNilA)))) (mSeq (mIf (mOr (mNot (mTest (mCallB (fIsi K) (mConsA (mVar 8) (mConsA (mC (.ty "list")) (mNilA)))))) (mOr (mTest (mBin fNe (mCallB fLenG (mConsA (mVar 8) (mNilA))) (mVar 4))) (mTest (mBin fNe (mVar 7) (mVar 5))))) (mRet (mC (.bl false))) (mNext)) (mSeq (mIf (mTest (mCallB fAny (mConsA (mLcO 8 (gNm 11) mYes (mOrV (mCallB (fIsi K) (mConsA (mVar 11) (mConsA (mC (.ty "bool")) (mNilA)))) (mOrV (mNotV (mCallB (fIsi K) (mConsA (mVar 11) (mConsA (mC (.ty "int")) (mNilA))))) (mBin fLt (mVar 11) (mC (.int 1))))) [11]) (mNilA)))) (mRet (mC (.bl false))) (mNext)) (mSeq (mSet 9 (mLcO 5 (gNm 14) mYes (mCall (p__law_times K) (mConsA (mBin fIxG (mVar 14) (mC (.int 2))) (mConsA (mBin fIxG (mVar 14) (mC (.int 3))) (mNilA)))) [14])) (mSeq (mSet 10 (mC (.int 0))) (mSeq (mForZ 8 (mVar 9) (gTp 2 (gsCons (gNm 11) (gsCons (gNm 12) (gsNil)))) (mSeq (mIf (mTest (mBin fNe (mBin fMul (mBin fMul (mVar 11) (mBin fIxG (mBin fIxG (mVar 9) (mC (.int 0))) (mC (.int 0)))) (mBin fIxG (mVar 12) (mC (.int 1)))) (mBin fMul (mBin fMul (mBin fIxG (mVar 8) (mC (.int 0))) (mBin fIxG (mVar 12) (mC (.int 0)))) (mBin fIxG (mBin fIxG (mVar 9) (mC (.int 0))) (mC (.int 1)))))) (mRet (mC (.bl false))) (mNext)) (mSet 10 (mCall (p__law_divisor K) (mConsA (mVar 10) (mConsA (mVar 11) (mNilA))))))) (mSeq (mIf (mTest (mBin fNe (mVar 10) (mC (.int 1)))) (mRet (mC (.bl false))) (mNext)) (mSeq (mSet 13 (mCallB fList (mConsA (mVar 8) (mNilA)))) (mSeq (mExpr (mMth 8 "list" fAppend (mConsA (mC (.int 0)) (mNilA)))) (mSeq (mIf (mTest (mBin fNe (mCallW (p_weights_back K) (mConsA (mVar 7) (mNilA))) (mVar 13))) (mRet (mC (.bl false))) (mNext)) (mSeq (mSetG 5 (mCallO 0 (p__law_draw K) (mConsA (mVar 1) (mConsA (mVar 4) (mNilA)))) (mCallO 0 (p__law_box K) (mConsA (mVar 1) (mConsA (mVar 3) (mNilA))))) (mSeq (mSetAll 7 (mVar 5)) (mIf (mTest (mBin fNe (mCallW (p_weights_back K) (mConsA (mVar 7) (mNilA))) (mCall (p_weights_back K) (mConsA (mCallB fList (mConsA (mVar 5) (mNilA))) (mNilA))))) (mRet (mC (.bl false))) (mNext)))))))))))))))))))) (mRet (mC (.bl true))))) from
  q_cons (q_set (i := 1) sc_law.nd (c_call (ok__law_feed t) (hr.mono (by omega)) t.g__law_feed takes_wN (qa_cons (q_var 0) (qa_nil)))) (q_cons (q_for PassesOwn.never rfl (qi_rng1 t.f_range (qa_cons (q_int) (qa_nil))) (g_name (i := 2) sc_law.nd) (q_cons (q_par (i := 3) (j := 4) rfl sc_law.nd (qa_cons (q_int) (qa_cons (q_ixG hr (q_lst (qa_cons (q_add (q_int) (c_callO (ok__law_draw t) (hr.mono (by omega)) t.g__law_draw takes_wN (qa_cons (q_var 1) (qa_cons (q_int) (qa_nil))))) (qa_cons (q_add (q_int) (c_callO (ok__law_draw t) (hr.mono (by omega)) t.g__law_draw takes_wN (qa_cons (q_var 1) (qa_cons (q_int) (qa_nil))))) (qa_cons (q_int) (qa_nil))))) (c_callO (ok__law_draw t) (hr.mono (by omega)) t.g__law_draw takes_wN (qa_cons (q_var 1) (qa_cons (q_int) (qa_nil))))) (qa_nil)))) (q_cons (q_if (q_teq hr (c_callO (ok__law_draw t) (hr.mono (by omega)) t.g__law_draw takes_wN (qa_cons (q_var 1) (qa_cons (q_int) (qa_nil)))) (q_int)) (q_one (q_par (i := 3) (j := 4) rfl sc_law.nd (qa_cons (q_sub (q_pow (q_int) (q_int)) (q_int)) (qa_cons (q_add (q_int) (c_callO (ok__law_draw t) (hr.mono (by omega)) t.g__law_draw takes_wN (qa_cons (q_var 1) (qa_cons (q_int) (qa_nil))))) (qa_nil))))) (q_nil)) (q_cons (q_set (i := 5) sc_law.nd (q_lst (qa_nil))) (q_cons (q_for PassesOwn.never rfl (qi_rng1 t.f_range (qa_cons (q_var 4) (qa_nil))) (g_name (i := 6) sc_law.nd) (q_cons (q_expr (q_append (i := 5) (qa_cons (c_callO (ok__law_box t) (hr.mono (by omega)) t.g__law_box takes_wN (qa_cons (q_var 1) (qa_cons (q_var 3) (qa_nil)))) (qa_nil)))) (q_one (q_if (q_teq hr (c_callO (ok__law_draw t) (hr.mono (by omega)) t.g__law_draw takes_wN (qa_cons (q_var 1) (qa_cons (q_int) (qa_nil)))) (q_int)) (q_one (q_setG (i := 5) hr (q_neg (q_int)) (q_ixG hr (q_var 5) (c_callO (ok__law_draw t) (hr.mono (by omega)) t.g__law_draw takes_wN (qa_cons (q_var 1) (qa_cons (q_add (q_var 6) (q_int)) (qa_nil))))))) (q_nil))))) (q_cons (q_set (i := 7) sc_law.nd (q_list t.f_list (qa_cons (q_var 5) (qa_nil)))) (q_cons (q_set (i := 8) sc_law.nd (c_callW (ok_weights_back t) (hr.mono (by omega)) t.g_weights_back takes_wN (qa_cons (q_var 7) (qa_nil)))) (q_cons (q_if (q_w (w_or (q_tnot (q_tval (q_isi t.f_isinstance (qa_cons (q_var 8) (qa_cons (q_bltn t.f_list (by decide +kernel)) (qa_nil)))))) (w_or (q_tne hr (q_lenG t.f_len (qa_cons (q_var 8) (qa_nil))) (q_var 4)) (w_or1 (q_tne hr (q_var 7) (q_var 5)))))) (q_one (q_ret (q_bl))) (q_nil)) (q_cons (q_if (q_tval (q_any rfl t.f_any (qa_cons (q_lcO (k := 8) (own := [("_law_one", 11)]) rfl sc_law.nd (blkOk_by (N := N_law) (sc := defScope s_law) (by decide +kernel)) (fun _ _ _ _ _ => g_name (i := 11) sc_law.nd) (fun _ _ _ _ _ => qts_nil) (fun _ _ _ _ _ => q_or (q_isi t.f_isinstance (qa_cons (q_var 11) (qa_cons (q_bltn t.f_bool (by decide +kernel)) (qa_nil)))) (q_or (q_not (q_isi t.f_isinstance (qa_cons (q_var 11) (qa_cons (q_bltn t.f_int (by decide +kernel)) (qa_nil))))) (q_one1 (q_lt (q_var 11) (q_int)))))) (qa_nil)))) (q_one (q_ret (q_bl))) (q_nil)) (q_cons (q_setLcO (i := 9) (k := 5) (own := [("_law_box_here", 14)]) rfl sc_law.nd (blkOk_by (N := N_law) (sc := defScope s_law) (by decide +kernel)) (fun _ _ _ _ _ => g_name (i := 14) sc_law.nd) (fun _ _ _ _ _ => qts_nil) (fun _ _ _ _ _ => c_call (ok__law_times t) (hr.mono (by omega)) t.g__law_times takes_wN (qa_cons (q_ixG hr (q_var 14) (q_int)) (qa_cons (q_ixG hr (q_var 14) (q_int)) (qa_nil)))) (sw_true rfl rfl rfl (by decide +kernel))) (q_cons (q_set (i := 10) sc_law.nd (q_int)) (q_cons (q_forZ (k := 8) PassesOwn.never rfl t.f_zip (q_var 9) (g_tup (n := 2) rfl (gs_cons (g_name (i := 11) sc_law.nd) (gs_cons (g_name (i := 12) sc_law.nd) (gs_nil)))) (q_cons (q_if (q_tne hr (q_mul (q_mul (q_var 11) (q_ixG hr (q_ixG hr (q_var 9) (q_int)) (q_int))) (q_ixG hr (q_var 12) (q_int))) (q_mul (q_mul (q_ixG hr (q_var 8) (q_int)) (q_ixG hr (q_var 12) (q_int))) (q_ixG hr (q_ixG hr (q_var 9) (q_int)) (q_int)))) (q_one (q_ret (q_bl))) (q_nil)) (q_one (q_set (i := 10) sc_law.nd (c_call (ok__law_divisor t) (hr.mono (by omega)) t.g__law_divisor takes_wN (qa_cons (q_var 10) (qa_cons (q_var 11) (qa_nil)))))))) (q_cons (q_if (q_tne hr (q_var 10) (q_int)) (q_one (q_ret (q_bl))) (q_nil)) (q_cons (q_set (i := 13) sc_law.nd (q_list t.f_list (qa_cons (q_var 8) (qa_nil)))) (q_cons (q_expr (q_append (i := 8) (qa_cons (q_int) (qa_nil)))) (q_cons (q_if (q_tne hr (c_callW (ok_weights_back t) (hr.mono (by omega)) t.g_weights_back takes_wN (qa_cons (q_var 7) (qa_nil))) (q_var 13)) (q_one (q_ret (q_bl))) (q_nil)) (q_cons (q_setG (i := 5) hr (c_callO (ok__law_draw t) (hr.mono (by omega)) t.g__law_draw takes_wN (qa_cons (q_var 1) (qa_cons (q_var 4) (qa_nil)))) (c_callO (ok__law_box t) (hr.mono (by omega)) t.g__law_box takes_wN (qa_cons (q_var 1) (qa_cons (q_var 3) (qa_nil))))) (q_cons (q_setAll (i := 7) (q_var 5)) (q_one (q_if (q_tne hr (c_callW (ok_weights_back t) (hr.mono (by omega)) t.g_weights_back takes_wN (qa_cons (q_var 7) (qa_nil))) (c_call (ok_weights_back t) (hr.mono (by omega)) t.g_weights_back takes_wN (qa_cons (q_list t.f_list (qa_cons (q_var 5) (qa_nil))) (qa_nil)))) (q_one (q_ret (q_bl))) (q_nil))))))))))))))))))))) (q_one (q_ret (q_bl))))
end
theorem law_asked {K : PySem.W.Frag} {H : Hp} {a : Addr} {ns : List Int} (hl : ns.length ≤ 63) (hS : SqL K H a (ns.map V.int)) : sp0 K (p_law K) [.ref a] H (fun v _ => v = .bl true) fun _ _ _ => False := by
  refine ⟨H, [.scr ns], fun r => r = .va (.bl true), fun _ => False, .refl _, .cons (.scr hS) .nil, ⟨hl, rfl⟩, fun r v F' H' n x q => ?_, fun _ _ _ _ _ _ z => z⟩
  subst q
  cases x
  rfl
theorem facts {P : Program} {w : World} {K : PySem.W.Frag} {h : Heap} {mg : Str → Option Value} {f : Addr} (X : K.In h) (G : h.Ns mainGlobals mg) (hfa : mg ("law" : Str) = some (.ref f)) (c : He.SaysX fa fn [] [] exB w h K) :
    ∃ fd : FuncData, (∀ (s : Shared) (v : Value), BindsTo s fd ⟨[v], []⟩ [("_law_script", v)]) ∧ ∀ base : Heap, K.In base → base.Ns mainGlobals mg → FnOk P w K mg base L2.CX0 7 f fd ["_law_script"] (sp0 K (p_law K)) := by
  have t := t_of X G c
  have e := hfa.symm.trans t.g_law
  cases e
  obtain ⟨fd, F⟩ := id t.d_law
  have b := FunD.bindsA (ps := ["_law_script"]) F fun _ _ _ _ _ _ us hl => match us, hl with | [_], _ => rfl
  exact ⟨fd, fun s v => b s [v] rfl, fun base _ _ => okN F sc_law (fun ds Q E h => len_law h) (w_law t) (fun ds Q E h => pure_law K ds Q (fun _ => False) h)⟩
end WR
open PySem PySem.W PySem.Calls PyProof.Rows
theorem PySem.Challenge.cw_weightrooms_k76_weights_back_holds : PySem.Challenge.rw_weightrooms_k76_weights_back.Holds := by
  w_on; o_law
  refine HandSHeadRun.head_any (r := OpenLaw.row PySem.Challenge.rw_weightrooms_k76_weights_back) (q := view (OpenLaw.row PySem.Challenge.rw_weightrooms_k76_weights_back).prog [28]) (H := WR.hk) (ob := WR.ob) (M := 20000) (loose := WR.loose) (d := HandSHeadRun.topDef (OpenLaw.row PySem.Challenge.rw_weightrooms_k76_weights_back).prog 28) (kwd := []) WR.ob_eq
    (by kernel_rfl) (fun s => by kernel_rfl) WR.run (by kernel_rfl) (by kernel_rfl) (by kernel_rfl) (by rfl) (by first | assumption | decide +kernel) (by decide +kernel) ⟨rfl, rfl, rfl, rfl, rfl, by decide +kernel⟩ ?hw ?hc
  case hw => w_witness2
  case hc =>
    refine L2.walk_ofE (l := PySem.Challenge.rw_weightrooms_k76_weights_back) (n := 63) (k := 7) (x := "_law_script") (CX := L2.CX0) rfl (by decide) (by kernel_rfl) ⟨rfl, by decide, by decide⟩ ?F (fun _ _ _ _ z => z)
    intro w mg fa h Y G hmg0
    obtain ⟨K, KX, c⟩ := Y
    have hmg : mg ("law" : PySem.Str) = some (.ref fa) := by
      have e : (HandSHeadRun.topDef (OpenLaw.row PySem.Challenge.rw_weightrooms_k76_weights_back).prog 28).name = ("law" : PySem.Str) := by kernel_rfl
      rw [← e]
      exact hmg0
    obtain ⟨fd, hb, hF⟩ := WR.facts (P := (PySem.Challenge.rw_weightrooms_k76_weights_back).prog) (w := w) KX G hmg c
    exact ⟨K, fd, _, KX, hb, fun H a ns hl _ hS => WR.law_asked hl hS, hF⟩

