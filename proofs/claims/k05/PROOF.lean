import PyProof.Rows.All
import Wide.All
import OpenK.AllK
import Wide.FinOn
import HandS.ForMost
import HandS.ForExc
import HandS.More
import HandS.Wide
import HandS.Zip
import HandS.IsInst
import HandS.ExcIs
import HandS.ExcValue
import HandS.TupAny
import HandS.Flow
import HandS.Small
import HandS.WideBits
import KE.KRevSl
import HandS.NoneIn
import PyProof.ExcBaseAll.ValueError
import PySem.Challenge.RW_wholeowners_k05_told_lists
import HandS.Text
import HandS.EndBits
set_option Elab.async false
set_option linter.all false
set_option maxRecDepth 100000
set_option maxHeartbeats 8000000
/-! Values told without addresses, cells that may change, and what a heap must bear so that it holds them. -/
namespace Bv
open PySem L2

/-- a value: lists and tuples that never change are told by their items; ref: a cell that may change, or a class -/
inductive Val where
  | non | bl (b : Bool) | int (i : Int) | str (x : Str) | tup (vs : List Val) | lst (vs : List Val) | ref (a : Addr) | ty (n : String)

mutual
inductive Dv (K : PySem.W.Frag) (N : Hp) : Val → V → Prop
  | non : Dv K N .non .non
  | bl (b : Bool) : Dv K N (.bl b) (.bl b)
  | int (i : Int) : Dv K N (.int i) (.int i)
  | str (x : Str) : Dv K N (.str x) (.str x)
  | ref (a : Addr) : Dv K N (.ref a) (.ref a)
  | ty (n : String) : Dv K N (.ty n) (.ty n)
  | tup {p : Addr} {vs : List Val} {xs : List V} : N p = some (.tup xs) → Dvs K N vs xs → Dv K N (.tup vs) (.ref p)
  | lst {p : Addr} {vs : List Val} {xs : List V} : N p = some (.lst xs) → Dvs K N vs xs → Dv K N (.lst vs) (.ref p)
inductive Dvs (K : PySem.W.Frag) (N : Hp) : List Val → List V → Prop
  | nil : Dvs K N [] []
  | cons {v : Val} {x : V} {vs : List Val} {xs : List V} : Dv K N v x → Dvs K N vs xs → Dvs K N (v :: vs) (x :: xs)
end

mutual
theorem Dv.mono {K : PySem.W.Frag} {N N' : Hp} (e : Same N N') : ∀ {v : Val} {x : V}, Dv K N v x → Dv K N' v x
  | _, _, .non => .non
  | _, _, .bl b => .bl b
  | _, _, .int i => .int i
  | _, _, .str x => .str x
  | _, _, .ref a => .ref a
  | _, _, .ty n => .ty n
  | _, _, .tup h t => .tup (e _ _ h) (Dvs.mono e t)
  | _, _, .lst h t => .lst (e _ _ h) (Dvs.mono e t)
theorem Dvs.mono {K : PySem.W.Frag} {N N' : Hp} (e : Same N N') : ∀ {vs : List Val} {xs : List V}, Dvs K N vs xs → Dvs K N' vs xs
  | _, _, .nil => .nil
  | _, _, .cons h t => .cons (Dv.mono e h) (Dvs.mono e t)
end

section
variable {K : PySem.W.Frag} {N : Hp}
theorem Dvs.length : ∀ {vs : List Val} {xs : List V}, Dvs K N vs xs → vs.length = xs.length
  | _, _, .nil => rfl
  | _, _, .cons _ t => by rw [List.length_cons, List.length_cons, Dvs.length t]
theorem Dvs.append : ∀ {vs ws : List Val} {xs ys : List V}, Dvs K N vs xs → Dvs K N ws ys → Dvs K N (vs ++ ws) (xs ++ ys)
  | _, _, _, _, .nil, h => h
  | _, _, _, _, .cons h t, h2 => .cons h (Dvs.append t h2)
theorem Dvs.get : ∀ {vs : List Val} {xs : List V} {i : Nat} {v : Val}, Dvs K N vs xs → vs[i]? = some v → ∃ x, xs[i]? = some x ∧ Dv K N v x
  | _, _, _, _, .nil, e => by simp at e
  | _, _, 0, _, .cons h t, e => by simp at e; subst e; exact ⟨_, rfl, h⟩
  | _, _, i + 1, v, .cons h t, e => by
    obtain ⟨x, h1, h2⟩ := Dvs.get (i := i) (v := v) t (by simpa using e)
    exact ⟨x, by simpa using h1, h2⟩
theorem Dvs.get' : ∀ {vs : List Val} {xs : List V} {i : Nat} {x : V}, Dvs K N vs xs → xs[i]? = some x → ∃ v, vs[i]? = some v ∧ Dv K N v x
  | _, _, _, _, .nil, e => by simp at e
  | _, _, 0, _, .cons h t, e => by simp at e; subst e; exact ⟨_, rfl, h⟩
  | _, _, i + 1, x, .cons h t, e => by
    obtain ⟨v, h1, h2⟩ := Dvs.get' (i := i) (x := x) t (by simpa using e)
    exact ⟨v, by simpa using h1, h2⟩
theorem Dvs.take : ∀ {vs : List Val} {xs : List V} (n : Nat), Dvs K N vs xs → Dvs K N (vs.take n) (xs.take n)
  | _, _, 0, _ => by simpa using Dvs.nil
  | _, _, _ + 1, .nil => by simpa using Dvs.nil
  | _, _, n + 1, .cons h t => by simpa using Dvs.cons h (Dvs.take n t)
theorem Dvs.drop : ∀ {vs : List Val} {xs : List V} (n : Nat), Dvs K N vs xs → Dvs K N (vs.drop n) (xs.drop n)
  | _, _, 0, h => h
  | _, _, _ + 1, .nil => by simpa using Dvs.nil
  | _, _, n + 1, .cons h t => by simpa using Dvs.drop n t
theorem Dvs.set {v : Val} {x : V} (h : Dv K N v x) : ∀ {vs : List Val} {xs : List V} (i : Nat), Dvs K N vs xs → Dvs K N (vs.set i v) (xs.set i x)
  | _, _, _, .nil => .nil
  | _, _, 0, .cons _ t => .cons h t
  | _, _, i + 1, .cons q t => .cons q (Dvs.set h i t)
theorem Dvs.dropLast : ∀ {vs : List Val} {xs : List V}, Dvs K N vs xs → Dvs K N vs.dropLast xs.dropLast := fun {vs xs} h => by
  rw [List.dropLast_eq_take, List.dropLast_eq_take, h.length]
  exact h.take _
theorem Dvs.strs : ∀ {ss : List Str} {xs : List V}, Dvs K N (ss.map Val.str) xs → xs = ss.map V.str
  | [], _, .nil => rfl
  | s :: ss, _, .cons h t => by
    cases h
    rw [Dvs.strs t]
    rfl
theorem Dvs.of_strs : ∀ (ss : List Str), Dvs K N (ss.map Val.str) (ss.map V.str)
  | [] => .nil
  | s :: ss => .cons (.str s) (Dvs.of_strs ss)
theorem Dvs.ints : ∀ {ss : List Int} {xs : List V}, Dvs K N (ss.map Val.int) xs → xs = ss.map V.int
  | [], _, .nil => rfl
  | s :: ss, _, .cons h t => by
    cases h
    rw [Dvs.ints t]
    rfl
theorem Dvs.of_ints : ∀ (ss : List Int), Dvs K N (ss.map Val.int) (ss.map V.int)
  | [] => .nil
  | s :: ss => .cons (.int s) (Dvs.of_ints ss)
theorem Dvs.bls : ∀ {ss : List Bool} {xs : List V}, Dvs K N (ss.map Val.bl) xs → xs = ss.map V.bl
  | [], _, .nil => rfl
  | s :: ss, _, .cons h t => by
    cases h
    rw [Dvs.bls t]
    rfl
end

/-- what may stand at an address that may change -/
inductive Cell where
  | lst (vs : List Val)
  | scr (vs : List Val)
  | dict (kvs : List (Str × Val))
  | lck (u : HO) (kvs : List (Str × Val))
  | inst (C : Addr) (fs : List (Str × Val))
  | exn (C : Addr) (fs : List (Str × Val))

abbrev MH := Addr → Option Cell
def mset (F : MH) (a : Addr) (c : Cell) : MH := fun b => if b = a then some c else F b
def mdel (F : MH) (a : Addr) : MH := fun b => if b = a then none else F b
theorem mset_same {F : MH} {a : Addr} {c : Cell} : mset F a c a = some c := by unfold mset; rw [if_pos rfl]
theorem mset_ne {F : MH} {a b : Addr} {c : Cell} (h : b ≠ a) : mset F a c b = F b := by unfold mset; rw [if_neg h]
theorem mset_mset {F : MH} {a : Addr} {c d : Cell} : mset (mset F a c) a d = mset F a d := by
  funext b; unfold mset; split <;> rfl
theorem mdel_same {F : MH} {a : Addr} : mdel F a a = none := by unfold mdel; rw [if_pos rfl]
theorem mdel_ne {F : MH} {a b : Addr} (h : b ≠ a) : mdel F a b = F b := by unfold mdel; rw [if_neg h]
theorem mset_self {F : MH} {a : Addr} {c : Cell} (h : F a = some c) : mset F a c = F := by
  funext b; unfold mset; split
  · rename_i e; rw [e, h]
  · rfl
theorem mdel_mset {F : MH} {a : Addr} {c : Cell} (h : F a = none) : mdel (mset F a c) a = F := by
  funext b
  by_cases e : b = a
  · rw [e, mdel_same, h]
  · rw [mdel_ne e, mset_ne e]
theorem mset_comm {F : MH} {a b : Addr} {c d : Cell} (h : a ≠ b) : mset (mset F a c) b d = mset (mset F b d) a c := by
  funext x; unfold mset; by_cases h1 : x = b
  · by_cases h2 : x = a
    · exact absurd (h2.symm.trans h1) h
    · rw [if_pos h1, if_neg h2, if_pos h1]
  · by_cases h2 : x = a
    · rw [if_neg h1, if_pos h2, if_pos h2]
    · rw [if_neg h1, if_neg h2, if_neg h2, if_neg h1]

/-- an exception object, with the own dict d or none, that nobody raises now -/
def ExG (cls : Value) (d : Option Addr) (a : Addr) : HO := .ext fun h => ∃ (oe : Obj) (vs : Array Value), h.get? a = some oe ∧ Zc cls d oe ∧ oe.data = .fields vs

abbrev Dkv (K : PySem.W.Frag) (N : Hp) : List (Str × Val) → List (Key × V) → Prop := Paired fun (p : Str × Val) (q : Key × V) => q.1 = Sum.inr p.1 ∧ Dv K N p.2 q.2
abbrev Dfs (K : PySem.W.Frag) (N : Hp) : List (Str × Val) → List (Str × V) → Prop := Paired fun (p : Str × Val) (q : Str × V) => p.1 = q.1 ∧ Dv K N p.2 q.2

def CellIn (K : PySem.W.Frag) (N H : Hp) (a : Addr) : Cell → Prop
  | .lst vs => ∃ xs, H a = some (.lst xs) ∧ Dvs K N vs xs
  | .scr vs => ∃ o xs, H a = some (.frz o (.lst xs)) ∧ Dvs K N vs xs
  | .dict kvs => ∃ xs, H a = some (.dK xs) ∧ Dkv K N kvs xs
  | .lck u kvs => H a = some u ∧ ∃ o xs, u = .frz o (.dK xs) ∧ Dkv K N kvs xs
  | .inst C fs => ∃ dx xs, H a = some (.ins C dx xs) ∧ Dfs K N fs xs
  | .exn C fs => (fs = [] ∧ H a = some (ExG (.ref C) none a)) ∨ ∃ d xs, fs ≠ [] ∧ H a = some (ExG (.ref C) (some d) a) ∧ H d = some (.xd xs) ∧ Dfs K N fs xs

/-- a moment: what stood still, the cells, the heap. What a moment's heap bears beside them stays as it was -/
structure Bs where
  N : Hp
  F : MH
  H : Hp
/-- the heap H bears what N tells (it stands still), and apart from it the cells F -/
structure Ok (K : PySem.W.Frag) (B : Bs) (N : Hp) (F : MH) (H : Hp) : Prop where
  sub : Same N H
  cell : ∀ a c, F a = some c → N a = none ∧ CellIn K N H a c
  kept : ∀ a o, B.H a = some o → B.N a = none → B.F a = none → H a = some o ∧ N a = none ∧ F a = none
  low : Same B.N N

section
variable {K : PySem.W.Frag} {B : Bs} {N N' H H' : Hp} {F : MH}
theorem Dkv.mono (e : Same N N') {l : List (Str × Val)} {m : List (Key × V)} (h : Dkv K N l m) : Dkv K N' l m := Paired.mapP h fun _ _ q => ⟨q.1, q.2.mono e⟩
theorem Dfs.mono (e : Same N N') {l : List (Str × Val)} {m : List (Str × V)} (h : Dfs K N l m) : Dfs K N' l m := Paired.mapP h fun _ _ q => ⟨q.1, q.2.mono e⟩
theorem CellIn.mono (e : Same N N') {a : Addr} : ∀ {c : Cell}, CellIn K N H a c → CellIn K N' H a c
  | .lst _, ⟨xs, h, d⟩ => ⟨xs, h, d.mono e⟩
  | .scr _, ⟨o, xs, h, d⟩ => ⟨o, xs, h, d.mono e⟩
  | .dict _, ⟨xs, h, d⟩ => ⟨xs, h, Dkv.mono e d⟩
  | .lck _ _, ⟨h, o, xs, hu, d⟩ => ⟨h, o, xs, hu, Dkv.mono e d⟩
  | .inst _ _, ⟨dx, xs, h, d⟩ => ⟨dx, xs, h, Dfs.mono e d⟩
  | .exn _ _, .inl h => .inl h
  | .exn _ _, .inr ⟨d, xs, hn, h, h2, q⟩ => .inr ⟨d, xs, hn, h, h2, Dfs.mono e q⟩
theorem CellIn.there {a : Addr} : ∀ {c : Cell}, CellIn K N H a c → ∃ o, H a = some o
  | .lst _, ⟨xs, h, d⟩ => ⟨_, h⟩
  | .scr _, ⟨o, xs, h, d⟩ => ⟨_, h⟩
  | .dict _, ⟨xs, h, d⟩ => ⟨_, h⟩
  | .lck _ _, ⟨h, _⟩ => ⟨_, h⟩
  | .inst _ _, ⟨dx, xs, h, d⟩ => ⟨_, h⟩
  | .exn _ _, .inl h => ⟨_, h.2⟩
  | .exn _ _, .inr ⟨d, xs, hn, h, h2, q⟩ => ⟨_, h⟩
/-- what a cell leans on in H: its own place, and an exception's dict -/
theorem CellIn.keep {a : Addr} (k : ∀ b o, (b = a ∨ ∃ xs, o = .xd xs) → H b = some o → H' b = some o) : ∀ {c : Cell}, CellIn K N H a c → CellIn K N H' a c
  | .lst _, ⟨xs, h, d⟩ => ⟨xs, k _ _ (.inl rfl) h, d⟩
  | .scr _, ⟨o, xs, h, d⟩ => ⟨o, xs, k _ _ (.inl rfl) h, d⟩
  | .dict _, ⟨xs, h, d⟩ => ⟨xs, k _ _ (.inl rfl) h, d⟩
  | .lck _ _, ⟨h, o, xs, hu, d⟩ => ⟨k _ _ (.inl rfl) h, o, xs, hu, d⟩
  | .inst _ _, ⟨dx, xs, h, d⟩ => ⟨dx, xs, k _ _ (.inl rfl) h, d⟩
  | .exn _ _, .inl h => .inl ⟨h.1, k _ _ (.inl rfl) h.2⟩
  | .exn _ _, .inr ⟨d, xs, hn, h, h2, q⟩ => .inr ⟨d, xs, hn, k _ _ (.inl rfl) h, k _ _ (.inr ⟨_, rfl⟩) h2, q⟩
theorem Ok.free (o : Ok K B N F H) {p : Addr} (h : H p = none) : N p = none ∧ F p = none := by
  refine ⟨o.sub.free h, ?_⟩
  cases e : F p with
  | none => rfl
  | some c =>
    obtain ⟨u, q⟩ := (o.cell p c e).2.there
    rw [h] at q
    cases q
/-- the heap grows -/
theorem Ok.grow (o : Ok K B N F H) (e : Same H H') : Ok K B N F H' :=
  ⟨o.sub.trans e, fun a c h => ⟨(o.cell a c h).1, (o.cell a c h).2.keep fun b u _ q => e b u q⟩, fun a u h h1 h2 => let ⟨x, y, z⟩ := o.kept a u h h1 h2; ⟨e a u x, y, z⟩, o.low⟩
theorem same_upd {p : Addr} {u : HO} (h : H p = none) : Same H (upd H p u) := fun b o e => by rw [upd_ne (ne_of_none e h)]; exact e
/-- a new thing that stands still -/
theorem Ok.still (o : Ok K B N F H) {p : Addr} {u : HO} (h : H p = none) : Same N (upd N p u) ∧ Ok K B (upd N p u) F (upd H p u) := by
  have hn := (o.free h).1
  refine ⟨same_upd hn, ⟨fun b x e => ?_, fun a c q => ?_, fun a u' h0 h1 h2 => ?_, o.low.trans (same_upd hn)⟩⟩
  · by_cases hb : b = p
    · subst hb; rw [upd_same] at e ⊢; exact e
    · rw [upd_ne hb] at e ⊢; exact o.sub b x e
  · have na : a ≠ p := fun z => by rw [z, (o.free h).2] at q; cases q
    obtain ⟨h1, h2⟩ := o.cell a c q
    exact ⟨by rw [upd_ne na]; exact h1, (h2.mono (same_upd hn)).keep fun b x _ r => same_upd h b x r⟩
  · obtain ⟨x, y, z⟩ := o.kept a u' h0 h1 h2
    have na := ne_of_none x h
    exact ⟨by rw [upd_ne na]; exact x, by rw [upd_ne na]; exact y, z⟩
/-- a new cell -/
theorem Ok.new (o : Ok K B N F H) {p : Addr} {u : HO} {c : Cell} (h : H p = none) (hc : CellIn K N (upd H p u) p c) : Ok K B N (mset F p c) (upd H p u) := by
  refine ⟨o.sub.trans (same_upd h), fun a d q => ?_, fun a u' h0 h1 h2 => ?_, o.low⟩
  · by_cases ha : a = p
    · subst ha; rw [mset_same] at q; cases q; exact ⟨(o.free h).1, hc⟩
    · rw [mset_ne ha] at q
      exact ⟨(o.cell a d q).1, (o.cell a d q).2.keep fun b x _ r => same_upd h b x r⟩
  · obtain ⟨x, y, z⟩ := o.kept a u' h0 h1 h2
    have na := ne_of_none x h
    exact ⟨by rw [upd_ne na]; exact x, y, by rw [mset_ne na]; exact z⟩
/-- a cell is changed -/
theorem Ok.put (o : Ok K B N F H) {p : Addr} {u : HO} {c d : Cell} (h : F p = some c) (hx : ∀ xs, H p ≠ some (.xd xs)) (hc : CellIn K N (upd H p u) p d) : Ok K B N (mset F p d) (upd H p u) := by
  have hn := (o.cell p c h).1
  have hk : ∀ b x, b ≠ p → H b = some x → upd H p u b = some x := fun b x e r => by rw [upd_ne e]; exact r
  refine ⟨fun b x e => hk b x (fun z => by rw [z, hn] at e; cases e) (o.sub b x e), fun a e q => ?_, fun a u' h0 h1 h2 => ?_, o.low⟩
  · by_cases ha : a = p
    · subst ha; rw [mset_same] at q; cases q; exact ⟨hn, hc⟩
    · rw [mset_ne ha] at q
      refine ⟨(o.cell a e q).1, (o.cell a e q).2.keep fun b x hb r => hk b x ?_ r⟩
      rintro rfl
      rcases hb with z | ⟨xs, rfl⟩
      · exact ha z.symm
      · exact hx xs r
  · obtain ⟨x, y, z⟩ := o.kept a u' h0 h1 h2
    have na : a ≠ p := fun w => by rw [w, h] at z; cases z
    exact ⟨hk a u' na x, y, by rw [mset_ne na]; exact z⟩
theorem Ok.less (o : Ok K B N F H) {F' : MH} (h : ∀ a c, F' a = some c → F a = some c) : Ok K B N F' H := by
  refine ⟨o.sub, fun a c q => o.cell a c (h a c q), fun a u' h0 h1 h2 => ?_, o.low⟩
  obtain ⟨x, y, z⟩ := o.kept a u' h0 h1 h2
  refine ⟨x, y, ?_⟩
  cases e : F' a with
  | none => rfl
  | some c => rw [h a c e] at z; cases z
/-- a cell is no more told -/
theorem Ok.drop (o : Ok K B N F H) (p : Addr) : Ok K B N (mdel F p) H := o.less fun a c q => by
  by_cases ha : a = p
  · rw [ha, mdel_same] at q; cases q
  · rw [mdel_ne ha] at q; exact q
/-- a list cell stands still from now on -/
theorem Ok.freeze (o : Ok K B N F H) {p : Addr} {vs : List Val} (h : F p = some (.lst vs)) : ∃ N', Same N N' ∧ Ok K B N' (mdel F p) H ∧ Dv K N' (.lst vs) (.ref p) := by
  obtain ⟨hn, xs, hx, d⟩ := o.cell p _ h
  have e := same_upd (u := .lst xs) hn
  refine ⟨upd N p (.lst xs), e, ⟨fun b x q => ?_, fun a c q => ?_, fun a u' h0 h1 h2 => ?_, o.low.trans e⟩, .lst upd_same (d.mono e)⟩
  · by_cases hb : b = p
    · subst hb; rw [upd_same] at q; rw [← q]; exact hx
    · rw [upd_ne hb] at q; exact o.sub b x q
  · have ha : a ≠ p := fun z => by rw [z, mdel_same] at q; cases q
    rw [mdel_ne ha] at q
    exact ⟨by rw [upd_ne ha]; exact (o.cell a c q).1, (o.cell a c q).2.mono e⟩
  · obtain ⟨x, y, z⟩ := o.kept a u' h0 h1 h2
    have na : a ≠ p := fun w => by rw [w, h] at z; cases z
    exact ⟨x, by rw [upd_ne na]; exact y, by rw [mdel_ne na]; exact z⟩
theorem Ok.none (K : PySem.W.Frag) (H : Hp) : Ok K ⟨H, fun _ => Option.none, H⟩ H (fun _ => Option.none) H := ⟨Same.refl H, fun _ _ h => (nomatch h), fun a o h h1 _ => ⟨h, h1, rfl⟩, Same.refl H⟩
/-- the moment itself as the base -/
theorem Ok.here (o : Ok K B N F H) : Ok K ⟨N, F, H⟩ N F H := ⟨o.sub, o.cell, fun _ _ h h1 h2 => ⟨h, h1, h2⟩, Same.refl N⟩
theorem Ok.trans {C : Bs} (o : Ok K B C.N C.F C.H) (o' : Ok K C N F H) : Ok K B N F H := ⟨o'.sub, o'.cell, fun a u h h1 h2 => let ⟨x, y, z⟩ := o.kept a u h h1 h2; o'.kept a u x y z, o.low.trans o'.low⟩
end

/-! ### the slots -/
abbrev St1 := List (Option Val)
structure Sl (K : PySem.W.Frag) (N : Hp) (σ : St1) (τ : L2.St) : Prop where
  len : σ.length = τ.length
  get : ∀ (i : Nat) (v : Val), σ[i]? = some (some v) → ∃ x, τ[i]? = some (some x) ∧ Dv K N v x
section
variable {K : PySem.W.Frag} {N N' : Hp} {σ : St1} {τ : L2.St}
theorem Sl.mono (e : Same N N') (h : Sl K N σ τ) : Sl K N' σ τ := ⟨h.len, fun i v q => let ⟨x, a, b⟩ := h.get i v q; ⟨x, a, b.mono e⟩⟩
theorem Sl.set (h : Sl K N σ τ) (i : Nat) {v : Val} {x : V} (d : Dv K N v x) : Sl K N (σ.set i (some v)) (τ.set i (some x)) := by
  refine ⟨by rw [List.length_set, List.length_set, h.len], fun j w q => ?_⟩
  by_cases hj : i = j
  · subst hj
    by_cases hl : i < σ.length
    · rw [List.getElem?_set_self hl] at q
      cases q
      exact ⟨x, List.getElem?_set_self (by rw [← h.len]; exact hl), d⟩
    · rw [List.getElem?_eq_none (by rw [List.length_set]; omega)] at q
      cases q
  · rw [List.getElem?_set_ne hj] at q ⊢
    exact h.get j w q
theorem Sl.del (h : Sl K N σ τ) (i : Nat) (o : Option V) : Sl K N (σ.set i none) (τ.set i o) := by
  refine ⟨by rw [List.length_set, List.length_set, h.len], fun j w q => ?_⟩
  by_cases hj : i = j
  · subst hj
    by_cases hl : i < σ.length
    · rw [List.getElem?_set_self hl] at q
      cases q
    · rw [List.getElem?_eq_none (by rw [List.length_set]; omega)] at q
      cases q
  · rw [List.getElem?_set_ne hj] at q ⊢
    exact h.get j w q
end

/-! ### wishes -/
abbrev Q1 := Val → MH → Prop
abbrev X1 := Addr → List (Str × Val) → MH → Prop
abbrev XS := Addr → List (Str × Val) → St1 → MH → Prop
abbrev Spec := List Val → MH → Q1 → X1 → Prop

/-- how a wish over told values is met at the heap -/
def Post (K : PySem.W.Frag) (B : Bs) (N : Hp) (Q0 : Q1) (Q : VK) : Prop := ∀ v x N' F' H', Same N N' → Ok K B N' F' H' → Dv K N' v x → Q0 v F' → Q x H'
def XRep (K : PySem.W.Frag) (N H : Hp) (fs : List (Str × Val)) (d : Option Addr) : Prop := (d = none ∧ fs = []) ∨ ∃ dd xs, fs ≠ [] ∧ d = some dd ∧ H dd = some (.xd xs) ∧ Dfs K N fs xs
def PostX (K : PySem.W.Frag) (B : Bs) (N : Hp) (E0 : X1) (E : XK) : Prop := ∀ C fs d N' F' H', Same N N' → Ok K B N' F' H' → XRep K N' H' fs d → E0 C fs F' → E (.ref C) d H'

def lift2 (K : PySem.W.Frag) (r : Val → Val → MH → Q1 → Prop) : R2 := fun x y H Q => ∃ B N F a b Q0, Ok K B N F H ∧ Dv K N a x ∧ Dv K N b y ∧ r a b F Q0 ∧ Post K B N Q0 Q
def lift1 (K : PySem.W.Frag) (r : Val → MH → Q1 → Prop) : V → Hp → VK → Prop := fun x H Q => ∃ B N F a Q0, Ok K B N F H ∧ Dv K N a x ∧ r a F Q0 ∧ Post K B N Q0 Q
def liftN (K : PySem.W.Frag) (r : List Val → MH → Q1 → Prop) : List V → Hp → VK → Prop := fun xs H Q => ∃ B N F as Q0, Ok K B N F H ∧ Dvs K N as xs ∧ r as F Q0 ∧ Post K B N Q0 Q
def liftM (K : PySem.W.Frag) (r : Val → List Val → MH → Q1 → Prop) : V → List V → Hp → VK → Prop := fun x xs H Q => ∃ B N F a as Q0, Ok K B N F H ∧ Dv K N a x ∧ Dvs K N as xs ∧ r a as F Q0 ∧ Post K B N Q0 Q
def liftSp (K : PySem.W.Frag) (sp : Spec) : Sp := fun xs H Q E => ∃ B N F as Q0 E0, Ok K B N F H ∧ Dvs K N as xs ∧ sp as F Q0 E0 ∧ Post K B N Q0 Q ∧ PostX K B N E0 E
def liftW (K : PySem.W.Frag) (B : Bs) (W : XS) : WX := fun cls d τ H => ∃ C fs N F σ, cls = .ref C ∧ Ok K B N F H ∧ XRep K N H fs d ∧ Sl K N σ τ ∧ W C fs σ F
theorem Post.mono {K : PySem.W.Frag} {B : Bs} {N N' : Hp} {Q0 : Q1} {Q : VK} (e : Same N N') (h : Post K B N Q0 Q) : Post K B N' Q0 Q := fun v x N2 F2 H2 e2 => h v x N2 F2 H2 (e.trans e2)
theorem Post.at {K : PySem.W.Frag} {B : Bs} {N H : Hp} {F : MH} {Q0 : Q1} {Q : VK} (h : Post K B N Q0 Q) (o : Ok K B N F H) {v : Val} {x : V} (d : Dv K N v x) (q : Q0 v F) : Q x H := h v x N F H (Same.refl N) o d q
end Bv

/-! Operators over told values: what they ask, what they give. -/
namespace Bv
open PySem L2

section
variable {K : PySem.W.Frag} {B : Bs} {N H : Hp} {F : MH}
theorem Dv.list {vs : List Val} {x : V} (o : Same N H) (h : Dv K N (.lst vs) x) : ∃ p xs, x = .ref p ∧ H p = some (.lst xs) ∧ Dvs K N vs xs := by
  cases h with
  | lst h d => exact ⟨_, _, rfl, o _ _ h, d⟩
theorem Dv.tuple {vs : List Val} {x : V} (o : Same N H) (h : Dv K N (.tup vs) x) : ∃ p xs, x = .ref p ∧ H p = some (.tup xs) ∧ Dvs K N vs xs := by
  cases h with
  | tup h d => exact ⟨_, _, rfl, o _ _ h, d⟩
/-- a new list, a new tuple that stand still -/
theorem Post.newL {Q0 : Q1} {Q : VK} (h : Post K B N Q0 Q) (o : Ok K B N F H) {vs : List Val} {xs : List V} (d : Dvs K N vs xs) (q : Q0 (.lst vs) F) : ∀ p, H p = none → Q (.ref p) (upd H p (.lst xs)) := fun p hp => by
  obtain ⟨e, o'⟩ := o.still (u := .lst xs) hp
  exact h _ _ _ F _ e o' (.lst upd_same (d.mono e)) q
theorem Post.newT {Q0 : Q1} {Q : VK} (h : Post K B N Q0 Q) (o : Ok K B N F H) {vs : List Val} {xs : List V} (d : Dvs K N vs xs) (q : Q0 (.tup vs) F) : ∀ p, H p = none → Q (.ref p) (upd H p (.tup xs)) := fun p hp => by
  obtain ⟨e, o'⟩ := o.still (u := .tup xs) hp
  exact h _ _ _ F _ e o' (.tup upd_same (d.mono e)) q
/-- a new list as a cell -/
theorem Post.newC {Q0 : Q1} {Q : VK} (h : Post K B N Q0 Q) (o : Ok K B N F H) {vs : List Val} {xs : List V} (d : Dvs K N vs xs) (q : ∀ p, F p = none → Q0 (.ref p) (mset F p (.lst vs))) : ∀ p, H p = none → Q (.ref p) (upd H p (.lst xs)) := fun p hp => by
  exact h _ _ _ _ _ (Same.refl N) (o.new (c := .lst vs) hp ⟨xs, upd_same, d⟩) (.ref p) (q p (o.free hp).2)
end

/-! ### flat values, data -/
def flat : Val → Bool
  | .non => true
  | .bl _ => true
  | .int _ => true
  | .str _ => true
  | _ => false
def eqF : Val → Val → Bool
  | .non, .non => true
  | .bl a, .bl b => a == b
  | .bl a, .int b => (if a then 1 else 0) == b
  | .int a, .bl b => a == (if b then 1 else 0)
  | .int a, .int b => a == b
  | .str a, .str b => a == b
  | _, _ => false
def inL (x : Val) (vs : List Val) : Bool := vs.any fun y => eqF y x
section
variable {K : PySem.W.Frag} {N : Hp}
theorem Dv.flat {v : Val} {x : V} (h : Dv K N v x) (f : flat v = true) : flatV x = true := by
  cases h <;> first | rfl | cases f
theorem Dvs.flat : ∀ {vs : List Val} {xs : List V}, Dvs K N vs xs → vs.all Bv.flat = true → xs.all flatV = true
  | _, _, .nil, _ => rfl
  | _, _, .cons h t, f => by
    rw [List.all_cons, Bool.and_eq_true] at f ⊢
    exact ⟨h.flat f.1, t.flat f.2⟩
theorem Dv.eqF {v w : Val} {x y : V} (h : Dv K N v x) (h2 : Dv K N w y) (f : Bv.flat v = true) (f2 : Bv.flat w = true) : eqV x y = Bv.eqF v w := by
  cases h <;> cases h2 <;> first | rfl | exact absurd f Bool.false_ne_true | exact absurd f2 Bool.false_ne_true
theorem Dvs.inL {v : Val} {x : V} (h : Dv K N v x) (f : Bv.flat v = true) : ∀ {vs : List Val} {xs : List V}, Dvs K N vs xs → vs.all Bv.flat = true → inV x xs = Bv.inL v vs
  | _, _, .nil, _ => rfl
  | _, _, .cons a t, g => by
    rw [List.all_cons, Bool.and_eq_true] at g
    have i := Dvs.inL h f t g.2
    unfold inV Bv.inL at i ⊢
    rw [List.any_cons, List.any_cons, i, Dv.eqF a h g.1 f]
end
def toPD : Val → PyData
  | .non => .none
  | .bl b => .bool b
  | .int i => .int i
  | .str x => .str x
  | .tup vs => .tuple (vs.attach.map fun ⟨v, _⟩ => toPD v)
  | .lst vs => .list (vs.attach.map fun ⟨v, _⟩ => toPD v)
  | .ref _ => .none
  | .ty _ => .none
theorem toPD_tup (vs : List Val) : toPD (.tup vs) = .tuple (vs.map toPD) := by rw [toPD]; simp
theorem toPD_lst (vs : List Val) : toPD (.lst vs) = .list (vs.map toPD) := by rw [toPD]; simp
/-- data, at most so deep -/
def okD : Nat → Val → Bool
  | _, .non => true
  | _, .bl _ => true
  | _, .int _ => true
  | _, .str x => x.cps.all (· < 0x110000)
  | n + 1, .tup vs => vs.all (okD n)
  | n + 1, .lst vs => vs.all (okD n)
  | _, _ => false

theorem depthAll_le {n : Nat} : ∀ {ds : List PyData}, (∀ d ∈ ds, d.depth ≤ n) → PyData.depthAll ds ≤ n
  | [], _ => by simp [PyData.depthAll]
  | d :: ds, h => by
    have h1 := h d List.mem_cons_self
    have h2 := depthAll_le (n := n) (ds := ds) fun e he => h e (List.mem_cons_of_mem _ he)
    simp only [PyData.depthAll]
    omega
theorem canAll : ∀ {ds : List PyData}, (∀ d ∈ ds, d.canLay0 = true) → PyData.canLayAll0 ds = true
  | [], _ => by simp [PyData.canLayAll0]
  | d :: ds, h => by
    simp only [PyData.canLayAll0, Bool.and_eq_true]
    exact ⟨h d List.mem_cons_self, canAll fun e he => h e (List.mem_cons_of_mem _ he)⟩
theorem okD_pd : ∀ {n : Nat} {v : Val}, okD n v = true → (toPD v).depth ≤ n ∧ (toPD v).canLay0 = true
  | n, .non, _ => by cases n <;> simp [toPD, PyData.depth, PyData.canLay0]
  | n, .bl _, _ => by cases n <;> simp [toPD, PyData.depth, PyData.canLay0]
  | n, .int _, _ => by cases n <;> simp [toPD, PyData.depth, PyData.canLay0]
  | n, .str x, h => by
    have h' : x.cps.all (· < 0x110000) = true := by cases n <;> exact h
    refine ⟨?_, ?_⟩
    · simp [toPD, PyData.depth]
    · rw [toPD, PyData.canLay0]
      exact h'
  | 0, .tup _, h => by simp [okD] at h
  | 0, .lst _, h => by simp [okD] at h
  | n + 1, .tup vs, h => by
    have h : vs.all (okD n) = true := h
    rw [toPD_tup]
    refine ⟨?_, ?_⟩
    · rw [PyData.depth]
      refine Nat.succ_le_succ (depthAll_le fun d hd => ?_)
      obtain ⟨v, hv, rfl⟩ := List.mem_map.mp hd
      exact (okD_pd (n := n) (List.all_eq_true.mp h v hv)).1
    · rw [PyData.canLay0]
      refine canAll fun d hd => ?_
      obtain ⟨v, hv, rfl⟩ := List.mem_map.mp hd
      exact (okD_pd (n := n) (List.all_eq_true.mp h v hv)).2
  | n + 1, .lst vs, h => by
    have h : vs.all (okD n) = true := h
    rw [toPD_lst]
    refine ⟨?_, ?_⟩
    · rw [PyData.depth]
      refine Nat.succ_le_succ (depthAll_le fun d hd => ?_)
      obtain ⟨v, hv, rfl⟩ := List.mem_map.mp hd
      exact (okD_pd (n := n) (List.all_eq_true.mp h v hv)).1
    · rw [PyData.canLay0]
      refine canAll fun d hd => ?_
      obtain ⟨v, hv, rfl⟩ := List.mem_map.mp hd
      exact (okD_pd (n := n) (List.all_eq_true.mp h v hv)).2
  | n, .ref _, h => by cases n <;> simp [okD] at h
  | n, .ty _, h => by cases n <;> simp [okD] at h
theorem okD_shaped {v : Val} (h : okD 60 v = true) : SeqAt.shaped (toPD v) = true := by
  obtain ⟨h1, h2⟩ := okD_pd h
  unfold SeqAt.shaped
  rw [h2, decide_eq_true (show (toPD v).depth ≤ 64 by omega)]
  rfl
mutual
theorem Dv.dp {K : PySem.W.Frag} {N H : Hp} (o : Same N H) : ∀ {n : Nat} {v : Val} {x : V}, Dv K N v x → okD n v = true → Dp K H x (toPD v)
  | _, _, _, .non, _ => by rw [toPD]; exact .non
  | _, _, _, .bl b, _ => by rw [toPD]; exact .bl b
  | _, _, _, .int i, _ => by rw [toPD]; exact .int i
  | _, _, _, .str x, _ => by rw [toPD]; exact .str x
  | n, _, _, .ref a, h => by cases n <;> simp [okD] at h
  | n, _, _, .ty a, h => by cases n <;> simp [okD] at h
  | 0, _, _, .tup _ _, h => by simp [okD] at h
  | 0, _, _, .lst _ _, h => by simp [okD] at h
  | n + 1, _, _, .tup r t, h => by rw [toPD_tup]; exact .tup (.inl (.inl (o _ _ r))) (Dvs.dp o (n := n) t h)
  | n + 1, _, _, .lst r t, h => by rw [toPD_lst]; exact .lst (.inl (.inl (o _ _ r))) (Dvs.dp o (n := n) t h)
theorem Dvs.dp {K : PySem.W.Frag} {N H : Hp} (o : Same N H) : ∀ {n : Nat} {vs : List Val} {xs : List V}, Dvs K N vs xs → vs.all (okD n) = true → DpAll K H xs (vs.map toPD)
  | _, _, _, .nil, _ => .nil
  | _, _, _, .cons h t, g => by
    rw [List.all_cons, Bool.and_eq_true] at g
    exact .cons (Dv.dp o h g.1) (Dvs.dp o t g.2)
end
/-- a cell's list, as it stands -/
def rdF (F : MH) : Val → Val
  | .ref p => match F p with
    | some (.lst vs) => .lst vs
    | some (.scr vs) => .lst vs
    | _ => .ref p
  | v => v
theorem rdF_dp {K : PySem.W.Frag} {B : Bs} {N H : Hp} {F : MH} (o : Ok K B N F H) {v : Val} {x : V} (d : Dv K N v x) (h : okD 60 (rdF F v) = true) : Dp K H x (toPD (rdF F v)) := by
  cases v with
  | ref p =>
    cases d
    have er : rdF F (.ref p) = (match F p with | some (.lst vs) => Val.lst vs | some (.scr vs) => Val.lst vs | _ => .ref p) := rfl
    rw [er] at h ⊢
    cases e : F p with
    | none => rw [e] at h; simp [okD] at h
    | some c =>
      rw [e] at h
      cases c with
      | lst vs =>
        obtain ⟨_, xs, hx, dd⟩ := o.cell p _ e
        show Dp K H (.ref p) (toPD (.lst vs))
        rw [toPD_lst]
        exact .lst (.inl (.inl hx)) (Dvs.dp o.sub (n := 59) dd h)
      | scr vs =>
        obtain ⟨_, ob, xs, hx, dd⟩ := o.cell p _ e
        show Dp K H (.ref p) (toPD (.lst vs))
        rw [toPD_lst]
        exact .lst (.inl (.inr ⟨ob, hx⟩)) (Dvs.dp o.sub (n := 59) dd h)
      | _ => simp [okD] at h
  | _ => exact Dv.dp o.sub d h

/-! ### dicts by text keys -/
def kget (kvs : List (Str × Val)) (k : Str) : Option Val := (kvs.find? fun kv => decide (kv.1 = k)).map (·.2)
def kput (kvs : List (Str × Val)) (k : Str) (v : Val) : List (Str × Val) :=
  if (kvs.any fun kv => decide (kv.1 = k)) = true then kvs.map (fun kv => if kv.1 = k then (kv.1, v) else kv) else kvs ++ [(k, v)]
def kdrop (kvs : List (Str × Val)) (k : Str) : List (Str × Val) := kvs.filter fun kv => decide (kv.1 ≠ k)
section
variable {K : PySem.W.Frag} {N : Hp}
theorem Dkv.get {k : Str} : ∀ {kvs : List (Str × Val)} {xs : List (Key × V)}, Dkv K N kvs xs → (∀ v, kget kvs k = some v → ∃ x, valV xs (Sum.inr k : Key) = some x ∧ Dv K N v x) ∧ (kget kvs k = none → valV xs (Sum.inr k : Key) = none)
  | _, _, .nil => ⟨fun v h => (by simp [kget] at h), fun _ => rfl⟩
  | _, _, .cons (a := p) (b := q) h t => by
    obtain ⟨i1, i2⟩ := Dkv.get (k := k) t
    obtain ⟨pk, pv⟩ := p
    obtain ⟨qk, qv⟩ := q
    obtain ⟨e, d⟩ := h
    simp only at e d
    subst e
    by_cases hk : pk = k
    · subst hk
      refine ⟨fun v h => ?_, fun h => ?_⟩
      · simp [kget, List.find?_cons] at h
        subst h
        exact ⟨qv, valV_pos rfl, d⟩
      · simp [kget, List.find?_cons] at h
    · have hk' : ¬ (Sum.inr pk : Key) = Sum.inr k := fun z => hk (Sum.inr.inj z)
      rw [valV_neg hk']
      exact ⟨fun v h => i1 v (by rw [← h]; simp [kget, List.find?_cons, hk]), fun h => i2 (by rw [← h]; simp [kget, List.find?_cons, hk])⟩
theorem Dkv.length {kvs : List (Str × Val)} {xs : List (Key × V)} (h : Dkv K N kvs xs) : kvs.length = xs.length := Paired.length h
theorem Dkv.any {k : Str} : ∀ {kvs : List (Str × Val)} {xs : List (Key × V)}, Dkv K N kvs xs → (xs.any fun kv => decide (kv.1 = (Sum.inr k : Key))) = kvs.any fun kv => decide (kv.1 = k)
  | _, _, .nil => rfl
  | _, _, .cons h t => by
    rw [List.any_cons, List.any_cons, Dkv.any t, h.1]
    congr 1
    simp
theorem Dkv.map {k : Str} {v : Val} {x : V} (d : Dv K N v x) : ∀ {kvs : List (Str × Val)} {xs : List (Key × V)}, Dkv K N kvs xs → Dkv K N (kvs.map (fun kv => if kv.1 = k then (kv.1, v) else kv)) (xs.map (fun kv => if kv.1 = (Sum.inr k : Key) then (kv.1, x) else kv))
  | _, _, .nil => .nil
  | _, _, .cons (a := p) (b := q) h t => by
    rw [List.map_cons, List.map_cons]
    refine .cons ?_ (Dkv.map d t)
    by_cases hk : p.1 = k
    · rw [if_pos hk, if_pos (by rw [h.1, hk])]
      exact ⟨h.1, d⟩
    · rw [if_neg hk, if_neg (by rw [h.1]; simpa using hk)]
      exact h
theorem Dkv.append : ∀ {a c : List (Str × Val)} {b d : List (Key × V)}, Dkv K N a b → Dkv K N c d → Dkv K N (a ++ c) (b ++ d)
  | _, _, _, _, .nil, h => h
  | _, _, _, _, .cons h t, h2 => .cons h (Dkv.append t h2)
theorem Dkv.put {k : Str} {v : Val} {x : V} (d : Dv K N v x) {kvs : List (Str × Val)} {xs : List (Key × V)} (h : Dkv K N kvs xs) : Dkv K N (kput kvs k v) (putK xs (Sum.inr k : Key) x) := by
  unfold kput putK
  rw [Dkv.any h]
  split
  · exact Dkv.map d h
  · exact Dkv.append h (.cons ⟨rfl, d⟩ .nil)
theorem Dkv.drop {k : Str} : ∀ {kvs : List (Str × Val)} {xs : List (Key × V)}, Dkv K N kvs xs → Dkv K N (kdrop kvs k) (dropK xs (Sum.inr k : Key))
  | _, _, .nil => .nil
  | _, _, .cons (a := p) (b := q) h t => by
    unfold kdrop dropK
    rw [List.filter_cons, List.filter_cons]
    by_cases hk : p.1 = k
    · rw [if_neg (by simp [hk]), if_neg (by simp [h.1, hk])]
      exact Dkv.drop t
    · rw [if_pos (by simp [hk]), if_pos (by simp [h.1, hk])]
      exact .cons h (Dkv.drop t)
theorem Dkv.keys : ∀ {kvs : List (Str × Val)} {xs : List (Key × V)}, Dkv K N kvs xs → xs.map (·.1) = (kvs.map (·.1)).map (Sum.inr : Str → Key)
  | _, _, .nil => rfl
  | _, _, .cons h t => by rw [List.map_cons, List.map_cons, List.map_cons, Dkv.keys t, h.1]
end
end Bv

/-! The operators' own rules over told values. -/
namespace Bv
open PySem L2 PyProof.Rows

/-- the items of a list, still or a cell -/
def lsOf (F : MH) : Val → Option (List Val)
  | .lst vs => some vs
  | .ref p => match F p with
    | some (.lst vs) => some vs
    | some (.scr vs) => some vs
    | _ => none
  | _ => none
theorem lsOf_ok {K : PySem.W.Frag} {B : Bs} {N H : Hp} {F : MH} (o : Ok K B N F H) {v : Val} {x : V} {vs : List Val} (d : Dv K N v x) (h : lsOf F v = some vs) : ∃ p xs, x = .ref p ∧ Rd H p (.lst xs) ∧ Dvs K N vs xs := by
  cases v with
  | lst ws =>
    cases h
    obtain ⟨p, xs, e, h1, h2⟩ := d.list o.sub
    exact ⟨p, xs, e, .inl h1, h2⟩
  | ref p =>
    cases d
    have h : (match F p with | some (.lst vs) => some vs | some (.scr vs) => some vs | _ => none) = some vs := h
    cases e : F p with
    | none => rw [e] at h; cases h
    | some c =>
      rw [e] at h
      cases c with
      | lst ws =>
        cases h
        obtain ⟨_, xs, hx, dd⟩ := o.cell p _ e
        exact ⟨p, xs, rfl, .inl hx, dd⟩
      | scr ws =>
        cases h
        obtain ⟨_, ob, xs, hx, dd⟩ := o.cell p _ e
        exact ⟨p, xs, rfl, .inr ⟨ob, hx⟩, dd⟩
      | _ => cases h
  | _ => cases h

def DivOk (i j : Int) : Prop := j ≠ 0 ∧ Builtin.divisionGoesByPylong i j = false
def addS (a b : Val) (F : MH) (Q : Q1) : Prop :=
  match a, b with
  | .int i, .int j => Q (.int (i + j)) F
  | .str x, .str y => x.length + y.length ≤ sizeLine ∧ Q (.str (x ++ y)) F
  | .tup xs, .tup ys => xs.length + ys.length ≤ sizeLine ∧ Q (.tup (xs ++ ys)) F
  | a, b => match lsOf F a, lsOf F b with
    | some xs, some ys => xs.length + ys.length ≤ sizeLine ∧ Q (.lst (xs ++ ys)) F
    | _, _ => False
def subS : Val → Val → MH → Q1 → Prop
  | .int i, .int j, F, Q => Q (.int (i - j)) F
  | _, _, _, _ => False
def mulS : Val → Val → MH → Q1 → Prop
  | .int i, .int j, F, Q => IntMulOk i j ∧ Q (.int (i * j)) F
  | .lst xs, .int k, F, Q => -(2 ^ 63) ≤ k ∧ k < 2 ^ 63 ∧ xs.length * k.toNat ≤ sizeLine ∧ Q (.lst (List.replicate k.toNat xs).flatten) F
  | .str x, .int k, F, Q => -(2 ^ 63) ≤ k ∧ k ≤ 1 ∧ Q (.str (if k < 1 then Str.empty else x)) F
  | _, _, _, _ => False
def fdivS : Val → Val → MH → Q1 → Prop
  | .int i, .int j, F, Q => DivOk i j ∧ Q (.int (i.fdiv j)) F
  | _, _, _, _ => False
def modS : Val → Val → MH → Q1 → Prop
  | .int i, .int j, F, Q => j ≠ 0 ∧ Q (.int (i.fmod j)) F
  | _, _, _, _ => False
def powS : Val → Val → MH → Q1 → Prop
  | .int i, .int j, F, Q => CPow i j ∧ Q (.int (i ^ j.toNat)) F
  | _, _, _, _ => False
def shrS : Val → Val → MH → Q1 → Prop
  | .int i, .int j, F, Q => 0 ≤ j ∧ Q (.int (i / 2 ^ j.toNat)) F
  | _, _, _, _ => False
def andS : Val → Val → MH → Q1 → Prop
  | .int i, .int j, F, Q => j = 1 ∧ Q (.int (i % 2)) F
  | _, _, _, _ => False
def shlS : Val → Val → MH → Q1 → Prop
  | .int i, .int j, F, Q => i = 1 ∧ 0 ≤ j ∧ j ≤ 1000 ∧ Q (.int (2 ^ j.toNat)) F
  | _, _, _, _ => False
def binS : Operator → Val → Val → MH → Q1 → Prop
  | .Add => addS
  | .Sub => subS
  | .Mult => mulS
  | .FloorDiv => fdivS
  | .Mod => modS
  | .Pow => powS
  | .RShift => shrS
  | .BitAnd => andS
  | .LShift => shlS
  | _ => fun _ _ _ _ => False

section
variable {X : Cx}
theorem op_mulA : OpR X (binaryOp .Mult) (rI IntMulOk fun i j => .int (i * j)) := opI fun _ _ _ _ _ _ _ hc q => mul_int q hc
theorem op_fdivA : OpR X (binaryOp .FloorDiv) (rI DivOk fun i j => .int (i.fdiv j)) := opI fun _ _ _ _ _ _ _ hc q => floordiv_int hc.1 q (.inl hc.2)
theorem inv_rdL {pins : List (Addr × Obj)} {σ : L2.St} {H : Hp} {s : Shared} {l : Addr} {xs : List V} (I : Inv X pins σ H s) (h : Rd H l (.lst xs)) :
    ∃ (its : List Value) (n : Nat), Vals xs its ∧ s.heap.get? l = some { cls := .type "list", data := .seq its.toArray n } := by
  obtain ⟨_, its, n, r, e⟩ := h.ok I.hok
  exact ⟨its, n, r, e⟩
/-- list + list, the script's too -/
def rCatR : R2 := fun x y H Q => ∃ l b xs zs, x = .ref l ∧ y = .ref b ∧ Rd H l (.lst xs) ∧ Rd H b (.lst zs) ∧ xs.length + zs.length ≤ sizeLine ∧ ∀ p, H p = none → Q (.ref p) (upd H p (.lst (xs ++ zs)))
theorem op_catR : OpR X (binaryOp .Add) rCatR := by
  rintro pins s σ H x y v u Q I rx ry ⟨l, b, xs, zs, rfl, rfl, hl, hb, hz, q⟩
  obtain rfl : v = .ref l := rx
  obtain rfl : u = .ref b := ry
  obtain ⟨us, n, ru, e1⟩ := inv_rdL I hl
  obtain ⟨ws, m, rw, e2⟩ := inv_rdL I hb
  have lu := ru.length
  have lw := rw.length
  refine PySem.P.add_list e1 e2 ?_ (by simp; omega)
  have J := I.lnew (t' := s.toks) (ru.append rw) (by rw [List.length_append]; exact hz)
  refine ⟨.ref _, _, ?_, rfl, q _ I.fresh⟩
  simpa using J
theorem addS_ok : OpR X (binaryOp .Add) (lift2 X.K addS) := by
  rintro pins s σ H x y v u Q I rx ry ⟨B, N, F, a, b, Q0, o, da, db, h, post⟩
  unfold addS at h
  split at h
  · cases da; cases db
    exact op_add pins s σ H _ _ v u Q I rx ry ⟨_, _, rfl, rfl, post.at o (.int _) h⟩
  · cases da; cases db
    exact op_add_str pins s σ H _ _ v u Q I rx ry ⟨_, _, rfl, rfl, h.1, post.at o (.str _) h.2⟩
  · obtain ⟨p, xs, rfl, s1, d1⟩ := da.tuple o.sub
    obtain ⟨q, ys, rfl, s2, d2⟩ := db.tuple o.sub
    rename_i vs ws _ _
    refine op_catA pins s σ H _ _ v u Q I rx ry ⟨_, _, _, _, rfl, rfl, .of s1, .of s2, by rw [← d1.length, ← d2.length]; exact h.1, fun e => ?_, fun _ e => ?_, fun _ _ => post.newT o (d1.append d2) h.2⟩
    · subst e
      cases d1
      exact post.at o db h.2
    · subst e
      cases d2
      have h2 := h.2
      rw [List.append_nil] at h2
      exact post.at o da h2
  · split at h
    · rename_i e1 e2
      obtain ⟨p, xs, rfl, r1, d1⟩ := lsOf_ok o da e1
      obtain ⟨q, ys, rfl, r2, d2⟩ := lsOf_ok o db e2
      exact op_catR pins s σ H _ _ v u Q I rx ry ⟨_, _, _, _, rfl, rfl, r1, r2, by rw [← d1.length, ← d2.length]; exact h.1, post.newL o (d1.append d2) h.2⟩
    · exact h.elim
theorem subS_ok : OpR X (binaryOp .Sub) (lift2 X.K subS) := by
  rintro pins s σ H x y v u Q I rx ry ⟨B, N, F, a, b, Q0, o, da, db, h, post⟩
  unfold subS at h
  split at h
  · cases da; cases db
    exact op_sub pins s σ H _ _ v u Q I rx ry ⟨_, _, rfl, rfl, post.at o (.int _) h⟩
  · exact h.elim
theorem Dvs.rep {K : PySem.W.Frag} {N : Hp} {vs : List Val} {xs : List V} (d : Dvs K N vs xs) : ∀ n : Nat, Dvs K N (List.replicate n vs).flatten (List.replicate n xs).flatten
  | 0 => by simpa using Dvs.nil
  | n + 1 => by
    rw [List.replicate_succ, List.replicate_succ, List.flatten_cons, List.flatten_cons]
    exact d.append (Dvs.rep d n)
theorem mulS_ok : OpR X (binaryOp .Mult) (lift2 X.K mulS) := by
  rintro pins s σ H x y v u Q I rx ry ⟨B, N, F, a, b, Q0, o, da, db, h, post⟩
  unfold mulS at h
  split at h
  · cases da; cases db
    exact op_mulA pins s σ H _ _ v u Q I rx ry ⟨_, _, rfl, rfl, h.1, post.at o (.int _) h.2⟩
  · obtain ⟨p, xs, rfl, r1, d1⟩ := da.list o.sub
    cases db
    obtain ⟨h1, h2, h3, h4⟩ := h
    exact op_rep pins s σ H _ _ v u Q I rx ry ⟨_, _, _, rfl, rfl, r1, h1, h2, by rw [← d1.length]; exact h3, post.newL o (d1.rep _) h4⟩
  · rename_i z k
    cases da; cases db
    obtain ⟨t, rfl⟩ := rx
    obtain ⟨t2, rfl⟩ := ry
    obtain ⟨h1, h2, h3⟩ := h
    have e1 : decide (k < -(2 ^ 63 : Int)) = false := decide_eq_false (by omega)
    have e2 : decide (k ≥ 2 ^ 63) = false := decide_eq_false (by omega)
    by_cases hk : k < 1
    · rw [if_pos hk] at h3
      exact PySem.P.mul_str_none hk (by omega) ⟨.str Str.empty, H, I.tok _, ⟨_, rfl⟩, post.at o (.str _) h3⟩
    · have k1 : k = 1 := by omega
      subst k1
      rw [if_neg (by omega)] at h3
      refine PySem.P.mul_str (by rw [e1, e2]; rfl) (fun _ h => by simp at h) (fun _ h => by simp at h) ?_
      rw [if_neg (by omega), if_pos (by simp)]
      exact ⟨.str z, H, I, ⟨t, rfl⟩, post.at o (.str _) h3⟩
  · exact h.elim
theorem fdivS_ok : OpR X (binaryOp .FloorDiv) (lift2 X.K fdivS) := by
  rintro pins s σ H x y v u Q I rx ry ⟨B, N, F, a, b, Q0, o, da, db, h, post⟩
  unfold fdivS at h
  split at h
  · cases da; cases db
    exact op_fdivA pins s σ H _ _ v u Q I rx ry ⟨_, _, rfl, rfl, h.1, post.at o (.int _) h.2⟩
  · exact h.elim
theorem modS_ok : OpR X (binaryOp .Mod) (lift2 X.K modS) := by
  rintro pins s σ H x y v u Q I rx ry ⟨B, N, F, a, b, Q0, o, da, db, h, post⟩
  unfold modS at h
  split at h
  · cases da; cases db
    exact op_modN pins s σ H _ _ v u Q I rx ry ⟨_, _, rfl, rfl, h.1, post.at o (.int _) h.2⟩
  · exact h.elim
theorem powS_ok : OpR X (binaryOp .Pow) (lift2 X.K powS) := by
  rintro pins s σ H x y v u Q I rx ry ⟨B, N, F, a, b, Q0, o, da, db, h, post⟩
  unfold powS at h
  split at h
  · cases da; cases db
    exact op_pow pins s σ H _ _ v u Q I rx ry ⟨_, _, rfl, rfl, h.1, post.at o (.int _) h.2⟩
  · exact h.elim
theorem shrS_ok : OpR X (binaryOp .RShift) (lift2 X.K shrS) := by
  rintro pins s σ H x y v u Q I rx ry ⟨B, N, F, a, b, Q0, o, da, db, h, post⟩
  unfold shrS at h
  split at h
  · cases da; cases db
    exact op_shr pins s σ H _ _ v u Q I rx ry ⟨_, _, rfl, rfl, h.1, post.at o (.int _) h.2⟩
  · exact h.elim
theorem andS_ok : OpR X (binaryOp .BitAnd) (lift2 X.K andS) := by
  rintro pins s σ H x y v u Q I rx ry ⟨B, N, F, a, b, Q0, o, da, db, h, post⟩
  unfold andS at h
  split at h
  · cases da; cases db
    obtain ⟨rfl, h⟩ := h
    exact op_andM pins s σ H _ _ v u Q I rx ry ⟨_, 1, rfl, rfl, post.at o (.int _) h⟩
  · exact h.elim
theorem shlS_ok : OpR X (binaryOp .LShift) (lift2 X.K shlS) := by
  rintro pins s σ H x y v u Q I rx ry ⟨B, N, F, a, b, Q0, o, da, db, h, post⟩
  unfold shlS at h
  split at h
  · rename_i i j
    cases da; cases db
    obtain ⟨rfl, h0, h1, h⟩ := h
    exact op_oneShl pins s σ H _ _ v u Q I rx ry ⟨j.toNat, rfl, by rw [Int.toNat_of_nonneg h0], by omega, post.at o (.int _) h⟩
  · exact h.elim
theorem lift2_no {f : Value → Value → Sem Value} : OpR X f (lift2 X.K fun _ _ _ _ => False) := by
  rintro pins s σ H x y v u Q I rx ry ⟨B, N, F, a, b, Q0, o, da, db, h, post⟩
  exact h.elim
theorem binS_ok : ∀ op : Operator, OpR X (binaryOp op) (lift2 X.K (binS op))
  | .Add => addS_ok
  | .Sub => subS_ok
  | .Mult => mulS_ok
  | .FloorDiv => fdivS_ok
  | .Mod => modS_ok
  | .Pow => powS_ok
  | .RShift => shrS_ok
  | .BitAnd => andS_ok
  | .LShift => shlS_ok
  | .MatMult | .Div | .BitOr | .BitXor => lift2_no
end

/-! ### comparisons -/
def ltS (g : Int → Int → Bool) : Val → Val → MH → Q1 → Prop
  | .int i, .int j, F, Q => Q (.bl (g i j)) F
  | _, _, _, _ => False
def eqS (a b : Val) (F : MH) (Q : Bool → Prop) : Prop := okD 60 (rdF F a) = true ∧ okD 60 (rdF F b) = true ∧ Q (PyData.eqv (toPD (rdF F a)) (toPD (rdF F b)))
/-- is a in b -/
def inS (a b : Val) (F : MH) (Q : Bool → Prop) : Prop :=
  match a, b with
  | .str y, .str z => ∃ c : Nat, y = ⟨#[c]⟩ ∧ Q (decide (c ∈ z.cps.toList))
  | a, .tup vs => flat a = true ∧ vs.all flat = true ∧ Q (inL a vs)
  | a, b => match lsOf F b with
    | some vs => flat a = true ∧ vs.all flat = true ∧ Q (inL a vs)
    | none => match a, b with
      | .str k, .ref p => match F p with
        | some (.dict kvs) => Q (kget kvs k).isSome
        | some (.lck _ kvs) => Q (kget kvs k).isSome
        | _ => False
      | _, _ => False
def isNS : Val → Bool
  | .non => true
  | _ => false
def isS (a b : Val) (Q : Bool → Prop) : Prop := match b with
  | .non => Q (isNS a)
  | .bl c => match a with
    | .bl d => Q (d == c)
    | _ => False
  | _ => False
def cmpS (op : CmpOp) (a b : Val) (F : MH) (Q : Q1) : Prop :=
  match op with
  | .Eq => eqS a b F fun k => Q (.bl k) F
  | .NotEq => eqS a b F fun k => Q (.bl (!k)) F
  | .Lt => ltS (fun i j => decide (i < j)) a b F Q
  | .LtE => ltS (fun i j => decide (i ≤ j)) a b F Q
  | .Gt => ltS (fun i j => decide (j < i)) a b F Q
  | .GtE => ltS (fun i j => decide (j ≤ i)) a b F Q
  | .Is => isS a b fun k => Q (.bl k) F
  | .IsNot => isS a b fun k => Q (.bl (!k)) F
  | .In => inS a b F fun k => Q (.bl k) F
  | .NotIn => inS a b F fun k => Q (.bl (!k)) F
section
variable {X : Cx}
theorem Dv.isN {K : PySem.W.Frag} {N : Hp} {v : Val} {x : V} (h : Dv K N v x) : decide (x = .non) = isNS v := by
  cases h <;> first | rfl | exact decide_eq_false (fun z => nomatch z)
end
end Bv

/-! Comparisons, subscripts, slices over told values. -/
namespace Bv
open PySem L2 PyProof.Rows
section
variable {X : Cx}
theorem ltS_ok {op : CmpOp} {g : Int → Int → Bool} (h0 : OpR X (compareOp op) (rI0 fun i j => .bl (g i j))) : OpR X (compareOp op) (lift2 X.K (ltS g)) := by
  rintro pins s σ H x y v u Q I rx ry ⟨B, N, F, a, b, Q0, o, da, db, h, post⟩
  unfold ltS at h
  split at h
  · cases da; cases db
    exact h0 pins s σ H _ _ v u Q I rx ry ⟨_, _, rfl, rfl, post.at o (.bl _) h⟩
  · exact h.elim
theorem eqS_ok (hu : X.A.units + 64 < cLine) : OpR X (compareOp .Eq) (lift2 X.K (cmpS .Eq)) := by
  rintro pins s σ H x y v u Q I rx ry ⟨B, N, F, a, b, Q0, o, da, db, h, post⟩
  obtain ⟨h1, h2, h3⟩ := h
  exact op_eqD hu pins s σ H _ _ v u Q I rx ry ⟨_, _, rdF_dp o da h1, rdF_dp o db h2, okD_shaped h1, okD_shaped h2, post.at o (.bl _) h3⟩
theorem neS_ok (hu : X.A.units + 64 < cLine) : OpR X (compareOp .NotEq) (lift2 X.K (cmpS .NotEq)) := by
  rintro pins s σ H x y v u Q I rx ry ⟨B, N, F, a, b, Q0, o, da, db, h, post⟩
  obtain ⟨h1, h2, h3⟩ := h
  exact op_neD hu pins s σ H _ _ v u Q I rx ry ⟨_, _, rdF_dp o da h1, rdF_dp o db h2, okD_shaped h1, okD_shaped h2, post.at o (.bl _) h3⟩
theorem isS_ok : OpR X (compareOp .Is) (lift2 X.K (cmpS .Is)) := by
  rintro pins s σ H x y v u Q I rx ry ⟨B, N, F, a, b, Q0, o, da, db, h, post⟩
  cases b <;> first | exact h.elim | skip
  · cases db
    have h : Q0 (.bl (isNS a)) F := h
    rw [← da.isN] at h
    exact op_isN pins s σ H _ _ v u Q I rx ry ⟨rfl, post.at o (.bl _) h⟩
  · cases a <;> first | exact h.elim | skip
    cases da; cases db; cases rx; cases ry
    exact PyProof.Rows.is_bool ⟨.bl _, H, I, rfl, post.at o (.bl _) h⟩
theorem isnotS_ok : OpR X (compareOp .IsNot) (lift2 X.K (cmpS .IsNot)) := by
  rintro pins s σ H x y v u Q I rx ry ⟨B, N, F, a, b, Q0, o, da, db, h, post⟩
  cases b <;> first | exact h.elim | skip
  · cases db
    have h : Q0 (.bl (!isNS a)) F := h
    rw [← da.isN] at h
    exact op_notN pins s σ H _ _ v u Q I rx ry ⟨rfl, post.at o (.bl _) h⟩
  · cases a <;> first | exact h.elim | skip
    cases da; cases db; cases rx; cases ry
    exact PyProof.Rows.isnot_bool ⟨.bl _, H, I, rfl, post.at o (.bl _) h⟩
/-- a dict that is read: a cell, locked or not -/
def dcOf (F : MH) (p : Addr) : Option (List (Str × Val)) :=
  match F p with
  | some (.dict kvs) => some kvs
  | some (.lck _ kvs) => some kvs
  | _ => none
theorem dcOf_ok {K : PySem.W.Frag} {B : Bs} {N H : Hp} {F : MH} (o : Ok K B N F H) {p : Addr} {kvs : List (Str × Val)} (h : dcOf F p = some kvs) : ∃ xs, Rd H p (.dK xs) ∧ Dkv K N kvs xs := by
  unfold dcOf at h
  cases e : F p with
  | none => rw [e] at h; cases h
  | some c =>
    rw [e] at h
    cases c with
    | dict ws =>
      cases h
      obtain ⟨_, xs, hx, dd⟩ := o.cell p _ e
      exact ⟨xs, .inl hx, dd⟩
    | lck u ws =>
      cases h
      obtain ⟨_, hx, ob, xs, hu, dd⟩ := o.cell p _ e
      subst hu
      exact ⟨xs, .inr ⟨ob, hx⟩, dd⟩
    | _ => cases h
theorem dcOf_get {K : PySem.W.Frag} {B : Bs} {N H : Hp} {F : MH} (o : Ok K B N F H) {p : Addr} {kvs : List (Str × Val)} (h : dcOf F p = some kvs) (k : Str) :
    ∃ r : Option V, DGet H p (.str k) r ∧ r.isSome = (kget kvs k).isSome ∧ ∀ v, kget kvs k = some v → ∃ x, r = some x ∧ Dv K N v x := by
  obtain ⟨xs, r, d⟩ := dcOf_ok o h
  obtain ⟨i1, i2⟩ := Dkv.get (k := k) d
  refine ⟨valV xs (Sum.inr k : Key), .inl ⟨xs, Sum.inr k, r, rfl, rfl⟩, ?_, i1⟩
  cases e : kget kvs k with
  | none => rw [i2 e]; rfl
  | some v =>
    obtain ⟨x, e2, _⟩ := i1 v e
    rw [e2]; rfl
theorem inS_cases {a b : Val} {F : MH} {Q : Bool → Prop} (h : inS a b F Q) :
    (∃ (c : Nat) (z : Str), a = .str ⟨#[c]⟩ ∧ b = .str z ∧ Q (decide (c ∈ z.cps.toList))) ∨ (∃ vs, b = .tup vs ∧ flat a = true ∧ vs.all flat = true ∧ Q (inL a vs)) ∨
    (∃ vs, lsOf F b = some vs ∧ flat a = true ∧ vs.all flat = true ∧ Q (inL a vs)) ∨ ∃ k p kvs, a = .str k ∧ b = .ref p ∧ dcOf F p = some kvs ∧ Q (kget kvs k).isSome := by
  unfold inS at h
  split at h
  · obtain ⟨c, rfl, q⟩ := h
    exact .inl ⟨c, _, rfl, rfl, q⟩
  · exact .inr (.inl ⟨_, rfl, h⟩)
  · split at h
    · rename_i e
      exact .inr (.inr (.inl ⟨_, e, h⟩))
    · split at h
      · rename_i k p _ _ _
        cases e : F p with
        | none => rw [e] at h; exact h.elim
        | some c =>
          rw [e] at h
          cases c with
          | dict ws => exact .inr (.inr (.inr ⟨_, _, ws, rfl, rfl, by unfold dcOf; rw [e], h⟩))
          | lck u ws => exact .inr (.inr (.inr ⟨_, _, ws, rfl, rfl, by unfold dcOf; rw [e], h⟩))
          | _ => exact h.elim
      · exact h.elim
theorem sql_of {K : PySem.W.Frag} {H : Hp} {p : Addr} {xs : List V} (h : Rd H p (.lst xs)) : SqL K H p xs := .inl h
theorem inS_ok (hu : X.A.units + 64 < cLine) : OpR X (compareOp .In) (lift2 X.K (cmpS .In)) := by
  rintro pins s σ H x y v u Q I rx ry ⟨B, N, F, a, b, Q0, o, da, db, h, post⟩
  have h : inS a b F (fun k => Q0 (.bl k) F) := h
  rcases inS_cases h with ⟨c, z, rfl, rfl, q⟩ | ⟨vs, rfl, fa, fv, q⟩ | ⟨vs, e, fa, fv, q⟩ | ⟨k, p, kvs, rfl, rfl, e, q⟩
  · cases da; cases db
    exact op_in_sign pins s σ H _ _ v u Q I rx ry ⟨c, z, rfl, rfl, post.at o (.bl _) q⟩
  · obtain ⟨p, xs, rfl, s1, d1⟩ := db.tuple o.sub
    refine op_in_seq pins s σ H _ _ v u Q I rx ry ⟨p, xs, rfl, .inr (.of s1), da.flat fa, d1.flat fv, ?_⟩
    rw [Dvs.inL da fa d1 fv]
    exact post.at o (.bl _) q
  · obtain ⟨p, xs, rfl, r1, d1⟩ := lsOf_ok o db e
    refine op_in_seq pins s σ H _ _ v u Q I rx ry ⟨p, xs, rfl, .inl (sql_of r1), da.flat fa, d1.flat fv, ?_⟩
    rw [Dvs.inL da fa d1 fv]
    exact post.at o (.bl _) q
  · cases da; cases db
    obtain rfl : u = .ref p := ry
    obtain ⟨r, g, e1, _⟩ := dcOf_get o e k
    exact d_in (by omega) I g rx fun s' I' => ⟨.bl r.isSome, H, I', rfl, post.at o (.bl _) (by rw [e1]; exact q)⟩
theorem notinS_ok (hu : X.A.units + 64 < cLine) : OpR X (compareOp .NotIn) (lift2 X.K (cmpS .NotIn)) := by
  rintro pins s σ H x y v u Q I rx ry ⟨B, N, F, a, b, Q0, o, da, db, h, post⟩
  have h : inS a b F (fun k => Q0 (.bl (!k)) F) := h
  rcases inS_cases h with ⟨c, z, rfl, rfl, q⟩ | ⟨vs, rfl, fa, fv, q⟩ | ⟨vs, e, fa, fv, q⟩ | ⟨k, p, kvs, rfl, rfl, e, q⟩
  · cases da; cases db
    exact op_notIn_sign pins s σ H _ _ v u Q I rx ry ⟨c, z, rfl, rfl, post.at o (.bl _) q⟩
  · obtain ⟨p, xs, rfl, s1, d1⟩ := db.tuple o.sub
    refine op_notIn_seq pins s σ H _ _ v u Q I rx ry ⟨p, xs, rfl, .inr (.of s1), da.flat fa, d1.flat fv, ?_⟩
    rw [if_pos rfl, Dvs.inL da fa d1 fv]
    exact post.at o (.bl _) q
  · obtain ⟨p, xs, rfl, r1, d1⟩ := lsOf_ok o db e
    refine op_notIn_seq pins s σ H _ _ v u Q I rx ry ⟨p, xs, rfl, .inl (sql_of r1), da.flat fa, d1.flat fv, ?_⟩
    rw [if_pos rfl, Dvs.inL da fa d1 fv]
    exact post.at o (.bl _) q
  · cases da; cases db
    obtain rfl : u = .ref p := ry
    obtain ⟨r, g, e1, _⟩ := dcOf_get o e k
    exact d_notIn (by omega) I g rx fun s' I' => ⟨.bl (!r.isSome), H, I', rfl, post.at o (.bl _) (by rw [e1]; exact q)⟩
theorem cmpS_ok (hu : X.A.units + 64 < cLine) : ∀ op : CmpOp, OpR X (compareOp op) (lift2 X.K (cmpS op))
  | .Eq => eqS_ok hu
  | .NotEq => neS_ok hu
  | .Lt => ltS_ok op_lt
  | .LtE => ltS_ok op_le
  | .Gt => ltS_ok op_gt
  | .GtE => ltS_ok op_ge
  | .Is => isS_ok
  | .IsNot => isnotS_ok
  | .In => inS_ok hu
  | .NotIn => notinS_ok hu

/-! ### a[i], a[i:j] -/
def atS (vs : List Val) (i : Int) (F : MH) (Q : Q1) : Prop := match atI vs i with
  | some v => Q v F
  | none => False
def ixS (a i : Val) (F : MH) (Q : Q1) : Prop :=
  match a, i with
  | .tup vs, .int i => atS vs i F Q
  | .str z, .int i => match atI z.cps.toList i with
    | some c => z.length ≤ sizeLine ∧ Q (.str ⟨#[c]⟩) F
    | none => False
  | a, .int i => match lsOf F a with
    | some vs => atS vs i F Q
    | none => False
  | .ref p, .str k => match dcOf F p with
    | some kvs => match kget kvs k with
      | some v => Q v F
      | none => False
    | none => False
  | _, _ => False
theorem Dvs.at {K : PySem.W.Frag} {N : Hp} {vs : List Val} {xs : List V} (d : Dvs K N vs xs) {i : Int} {v : Val} (h : atI vs i = some v) : ∃ x, atI xs i = some x ∧ Dv K N v x := by
  unfold atI at h ⊢
  rw [← d.length]
  cases e : ixN vs.length i with
  | none => rw [e] at h; cases h
  | some j =>
    rw [e] at h
    exact d.get (i := j) h
theorem atS_some {vs : List Val} {i : Int} {F : MH} {Q : Q1} (h : atS vs i F Q) : ∃ v, atI vs i = some v ∧ Q v F := by
  unfold atS at h
  cases e : atI vs i with
  | none => rw [e] at h; exact h.elim
  | some v => rw [e] at h; exact ⟨v, rfl, h⟩
theorem ixS_cases {a i : Val} {F : MH} {Q : Q1} (h : ixS a i F Q) :
    (∃ vs i' v, a = .tup vs ∧ i = .int i' ∧ atI vs i' = some v ∧ Q v F) ∨ (∃ z i' c, a = .str z ∧ i = .int i' ∧ atI z.cps.toList i' = some c ∧ z.length ≤ sizeLine ∧ Q (.str ⟨#[c]⟩) F) ∨
    (∃ vs i' v, lsOf F a = some vs ∧ i = .int i' ∧ atI vs i' = some v ∧ Q v F) ∨ ∃ p k kvs v, a = .ref p ∧ i = .str k ∧ dcOf F p = some kvs ∧ kget kvs k = some v ∧ Q v F := by
  unfold ixS at h
  split at h
  · obtain ⟨v, e, q⟩ := atS_some h
    exact .inl ⟨_, _, v, rfl, rfl, e, q⟩
  · split at h
    · rename_i e
      exact .inr (.inl ⟨_, _, _, rfl, rfl, e, h⟩)
    · exact h.elim
  · split at h
    · rename_i e
      obtain ⟨v, e2, q⟩ := atS_some h
      exact .inr (.inr (.inl ⟨_, _, v, e, rfl, e2, q⟩))
    · exact h.elim
  · split at h
    · rename_i e
      split at h
      · rename_i e2
        exact .inr (.inr (.inr ⟨_, _, _, _, rfl, rfl, e, e2, h⟩))
      · exact h.elim
    · exact h.elim
  · exact h.elim
/-- d[k], as a subscript by values -/
theorem ix_dict (hu : X.A.units + 1 < cLine) : IxR X (fun x y H Q => ∃ a v, x = .ref a ∧ DGet H a y (some v) ∧ Q v H) := by
  rintro value slice pins s σ H x y v u Q I rx ry ⟨a, z, rfl, g, q⟩ hs
  obtain rfl : v = .ref a := rx
  have hT := dict_typeIs I g
  unfold subscriptTail
  refine wpAny_bind ?_
  rw [getitemInPython_of_ne hT.not_modules]
  refine wpAny_bind (wpAny_specialOf hT PySem.F.slot_dict_getitem.lookup ?_)
  have fin : wpAny (model X.prog X.w) X.A (subscripted slice false (.ref a) u) (fun r s3 => wpAny (model X.prog X.w) X.A (letTemporaryGo value (.ref a) r >>= fun _ => pure r) (EP X pins σ Q) X.xe s3) X.xe s := by
    rw [hs]
    exact wpAny_operating (d_getItem hu I g ry fun w' s3 I3 rw' => wpAny_bind (wpAny_letTemporaryGo (wpAny_pure ⟨z, H, I3, rw', q⟩)))
  first
    | exact wpAny_pure (wpAny_bind fin)
    | exact wpAny_bind (wpAny_pure (wpAny_bind fin))
    | exact wpAny_bind fin
theorem ixS_ok (hu : X.A.units + 64 < cLine) : IxR X (lift2 X.K ixS) := by
  rintro value slice pins s σ H x y v u Q I rx ry ⟨B, N, F, a, b, Q0, o, da, db, h, post⟩ hs
  rcases ixS_cases h with ⟨vs, i, w, rfl, rfl, e, q⟩ | ⟨z, i, c, rfl, rfl, e, hz, q⟩ | ⟨vs, i, w, el, rfl, e, q⟩ | ⟨p, k, kvs, w, rfl, rfl, e, e2, q⟩
  · cases db
    obtain ⟨p, xs, rfl, s1, d1⟩ := da.tuple o.sub
    obtain ⟨x', ex, dx⟩ := d1.at e
    exact ix_tup value slice pins s σ H _ _ v u Q I rx ry ⟨p, xs, i, x', rfl, rfl, .of s1, ex, post.at o dx q⟩ hs
  · cases da; cases db
    exact ix_str value slice pins s σ H _ _ v u Q I rx ry ⟨z, i, c, rfl, rfl, hz, e, post.at o (.str _) q⟩ hs
  · cases db
    obtain ⟨p, xs, rfl, r1, d1⟩ := lsOf_ok o da el
    obtain ⟨x', ex, dx⟩ := d1.at e
    exact ix_list value slice pins s σ H _ _ v u Q I rx ry ⟨p, xs, i, x', rfl, rfl, sql_of r1, ex, post.at o dx q⟩ hs
  · cases da; cases db
    obtain ⟨r, g, _, e3⟩ := dcOf_get o e k
    obtain ⟨x', rfl, dx⟩ := e3 w e2
    exact ix_dict (by omega) value slice pins s σ H _ _ v u Q I rx ry ⟨p, x', rfl, g, post.at o dx q⟩ hs
def cut {α : Type} (xs : List α) (lo hi : Option Int) : List α := (xs.drop (HT.sIx xs.length 0 lo)).take (HT.sIx xs.length xs.length hi - HT.sIx xs.length 0 lo)
theorem Dvs.cut {K : PySem.W.Frag} {N : Hp} {vs : List Val} {xs : List V} (d : Dvs K N vs xs) (lo hi : Option Int) : Dvs K N (Bv.cut vs lo hi) (cutV xs lo hi) := by
  unfold Bv.cut cutV
  rw [← d.length]
  exact (d.drop _).take _
theorem cut_whole {α : Type} {xs : List α} {lo hi : Option Int} (h : HT.sIx xs.length 0 lo = 0 ∧ HT.sIx xs.length xs.length hi = xs.length) : cut xs lo hi = xs := by
  unfold cut
  rw [h.1, h.2, List.drop_zero, Nat.sub_zero, List.take_length]
def slS (a : Val) (lo hi : Option Int) (F : MH) (Q : Q1) : Prop :=
  match a with
  | .tup vs => Q (.tup (cut vs lo hi)) F
  | .str z => z.length ≤ sizeLine ∧ Q (.str (cutS z lo hi)) F
  | a => match lsOf F a with
    | some vs => Q (.lst (cut vs lo hi)) F
    | none => False
/-- a[::-1] of a list -/
def revS (a : Val) (k : Option Int) (F : MH) (Q : Q1) : Prop := k = some (-1) ∧ match lsOf F a with
  | some vs => Q (.lst vs.reverse) F
  | none => False
theorem Dvs.reverse {K : PySem.W.Frag} {N : Hp} : ∀ {vs : List Val} {xs : List V}, Dvs K N vs xs → Dvs K N vs.reverse xs.reverse
  | _, _, .nil => .nil
  | _, _, .cons h t => by
    rw [List.reverse_cons, List.reverse_cons]
    exact (Dvs.reverse t).append (.cons h .nil)
def tRev (K : PySem.W.Frag) (te : TE) (ts : TO) : TE := fun σ H Q => te σ H fun x H1 => ts σ H1 fun k H2 => ∃ B N F a Q0, Ok K B N F H2 ∧ Dv K N a x ∧ revS a k F Q0 ∧ Post K B N Q0 Q
theorem pe_rev {e st : Expr} {te : TE} {ts : TO} {p2 pos : Pos} (he : PE X e te) (hs : PO X (some st) ts) : PE X (.Subscript e (.Slice none none (some st) p2) pos) (tRev X.K te ts) := by
  refine ⟨fun pins s σ H Q I h => ?_⟩
  refine Subscript_ (thn (he.run pins s σ H _ I h) fun v s1 ⟨x, H1, I1, r1, q1⟩ => ?_)
  refine wpAny_Slice ?_
  rw [evalPart_none]
  refine wpAny_pure (wpAny_pure (thn (hs.run pins s1 σ H1 _ I1 q1) fun vu s3 ⟨u, H3, I3, pu, q3⟩ => ?_))
  obtain ⟨B, N, F, a, Q0, o, da, ⟨rfl, q⟩, post⟩ := q3
  have I4 : Inv X pins σ H3 { s3 with heap := s3.heap.push { cls := .type "slice", data := .fields #[.none, .none, vu] } } := I3.kept (t' := s3.toks) fun b ob q => Heap.get?_push_of_some _ q
  have hg : ∃ T id, typeLookup (.type T) "__getitem__" = pure (some (.builtin id)) ∧ Shared.TypeIs { s3 with heap := s3.heap.push { cls := .type "slice", data := .fields #[.none, .none, vu] } } v T ∧ wpAny (model X.prog X.w) X.A (getItem v (.ref s3.heap.objs.size)) (EP X pins σ Q) X.xe { s3 with heap := s3.heap.push { cls := .type "slice", data := .fields #[.none, .none, vu] } } := by
    cases e1 : lsOf F a with
    | none => rw [e1] at q; exact q.elim
    | some vs =>
      rw [e1] at q
      obtain ⟨p, xs, rfl, hr, d1⟩ := lsOf_ok o da e1
      cases r1
      obtain ⟨its, r, ht, hz⟩ := I4.list (sql_of hr)
      have hlen := r.length
      refine ⟨"list", _, slot_list_getitem.lookup, ht.isList.typeIs, ?_⟩
      refine wpAny_getItem_list_slice ht.isList (Heap.IsSliceOf.new ..) .none .none pu (by decide) ?_ (by rw [List.size_toArray] <;> omega)
      rw [PySem.W.krv_pick]
      refine ⟨.ref _, _, I4.laid (t' := s3.toks) (o := .lst xs.reverse) (fun b ob q => Heap.get?_push_of_some _ q) (Nat.le_refl _) ?_, rfl, post.newL o d1.reverse q _ (I4.hok.fresh (Nat.le_refl _))⟩
      exact ⟨by rw [List.length_reverse]; exact hz, _, 0, r.reverse, Heap.get?_push_size _ rfl⟩
  obtain ⟨T, id, hT, ht, hg⟩ := hg
  show wpAny (model X.prog X.w) X.A (subscriptTail e (.Slice none none (some st) p2) v (.ref s3.heap.objs.size)) (EP X pins σ Q) X.xe _
  exact tail_any (ops := [v, .ref s3.heap.objs.size]) ht hT hg (by with_unfolding_all rfl)
def liftSl (K : PySem.W.Frag) : V → Option Int → Option Int → Hp → VK → Prop := fun x lo hi H Q => ∃ B N F a Q0, Ok K B N F H ∧ Dv K N a x ∧ slS a lo hi F Q0 ∧ Post K B N Q0 Q
theorem slS_ok : SlR X (liftSl X.K) := by
  rintro pins s σ H x v vl vu lo hi sl Q I rx hs pl pu ⟨B, N, F, a, Q0, o, da, h, post⟩
  unfold slS at h
  split at h
  · obtain ⟨p, xs, rfl, s1, d1⟩ := da.tuple o.sub
    refine sl_tupA pins s σ H _ v vl vu lo hi sl Q I rx hs pl pu ⟨p, xs, rfl, .of s1, fun e => ?_, fun _ => post.newT o (d1.cut lo hi) h⟩
    rw [← d1.length] at e
    rw [cut_whole e] at h
    exact post.at o da h
  · cases da
    exact sl_str pins s σ H _ v vl vu lo hi sl Q I rx hs pl pu ⟨_, rfl, h.1, post.at o (.str _) h.2⟩
  · split at h
    · rename_i e
      obtain ⟨p, xs, rfl, r1, d1⟩ := lsOf_ok o da e
      exact sl_list pins s σ H _ v vl vu lo hi sl Q I rx hs pl pu ⟨p, xs, rfl, sql_of r1, post.newL o (d1.cut lo hi) h⟩
    · exact h.elim
end
end Bv

/-! Built-in functions over told values; the one sorting of texts. -/
namespace Bv
open PySem L2 PyProof.Rows

/-! ### texts in order -/
def ltT (a b : Str) : Bool := decide (a.cps.toList < b.cps.toList)
theorem str_ext {a b : Str} (h : a.cps.toList = b.cps.toList) : a = b := by
  cases a; cases b
  simp only at h
  rw [Array.toList_inj] at h
  rw [h]
theorem ltT_irr (a : Str) : ltT a a = false := decide_eq_false (List.lt_irrefl _)
theorem ltT_trans {a b c : Str} (h : ltT a b = true) (h2 : ltT b c = true) : ltT a c = true :=
  decide_eq_true (List.lt_trans (of_decide_eq_true h) (of_decide_eq_true h2))
theorem ltT_tri {a b : Str} (h : ltT a b = false) (h2 : ltT b a = false) : a = b :=
  str_ext (List.le_antisymm (of_decide_eq_false h2) (of_decide_eq_false h))
theorem ltT_asym {a b : Str} (h : ltT a b = true) : ltT b a = false := by
  cases e : ltT b a with
  | false => rfl
  | true => rw [← ltT_irr a, ltT_trans h e]
/-- a ≤ b, b ≤ c: a ≤ c -/
theorem leT_trans {a b c : Str} (h : ltT b a = false) (h2 : ltT c b = false) : ltT c a = false := by
  cases e : ltT c a with
  | false => rfl
  | true =>
    cases e2 : ltT a b with
    | true => rw [← h2, ltT_trans e e2]
    | false => rw [ltT_tri e2 h] at e; rw [← h2, e]
def insS (x : Str) : List Str → List Str
  | [] => [x]
  | y :: r => if ltT y x then y :: insS x r else x :: y :: r
def sortS : List Str → List Str
  | [] => []
  | x :: r => insS x (sortS r)
def Asc (l : List Str) : Prop := l.Pairwise fun a b => ltT b a = false
theorem insS_perm (x : Str) : ∀ l, (insS x l).Perm (x :: l)
  | [] => List.Perm.refl _
  | y :: r => by
    unfold insS
    split
    · exact ((insS_perm x r).cons y).trans (List.Perm.swap x y r)
    · exact List.Perm.refl _
theorem sortS_perm : ∀ l, (sortS l).Perm l
  | [] => List.Perm.refl _
  | x :: r => (insS_perm x (sortS r)).trans ((sortS_perm r).cons x)
theorem insS_asc (x : Str) : ∀ l, Asc l → Asc (insS x l)
  | [], _ => by unfold insS Asc; simp
  | y :: r, h => by
    unfold insS
    obtain ⟨h1, h2⟩ := List.pairwise_cons.mp h
    split
    · rename_i e
      refine List.pairwise_cons.mpr ⟨fun z hz => ?_, insS_asc x r h2⟩
      rcases List.mem_cons.mp ((insS_perm x r).mem_iff.mp hz) with rfl | hz
      · exact ltT_asym e
      · exact h1 z hz
    · rename_i e
      have e : ltT y x = false := by simpa using e
      refine List.pairwise_cons.mpr ⟨fun z hz => ?_, h⟩
      rcases List.mem_cons.mp hz with rfl | hz
      · exact e
      · exact leT_trans e (h1 z hz)
theorem sortS_asc : ∀ l, Asc (sortS l)
  | [] => List.Pairwise.nil
  | x :: r => insS_asc x _ (sortS_asc r)
theorem asc_unique : ∀ {l m : List Str}, Asc l → Asc m → l.Perm m → l = m
  | [], m, _, _, p => (List.Perm.nil_eq p)
  | x :: r, [], _, _, p => (List.Perm.eq_nil p)
  | x :: r, y :: s, h1, h2, p => by
    obtain ⟨a1, a2⟩ := List.pairwise_cons.mp h1
    obtain ⟨b1, b2⟩ := List.pairwise_cons.mp h2
    have hx : x ∈ y :: s := p.mem_iff.mp List.mem_cons_self
    have hy : y ∈ x :: r := p.mem_iff.mpr List.mem_cons_self
    have e : x = y := by
      rcases List.mem_cons.mp hx with e | hx
      · exact e
      · rcases List.mem_cons.mp hy with e | hy
        · exact e.symm
        · exact ltT_tri (b1 x hx) (a1 y hy)
    subst e
    rw [asc_unique a2 b2 (List.Perm.cons_inv p)]
theorem risingS_asc : ∀ (p : Str) (l : List Str), risingS p l = true → (∀ q ∈ l, ltT q p = false) ∧ Asc l
  | p, [], _ => ⟨fun q h => (nomatch h), List.Pairwise.nil⟩
  | p, x :: r, h => by
    unfold risingS at h
    rw [Bool.and_eq_true] at h
    obtain ⟨h1, h2⟩ := h
    have e : ltT x p = false := by
      have q : Spec.ltCps x.cps.toList p.cps.toList = false := by simpa using h1
      rw [ltCps_eq] at q
      exact q
    obtain ⟨i1, i2⟩ := risingS_asc x r h2
    refine ⟨fun q hq => ?_, List.pairwise_cons.mpr ⟨i1, i2⟩⟩
    rcases List.mem_cons.mp hq with rfl | hq
    · exact e
    · exact leT_trans e (i1 q hq)
theorem sortedS_is {xs ys : List Str} (p : ys.Perm xs) (h : sortedS ys = true) : ys = sortS xs := by
  refine asc_unique ?_ (sortS_asc xs) (p.trans (sortS_perm xs).symm)
  cases ys with
  | nil => exact List.Pairwise.nil
  | cons x r =>
    obtain ⟨i1, i2⟩ := risingS_asc x r h
    exact List.pairwise_cons.mpr ⟨i1, i2⟩
theorem sortS_length (l : List Str) : (sortS l).length = l.length := (sortS_perm l).length_eq
theorem mem_sortS {l : List Str} {x : Str} : x ∈ sortS l ↔ x ∈ l := (sortS_perm l).mem_iff
theorem sortS_of_asc {l : List Str} (h : Asc l) : sortS l = l := asc_unique (sortS_asc l) h (sortS_perm l)
theorem sortS_eq_of_perm {l m : List Str} (h : l.Perm m) : sortS l = sortS m := asc_unique (sortS_asc l) (sortS_asc m) (((sortS_perm l).trans h).trans (sortS_perm m).symm)

/-! ### lists of one kind -/
def asStrs : List Val → Option (List Str)
  | [] => some []
  | .str x :: r => (asStrs r).map (x :: ·)
  | _ :: _ => none
def asBls : List Val → Option (List Bool)
  | [] => some []
  | .bl x :: r => (asBls r).map (x :: ·)
  | _ :: _ => none
theorem asStrs_map : ∀ ss : List Str, asStrs (ss.map Val.str) = some ss
  | [] => rfl
  | s :: r => by
    show (asStrs (r.map Val.str)).map (s :: ·) = some (s :: r)
    rw [asStrs_map r]; rfl
theorem asBls_map : ∀ ss : List Bool, asBls (ss.map Val.bl) = some ss
  | [] => rfl
  | s :: r => by
    show (asBls (r.map Val.bl)).map (s :: ·) = some (s :: r)
    rw [asBls_map r]; rfl
theorem asStrs_eq : ∀ {vs : List Val} {ss : List Str}, asStrs vs = some ss → vs = ss.map Val.str
  | [], ss, h => by cases h; rfl
  | v :: r, ss, h => by
    cases v <;> first | (cases h; done) | skip
    rename_i x
    have h : (asStrs r).map (x :: ·) = some ss := h
    cases e : asStrs r with
    | none => rw [e] at h; cases h
    | some t => rw [e] at h; cases h; rw [asStrs_eq e]; rfl
theorem asBls_eq : ∀ {vs : List Val} {ss : List Bool}, asBls vs = some ss → vs = ss.map Val.bl
  | [], ss, h => by cases h; rfl
  | v :: r, ss, h => by
    cases v <;> first | (cases h; done) | skip
    rename_i x
    have h : (asBls r).map (x :: ·) = some ss := h
    cases e : asBls r with
    | none => rw [e] at h; cases h
    | some t => rw [e] at h; cases h; rw [asBls_eq e]; rfl

/-! ### what they give -/
/-- a new list: told by its items, or a cell -/
def newLs : Bool → List Val → MH → Q1 → Prop
  | true, vs, F, Q => ∀ p, F p = none → Q (.ref p) (mset F p (.lst vs))
  | false, vs, F, Q => Q (.lst vs) F
theorem Post.newLs {K : PySem.W.Frag} {B : Bs} {N H : Hp} {F : MH} {Q0 : Q1} {Q : VK} {m : Bool} (h : Post K B N Q0 Q) (o : Ok K B N F H) {vs : List Val} {xs : List V} (d : Dvs K N vs xs) (q : Bv.newLs m vs F Q0) : ∀ p, H p = none → Q (.ref p) (upd H p (.lst xs)) := by
  cases m with
  | true => exact h.newC o d q
  | false => exact h.newL o d q

inductive Bi where
  | len | abs | int | str | sorted (m : Bool) | list (m : Bool) | all | any | tuple | max2 | dict
def lenS (a : Val) (F : MH) (Q : Q1) : Prop := match a with
  | .str z => z.length ≤ sizeLine ∧ Q (.int z.length) F
  | .tup vs => Q (.int vs.length) F
  | a => match lsOf F a with
    | some vs => Q (.int vs.length) F
    | none => match a with
      | .ref p => match F p with
        | some (.dict kvs) => Q (.int kvs.length) F
        | _ => False
      | _ => False
def intS (a : Val) (F : MH) (Q : Q1) : Prop := match a with
  | .int i => Q (.int i) F
  | .bl k => Q (.int (if k then 1 else 0)) F
  | .str x => match PySem.intText? x with
    | some n => x.length ≤ 640 ∧ Q (.int n) F
    | none => False
  | _ => False
def sortedF (m : Bool) (a : Val) (F : MH) (Q : Q1) : Prop := match lsOf F a with
  | some vs => match asStrs vs with
    | some ss => ss.length < 64 ∧ newLs m ((sortS ss).map Val.str) F Q
    | none => False
  | none => match a with
    | .ref p => match dcOf F p with
      | some kvs => kvs.length < 64 ∧ newLs m ((sortS (kvs.map (·.1))).map Val.str) F Q
      | none => False
    | _ => False
def boolsF (g : List Bool → Bool) (a : Val) (F : MH) (Q : Q1) : Prop := match lsOf F a with
  | some vs => match asBls vs with
    | some bs => Q (.bl (g bs)) F
    | none => False
  | none => False
def listF (m : Bool) (a : Val) (F : MH) (Q : Q1) : Prop := match a with
  | .tup vs => newLs m vs F Q
  | a => match lsOf F a with
    | some vs => newLs m vs F Q
    | none => False
def tupleF (a : Val) (F : MH) (Q : Q1) : Prop := match a with
  | .tup vs => Q (.tup vs) F
  | a => match lsOf F a with
    | some vs => Q (.tup vs) F
    | none => False
/-- pairs of a text and a value -/
def pairsOf : List Val → Option (List (Str × Val))
  | [] => some []
  | .tup [.str k, v] :: r => (pairsOf r).map ((k, v) :: ·)
  | _ :: _ => none
def dictF (a : Val) (F : MH) (Q : Q1) : Prop := match lsOf F a with
  | some vs => match pairsOf vs with
    | some kvs => (kvs.map (·.1)).Nodup ∧ ∀ q, F q = none → Q (.ref q) (mset F q (.dict kvs))
    | none => False
  | none => match a with
    | .ref p => match dcOf F p with
      | some kvs => ∀ q, F q = none → Q (.ref q) (mset F q (.dict kvs))
      | none => False
    | _ => False
def biS : Bi → List Val → MH → Q1 → Prop
  | .len, [a], F, Q => lenS a F Q
  | .abs, [.int i], F, Q => Q (.int (if i < 0 then -i else i)) F
  | .int, [a], F, Q => intS a F Q
  | .str, [.int i], F, Q => i.natAbs.log2 < 1920 ∧ Q (.str (toString i)) F
  | .sorted m, [a], F, Q => sortedF m a F Q
  | .list m, [a], F, Q => listF m a F Q
  | .all, [a], F, Q => boolsF (·.all id) a F Q
  | .any, [a], F, Q => boolsF (·.any id) a F Q
  | .tuple, [a], F, Q => tupleF a F Q
  | .max2, [.int i, .int j], F, Q => Q (.int (if j > i then j else i)) F
  | .dict, [a], F, Q => dictF a F Q
  | _, _, _, _ => False
/-- its name, and what stands behind it -/
def Bi.name : Bi → Str
  | .len => "len" | .abs => "abs" | .int => "int" | .str => "str" | .sorted _ => "sorted" | .list _ => "list" | .all => "all" | .any => "any" | .tuple => "tuple" | .max2 => "max" | .dict => "dict"
def Bi.val : Bi → Value
  | .len => .builtin "len" | .abs => .builtin "abs" | .int => .type "int" | .str => .type "str" | .sorted _ => .builtin "sorted" | .list _ => .type "list" | .all => .builtin "all" | .any => .builtin "any" | .tuple => .type "tuple" | .max2 => .builtin "max" | .dict => .type "dict"
theorem Bi.boot (b : Bi) : bootBuiltins b.name = some b.val := by cases b <;> first | decide +kernel | (rename_i m; cases m <;> decide +kernel)

section
variable {X : Cx}
theorem dvs_one {K : PySem.W.Frag} {N : Hp} {v : Val} {xs : List V} (h : Dvs K N [v] xs) : ∃ x, xs = [x] ∧ Dv K N v x := by
  cases h with
  | cons a t => cases t; exact ⟨_, rfl, a⟩
theorem pairsOf_ok {K : PySem.W.Frag} {N H : Hp} (sub : Same N H) : ∀ {vs : List Val} {kvs : List (Str × Val)} {xs : List V}, pairsOf vs = some kvs → Dvs K N vs xs →
    ∃ (ps : List Addr) (ys : List (Key × V)), xs = ps.map V.ref ∧ Dkv K N kvs ys ∧ Paired (fun p kv => SqT K H p [kV kv.1, kv.2]) ps ys := by
  intro vs
  induction vs with
  | nil =>
    intro kvs xs h d
    cases h; cases d
    exact ⟨[], [], rfl, .nil, .nil⟩
  | cons v r ih =>
    intro kvs xs h d
    unfold pairsOf at h
    split at h
    · rename_i e; cases e
    · rename_i k w r' e
      cases e
      cases d with
      | cons d1 d2 =>
        cases e2 : pairsOf r with
        | none => rw [e2] at h; cases h
        | some l =>
          rw [e2] at h
          cases h
          obtain ⟨ps, ys, rfl, dk, pp⟩ := ih e2 d2
          obtain ⟨p, zs, rfl, s1, dz⟩ := d1.tuple sub
          cases dz with
          | cons z1 zt =>
            cases z1
            obtain ⟨y, rfl, dy⟩ := dvs_one zt
            exact ⟨p :: ps, (Sum.inr k, y) :: ys, rfl, .cons ⟨rfl, dy⟩ dk, .cons (.of s1) pp⟩
    · cases h
theorem putK_new {kvs : List (Key × V)} {k : Key} {v : V} (h : k ∉ kvs.map (·.1)) : putK kvs k v = kvs ++ [(k, v)] := by
  unfold putK
  rw [if_neg]
  intro z
  rw [List.any_eq_true] at z
  obtain ⟨x, hx, e⟩ := z
  exact h (List.mem_map.mpr ⟨x, hx, of_decide_eq_true e⟩)
theorem mergeK_nodup : ∀ {more kvs : List (Key × V)}, ((kvs ++ more).map (·.1)).Nodup → mergeK kvs more = kvs ++ more
  | [], kvs, _ => by show kvs = kvs ++ []; rw [List.append_nil]
  | p :: r, kvs, h => by
    show mergeK (putK kvs p.1 p.2) r = _
    have hp : p.1 ∉ kvs.map (·.1) := fun z => by
      rw [List.map_append, List.nodup_append] at h
      exact h.2.2 _ z p.1 (by rw [List.map_cons]; exact List.mem_cons_self) rfl
    rw [putK_new hp, mergeK_nodup (by rw [List.append_assoc]; exact h), List.append_assoc]
    rfl
theorem Dkv.keysK {K : PySem.W.Frag} {N : Hp} : ∀ {kvs : List (Str × Val)} {ys : List (Key × V)}, Dkv K N kvs ys → ys.map (·.1) = (kvs.map (·.1)).map (Sum.inr : Str → Key)
  | _, _, .nil => rfl
  | _, _, .cons h t => by
    rw [List.map_cons, List.map_cons, List.map_cons, Dkv.keysK t, h.1]
theorem nodup_mapInr {l : List Str} (h : l.Nodup) : (l.map (Sum.inr : Str → Key)).Nodup := by
  rw [List.Nodup, List.pairwise_map]
  exact h.imp fun n e => n (by cases e; rfl)
theorem biS_ok (hc : X.calm = true) : ∀ b : Bi, CallR X b.val (liftN X.K (biS b)) := by
  rintro b pins s σ H xs us Q I r ⟨B, N, F, as, Q0, o, da, h, post⟩
  unfold biS at h
  split at h
  · obtain ⟨x, rfl, d⟩ := dvs_one da
    rename_i a
    unfold lenS at h
    split at h
    · cases d
      exact call_len pins s σ H _ us Q I r ⟨_, _, rfl, ⟨h.1, rfl⟩, post.at o (.int _) h.2⟩
    · obtain ⟨p, ys, rfl, s1, d1⟩ := d.tuple o.sub
      exact call_len pins s σ H _ us Q I r ⟨_, _, rfl, .inr ⟨ys, .of s1, d1.length⟩, post.at o (.int _) h⟩
    · split at h
      · rename_i e
        obtain ⟨p, ys, rfl, s1, d1⟩ := lsOf_ok o d e
        exact call_len pins s σ H _ us Q I r ⟨_, _, rfl, .inl ⟨ys, .inl s1, d1.length⟩, post.at o (.int _) h⟩
      · split at h
        · split at h
          · rename_i kvs e
            cases d
            obtain ⟨_, ys, e2, d2⟩ := o.cell _ _ e
            refine call_lenD pins s σ H _ us Q I r ⟨_, _, rfl, e2, ?_⟩
            rw [← Dkv.length d2]
            exact post.at o (.int _) h
          · exact h.elim
        · exact h.elim
  · obtain ⟨x, rfl, d⟩ := dvs_one da
    cases d
    exact call_abs pins s σ H _ us Q I r ⟨_, rfl, post.at o (.int _) h⟩
  · obtain ⟨x, rfl, d⟩ := dvs_one da
    unfold intS at h
    split at h
    · cases d
      exact call_int1 pins s σ H _ us Q I r (.inl ⟨_, rfl, post.at o (.int _) h⟩)
    · cases d
      exact call_int1 pins s σ H _ us Q I r (.inr ⟨_, rfl, post.at o (.int _) h⟩)
    · cases d
      split at h
      · rename_i e
        exact call_int_str pins s σ H _ us Q I r ⟨_, _, rfl, e, h.1, post.at o (.int _) h.2⟩
      · exact h.elim
    · exact h.elim
  · obtain ⟨x, rfl, d⟩ := dvs_one da
    cases d
    exact call_str_int pins s σ H _ us Q I r ⟨_, rfl, h.1, post.at o (.str _) h.2⟩
  · obtain ⟨x, rfl, d⟩ := dvs_one da
    unfold sortedF at h
    split at h
    · rename_i e
      split at h
      · rename_i e2
        have e3 := asStrs_eq e2
        subst e3
        obtain ⟨p, ys, rfl, s1, d1⟩ := lsOf_ok o d e
        have e4 := d1.strs
        subst e4
        refine cr_sortedS pins s σ H _ us Q I r ⟨p, _, rfl, .inl s1, h.1, fun zs q pz sz hq => ?_⟩
        rw [sortedS_is pz sz]
        exact post.newLs o (Dvs.of_strs _) h.2 q hq
      · exact h.elim
    · split at h
      · split at h
        · rename_i e
          cases d
          obtain ⟨ys, s1, d1⟩ := dcOf_ok o e
          refine call_sortedD hc pins s σ H _ us Q I r ⟨_, ys, _, rfl, s1, Dkv.keys d1, by rw [List.length_map]; exact h.1, fun zs q pz sz hq => ?_⟩
          rw [sortedS_is pz sz]
          exact post.newLs o (Dvs.of_strs _) h.2 q hq
        · exact h.elim
      · exact h.elim
  · obtain ⟨x, rfl, d⟩ := dvs_one da
    unfold listF at h
    split at h
    · obtain ⟨p, ys, rfl, s1, d1⟩ := d.tuple o.sub
      exact call_list_of pins s σ H _ us Q I r ⟨p, ys, rfl, .inr (.of s1), post.newLs o d1 h⟩
    · split at h
      · rename_i e
        obtain ⟨p, ys, rfl, s1, d1⟩ := lsOf_ok o d e
        exact call_list_of pins s σ H _ us Q I r ⟨p, ys, rfl, .inl (.inl s1), post.newLs o d1 h⟩
      · exact h.elim
  · obtain ⟨x, rfl, d⟩ := dvs_one da
    unfold boolsF at h
    split at h
    · rename_i e
      split at h
      · rename_i e2
        have e3 := asBls_eq e2
        subst e3
        obtain ⟨p, ys, rfl, s1, d1⟩ := lsOf_ok o d e
        have e4 := d1.bls
        subst e4
        exact cr_all hc pins s σ H _ us Q I r ⟨p, _, rfl, .inl s1, post.at o (.bl _) h⟩
      · exact h.elim
    · exact h.elim
  · obtain ⟨x, rfl, d⟩ := dvs_one da
    unfold boolsF at h
    split at h
    · rename_i e
      split at h
      · rename_i e2
        have e3 := asBls_eq e2
        subst e3
        obtain ⟨p, ys, rfl, s1, d1⟩ := lsOf_ok o d e
        have e4 := d1.bls
        subst e4
        exact cr_any hc pins s σ H _ us Q I r ⟨p, _, rfl, .inl s1, post.at o (.bl _) h⟩
      · exact h.elim
    · exact h.elim
  · obtain ⟨x, rfl, d⟩ := dvs_one da
    unfold tupleF at h
    split at h
    · obtain ⟨p, ys, rfl, s1, d1⟩ := d.tuple o.sub
      exact call_tuple_of pins s σ H _ us Q I r ⟨p, ys, rfl, .inr ⟨.of s1, post.at o d h⟩⟩
    · split at h
      · rename_i e
        obtain ⟨p, ys, rfl, s1, d1⟩ := lsOf_ok o d e
        exact call_tuple_of pins s σ H _ us Q I r ⟨p, ys, rfl, .inl ⟨.inl s1, post.newT o d1 h⟩⟩
      · exact h.elim
  · cases da with
    | cons a t =>
      obtain ⟨x, rfl, d⟩ := dvs_one t
      cases a; cases d
      exact call_max2 hc pins s σ H _ us Q I r ⟨_, _, rfl, post.at o (.int _) h⟩
  · obtain ⟨x, rfl, d⟩ := dvs_one da
    unfold dictF at h
    split at h
    · rename_i vs e
      split at h
      · rename_i kvs e2
        obtain ⟨p, xs, rfl, r1, d1⟩ := lsOf_ok o d e
        obtain ⟨ps, ys, rfl, dk, pp⟩ := pairsOf_ok o.sub e2 d1
        refine call_dictP hc pins s σ H _ us Q I r ⟨p, ps, ys, rfl, .inl r1, pp, fun q hq => ?_⟩
        rw [mergeK_nodup (by rw [List.nil_append, Dkv.keysK dk]; exact nodup_mapInr h.1), List.nil_append]
        exact post _ _ N _ _ (Same.refl N) (o.new (c := .dict kvs) hq ⟨ys, upd_same, dk⟩) (.ref q) (h.2 q (o.free hq).2)
      · exact h.elim
    · split at h
      · split at h
        · rename_i e
          cases d
          obtain ⟨ys, s1, d1⟩ := dcOf_ok o e
          refine call_dictD pins s σ H _ us Q I r ⟨_, ys, rfl, s1, fun q hq => ?_⟩
          exact post _ _ N _ _ (Same.refl N) (o.new (c := .dict _) hq ⟨ys, upd_same, d1⟩) (.ref q) (h q (o.free hq).2)
        · exact h.elim
      · exact h.elim
  · exact h.elim
end
end Bv

/-! A small tongue for defs: its terms, what they ask. -/
namespace Bv
open PySem L2 PyProof.Rows

/-- where a def stands: the program, what the top has written, how deep calls may go -/
structure Amb where
  P : Program
  w : World
  K : PySem.W.Frag
  mg : Str → Option Value
  base : Heap
  k : Nat

/-- a def of the top, by its promise -/
structure CallR1 (Γ : Amb) (x : Str) where
  sp : Spec
  ok : ∃ (f : Addr) (fd : FuncData) (ps : List Str) (j : Nat), j ≤ Γ.k ∧ Γ.mg x = some (.ref f) ∧ PySem.W.keepIn Γ.K (.ref f) = true ∧ Binds Γ.K fd ps [] ∧ FnOk Γ.P Γ.w Γ.K Γ.mg Γ.base (L2.CX Γ.P Γ.w) j f fd ps (liftSp Γ.K sp)
/-- a method of an own class -/
structure MethR (Γ : Amb) (m : Str) where
  C : Addr
  sp : Spec
  cl : Cls Γ.K C
  ok : ∃ (f : Addr) (fd : FuncData) (ps : List Str) (j : Nat), j ≤ Γ.k ∧ Meth Γ.K C m f ∧ Binds Γ.K fd ps [] ∧ FnOk Γ.P Γ.w Γ.K Γ.mg Γ.base (L2.CX Γ.P Γ.w) j f fd ps (liftSp Γ.K sp)
/-- an own class that is called, by its __init__ -/
structure MkR (Γ : Amb) (x : Str) where
  C : Addr
  sp : Spec
  ok : ∃ (f : Addr) (fd : FuncData) (ps : List Str) (j : Nat), j + 1 ≤ Γ.k ∧ Mk Γ.K C f ∧ Γ.mg x = some (.ref C) ∧ Binds Γ.K fd ps [] ∧ FnOk Γ.P Γ.w Γ.K Γ.mg Γ.base (L2.CX Γ.P Γ.w) j f fd ps (liftSp Γ.K sp)
/-- an attribute of an own class's instances -/
structure FldR (Γ : Amb) (f : Str) where
  C : Addr
  cl : Cls Γ.K C
  no : NoAttr Γ.K C f
/-- a constant of the module -/
structure GlR (Γ : Amb) (x : Str) where
  v : Val
  ok : ∃ u y, Γ.mg x = some u ∧ RelV y u ∧ ∀ N, Dv Γ.K N v y
/-- a class as isinstance's second: what it answers of a type -/
structure IsR (Γ : Amb) (x : Str) where
  c : Value
  v : V
  rel : RelV v c
  cls : ClsV v c
  at_ : Γ.mg x = some c ∨ (Γ.mg x = none ∧ bootBuiltins x = some c ∧ x ≠ "__name__")
  ans : Value → Option Bool
  ok : ∀ t b, ans t = some b → PySem.W.kitOne Γ.K t c = some b
/-- an own class of errors, without __init__, raised with a text -/
structure RaiR (Γ : Amb) (x : Str) where
  C : Addr
  ok : PySem.W.excIn Γ.K C [.type "ValueError", .type "Exception", .type "BaseException", .type "object"] "ValueError.__new__" = true ∧ Γ.mg x = some (.ref C) ∧ PySem.W.keepIn Γ.K (.ref C) = true ∧
    PySem.W.subIn Γ.K (.ref C) (.type "BaseException") = some true ∧ PySem.W.typeIn Γ.K (.ref C) = some (.type "type")
/-- a class as an except clause names it -/
structure ExR (Γ : Amb) (x : Str) where
  C : Addr
  mg : Γ.mg x = some (.ref C)
  ans : Addr → Option Bool
  ok : ∀ D b, ans D = some b → PySem.W.exmOne Γ.K (.ref D) (.ref C) = some b

/-- a class named -/
structure Cn (Γ : Amb) where
  x : Str
  r : IsR Γ x
/-- what isinstance answers of a type, some classes given -/
def ansL {Γ : Amb} (t : Value) : List (Cn Γ) → Option Bool
  | [] => some false
  | c :: cs => match c.r.ans t, ansL t cs with
    | some a, some b => some (a || b)
    | _, _ => none
/-- methods of built-in types -/
inductive Bm where
  | append | pop | clear | index | join | split | partition | get | dpop | count

/-- a target: a name; names, from a tuple; from a list -/
inductive Tg where
  | nm (i : Nat)
  | tp (is : List Nat)
  | ul (is : List Nat)

mutual
inductive E (Γ : Amb) where
  | var (i : Nat)
  | cst (v : Val)
  | gl (x : Str) (r : GlR Γ x)
  | bin (op : Operator) (a b : E Γ)
  | neg (a : E Γ)
  | not (a : E Γ)
  | cmp (op : CmpOp) (a b : E Γ)
  | chain (op op' : CmpOp) (a b c : E Γ)
  | bool (op : BoolOp) (es : Es Γ)
  | tup (es : Es Γ)
  | lst (m : Bool) (es : Es Γ)
  | dic0
  | dic1 (k v : E Γ)
  | ix (a i : E Γ)
  | sl (a : E Γ) (lo hi : Es Γ)
  | rev (a : E Γ) (k : Es Γ)
  | call (x : Str) (r : CallR1 Γ x) (es : Es Γ)
  | meth (m : Str) (r : MethR Γ m) (o : E Γ) (es : Es Γ)
  | mk (x : Str) (r : MkR Γ x) (es : Es Γ)
  | bi (b : Bi) (es : Es Γ)
  | bm (b : Bm) (o : E Γ) (es : Es Γ)
  | isi (x : Str) (r : IsR Γ x) (a : E Γ)
  | isiT (cs : List (Cn Γ)) (a : E Γ)
  | fld (f : Str) (r : FldR Γ f) (o : E Γ)
  | lc (m : Bool) (elt : E Γ) (t : Tg) (it : It Γ) (cond : Ts Γ)
  | lcK (m : Bool) (elt : E Γ) (t : Tg) (d : E Γ) (cond : Ts Γ)
  | frz (a : E Γ)
  | addL (a b : E Γ)
inductive Es (Γ : Amb) where
  | nil
  | cons (a : E Γ) (r : Es Γ)
inductive It (Γ : Amb) where
  | lst (e : E Γ)
  | tupl (e : E Γ)
  | str (e : E Γ)
  | rng1 (e : E Γ)
  | rng2 (a b : E Γ)
  | zip2 (a b : E Γ)
  | enum (e : E Γ)
inductive T (Γ : Amb) where
  | val (e : E Γ)
  | cmp (op : CmpOp) (a b : E Γ)
  | chain (op op' : CmpOp) (a b c : E Γ)
  | cmpD (a b : E Γ)
  | not (t : T Γ)
  | bool (op : BoolOp) (ts : Ts Γ)
inductive Ts (Γ : Amb) where
  | nil
  | cons (a : T Γ) (r : Ts Γ)
end
mutual
inductive S (Γ : Amb) where
  | asg (t : Tg) (e : E Γ)
  | par (i j : Nat) (a b : E Γ)
  | setI (o i v : E Γ)
  | setF (f : Str) (r : FldR Γ f) (o v : E Γ)
  | aug (i : Nat) (e : E Γ)
  | ex (e : E Γ)
  | ifs (t : T Γ) (a b : Ss Γ)
  | for (t : Tg) (it : It Γ) (body : Ss Γ)
  | forK (t : Tg) (d : E Γ) (body : Ss Γ)
  | whl (t : T Γ) (body : Ss Γ)
  | ret (e : E Γ)
  | retN
  | rai (x : Str) (r : RaiR Γ x) (e : E Γ)
  | tryK (x : Str) (r : ExR Γ x) (i j : Nat) (body : Ss Γ)
  | pass
inductive Ss (Γ : Amb) where
  | nil
  | cons (a : S Γ) (r : Ss Γ)
end

/-! ### what they ask -/
/-- the slots of names forgotten -/
def wipe1 (σ : St1) : List Nat → St1
  | [] => σ
  | v :: vs => (wipe1 σ vs).set v none
def setAll (σ : St1) : List Nat → List Val → St1
  | i :: is, v :: vs => setAll (σ.set i (some v)) is vs
  | _, _ => σ
def bindT (t : Tg) (v : Val) (σ : St1) (F : MH) (k : St1 → Prop) : Prop := match t with
  | .nm i => k (σ.set i (some v))
  | .tp is => match v with
    | .tup vs => vs.length = is.length ∧ k (setAll σ is vs)
    | _ => False
  | .ul is => match lsOf F v with
    | some vs => vs.length = is.length ∧ k (setAll σ is vs)
    | none => False
def Tg.slots : Tg → List Nat
  | .nm i => [i]
  | .tp is => is
  | .ul is => is
def truS (a : Val) (F : MH) (Q : Bool → Prop) : Prop := match a with
  | .non => Q false
  | .bl b => Q b
  | .int i => Q (i != 0)
  | .str z => z.length ≤ sizeLine ∧ Q ((z.length : Int) != 0)
  | .tup vs => Q (!vs.isEmpty)
  | a => match lsOf F a with
    | some vs => Q (!vs.isEmpty)
    | none => False
def Bm.arity : Bm → Nat
  | .append => 1 | .pop => 0 | .clear => 0 | .index => 1 | .join => 1 | .split => 1 | .partition => 1 | .get => 2 | .dpop => 1 | .count => 1
/-- what the receiver must be -/
def recS (b : Bm) (v : Val) (F : MH) : Prop := match b with
  | .append | .pop | .clear => ∃ p vs, v = .ref p ∧ F p = some (.lst vs)
  | .index | .count => ∃ vs, lsOf F v = some vs
  | .join | .split | .partition => ∃ z, v = .str z
  | .get => ∃ p kvs, v = .ref p ∧ dcOf F p = some kvs
  | .dpop => ∃ p kvs, v = .ref p ∧ F p = some (.dict kvs)
def findF (x : Val) : List Val → Option Nat
  | [] => none
  | y :: r => if eqF y x then some 0 else (findF x r).map (· + 1)
def bmS (b : Bm) (v : Val) (as : List Val) (F : MH) (Q : Q1) : Prop := match b, v, as with
  | .append, .ref p, [a] => match F p with
    | some (.lst vs) => vs.length < sizeLine ∧ Q .non (mset F p (.lst (vs ++ [a])))
    | _ => False
  | .pop, .ref p, [] => match F p with
    | some (.lst vs) => match vs[vs.length - 1]? with
      | some y => Q y (mset F p (.lst vs.dropLast))
      | none => False
    | _ => False
  | .clear, .ref p, [] => match F p with
    | some (.lst vs) => Q .non (mset F p (.lst []))
    | _ => False
  | .index, v, [a] => match lsOf F v with
    | some vs => flat a = true ∧ vs.all flat = true ∧ (match findF a vs with
      | some j => Q (.int (j : Nat)) F
      | none => False)
    | none => False
  | .join, .str z, [a] => match lsOf F a with
    | some vs => match asStrs vs with
      | some ss => (ss.map (·.length)).sum + ss.length * z.length ≤ 16777216 ∧ Q (.str (Txt.join z ss)) F
      | none => False
    | none => False
  | .split, .str z, [.str y] => (y.length == 0) = false ∧ z.length + 2 ≤ sizeLine ∧ Q (.lst ((Txt.split z y).map Val.str)) F
  | .partition, .str z, [.str y] => (y.length == 0) = false ∧ z.length ≤ sizeLine ∧ Q (.tup [.str (Txt.partition z y).1, .str (Txt.partition z y).2.1, .str (Txt.partition z y).2.2]) F
  | .get, .ref p, [.str k, d] => match dcOf F p with
    | some kvs => Q ((kget kvs k).getD d) F
    | none => False
  | .dpop, .ref p, [.str k] => match F p with
    | some (.dict kvs) => match kget kvs k with
      | some y => Q y (mset F p (.dict (kdrop kvs k)))
      | none => False
    | _ => False
  | .count, v, [a] => match lsOf F v with
    | some vs => flat a = true ∧ vs.all flat = true ∧ Q (.int ((vs.countP fun y => eqF y a : Nat) : Int)) F
    | none => False
  | _, _, _ => False
/-- the type that isinstance asks of -/
def tyS (K : PySem.W.Frag) (v : Val) (F : MH) (Q : Value → Prop) : Prop := match v with
  | .non => Q (.type "NoneType")
  | .bl _ => Q (.type "bool")
  | .int _ => Q (.type "int")
  | .str _ => Q (.type "str")
  | .tup _ => Q (.type "tuple")
  | .lst _ => Q (.type "list")
  | .ref p => match F p with
    | some (.lst _) => Q (.type "list")
    | some (.scr _) => Q (.type "list")
    | some (.dict _) => Q (.type "dict")
    | some (.exn C fs) => ExcC K C ∧ fs = [] ∧ Q (.ref C)
    | _ => False
  | .ty _ => False
def setS (o i v : Val) (F : MH) (Q : MH → Prop) : Prop := match o, i with
  | .ref p, .int j => match F p with
    | some (.lst vs) => match ixN vs.length j with
      | some n => Q (mset F p (.lst (vs.set n v)))
      | none => False
    | _ => False
  | .ref p, .str k => match F p with
    | some (.dict kvs) => kvs.length < sizeLine ∧ Q (mset F p (.dict (kput kvs k v)))
    | _ => False
  | _, _ => False
def putV (f : Str) (v : Val) : List (Str × Val) → List (Str × Val)
  | [] => [(f, v)]
  | (g, u) :: r => if g = f then (g, v) :: r else (g, u) :: putV f v r
/-- a for, item by item; g: what must stand at each turn -/
def forGo (g : MH → Prop) (turn : Val → St1 → MH → (St1 → MH → Prop) → Prop) (Qn : St1 → MH → Prop) : List Val → St1 → MH → Prop
  | [], σ, F => g F ∧ Qn σ F
  | x :: xs, σ, F => g F ∧ turn x σ F (fun σ' F' => forGo g turn Qn xs σ' F')
/-- a comprehension, item by item -/
def lcGo (g : MH → Prop) (turn : Val → MH → (Option Val → MH → Prop) → Prop) (Q : List Val → MH → Prop) : List Val → List Val → MH → Prop
  | [], acc, F => g F ∧ Q acc F
  | x :: xs, acc, F => g F ∧ turn x F (fun r F' => match r with
    | some v => acc.length < sizeLine ∧ lcGo g turn Q xs (acc ++ [v]) F'
    | none => lcGo g turn Q xs acc F')
def charsOf (z : Str) : List Val := z.cps.toList.map fun c => .str ⟨#[c]⟩
def rngV (lo : Int) (n : Nat) : List Val := (List.range n).map fun (i : Nat) => .int (lo + (i : Int))
def enumV (vs : List Val) : List Val := (List.range vs.length).zipWith (fun (i : Nat) v => .tup [.int (i : Int), v]) vs
def zipV (vs ws : List Val) : List Val := vs.zipWith (fun v w => .tup [v, w]) ws

/-- list + list, a new cell -/
def addLS (x y : Val) (F : MH) (Q : Q1) : Prop := match lsOf F x, lsOf F y with
  | some xs, some ys => xs.length + ys.length ≤ sizeLine ∧ newLs true (xs ++ ys) F Q
  | _, _ => False

/-- what a value holds, read through its cells -/
def rdD (F : MH) : Nat → Val → Val
  | 0, v => v
  | n + 1, .ref p => match F p with
    | some (.lst vs) => .lst (vs.map (rdD F n))
    | some (.scr vs) => .lst (vs.map (rdD F n))
    | _ => .ref p
  | n + 1, .tup vs => .tup (vs.map (rdD F n))
  | n + 1, .lst vs => .lst (vs.map (rdD F n))
  | _ + 1, v => v
def neD (a b : Val) (F : MH) (Q : Bool → Prop) : Prop := okD 60 (rdD F 4 a) = true ∧ okD 60 (rdD F 4 b) = true ∧ Q (!PyData.eqv (toPD (rdD F 4 a)) (toPD (rdD F 4 b)))
mutual
def wpE {Γ : Amb} (W : XS) : E Γ → St1 → MH → Q1 → Prop
  | .var i, σ, F, Q => match σ[i]? with
    | some (some v) => Q v F
    | _ => False
  | .cst v, _, F, Q => Q v F
  | .gl _ r, _, F, Q => Q r.v F
  | .bin op a b, σ, F, Q => wpE W a σ F fun x F1 => wpE W b σ F1 fun y F2 => binS op x y F2 Q
  | .neg a, σ, F, Q => wpE W a σ F fun x F1 => match x with
    | .int i => Q (.int (-i)) F1
    | _ => False
  | .not a, σ, F, Q => wpE W a σ F fun x F1 => match x with
    | .bl b => Q (.bl (!b)) F1
    | _ => False
  | .cmp op a b, σ, F, Q => wpE W a σ F fun x F1 => wpE W b σ F1 fun y F2 => cmpS op x y F2 Q
  | .chain op op' a b c, σ, F, Q => wpE W a σ F fun x F1 => wpE W b σ F1 fun y F2 => cmpS op x y F2 fun z F3 => match z with
    | .bl true => wpE W c σ F3 fun w F4 => cmpS op' y w F4 Q
    | .bl false => Q (.bl false) F3
    | _ => False
  | .bool op es, σ, F, Q => wpBl W op es σ F Q
  | .tup es, σ, F, Q => wpEs W es σ F fun vs F1 => vs.length ≤ sizeLine ∧ Q (.tup vs) F1
  | .lst m es, σ, F, Q => wpEs W es σ F fun vs F1 => vs.length ≤ sizeLine ∧ newLs m vs F1 Q
  | .dic0, σ, F, Q => ∀ p, F p = none → Q (.ref p) (mset F p (.dict []))
  | .dic1 k v, σ, F, Q => wpE (fun _ _ _ _ => False) k σ F fun x F1 => wpE (fun _ _ _ _ => False) v σ F1 fun y F2 => match x with
    | .str s => ∀ p, F p = none → F2 p = none → Q (.ref p) (mset F2 p (.dict [(s, y)]))
    | _ => False
  | .ix a i, σ, F, Q => wpE W a σ F fun x F1 => wpE W i σ F1 fun y F2 => ixS x y F2 Q
  | .sl a lo hi, σ, F, Q => wpE W a σ F fun x F1 => wpP W lo σ F1 fun l F2 => wpP W hi σ F2 fun h F3 => slS x l h F3 Q
  | .rev a k, σ, F, Q => wpE W a σ F fun x F1 => wpP W k σ F1 fun l F2 => revS x l F2 Q
  | .call _ r es, σ, F, Q => wpEs W es σ F fun vs F1 => r.sp vs F1 Q fun C fs F2 => W C fs σ F2
  | .meth m r o es, σ, F, Q => wpE W o σ F fun x F1 => match x with
    | .ref p => match F1 p with
      | some (.inst C fs) => C = r.C ∧ fs.lookup m = none ∧ wpEs W es σ F1 fun vs F2 => r.sp (.ref p :: vs) F2 Q fun C fs F3 => W C fs σ F3
      | _ => False
    | _ => False
  | .mk _ r es, σ, F, Q => wpEs W es σ F fun vs F1 => ∀ p, F1 p = none → r.sp (.ref p :: vs) (mset F1 p (.inst r.C [])) (fun v F2 => isNS v = true ∧ Q (.ref p) F2) fun _ _ _ => False
  | .bi b es, σ, F, Q => wpEs W es σ F fun vs F1 => biS b vs F1 Q
  | .bm b o es, σ, F, Q => wpE W o σ F fun x F1 => recS b x F1 ∧ wpEs W es σ F1 fun vs F2 => bmS b x vs F2 Q
  | .isi _ r a, σ, F, Q => wpE W a σ F fun x F1 => tyS Γ.K x F1 fun t => match r.ans t with
    | some b => Q (.bl b) F1
    | none => False
  | .isiT cs a, σ, F, Q => cs.length ≤ 20 ∧ wpE W a σ F fun x F1 => tyS Γ.K x F1 fun t => match ansL t cs with
    | some b => Q (.bl b) F1
    | none => False
  | .fld f r o, σ, F, Q => wpE W o σ F fun x F1 => match x with
    | .ref p => match F1 p with
      | some (.inst C fs) => C = r.C ∧ match fs.lookup f with
        | some v => Q v F1
        | none => False
      | _ => False
    | _ => False
  | .lc m elt t it cond, σ, F, Q => wpIt W it σ F fun items g F1 =>
      lcGo g (fun x F2 k => bindT t x (wipe1 σ t.slots) F2 fun σ' => wpCs (fun _ _ _ _ => False) cond σ' F2 fun b F3 => match b with
        | true => wpE (fun _ _ _ _ => False) elt σ' F3 fun v F4 => k (some v) F4
        | false => k none F3) (fun vs F2 => newLs m vs F2 Q) items [] F1
  | .lcK m elt t d cond, σ, F, Q => ∃ p kvs, F p = some (.dict kvs) ∧ ∀ u, wpE (fun _ _ _ _ => False) d σ (mset F p (.lck u kvs)) fun x F1 => (match x with | .ref q => q = p | _ => False) ∧
      lcGo (fun F => F p = some (.lck u kvs)) (fun x F2 k => bindT t x (wipe1 σ t.slots) F2 fun σ' => wpCs (fun _ _ _ _ => False) cond σ' F2 fun b F3 => match b with
        | true => wpE (fun _ _ _ _ => False) elt σ' F3 fun v F4 => k (some v) F4
        | false => k none F3) (fun vs F2 => newLs m vs F2 fun v F3 => F3 p = some (.lck u kvs) ∧ Q v (mset F3 p (.dict kvs))) (kvs.map fun kv => .str kv.1) [] F1
  | .frz a, σ, F, Q => wpE W a σ F fun x F1 => match x with
    | .ref p => match F1 p with
      | some (.lst vs) => Q (.lst vs) (mdel F1 p)
      | _ => False
    | _ => False
  | .addL a b, σ, F, Q => wpE W a σ F fun x F1 => wpE W b σ F1 fun y F2 => addLS x y F2 Q
def wpEs {Γ : Amb} (W : XS) : Es Γ → St1 → MH → (List Val → MH → Prop) → Prop
  | .nil, _, F, Q => Q [] F
  | .cons a r, σ, F, Q => wpE W a σ F fun x F1 => wpEs W r σ F1 fun vs F2 => Q (x :: vs) F2
/-- a slice's bound -/
def wpP {Γ : Amb} (W : XS) : Es Γ → St1 → MH → (Option Int → MH → Prop) → Prop
  | .nil, _, F, Q => Q none F
  | .cons a _, σ, F, Q => wpE W a σ F fun x F1 => match x with
    | .int i => Q (some i) F1
    | _ => False
/-- and, or as values (bools) -/
def wpBl {Γ : Amb} (W : XS) (op : BoolOp) : Es Γ → St1 → MH → Q1 → Prop
  | .nil, _, _, _ => False
  | .cons a .nil, σ, F, Q => wpE W a σ F Q
  | .cons a (.cons b r), σ, F, Q => wpE W a σ F fun x F1 => match op, x with
    | .And, .bl true => wpBl W op (.cons b r) σ F1 Q
    | .And, .bl false => Q (.bl false) F1
    | .Or, .bl true => Q (.bl true) F1
    | .Or, .bl false => wpBl W op (.cons b r) σ F1 Q
    | _, _ => False
/-- a test -/
def wpT {Γ : Amb} (W : XS) : T Γ → St1 → MH → (Bool → MH → Prop) → Prop
  | .val e, σ, F, Q => wpE W e σ F fun x F1 => truS x F1 fun b => Q b F1
  | .cmp op a b, σ, F, Q => wpE W a σ F fun x F1 => wpE W b σ F1 fun y F2 => cmpS op x y F2 fun z F3 => match z with
    | .bl k => Q k F3
    | _ => False
  | .chain op op' a b c, σ, F, Q => wpE W a σ F fun x F1 => wpE W b σ F1 fun y F2 => cmpS op x y F2 fun z F3 => match z with
    | .bl true => wpE W c σ F3 fun w F4 => cmpS op' y w F4 fun z F5 => match z with
      | .bl k => Q k F5
      | _ => False
    | .bl false => Q false F3
    | _ => False
  | .cmpD a b, σ, F, Q => wpE W a σ F fun x F1 => wpE W b σ F1 fun y F2 => neD x y F2 fun k => Q k F2
  | .not a, σ, F, Q => wpT W a σ F fun b F1 => Q (!b) F1
  | .bool op es, σ, F, Q => wpTs W op es σ F Q
def wpTs {Γ : Amb} (W : XS) (op : BoolOp) : Ts Γ → St1 → MH → (Bool → MH → Prop) → Prop
  | .nil, _, _, _ => False
  | .cons a .nil, σ, F, Q => wpT W a σ F Q
  | .cons a (.cons b r), σ, F, Q => wpT W a σ F fun x F1 => match op, x with
    | .And, true => wpTs W op (.cons b r) σ F1 Q
    | .And, false => Q false F1
    | .Or, true => Q true F1
    | .Or, false => wpTs W op (.cons b r) σ F1 Q
/-- a comprehension's tests: none, or one -/
def wpCs {Γ : Amb} (W : XS) : Ts Γ → St1 → MH → (Bool → MH → Prop) → Prop
  | .nil, _, F, Q => Q true F
  | .cons a _, σ, F, Q => wpT W a σ F Q
def wpIt {Γ : Amb} (W : XS) : It Γ → St1 → MH → (List Val → (MH → Prop) → MH → Prop) → Prop
  | .lst e, σ, F, Q => wpE W e σ F fun x F1 => match lsOf F1 x with
    | some vs => Q vs (fun F => lsOf F x = some vs) F1
    | none => False
  | .tupl e, σ, F, Q => wpE W e σ F fun x F1 => match x with
    | .tup vs => Q vs (fun _ => True) F1
    | _ => False
  | .str e, σ, F, Q => wpE W e σ F fun x F1 => match x with
    | .str z => Q (charsOf z) (fun _ => True) F1
    | _ => False
  | .rng1 e, σ, F, Q => wpE W e σ F fun x F1 => match x with
    | .int j => -(2 ^ 62) ≤ j ∧ j < 2 ^ 62 ∧ Q (rngV 0 j.toNat) (fun _ => True) F1
    | _ => False
  | .rng2 a b, σ, F, Q => wpE W a σ F fun x F1 => wpE W b σ F1 fun y F2 => match x, y with
    | .int i, .int j => (-(2 ^ 62) ≤ i ∧ i < 2 ^ 62 ∧ -(2 ^ 62) ≤ j ∧ j < 2 ^ 62) ∧ Q (rngV i (j - i).toNat) (fun _ => True) F2
    | _, _ => False
  | .zip2 a b, σ, F, Q => wpE W a σ F fun x F1 => wpE W b σ F1 fun y F2 => match lsOf F2 x, lsOf F2 y with
    | some vs, some ws => Q (zipV vs ws) (fun F => lsOf F x = some vs ∧ lsOf F y = some ws) F2
    | _, _ => False
  | .enum e, σ, F, Q => wpE W e σ F fun x F1 => match lsOf F1 x with
    | some vs => Q (enumV vs) (fun F => lsOf F x = some vs) F1
    | none => False
end
mutual
def wpS {Γ : Amb} (W : XS) : S Γ → St1 → MH → (St1 → MH → Prop) → Q1 → Prop
  | .asg t e, σ, F, Qn, _ => wpE W e σ F fun v F1 => bindT t v σ F1 fun σ' => Qn σ' F1
  | .par i j a b, σ, F, Qn, _ => wpE W a σ F fun v F1 => wpE W b σ F1 fun w F2 => Qn ((σ.set i (some v)).set j (some w)) F2
  | .setI o i v, σ, F, Qn, _ => wpE W v σ F fun z F1 => wpE W o σ F1 fun x F2 => wpE W i σ F2 fun y F3 => setS x y z F3 fun F4 => Qn σ F4
  | .setF f r o v, σ, F, Qn, _ => wpE W v σ F fun z F1 => wpE W o σ F1 fun x F2 => match x with
    | .ref p => match F2 p with
      | some (.inst C fs) => C = r.C ∧ fs.length < 1000 ∧ Qn σ (mset F2 p (.inst C (putV f z fs)))
      | _ => False
    | _ => False
  | .aug i e, σ, F, Qn, _ => match σ[i]? with
    | some (some (.int a)) => wpE W e σ F fun y F1 => match y with
      | .int b => Qn (σ.set i (some (.int (a + b)))) F1
      | _ => False
    | _ => False
  | .ex e, σ, F, Qn, _ => wpE W e σ F fun _ F1 => Qn σ F1
  | .ifs t a b, σ, F, Qn, Qr => wpT W t σ F fun k F1 => match k with
    | true => wpB W a σ F1 Qn Qr
    | false => wpB W b σ F1 Qn Qr
  | .for t it body, σ, F, Qn, Qr => wpIt W it σ F fun items g F1 => forGo g (fun x σ F2 k => bindT t x σ F2 fun σ' => wpB W body σ' F2 k Qr) Qn items σ F1
  | .forK t d body, σ, F, Qn, Qr => ∃ p kvs, F p = some (.dict kvs) ∧ ∀ u, wpE (fun _ _ _ _ => False) d σ (mset F p (.lck u kvs)) fun x F1 => (match x with | .ref q => q = p | _ => False) ∧
      forGo (fun F => F p = some (.lck u kvs)) (fun x σ F2 k => bindT t x σ F2 fun σ' => wpB (fun _ _ _ _ => False) body σ' F2 k fun v F3 => F3 p = some (.lck u kvs) ∧ Qr v (mset F3 p (.dict kvs)))
        (fun σ' F3 => F3 p = some (.lck u kvs) ∧ Qn σ' (mset F3 p (.dict kvs))) (kvs.map fun kv => .str kv.1) σ F1
  | .whl t body, σ, F, Qn, Qr => ∃ I : Nat → St1 → MH → Prop, (∃ m, I m σ F) ∧ ∀ m σ F, I m σ F → wpT W t σ F fun k F1 => match k with
    | true => wpB W body σ F1 (fun σ' F' => ∃ m', m' < m ∧ I m' σ' F') Qr
    | false => Qn σ F1
  | .ret e, σ, F, _, Qr => wpE W e σ F Qr
  | .retN, _, F, _, Qr => Qr .non F
  | .rai _ r e, σ, F, _, _ => wpE W e σ F fun _ F1 => W r.C [] σ F1
  | .tryK _ r i j body, σ, F, Qn, Qr => wpB (fun C fs σ F => match r.ans C with
    | some true => ∀ p, F p = none → Qn ((σ.set j (some (.ref p))).set i none) (mset F p (.exn C fs))
    | some false => W C fs σ F
    | none => False) body σ F Qn Qr
  | .pass, σ, F, Qn, _ => Qn σ F
def wpB {Γ : Amb} (W : XS) : Ss Γ → St1 → MH → (St1 → MH → Prop) → Q1 → Prop
  | .nil, σ, F, Qn, _ => Qn σ F
  | .cons s r, σ, F, Qn, Qr => wpS W s σ F (fun σ' F' => wpB W r σ' F' Qn Qr) Qr
end

example {Γ : Amb} (W : XS) (i : Nat) (σ : St1) (F : MH) (Q : Q1) : wpE W (.neg (.var i) : E Γ) σ F Q = wpE W (.var i : E Γ) σ F fun x F1 => match x with
    | .int i => Q (.int (-i)) F1
    | _ => False := rfl
end Bv

/-! Whether a term of the tongue says what a piece of the program's text says. -/
namespace Bv
open PySem L2 PyProof.Rows

/-- where a text stands: the names by slot, the scope, which names' cells are the frame's own -/
structure Mc where
  N : List Str
  sc : Scope
  fc : Str → Bool

def visB (sc : Scope) (x : Str) : Bool := match sc.names.lookup x with
  | some .local => true
  | some .cell => true
  | some .free => true
  | _ => false
def glB (sc : Scope) (x : Str) : Bool := match sc.names.lookup x with
  | some .globalImplicit => true
  | _ => false
def strB (a b : Str) : Bool := decide (a = b)
def nmB (x : Str) : Bool := !strB x "__debug__" && !strB x "__classdict__" && !strB x "__name__"
def slotB (N : List Str) (i : Nat) (x : Str) : Bool := match N[i]? with
  | some y => strB y x
  | none => false
def locB (M : Mc) (x : Str) : Bool := match M.sc.names.lookup x with
  | some .local => true
  | some .cell => M.fc x
  | _ => false
/-- no star, no set, no slice -/
def plainB : Expr → Bool
  | .Starred .. => false
  | .Set .. => false
  | .Slice .. => false
  | _ => true
def baseB : Expr → Bool
  | .Call (.Name _ _) [] [] _ => false
  | _ => true
/-- a plain truth is asked of it -/
def truB : Expr → Bool
  | .UnaryOp .. => false
  | .BoolOp .. => false
  | .IfExp .. => false
  | .Compare .. => false
  | _ => true
def mC : Val → Const → Bool
  | .int i, .int j => decide (i = j)
  | .bl b, .bool c => decide (b = c)
  | .non, .none => true
  | .str x, .str y => strB x y
  | _, _ => false
def Bm.nm : Bm → Str
  | .append => "append" | .pop => "pop" | .clear => "clear" | .index => "index" | .join => "join" | .split => "split" | .partition => "partition" | .get => "get" | .dpop => "pop" | .count => "count"
def mNames (M : Mc) : List Nat → List Expr → Bool
  | [], [] => true
  | i :: is, .Name x _ :: es => slotB M.N i x && locB M x && mNames M is es
  | _, _ => false
def mTg (M : Mc) : Tg → Expr → Bool
  | .nm i, .Name x _ => slotB M.N i x && locB M x
  | .tp is, .Tuple es _ _ => mNames M is es
  | .ul is, .Tuple es _ _ => mNames M is es
  | _, _ => false
def ownOf (N : List Str) (t : Tg) : List (Str × Nat) := t.slots.map fun i => (N.getD i Str.empty, i)
def blkB (N : List Str) (sc scope : Scope) (own : List (Str × Nat)) : Bool := blkC N sc scope own
def Mc.blk (M : Mc) (scope : Scope) : Mc := ⟨M.N, relS scope M.sc, fun x => scope.names.lookup x == some .cell⟩
def opB (a b : Operator) : Bool := decide (a = b)
def cmB (a b : CmpOp) : Bool := decide (a = b)
def boB (a b : BoolOp) : Bool := decide (a = b)

/-- pairs go to a tuple of names -/
def tgB {Γ : Amb} (it : It Γ) (tg : Expr) : Bool := match it with
  | .zip2 _ _ => (match tg with
    | .Tuple .. => true
    | _ => false)
  | .enum _ => (match tg with
    | .Tuple .. => true
    | _ => false)
  | _ => true
/-- the names of classes -/
def mCs {Γ : Amb} (M : Mc) : List (Cn Γ) → List Expr → Bool
  | [], [] => true
  | c :: cs, .Name z _ :: zs => strB c.x z && glB M.sc z && nmB z && mCs M cs zs
  | _, _ => false
mutual
def mE {Γ : Amb} (M : Mc) : E Γ → Expr → Bool
  | .var i, e => match e with
    | .Name x _ => slotB M.N i x && visB M.sc x && nmB x
    | _ => false
  | .cst v, e => match e with
    | .Constant c _ _ => mC v c
    | _ => false
  | .gl x _, e => match e with
    | .Name y _ => strB x y && glB M.sc x && nmB x
    | _ => false
  | .bin op a b, e => match e with
    | .BinOp l op' r _ => opB op op' && mE M a l && mE M b r
    | _ => false
  | .neg a, e => match e with
    | .UnaryOp .USub x _ => mE M a x
    | _ => false
  | .not a, e => match e with
    | .UnaryOp .Not x _ => mE M a x
    | _ => false
  | .cmp op a b, e => match e with
    | .Compare l [op'] [r] _ => cmB op op' && mE M a l && mE M b r
    | _ => false
  | .chain op op2 a b c, e => match e with
    | .Compare l [op', op2'] [r, r2] _ => cmB op op' && cmB op2 op2' && mE M a l && mE M b r && mE M c r2
    | _ => false
  | .bool op es, e => match e with
    | .BoolOp op' vs _ => boB op op' && mEs M es vs && decide (2 ≤ vs.length)
    | _ => false
  | .tup es, e => match e with
    | .Tuple vs _ _ => mEs M es vs
    | _ => false
  | .lst _ es, e => match e with
    | .List vs _ => mEs M es vs
    | _ => false
  | .dic0, e => match e with
    | .Dict [] [] _ => true
    | _ => false
  | .dic1 k v, e => match e with
    | .Dict [some k'] [v'] _ => mE M k k' && mE M v v'
    | _ => false
  | .ix a i, e => match e with
    | .Subscript x y _ => mE M a x && mE M i y
    | _ => false
  | .sl a lo hi, e => match e with
    | .Subscript x (.Slice l h none _) _ => mE M a x && mP M lo l && mP M hi h
    | _ => false
  | .rev a k, e => match e with
    | .Subscript x (.Slice none none (some st) _) _ => mE M a x && mP M k (some st)
    | _ => false
  | .call x _ es, e => match e with
    | .Call (.Name y _) args [] _ => strB x y && glB M.sc x && nmB x && mEs M es args && !args.isEmpty
    | _ => false
  | .meth m _ o es, e => match e with
    | .Call (.Attribute o' m' ap) args [] p => strB m m' && mE M o o' && baseB o' && mEs M es args && decide (args.length < 29) && (ap.endLine == p.line)
    | _ => false
  | .mk x _ es, e => match e with
    | .Call (.Name y _) args [] _ => strB x y && glB M.sc x && nmB x && mEs M es args
    | _ => false
  | .bi b es, e => match e with
    | .Call (.Name y _) args [] _ => strB b.name y && glB M.sc y && nmB y && mEs M es args && !args.isEmpty
    | _ => false
  | .bm b o es, e => match e with
    | .Call (.Attribute o' m' ap) args [] p => strB b.nm m' && mE M o o' && baseB o' && mEs M es args && decide (args.length = b.arity) && (ap.endLine == p.line)
    | _ => false
  | .isi x _ a, e => match e with
    | .Call (.Name y _) [a', .Name z _] [] _ => strB "isinstance" y && glB M.sc y && strB x z && glB M.sc z && nmB z && mE M a a'
    | _ => false
  | .isiT cs a, e => match e with
    | .Call (.Name y _) [a', .Tuple zs _ _] [] _ => strB "isinstance" y && glB M.sc y && mCs M cs zs && mE M a a'
    | _ => false
  | .fld f _ o, e => match e with
    | .Attribute o' f' _ => strB f f' && mE M o o' && baseB o'
    | _ => false
  | .lc _ elt t it cond, e => match e with
    | .ListComp elt' [⟨tg, iter, ifs, 0⟩] scope _ => blkB M.N M.sc scope (ownOf M.N t) && tgB it tg && mIt M it iter && mTg (M.blk scope) t tg && mTs (M.blk scope) cond ifs && decide (ifs.length ≤ 1) && mE (M.blk scope) elt elt'
    | _ => false
  | .lcK _ elt t d cond, e => match e with
    | .ListComp elt' [⟨tg, iter, ifs, 0⟩] scope _ => blkB M.N M.sc scope (ownOf M.N t) && mE M d iter && mTg (M.blk scope) t tg && mTs (M.blk scope) cond ifs && decide (ifs.length ≤ 1) && mE (M.blk scope) elt elt'
    | _ => false
  | .frz a, e => mE M a e
  | .addL a b, e => match e with
    | .BinOp l op' r _ => opB .Add op' && mE M a l && mE M b r
    | _ => false
def mEs {Γ : Amb} (M : Mc) : Es Γ → List Expr → Bool
  | .nil, es => es.isEmpty
  | .cons a r, es => match es with
    | e :: rest => mE M a e && mEs M r rest
    | [] => false
def mP {Γ : Amb} (M : Mc) : Es Γ → Option Expr → Bool
  | .nil, e => e.isNone
  | .cons a r, e => match e with
    | some x => mE M a x
    | none => false
def mIt {Γ : Amb} (M : Mc) : It Γ → Expr → Bool
  | .lst a, e => mE M a e
  | .tupl a, e => mE M a e
  | .str a, e => mE M a e
  | .rng1 a, e => match e with
    | .Call (.Name y _) [x] [] _ => strB "range" y && glB M.sc y && mE M a x
    | _ => false
  | .rng2 a b, e => match e with
    | .Call (.Name y _) [x, z] [] _ => strB "range" y && glB M.sc y && mE M a x && mE M b z
    | _ => false
  | .zip2 a b, e => match e with
    | .Call (.Name y _) [x, z] [] _ => strB "zip" y && glB M.sc y && mE M a x && mE M b z
    | _ => false
  | .enum a, e => match e with
    | .Call (.Name y _) [x] [] _ => strB "enumerate" y && glB M.sc y && mE M a x
    | _ => false
def mT {Γ : Amb} (M : Mc) : T Γ → Expr → Bool
  | .val a, e => truB e && mE M a e
  | .cmp op a b, e => match e with
    | .Compare l [op'] [r] _ => cmB op op' && mE M a l && mE M b r
    | _ => false
  | .chain op op2 a b c, e => match e with
    | .Compare l [op', op2'] [r, r2] _ => cmB op op' && cmB op2 op2' && mE M a l && mE M b r && mE M c r2
    | _ => false
  | .cmpD a b, e => match e with
    | .Compare l [op'] [r] _ => cmB .NotEq op' && mE M a l && mE M b r
    | _ => false
  | .not a, e => match e with
    | .UnaryOp .Not x _ => mT M a x
    | _ => false
  | .bool op ts, e => match e with
    | .BoolOp op' vs _ => boB op op' && mTs M ts vs && decide (1 ≤ vs.length)
    | _ => false
def mTs {Γ : Amb} (M : Mc) : Ts Γ → List Expr → Bool
  | .nil, es => es.isEmpty
  | .cons a r, es => match es with
    | e :: rest => mT M a e && mTs M r rest
    | [] => false
end
def isComp : Expr → Bool
  | .ListComp .. => true
  | .SetComp .. => true
  | .DictComp .. => true
  | _ => false
/-- may the value be a tuple's display that is stored the other way round -/
def isTup : Expr → Bool
  | .Tuple .. => true
  | _ => false
def swB (M : Mc) (y : Str) (py : Pos) : Expr → Bool
  | .ListComp _ _ scope p => M.sc.names.lookup y == some .local && (py.line == p.line) && !(scope.names.any fun (n, k) => n == y && (k == .local || k == .cell))
  | _ => false
def parB (M : Mc) (x y : Str) (px py : Pos) (a b : Expr) : Bool :=
  M.sc.names.lookup x == some .local && M.sc.names.lookup y == some .local && !strB x y && (px.line == py.line) && plainB a && plainB b && !(foldedForSure 8 a && foldedForSure 8 b) && !(constantsAlone 8 a && constantsAlone 8 b)
def isLc {Γ : Amb} : E Γ → Bool
  | .lc .. => true
  | .lcK .. => true
  | _ => false
mutual
def mS {Γ : Amb} (M : Mc) : S Γ → Stmt → Bool
  | .asg t e, s => match s with
    | .Assign [tg] v _ => mTg M t tg && mE M e v && (match tg with
      | .Name y py => !isComp v || (M.sc.names.lookup y == some .cell || (isLc e && swB M y py v))
      | _ => !isComp v && !isTup v)
    | _ => false
  | .par i j a b, s => match s with
    | .Assign [.Tuple [.Name x px, .Name y py] _ _] (.Tuple [a', b'] _ _) _ => slotB M.N i x && slotB M.N j y && decide (i ≠ j) && parB M x y px py a' b' && mE M a a' && mE M b b'
    | _ => false
  | .setI o i v, s => match s with
    | .Assign [.Subscript o' i' _] v' _ => mE M o o' && mE M i i' && mE M v v'
    | _ => false
  | .setF f _ o v, s => match s with
    | .Assign [.Attribute o' f' _] v' _ => strB f f' && mE M o o' && mE M v v'
    | _ => false
  | .aug i e, s => match s with
    | .AugAssign (.Name x _) .Add e' _ => slotB M.N i x && locB M x && mE M e e'
    | _ => false
  | .ex e, s => match s with
    | .Expr e' _ => mE M e e' && !isComp e'
    | _ => false
  | .ifs t a b, s => match s with
    | .If t' a' b' _ => mT M t t' && mB M a a' && mB M b b'
    | _ => false
  | .for t it body, s => match s with
    | .For tg iter body' [] _ => mTg M t tg && tgB it tg && mIt M it iter && mB M body body'
    | _ => false
  | .forK t d body, s => match s with
    | .For tg iter body' [] _ => mTg M t tg && mE M d iter && mB M body body'
    | _ => false
  | .whl t body, s => match s with
    | .While t' body' [] _ => mT M t t' && mB M body body'
    | _ => false
  | .ret e, s => match s with
    | .Return (some e') _ => mE M e e'
    | _ => false
  | .retN, s => match s with
    | .Return none _ => true
    | _ => false
  | .rai x _ a, s => match s with
    | .Raise (some (.Call (.Name y _) [a'] [] _)) none _ => strB x y && glB M.sc y && nmB y && mE M a a'
    | _ => false
  | .tryK x _ i j body, s => match s with
    | .Try body' [.ExceptHandler (some (.Name y _)) (some n) [.Assign [.Name z _] (.Name n' _) _] _] [] [] _ =>
      strB x y && glB M.sc y && nmB y && slotB M.N i n && strB n n' && (M.sc.names.lookup n == some .local) && nmB n && slotB M.N j z && (M.sc.names.lookup z == some .local) && decide (i ≠ j) && mB M body body'
    | _ => false
  | .pass, s => match s with
    | .Pass _ => true
    | _ => false
def mB {Γ : Amb} (M : Mc) : Ss Γ → List Stmt → Bool
  | .nil, s => s.isEmpty
  | .cons a r, s => match s with
    | st :: rest => mS M a st && mB M r rest
    | [] => false
end
end Bv

/-! What the text's form alone gives. -/
namespace Bv
open PySem L2 PyProof.Rows

theorem star_plain {e : Expr} (h : plainB e = true) (es : List Expr) (env : Env) : starEach (e :: es) env = (false, eval e env) :: starEach es env := by
  cases e <;> first | rfl | cases h
theorem noset_plain {e : Expr} (h : plainB e = true) (env : Env) (x : Value) : foldedSetIterable e env x = pure x := by
  cases e <;> first | rfl | cases h
theorem marks_plain {e : Expr} (h : plainB e = true) (op : CmpOp) : behindInMarks op e = false := by
  cases e <;> first | rfl | cases h
theorem ix_plain {e : Expr} (h : plainB e = true) (o i : Value) : subscripted e false o i = operate [o, i] (getItem o i) := by
  cases e <;> first | rfl | cases h
theorem base_plain {o : Expr} (h : baseB o = true) (f : Str) (env : Env) (w : Sem Value) : attributeBase o f env w = w := by
  unfold attributeBase
  split
  · cases h
  · rfl
theorem tru_plain {e : Expr} (h : truB e = true) (env : Env) (whole : Sem Value) : isTrue e env whole = (do let v ← whole; standAt e.pos; holding [v] (truthy v)) := by
  cases e <;> first | rfl | cases h
/-- no star in a row of arguments -/
def plainsB (es : List Expr) : Bool := es.all plainB
theorem stars_plain : ∀ {es : List Expr}, plainsB es = true → ∀ env, (starEach es env).all (fun x => !x.1) = true
  | [], _, _ => rfl
  | e :: es, h, env => by
    unfold plainsB at h
    rw [List.all_cons, Bool.and_eq_true] at h
    rw [star_plain h.1, List.all_cons, stars_plain h.2]
    rfl
theorem back_any : ∀ (pos : Pos) {l : List (Bool × Sem Value)}, l.all (fun x => !x.1) = true → (backTo pos l).any (·.1) = false
  | _, [], _ => rfl
  | pos, (b, t) :: r, h => by
    rw [List.all_cons, Bool.and_eq_true] at h
    have hb : b = false := by simpa using h.1
    subst hb
    show (false || (backTo pos r).any (·.1)) = false
    rw [back_any pos h.2]
    rfl
theorem back_all : ∀ (pos : Pos) {l : List (Bool × Sem Value)}, l.all (fun x => !x.1) = true → (backTo pos l).all (fun x => !x.1) = true
  | _, [], _ => rfl
  | pos, (b, t) :: r, h => by
    rw [List.all_cons, Bool.and_eq_true] at h
    have hb : b = false := by simpa using h.1
    subst hb
    show (true && (backTo pos r).all (fun x => !x.1)) = true
    rw [back_all pos h.2]
    rfl
theorem few_plain {es : List Expr} (h : plainsB es = true) (hl : es.length < 29) (pos : Pos) (env : Env) :
    ((backTo pos (starEach es env)).all (fun x => !x.1) && (backToKw pos (keywordEach [] env)).all (fun x => x.1.isSome) && decide (es.length + ([] : List Keyword).length + (if ([] : List Keyword).isEmpty then 0 else 1) < 30)) = true := by
  rw [back_all pos (stars_plain h env)]
  have e : decide (es.length + ([] : List Keyword).length + (if ([] : List Keyword).isEmpty then 0 else 1) < 30) = true := decide_eq_true (by simp; omega)
  rw [e]
  rfl
theorem call_form {o : Expr} {m : Str} {ap pos : Pos} {es : List Expr} {env : Env} (hb : baseB o = true) (h : plainsB es = true) (hl : es.length < 29) (hline : (ap.endLine == pos.line) = true) :
    eval (.Call (.Attribute o m ap) es [] pos) env = (do
      let ov ← eval o env
      standAt ap.atName
      let (f, first) ← holding [ov] (getMethod ov m (do return (← importBound o env).getD true))
      callWith pos f first (backTo pos (starEach es env)) (backToKw pos (keywordEach [] env))) := by
  have hf : methodCallForm (es.length + ([] : List Keyword).length) (backTo pos (starEach es env)) (backToKw pos (keywordEach [] env)) = true := by
    unfold methodCallForm
    exact few_plain h hl pos env
  show (do
    let ov ← attributeBase o m env (eval o env)
    standAt ap.atName
    methodCall o m ap pos env ov (es.length + ([] : List Keyword).length) (backTo pos (starEach es env)) (backToKw pos (keywordEach [] env))) = _
  rw [base_plain hb]
  unfold methodCall calleeOf methodCallPos
  rw [hf]
  have hl2 : (!true || ap.endLine == pos.line) = true := by rw [hline]; rfl
  rw [if_pos hl2]
  rfl
end Bv

/-! The tongue is true to the text: expressions. -/
namespace Bv
open PySem L2 PyProof.Rows

structure CxOk (Γ : Amb) (M : Mc) (X : Cx) : Prop where
  P : X.prog = Γ.P
  w : X.w = Γ.w
  K : X.K = Γ.K
  mg : X.mg = Γ.mg
  base : X.base = Γ.base
  room : Room Γ.k X.A
  calm : X.calm = true
  N : X.N = M.N
  nd : X.N.Nodup
  sc : X.env.scope = M.sc
  fn : ∀ x, M.fc x = true → X.fn x = true
def bltNames : List Str := ["len", "abs", "int", "str", "sorted", "list", "all", "any", "tuple", "max", "isinstance", "range", "zip", "enumerate", "dict"]
structure AmbOk (Γ : Amb) : Prop where
  bl : ∀ x ∈ bltNames, Γ.mg x = none

/-- the readings of told wishes -/
def dV (K : PySem.W.Frag) (B : Bs) (w : St1 → MH → Q1 → Prop) : TE := fun τ H Q => ∃ N F σ Q0, Ok K B N F H ∧ Sl K N σ τ ∧ w σ F Q0 ∧ Post K B N Q0 Q
def PostB (K : PySem.W.Frag) (B : Bs) (N : Hp) (Q0 : Bool → MH → Prop) (Q : Bool → Hp → Prop) : Prop := ∀ b N' F' H', Same N N' → Ok K B N' F' H' → Q0 b F' → Q b H'
def PostL (K : PySem.W.Frag) (B : Bs) (N : Hp) (Q0 : List Val → MH → Prop) (Q : List V → Hp → Prop) : Prop := ∀ vs xs N' F' H', Same N N' → Ok K B N' F' H' → Dvs K N' vs xs → Q0 vs F' → Q xs H'
def PostO (K : PySem.W.Frag) (B : Bs) (N : Hp) (Q0 : Option Int → MH → Prop) (Q : Option Int → Hp → Prop) : Prop := ∀ o N' F' H', Same N N' → Ok K B N' F' H' → Q0 o F' → Q o H'
def dT (K : PySem.W.Frag) (B : Bs) (w : St1 → MH → (Bool → MH → Prop) → Prop) : TT := fun τ H Q => ∃ N F σ Q0, Ok K B N F H ∧ Sl K N σ τ ∧ w σ F Q0 ∧ PostB K B N Q0 Q
def dA (K : PySem.W.Frag) (B : Bs) (w : St1 → MH → (List Val → MH → Prop) → Prop) : TA := fun τ H Q => ∃ N F σ Q0, Ok K B N F H ∧ Sl K N σ τ ∧ w σ F Q0 ∧ PostL K B N Q0 Q
def dO (K : PySem.W.Frag) (B : Bs) (w : St1 → MH → (Option Int → MH → Prop) → Prop) : TO := fun τ H Q => ∃ N F σ Q0, Ok K B N F H ∧ Sl K N σ τ ∧ w σ F Q0 ∧ PostO K B N Q0 Q
theorem PostB.mono {K : PySem.W.Frag} {B : Bs} {N N' : Hp} {Q0 : Bool → MH → Prop} {Q : Bool → Hp → Prop} (e : Same N N') (h : PostB K B N Q0 Q) : PostB K B N' Q0 Q := fun b N2 F2 H2 e2 => h b N2 F2 H2 (e.trans e2)
theorem PostL.mono {K : PySem.W.Frag} {B : Bs} {N N' : Hp} {Q0 : List Val → MH → Prop} {Q : List V → Hp → Prop} (e : Same N N') (h : PostL K B N Q0 Q) : PostL K B N' Q0 Q := fun b x N2 F2 H2 e2 => h b x N2 F2 H2 (e.trans e2)
theorem PostO.mono {K : PySem.W.Frag} {B : Bs} {N N' : Hp} {Q0 : Option Int → MH → Prop} {Q : Option Int → Hp → Prop} (e : Same N N') (h : PostO K B N Q0 Q) : PostO K B N' Q0 Q := fun b N2 F2 H2 e2 => h b N2 F2 H2 (e.trans e2)
/-- one part, then what follows -/
theorem dV.bind {K : PySem.W.Frag} {B : Bs} {N H : Hp} {F : MH} {σ : St1} {τ : L2.St} {w : St1 → MH → Q1 → Prop} {k : Q1} {R : VK} (o : Ok K B N F H) (sl : Sl K N σ τ) (h : w σ F k)
    (hk : ∀ v x N' F' H', Same N N' → Ok K B N' F' H' → Sl K N' σ τ → Dv K N' v x → k v F' → R x H') : dV K B w τ H R :=
  ⟨N, F, σ, k, o, sl, h, fun v x N' F' H' e o' d q => hk v x N' F' H' e o' (sl.mono e) d q⟩
theorem dT.bind {K : PySem.W.Frag} {B : Bs} {N H : Hp} {F : MH} {σ : St1} {τ : L2.St} {w : St1 → MH → (Bool → MH → Prop) → Prop} {k : Bool → MH → Prop} {R : Bool → Hp → Prop} (o : Ok K B N F H) (sl : Sl K N σ τ) (h : w σ F k)
    (hk : ∀ b N' F' H', Same N N' → Ok K B N' F' H' → Sl K N' σ τ → k b F' → R b H') : dT K B w τ H R :=
  ⟨N, F, σ, k, o, sl, h, fun b N' F' H' e o' q => hk b N' F' H' e o' (sl.mono e) q⟩
theorem dA.bind {K : PySem.W.Frag} {B : Bs} {N H : Hp} {F : MH} {σ : St1} {τ : L2.St} {w : St1 → MH → (List Val → MH → Prop) → Prop} {k : List Val → MH → Prop} {R : List V → Hp → Prop} (o : Ok K B N F H) (sl : Sl K N σ τ) (h : w σ F k)
    (hk : ∀ vs xs N' F' H', Same N N' → Ok K B N' F' H' → Sl K N' σ τ → Dvs K N' vs xs → k vs F' → R xs H') : dA K B w τ H R :=
  ⟨N, F, σ, k, o, sl, h, fun v x N' F' H' e o' d q => hk v x N' F' H' e o' (sl.mono e) d q⟩
theorem dO.bind {K : PySem.W.Frag} {B : Bs} {N H : Hp} {F : MH} {σ : St1} {τ : L2.St} {w : St1 → MH → (Option Int → MH → Prop) → Prop} {k : Option Int → MH → Prop} {R : Option Int → Hp → Prop} (o : Ok K B N F H) (sl : Sl K N σ τ) (h : w σ F k)
    (hk : ∀ b N' F' H', Same N N' → Ok K B N' F' H' → Sl K N' σ τ → k b F' → R b H') : dO K B w τ H R :=
  ⟨N, F, σ, k, o, sl, h, fun b N' F' H' e o' q => hk b N' F' H' e o' (sl.mono e) q⟩

section
variable {Γ : Amb} {M : Mc} {X : Cx} {B : Bs} {W : XS}
theorem plain_mE : ∀ {M : Mc} (c : E Γ) {e : Expr}, mE M c e = true → plainB e = true
  | M, .frz a, e, h => plain_mE (M := M) a (by unfold mE at h; exact h)
  | M, .var _, e, h | M, .cst _, e, h | M, .gl _ _, e, h | M, .bin _ _ _, e, h | M, .neg _, e, h | M, .not _, e, h | M, .cmp _ _ _, e, h | M, .chain _ _ _ _ _, e, h | M, .bool _ _, e, h | M, .tup _, e, h | M, .lst _ _, e, h | M, .addL _ _, e, h
  | M, .dic0, e, h | M, .dic1 _ _, e, h | M, .ix _ _, e, h | M, .sl _ _ _, e, h | M, .rev _ _, e, h | M, .call _ _ _, e, h | M, .meth _ _ _ _, e, h | M, .mk _ _ _, e, h | M, .bi _ _, e, h | M, .bm _ _ _, e, h | M, .isi _ _ _, e, h | M, .isiT _ _, e, h | M, .fld _ _ _, e, h
  | M, .lc _ _ _ _ _, e, h | M, .lcK _ _ _ _ _, e, h => by
    unfold mE at h
    split at h <;> first | rfl | cases h
theorem plains_mEs : ∀ {M : Mc} (c : Es Γ) {es : List Expr}, mEs M c es = true → plainsB es = true
  | M, .nil, [], _ => rfl
  | M, .nil, _ :: _, h => by unfold mEs at h; cases h
  | M, .cons a r, [], h => by unfold mEs at h; cases h
  | M, .cons a r, e :: es, h => by
    unfold mEs at h
    simp only [Bool.and_eq_true] at h
    unfold plainsB
    rw [List.all_cons, plain_mE a h.1, Bool.true_and]
    exact plains_mEs r h.2
theorem strB_eq {a b : Str} (h : strB a b = true) : a = b := of_decide_eq_true h
theorem slotB_eq {N : List Str} {i : Nat} {x : Str} (h : slotB N i x = true) : N[i]? = some x := by
  unfold slotB at h
  split at h
  · rename_i e
    rw [e, strB_eq h]
  · cases h
theorem visB_eq {sc : Scope} {x : Str} (h : visB sc x = true) : Vis sc x := by
  unfold visB at h
  split at h <;> first | exact .inl (by assumption) | exact .inr (.inl (by assumption)) | exact .inr (.inr (by assumption)) | cases h
theorem glB_eq {X : Cx} {x : Str} (hs : X.env.scope = M.sc) (h : glB M.sc x = true) : Gl X x := by
  unfold glB at h
  split at h
  · rename_i e
    show X.env.scope.names.lookup x = some .globalImplicit
    rw [hs]
    exact e
  · cases h
theorem locB_eq {x : Str} (hx : CxOk Γ M X) (h : locB M x = true) : Loc X.env.scope x ∧ (X.fn x = true ∨ X.env.scope.names.lookup x = some .local) := by
  unfold locB at h
  rw [hx.sc]
  split at h
  · rename_i e
    exact ⟨.inl e, .inr e⟩
  · rename_i e
    exact ⟨.inr e, .inl (hx.fn x h)⟩
  · cases h
theorem nm1 {x : Str} (h : nmB x = true) : (x == ("__debug__" : Str)) = false ∧ (x == ("__classdict__" : Str)) = false ∧ x ≠ "__name__" := by
  unfold nmB strB at h
  simp only [Bool.and_eq_true, Bool.not_eq_true', decide_eq_false_iff_not] at h
  obtain ⟨⟨h1, h2⟩, h3⟩ := h
  exact ⟨by simpa using h1, by simpa using h2, h3⟩

theorem snd_var {i : Nat} {e : Expr} (h : mE M (.var i : E Γ) e = true) (hx : CxOk Γ M X) : PE X e (dV Γ.K B (wpE W (.var i : E Γ))) := by
  unfold mE at h
  split at h
  · rename_i x pos
    simp only [Bool.and_eq_true] at h
    obtain ⟨⟨h1, h2⟩, h3⟩ := h
    obtain ⟨n1, n2, _⟩ := nm1 h3
    refine ⟨fun pins s τ H Q I hq => ?_⟩
    refine (pe_var (i := i) (by rw [hx.N]; exact slotB_eq h1) (by rw [hx.sc]; exact visB_eq h2) n1 n2).run pins s τ H Q I ?_
    obtain ⟨N, F, σ, Q0, o, sl, w, post⟩ := hq
    have w : (match σ[i]? with | some (some v) => Q0 v F | _ => False) := w
    split at w
    · rename_i v e
      obtain ⟨y, e2, d⟩ := sl.get i v e
      exact ⟨y, e2, post.at o d w⟩
    · exact w.elim
  · cases h
theorem snd_cst {v : Val} {e : Expr} (h : mE M (.cst v : E Γ) e = true) (hx : CxOk Γ M X) : PE X e (dV Γ.K B (wpE W (.cst v : E Γ))) := by
  unfold mE at h
  split at h
  · rename_i c k pos
    have fin : ∀ {x : V} {τ : L2.St} {H : Hp} {Q : VK}, (∀ N, Dv Γ.K N v x) → dV Γ.K B (wpE W (.cst v : E Γ)) τ H Q → Q x H := fun {x τ H Q} d hq => by
      obtain ⟨N, F, σ, Q0, o, sl, w, post⟩ := hq
      exact post.at o (d N) w
    unfold mC at h
    split at h
    · have e := of_decide_eq_true h
      subst e
      exact ⟨fun pins s τ H Q I hq => pe_int.run pins s τ H Q I (fin (fun _ => .int _) hq)⟩
    · have e := of_decide_eq_true h
      subst e
      exact ⟨fun pins s τ H Q I hq => pe_bl.run pins s τ H Q I (fin (fun _ => .bl _) hq)⟩
    · exact ⟨fun pins s τ H Q I hq => pe_non.run pins s τ H Q I (fin (fun _ => .non) hq)⟩
    · have e := strB_eq h
      subst e
      exact ⟨fun pins s τ H Q I hq => pe_str.run pins s τ H Q I (fin (fun _ => .str _) hq)⟩
    · cases h
  · cases h
theorem snd_gl {x : Str} {r : GlR Γ x} {e : Expr} (h : mE M (.gl x r : E Γ) e = true) (hx : CxOk Γ M X) : PE X e (dV Γ.K B (wpE W (.gl x r : E Γ))) := by
  unfold mE at h
  split at h
  · rename_i y pos
    simp only [Bool.and_eq_true] at h
    obtain ⟨⟨h1, h2⟩, h3⟩ := h
    have e := strB_eq h1
    subst e
    obtain ⟨n1, n2, _⟩ := nm1 h3
    obtain ⟨u, z, g, rel, d⟩ := r.ok
    refine ⟨fun pins s τ H Q I hq => ?_⟩
    obtain ⟨N, F, σ, Q0, o, sl, w, post⟩ := hq
    exact (pe_glob (glB_eq hx.sc h2) (by rw [hx.mg]; exact g) rel n1).run pins s τ H Q I (post.at o (d N) w)
  · cases h
theorem snd_bin {op : Operator} {a b : E Γ} {l r : Expr} {pos : Pos} (hx : CxOk Γ M X) (ha : PE X l (dV Γ.K B (wpE W a))) (hb : PE X r (dV Γ.K B (wpE W b))) : PE X (.BinOp l op r pos) (dV Γ.K B (wpE W (.bin op a b))) := by
  refine ⟨fun pins s τ H Q I hq => ?_⟩
  have ho := binS_ok (X := X) op
  rw [hx.K] at ho
  refine (pe_op ho ha hb).run pins s τ H Q I ?_
  obtain ⟨N, F, σ, Q0, o, sl, w, post⟩ := hq
  refine dV.bind o sl w fun v x N1 F1 H1 e1 o1 sl1 d1 w1 => dV.bind o1 sl1 w1 fun v2 x2 N2 F2 H2 e2 o2 _ d2 w2 => ?_
  exact ⟨B, N2, F2, v, v2, Q0, o2, d1.mono e2, d2, w2, post.mono (e1.trans e2)⟩
theorem addLS_ok {X : Cx} : OpR X (binaryOp .Add) (lift2 X.K addLS) := by
  rintro pins s σ H x y v u Q I rx ry ⟨B, N, F, a, b, Q0, o, da, db, h, post⟩
  unfold addLS at h
  split at h
  · rename_i e1 e2
    obtain ⟨p, xs, rfl, r1, d1⟩ := lsOf_ok o da e1
    obtain ⟨q, ys, rfl, r2, d2⟩ := lsOf_ok o db e2
    exact op_catR pins s σ H _ _ v u Q I rx ry ⟨_, _, _, _, rfl, rfl, r1, r2, by rw [← d1.length, ← d2.length]; exact h.1, post.newLs (m := true) o (d1.append d2) h.2⟩
  · exact h.elim
theorem snd_addL {a b : E Γ} {l r : Expr} {pos : Pos} (hx : CxOk Γ M X) (ha : PE X l (dV Γ.K B (wpE W a))) (hb : PE X r (dV Γ.K B (wpE W b))) : PE X (.BinOp l .Add r pos) (dV Γ.K B (wpE W (.addL a b))) := by
  refine ⟨fun pins s τ H Q I hq => ?_⟩
  have ho := addLS_ok (X := X)
  rw [hx.K] at ho
  refine (pe_op ho ha hb).run pins s τ H Q I ?_
  obtain ⟨N, F, σ, Q0, o, sl, w, post⟩ := hq
  refine dV.bind o sl w fun v x N1 F1 H1 e1 o1 sl1 d1 w1 => dV.bind o1 sl1 w1 fun v2 x2 N2 F2 H2 e2 o2 _ d2 w2 => ?_
  exact ⟨B, N2, F2, v, v2, Q0, o2, d1.mono e2, d2, w2, post.mono (e1.trans e2)⟩
theorem snd_neg {a : E Γ} {l : Expr} {pos : Pos} (ha : PE X l (dV Γ.K B (wpE W a))) : PE X (.UnaryOp .USub l pos) (dV Γ.K B (wpE W (.neg a))) := by
  refine ⟨fun pins s τ H Q I hq => ?_⟩
  refine (pe_un un_neg ha).run pins s τ H Q I ?_
  obtain ⟨N, F, σ, Q0, o, sl, w, post⟩ := hq
  refine dV.bind o sl w fun v x N1 F1 H1 e1 o1 sl1 d1 w1 => ?_
  split at w1
  · cases d1
    exact ⟨_, rfl, (post.mono e1).at o1 (.int _) w1⟩
  · exact w1.elim
theorem snd_not {a : E Γ} {l : Expr} {pos : Pos} (ha : PE X l (dV Γ.K B (wpE W a))) : PE X (.UnaryOp .Not l pos) (dV Γ.K B (wpE W (.not a))) := by
  refine ⟨fun pins s τ H Q I hq => ?_⟩
  refine (pe_not ha).run pins s τ H Q I ?_
  obtain ⟨N, F, σ, Q0, o, sl, w, post⟩ := hq
  refine dV.bind o sl w fun v x N1 F1 H1 e1 o1 sl1 d1 w1 => ?_
  split at w1
  · cases d1
    exact ⟨_, rfl, (post.mono e1).at o1 (.bl _) w1⟩
  · exact w1.elim
theorem snd_cmp {op : CmpOp} {a b : E Γ} {l r : Expr} {pos : Pos} (hx : CxOk Γ M X) (hp : plainB r = true) (ha : PE X l (dV Γ.K B (wpE W a))) (hb : PE X r (dV Γ.K B (wpE W b))) : PE X (.Compare l [op] [r] pos) (dV Γ.K B (wpE W (.cmp op a b))) := by
  refine ⟨fun pins s τ H Q I hq => ?_⟩
  have ho := cmpS_ok (X := X) hx.room.units op
  rw [hx.K] at ho
  refine (pe_cmpR ho ha hb (marks_plain hp op)).run pins s τ H Q I ?_
  obtain ⟨N, F, σ, Q0, o, sl, w, post⟩ := hq
  refine dV.bind o sl w fun v x N1 F1 H1 e1 o1 sl1 d1 w1 => dV.bind o1 sl1 w1 fun v2 x2 N2 F2 H2 e2 o2 _ d2 w2 => ?_
  exact ⟨B, N2, F2, v, v2, Q0, o2, d1.mono e2, d2, w2, post.mono (e1.trans e2)⟩
theorem snd_chain {op op2 : CmpOp} {a b c : E Γ} {l r z : Expr} {pos : Pos} (hx : CxOk Γ M X) (hz : plainB z = true) (ha : PE X l (dV Γ.K B (wpE W a))) (hb : PE X r (dV Γ.K B (wpE W b))) (hc : PE X z (dV Γ.K B (wpE W c))) :
    PE X (.Compare l [op, op2] [r, z] pos) (dV Γ.K B (wpE W (.chain op op2 a b c))) := by
  refine ⟨fun pins s τ H Q I hq => ?_⟩
  have ho := cmpS_ok (X := X) hx.room.units op
  have ho2 := cmpS_ok (X := X) hx.room.units op2
  rw [hx.K] at ho ho2
  refine (pe_chain ho ho2 ha hb hc (show lastMarks [op, op2] [r, z] = false from marks_plain hz op2)).run pins s τ H Q I ?_
  obtain ⟨N, F, σ, Q0, o, sl, w, post⟩ := hq
  refine dV.bind o sl w fun v x N1 F1 H1 e1 o1 sl1 d1 w1 => dV.bind o1 sl1 w1 fun v2 x2 N2 F2 H2 e2 o2 sl2 d2 w2 => ?_
  refine ⟨B, N2, F2, v, v2, _, o2, d1.mono e2, d2, w2, fun v3 x3 N3 F3 H3 e3 o3 d3 w3 => ?_⟩
  split at w3
  · cases d3
    refine ⟨true, rfl, ?_⟩
    rw [if_pos rfl]
    refine dV.bind o3 (sl2.mono e3) w3 fun v4 x4 N4 F4 H4 e4 o4 _ d4 w4 => ?_
    exact ⟨B, N4, F4, v2, v4, Q0, o4, d2.mono (e3.trans e4), d4, w4, post.mono (((e1.trans e2).trans e3).trans e4)⟩
  · cases d3
    refine ⟨false, rfl, ?_⟩
    rw [if_neg Bool.false_ne_true]
    exact (post.mono ((e1.trans e2).trans e3)).at o3 (.bl _) w3
  · exact w3.elim
theorem snd_tup {es : Es Γ} {vs : List Expr} {k : Nat} {pos : Pos} (ha : PA X vs (dA Γ.K B (wpEs W es))) : PE X (.Tuple vs k pos) (dV Γ.K B (wpE W (.tup es))) := by
  refine ⟨fun pins s τ H Q I hq => ?_⟩
  refine (pe_tup ha).run pins s τ H Q I ?_
  obtain ⟨N, F, σ, Q0, o, sl, w, post⟩ := hq
  refine dA.bind o sl w fun vs xs N1 F1 H1 e1 o1 sl1 d1 w1 => ?_
  exact ⟨by rw [← d1.length]; exact w1.1, (post.mono e1).newT o1 d1 w1.2⟩
theorem snd_lst {m : Bool} {es : Es Γ} {vs : List Expr} {pos : Pos} (ha : PA X vs (dA Γ.K B (wpEs W es))) : PE X (.List vs pos) (dV Γ.K B (wpE W (.lst m es))) := by
  refine ⟨fun pins s τ H Q I hq => ?_⟩
  refine (pe_lst ha).run pins s τ H Q I ?_
  obtain ⟨N, F, σ, Q0, o, sl, w, post⟩ := hq
  refine dA.bind o sl w fun vs xs N1 F1 H1 e1 o1 sl1 d1 w1 => ?_
  exact ⟨by rw [← d1.length]; exact w1.1, (post.mono e1).newLs o1 d1 w1.2⟩
theorem snd_dic0 {pos : Pos} : PE X (.Dict [] [] pos) (dV Γ.K B (wpE W (.dic0 : E Γ))) := by
  refine ⟨fun pins s τ H Q I hq => ?_⟩
  refine pe_dnewK.run pins s τ H Q I ?_
  obtain ⟨N, F, σ, Q0, o, sl, w, post⟩ := hq
  intro p hp
  exact post _ _ N _ _ (Same.refl N) (o.new (c := .dict []) hp ⟨[], upd_same, .nil⟩) (.ref p) (w p (o.free hp).2)
theorem snd_ix {a i : E Γ} {l r : Expr} {pos : Pos} (hx : CxOk Γ M X) (hp : plainB r = true) (ha : PE X l (dV Γ.K B (wpE W a))) (hb : PE X r (dV Γ.K B (wpE W i))) : PE X (.Subscript l r pos) (dV Γ.K B (wpE W (.ix a i))) := by
  refine ⟨fun pins s τ H Q I hq => ?_⟩
  have ho := ixS_ok (X := X) hx.room.units
  rw [hx.K] at ho
  refine (pe_ix ho ha hb (ix_plain hp)).run pins s τ H Q I ?_
  obtain ⟨N, F, σ, Q0, o, sl, w, post⟩ := hq
  refine dV.bind o sl w fun v x N1 F1 H1 e1 o1 sl1 d1 w1 => dV.bind o1 sl1 w1 fun v2 x2 N2 F2 H2 e2 o2 _ d2 w2 => ?_
  exact ⟨B, N2, F2, v, v2, Q0, o2, d1.mono e2, d2, w2, post.mono (e1.trans e2)⟩
theorem snd_sl {a : E Γ} {lo hi : Es Γ} {l : Expr} {x y : Option Expr} {pos p2 : Pos} (hx : CxOk Γ M X) (ha : PE X l (dV Γ.K B (wpE W a))) (hl : PO X x (dO Γ.K B (wpP W lo))) (hh : PO X y (dO Γ.K B (wpP W hi))) :
    PE X (.Subscript l (.Slice x y none p2) pos) (dV Γ.K B (wpE W (.sl a lo hi))) := by
  refine ⟨fun pins s τ H Q I hq => ?_⟩
  have ho := slS_ok (X := X)
  rw [hx.K] at ho
  refine (pe_slice ho ha hl hh).run pins s τ H Q I ?_
  obtain ⟨N, F, σ, Q0, o, sl, w, post⟩ := hq
  refine dV.bind o sl w fun v x N1 F1 H1 e1 o1 sl1 d1 w1 => dO.bind o1 sl1 w1 fun l2 N2 F2 H2 e2 o2 sl2 w2 => dO.bind o2 sl2 w2 fun h3 N3 F3 H3 e3 o3 _ w3 => ?_
  exact ⟨B, N3, F3, v, Q0, o3, d1.mono (e2.trans e3), w3, post.mono ((e1.trans e2).trans e3)⟩
theorem snd_rev {a : E Γ} {k : Es Γ} {l st : Expr} {pos p2 : Pos} (hx : CxOk Γ M X) (ha : PE X l (dV Γ.K B (wpE W a))) (hl : PO X (some st) (dO Γ.K B (wpP W k))) :
    PE X (.Subscript l (.Slice none none (some st) p2) pos) (dV Γ.K B (wpE W (.rev a k))) := by
  refine ⟨fun pins s τ H Q I hq => ?_⟩
  refine (pe_rev ha hl).run pins s τ H Q I ?_
  obtain ⟨N, F, σ, Q0, o, sl, w, post⟩ := hq
  refine dV.bind o sl w fun v x N1 F1 H1 e1 o1 sl1 d1 w1 => dO.bind o1 sl1 w1 fun l2 N2 F2 H2 e2 o2 sl2 w2 => ?_
  rw [hx.K]
  exact ⟨B, N2, F2, v, Q0, o2, d1.mono e2, w2, post.mono (e1.trans e2)⟩
theorem snd_po_nil : PO X none (dO Γ.K B (wpP W (.nil : Es Γ))) := by
  refine ⟨fun pins s τ H Q I hq => ?_⟩
  obtain ⟨N, F, σ, Q0, o, sl, w, post⟩ := hq
  exact po_none.run pins s τ H Q I (post _ N F H (Same.refl N) o w)
theorem snd_po_some {a : E Γ} {r : Es Γ} {e : Expr} (ha : PE X e (dV Γ.K B (wpE W a))) : PO X (some e) (dO Γ.K B (wpP W (.cons a r))) := by
  refine ⟨fun pins s τ H Q I hq => ?_⟩
  refine (po_some ha).run pins s τ H Q I ?_
  obtain ⟨N, F, σ, Q0, o, sl, w, post⟩ := hq
  refine dV.bind o sl w fun v x N1 F1 H1 e1 o1 sl1 d1 w1 => ?_
  split at w1
  · cases d1
    exact ⟨_, rfl, post _ N1 F1 H1 e1 o1 w1⟩
  · exact w1.elim
theorem snd_pa_nil : PA X [] (dA Γ.K B (wpEs W (.nil : Es Γ))) := by
  refine ⟨fun pos pins s τ H Q I hq => ?_⟩
  obtain ⟨N, F, σ, Q0, o, sl, w, post⟩ := hq
  exact pa_nil.run pos pins s τ H Q I (post _ _ N F H (Same.refl N) o .nil w)
theorem snd_pa_cons {a : E Γ} {r : Es Γ} {e : Expr} {es : List Expr} (hp : plainB e = true) (ha : PE X e (dV Γ.K B (wpE W a))) (hr : PA X es (dA Γ.K B (wpEs W r))) : PA X (e :: es) (dA Γ.K B (wpEs W (.cons a r))) := by
  refine ⟨fun pos pins s τ H Q I hq => ?_⟩
  refine (pa_cons ha hr (star_plain hp es X.env)).run pos pins s τ H Q I ?_
  obtain ⟨N, F, σ, Q0, o, sl, w, post⟩ := hq
  refine dV.bind o sl w fun v x N1 F1 H1 e1 o1 sl1 d1 w1 => dA.bind o1 sl1 w1 fun vs xs N2 F2 H2 e2 o2 _ d2 w2 => ?_
  exact post _ _ N2 F2 H2 (e1.trans e2) o2 (.cons (d1.mono e2) d2) w2
end
end Bv

/-! The tongue is true to the text: calls, methods, attributes. -/
namespace Bv
open PySem L2 PyProof.Rows
section
variable {Γ : Amb} {M : Mc} {X : Cx} {B : Bs} {W : XS}

theorem snd_bool1 {op : BoolOp} {a : E Γ} {l : Expr} {pos : Pos} (ha : PE X l (dV Γ.K B (wpE W a))) : PE X (.BoolOp op [l] pos) (dV Γ.K B (wpBl W op (.cons a .nil))) := pe_one ha
theorem snd_bool {op : BoolOp} {a b : E Γ} {r : Es Γ} {l m : Expr} {rest : List Expr} {pos : Pos} (ha : PE X l (dV Γ.K B (wpE W a))) (hb : PE X (.BoolOp op (m :: rest) pos) (dV Γ.K B (wpBl W op (.cons b r)))) :
    PE X (.BoolOp op (l :: m :: rest) pos) (dV Γ.K B (wpBl W op (.cons a (.cons b r)))) := by
  refine ⟨fun pins s τ H Q I hq => ?_⟩
  cases op with
  | And =>
    refine (pe_and ha hb).run pins s τ H Q I ?_
    obtain ⟨N, F, σ, Q0, o, sl, w, post⟩ := hq
    refine dV.bind o sl w fun v x N1 F1 H1 e1 o1 sl1 d1 w1 => ?_
    cases d1 with
    | bl c =>
      refine ⟨c, rfl, ?_⟩
      cases c with
      | true => exact ⟨N1, F1, σ, Q0, o1, sl1, w1, post.mono e1⟩
      | false => exact (post.mono e1).at o1 (.bl _) w1
    | _ => exact w1.elim
  | Or =>
    refine (pe_or ha hb).run pins s τ H Q I ?_
    obtain ⟨N, F, σ, Q0, o, sl, w, post⟩ := hq
    refine dV.bind o sl w fun v x N1 F1 H1 e1 o1 sl1 d1 w1 => ?_
    cases d1 with
    | bl c =>
      refine ⟨c, rfl, ?_⟩
      cases c with
      | false => exact ⟨N1, F1, σ, Q0, o1, sl1, w1, post.mono e1⟩
      | true => exact (post.mono e1).at o1 (.bl _) w1
    | _ => exact w1.elim
theorem snd_call {x : Str} {r : CallR1 Γ x} {es : Es Γ} {e : Expr} {args : List Expr} {p pos : Pos} (hx : CxOk Γ M X) (tk : Takes X (liftW Γ.K B W)) (hg : glB M.sc x = true) (hn : nmB x = true) (hp : plainsB (e :: args) = true) (ha : PA X (e :: args) (dA Γ.K B (wpEs W es))) :
    PE X (.Call (.Name x p) (e :: args) [] pos) (dV Γ.K B (wpE W (.call x r es))) := by
  refine ⟨fun pins s τ H Q I hq => ?_⟩
  obtain ⟨f, fd, ps, j, hj, hm, hk, hb, F⟩ := r.ok
  obtain ⟨n1, _, _⟩ := nm1 hn
  have F' : FnOk X.prog X.w X.K X.mg X.base (L2.CX X.prog X.w) j f fd ps (liftSp Γ.K r.sp) := by rw [hx.P, hx.w, hx.K, hx.mg, hx.base]; exact F
  have hp' := hp
  unfold plainsB at hp'
  rw [List.all_cons, Bool.and_eq_true] at hp'
  refine (pe_callS F' (hx.room.mono hj) (glB_eq hx.sc hg) (by rw [hx.mg]; exact hm) (by rw [hx.K]; exact hk) (by rw [hx.K]; exact hb) (fun σ => passAt tk σ) ha n1 (star_plain hp'.1 _ _) (back_any _ (stars_plain hp'.2 _))).run pins s τ H Q I ?_
  obtain ⟨N, F0, σ, Q0, o, sl, w, post⟩ := hq
  refine dA.bind o sl w fun vs xs N1 F1 H1 e1 o1 sl1 d1 w1 => ?_
  exact ⟨B, N1, F1, vs, Q0, _, o1, d1, w1, post.mono e1, fun C fs d N2 F2 H2 e2 o2 xr q => ⟨C, fs, N2, F2, σ, rfl, o2, xr, sl1.mono e2, q⟩⟩

def tMethA (C : Addr) (m : Str) (sp : Sp) (E : L2.St → XK) (ta : TE) (t : TA) : TE := fun σ H Q => ta σ H fun x H1 => ∃ a dx fs, x = .ref a ∧ H1 a = some (.ins C dx fs) ∧ fs.lookup m = none ∧ t σ H1 fun vs H2 => sp (.ref a :: vs) H2 Q (E σ)
theorem pe_methA {CX : CXT} {k : Nat} {C f : Addr} {fd : FuncData} {ps : List Str} {sp : Sp} {E : L2.St → XK} {m : Str} {o e : Expr} {es : List Expr} {ta : TE} {t : TA} {apos pos : Pos} {pl : Sem Bool} (he : PE X o ta) (c : Cls X.K C) (hm : Meth X.K C m f) (F : FnOk X.prog X.w X.K X.mg X.base CX k f fd ps sp) (hr : Room k X.A) (hb : Binds X.K fd ps []) (hx : ∀ σ, PassesAt CX X σ (E σ)) (ha : PA X (e :: es) t)
    (hst : starEach (e :: es) X.env = (false, eval e X.env) :: starEach es X.env) (hpl : (backTo pos (starEach es X.env)).any (·.1) = false)
    (ht : eval (.Call (.Attribute o m apos) (e :: es) [] pos) X.env = (do
      let ov ← eval o X.env
      standAt apos.atName
      let (f, first) ← holding [ov] (getMethod ov m pl)
      callWith pos f first (backTo pos (starEach (e :: es) X.env)) (backToKw pos (keywordEach [] X.env)))) :
    PE X (.Call (.Attribute o m apos) (e :: es) [] pos) (tMethA C m sp E ta t) := by
  refine ⟨fun pins s σ H Q I h => ?_⟩
  refine PySem.W.methodCall_KW (pl := pl) (thn (he.run pins s σ H _ I h) fun u s1 ⟨x, H1, I1, rx, a, dx, fs, ex, ea, l, q⟩ => ?_) ht
  subst ex
  obtain rfl : u = Value.ref a := rx
  refine getmeth_ok I1 ea c hm l ?_
  refine PySem.W.callWith_K (first := [.ref a]) (h₀ := X.base) I.ok.mod.kin hm.kp (thn (ha.run pos pins s1 σ H1 _ I1 q) fun us s2 ⟨vs, H2, I2, r, q2⟩ => ⟨I2.kIn, ?_⟩) hst hpl
  exact run_fnS (us := .ref a :: us) (vs := .ref a :: vs) F hr hb (hx σ) I2 (.cons rfl r) q2
theorem pe_methA0 {CX : CXT} {k : Nat} {C f : Addr} {fd : FuncData} {ps : List Str} {sp : Sp} {E : L2.St → XK} {m : Str} {o : Expr} {ta : TE} {apos pos : Pos} {pl : Sem Bool} (he : PE X o ta) (c : Cls X.K C) (hm : Meth X.K C m f) (F : FnOk X.prog X.w X.K X.mg X.base CX k f fd ps sp) (hr : Room k X.A) (hb : Binds X.K fd ps []) (hx : ∀ σ, PassesAt CX X σ (E σ))
    (ht : eval (.Call (.Attribute o m apos) [] [] pos) X.env = (do
      let ov ← eval o X.env
      standAt apos.atName
      let (f, first) ← holding [ov] (getMethod ov m pl)
      callWith pos f first (backTo pos (starEach [] X.env)) (backToKw pos (keywordEach [] X.env)))) :
    PE X (.Call (.Attribute o m apos) [] [] pos) (tMethA C m sp E ta tNil) := by
  refine ⟨fun pins s σ H Q I h => ?_⟩
  refine PySem.W.methodCall_KW (pl := pl) (thn (he.run pins s σ H _ I h) fun u s1 ⟨x, H1, I1, rx, a, dx, fs, ex, ea, l, q⟩ => ?_) ht
  subst ex
  obtain rfl : u = Value.ref a := rx
  refine getmeth_ok I1 ea c hm l ?_
  exact PySem.W.callWith_K0 (first := [.ref a]) I1.kIn hm.kp (run_fnS (us := [.ref a]) (vs := [.ref a]) F hr hb (hx σ) I1 (.cons rfl .nil) q)
theorem Dfs.lookup {K : PySem.W.Frag} {N : Hp} {f : Str} : ∀ {fs : List (Str × Val)} {xs : List (Str × V)}, Dfs K N fs xs → (∀ v, fs.lookup f = some v → ∃ x, xs.lookup f = some x ∧ Dv K N v x) ∧ (fs.lookup f = none → xs.lookup f = none)
  | _, _, .nil => ⟨fun _ h => (nomatch h), fun _ => rfl⟩
  | _, _, .cons (a := p) (b := q) h t => by
    obtain ⟨i1, i2⟩ := Dfs.lookup (f := f) t
    obtain ⟨p1, p2⟩ := p
    obtain ⟨q1, q2⟩ := q
    obtain ⟨e, d⟩ := h
    cases e
    rw [List.lookup_cons, List.lookup_cons]
    cases hq : (f == p1) with
    | true =>
      simp only
      refine ⟨fun v hv => ?_, fun hv => nomatch hv⟩
      cases hv
      exact ⟨q2, rfl, d⟩
    | false => exact ⟨i1, i2⟩
theorem snd_meth {m : Str} {r : MethR Γ m} {oc : E Γ} {es : Es Γ} {oe e : Expr} {args : List Expr} {ap pos : Pos} (hx : CxOk Γ M X) (tk : Takes X (liftW Γ.K B W)) (hbs : baseB oe = true) (hl : (e :: args).length < 29) (hline : (ap.endLine == pos.line) = true) (hp : plainsB (e :: args) = true)
    (ho : PE X oe (dV Γ.K B (wpE W oc))) (ha : PA X (e :: args) (dA Γ.K B (wpEs W es))) : PE X (.Call (.Attribute oe m ap) (e :: args) [] pos) (dV Γ.K B (wpE W (.meth m r oc es))) := by
  refine ⟨fun pins s τ H Q I hq => ?_⟩
  obtain ⟨f, fd, ps, j, hj, hm, hb, F⟩ := r.ok
  have F' : FnOk X.prog X.w X.K X.mg X.base (L2.CX X.prog X.w) j f fd ps (liftSp Γ.K r.sp) := by rw [hx.P, hx.w, hx.K, hx.mg, hx.base]; exact F
  have hp' := hp
  unfold plainsB at hp'
  rw [List.all_cons, Bool.and_eq_true] at hp'
  refine (pe_methA (E := WE (liftW Γ.K B W)) ho (by rw [hx.K]; exact r.cl) (by rw [hx.K]; exact hm) F' (hx.room.mono hj) (by rw [hx.K]; exact hb) (fun σ => passAt tk σ) ha (star_plain hp'.1 _ _) (back_any _ (stars_plain hp'.2 _)) (call_form hbs hp hl hline)).run pins s τ H Q I ?_
  obtain ⟨N, F0, σ, Q0, o, sl, w, post⟩ := hq
  refine dV.bind o sl w fun v x N1 F1 H1 e1 o1 sl1 d1 w1 => ?_
  split at w1
  · rename_i p
    split at w1
    · rename_i C fs ec
      obtain ⟨rfl, w2, w3⟩ := w1
      cases d1
      obtain ⟨_, dx, xs, hh, dd⟩ := o1.cell p _ ec
      refine ⟨p, dx, xs, rfl, hh, (Dfs.lookup dd).2 w2, dA.bind o1 sl1 w3 fun vs ys N2 F2 H2 e2 o2 sl2 d2 w4 => ?_⟩
      exact ⟨B, N2, F2, _, Q0, _, o2, .cons (.ref p) d2, w4, post.mono (e1.trans e2), fun C fs d N3 F3 H3 e3 o3 xr q => ⟨C, fs, N3, F3, σ, rfl, o3, xr, sl2.mono e3, q⟩⟩
    · exact w1.elim
  · exact w1.elim
theorem snd_meth0 {m : Str} {r : MethR Γ m} {oc : E Γ} {oe : Expr} {ap pos : Pos} (hx : CxOk Γ M X) (tk : Takes X (liftW Γ.K B W)) (hbs : baseB oe = true) (hline : (ap.endLine == pos.line) = true)
    (ho : PE X oe (dV Γ.K B (wpE W oc))) : PE X (.Call (.Attribute oe m ap) [] [] pos) (dV Γ.K B (wpE W (.meth m r oc .nil))) := by
  refine ⟨fun pins s τ H Q I hq => ?_⟩
  obtain ⟨f, fd, ps, j, hj, hm, hb, F⟩ := r.ok
  have F' : FnOk X.prog X.w X.K X.mg X.base (L2.CX X.prog X.w) j f fd ps (liftSp Γ.K r.sp) := by rw [hx.P, hx.w, hx.K, hx.mg, hx.base]; exact F
  refine (pe_methA0 (E := WE (liftW Γ.K B W)) ho (by rw [hx.K]; exact r.cl) (by rw [hx.K]; exact hm) F' (hx.room.mono hj) (by rw [hx.K]; exact hb) (fun σ => passAt tk σ) (call_form hbs (rfl : plainsB [] = true) (by decide) hline)).run pins s τ H Q I ?_
  obtain ⟨N, F0, σ, Q0, o, sl, w, post⟩ := hq
  refine dV.bind o sl w fun v x N1 F1 H1 e1 o1 sl1 d1 w1 => ?_
  split at w1
  · rename_i p
    split at w1
    · rename_i C fs ec
      obtain ⟨rfl, w2, w3⟩ := w1
      cases d1
      obtain ⟨_, dx, xs, hh, dd⟩ := o1.cell p _ ec
      refine ⟨p, dx, xs, rfl, hh, (Dfs.lookup dd).2 w2, ?_⟩
      exact ⟨B, N1, F1, _, Q0, _, o1, .cons (.ref p) .nil, w3, post.mono e1, fun C fs d N3 F3 H3 e3 o3 xr q => ⟨C, fs, N3, F3, σ, rfl, o3, xr, sl1.mono e3, q⟩⟩
    · exact w1.elim
  · exact w1.elim
/-- a new instance -/
theorem make_ok {C : Addr} {sp : Spec} {N H : Hp} {F : MH} {vs : List Val} {xs : List V} {Q0 : Q1} {Q : VK} (o : Ok Γ.K B N F H) (d : Dvs Γ.K N vs xs) (post : Post Γ.K B N Q0 Q)
    (w : ∀ p, F p = none → sp (.ref p :: vs) (mset F p (.inst C [])) (fun v F2 => isNS v = true ∧ Q0 (.ref p) F2) fun _ _ _ => False) :
    ∀ x dx, H x = none → H dx = none → dx ≠ x → liftSp Γ.K sp (.ref x :: (xs ++ [])) (upd (upd H dx (.own x)) x (.ins C dx [])) (fun v H2 => v = .non ∧ Q (.ref x) H2) E0 := fun x dx hx hd hn => by
  have o1 := o.grow (same_upd (u := .own x) hd)
  have hx1 : upd H dx (.own x) x = none := by rw [upd_ne hn.symm]; exact hx
  have o2 := o1.new (u := .ins C dx []) (c := .inst C []) hx1 ⟨dx, [], upd_same, .nil⟩
  refine ⟨B, N, mset F x (.inst C []), _, _, _, o2, .cons (.ref x) (by rw [List.append_nil]; exact d), w x (o.free hx).2, fun v y N' F' H' e o3 dy q => ?_, fun _ _ _ _ _ _ _ _ _ q => q.elim⟩
  obtain ⟨q1, q2⟩ := q
  cases dy with
  | non => exact ⟨rfl, (post.mono e).at o3 (.ref x) q2⟩
  | _ => exact absurd q1 (by simp [isNS])
theorem snd_mk {x : Str} {r : MkR Γ x} {es : Es Γ} {e : Expr} {args : List Expr} {p pos : Pos} (hx : CxOk Γ M X) (hg : glB M.sc x = true) (hn : nmB x = true) (hp : plainsB (e :: args) = true) (ha : PA X (e :: args) (dA Γ.K B (wpEs W es))) :
    PE X (.Call (.Name x p) (e :: args) [] pos) (dV Γ.K B (wpE W (.mk x r es))) := by
  refine ⟨fun pins s τ H Q I hq => ?_⟩
  obtain ⟨f, fd, ps, j, hj, hmk, hm, hb, F⟩ := r.ok
  obtain ⟨n1, _, _⟩ := nm1 hn
  have F' : FnOk X.prog X.w X.K X.mg X.base (L2.CX X.prog X.w) j f fd ps (liftSp Γ.K r.sp) := by rw [hx.P, hx.w, hx.K, hx.mg, hx.base]; exact F
  have hp' := hp
  unfold plainsB at hp'
  rw [List.all_cons, Bool.and_eq_true] at hp'
  refine (pe_make (dvs := []) (ds := []) (by rw [hx.K]; exact hmk) F' (hx.room.mono hj) (glB_eq hx.sc hg) (by rw [hx.mg]; exact hm) (by rw [hx.K]; exact hb) .nil passL ha n1 (star_plain hp'.1 _ _) (back_any _ (stars_plain hp'.2 _))).run pins s τ H Q I ?_
  obtain ⟨N, F0, σ, Q0, o, sl, w, post⟩ := hq
  refine dA.bind o sl w fun vs xs N1 F1 H1 e1 o1 sl1 d1 w1 => ?_
  exact make_ok o1 d1 (post.mono e1) w1
theorem snd_mk0 {x : Str} {r : MkR Γ x} {p pos : Pos} (hx : CxOk Γ M X) (hg : glB M.sc x = true) (hn : nmB x = true) :
    PE X (.Call (.Name x p) [] [] pos) (dV Γ.K B (wpE W (.mk x r .nil))) := by
  refine ⟨fun pins s τ H Q I hq => ?_⟩
  obtain ⟨f, fd, ps, j, hj, hmk, hm, hb, F⟩ := r.ok
  obtain ⟨n1, _, _⟩ := nm1 hn
  have F' : FnOk X.prog X.w X.K X.mg X.base (L2.CX X.prog X.w) j f fd ps (liftSp Γ.K r.sp) := by rw [hx.P, hx.w, hx.K, hx.mg, hx.base]; exact F
  refine (pe_make0 (dvs := []) (ds := []) (by rw [hx.K]; exact hmk) F' (hx.room.mono hj) (glB_eq hx.sc hg) (by rw [hx.mg]; exact hm) (by rw [hx.K]; exact hb) .nil passL n1).run pins s τ H Q I ?_
  obtain ⟨N, F0, σ, Q0, o, sl, w, post⟩ := hq
  exact make_ok o .nil post w
theorem snd_bi {b : Bi} {es : Es Γ} {e : Expr} {args : List Expr} {p pos : Pos} (hx : CxOk Γ M X) (ga : AmbOk Γ) (hg : glB M.sc b.name = true) (hn : nmB b.name = true) (hp : plainsB (e :: args) = true) (ha : PA X (e :: args) (dA Γ.K B (wpEs W es))) :
    PE X (.Call (.Name b.name p) (e :: args) [] pos) (dV Γ.K B (wpE W (.bi b es))) := by
  refine ⟨fun pins s τ H Q I hq => ?_⟩
  obtain ⟨n1, _, n3⟩ := nm1 hn
  have hp' := hp
  unfold plainsB at hp'
  rw [List.all_cons, Bool.and_eq_true] at hp'
  have hc := biS_ok hx.calm b
  rw [hx.K] at hc
  have hm : X.mg b.name = none := by
    rw [hx.mg]
    exact ga.bl _ (by cases b with | sorted m => exact (by decide : ("sorted" : Str) ∈ bltNames) | list m => exact (by decide : ("list" : Str) ∈ bltNames) | _ => decide)
  have fin : tCB (liftN Γ.K (biS b)) (dA Γ.K B (wpEs W es)) τ H Q := by
    obtain ⟨N, F0, σ, Q0, o, sl, w, post⟩ := hq
    refine dA.bind o sl w fun vs xs N1 F1 H1 e1 o1 sl1 d1 w1 => ?_
    exact ⟨B, N1, F1, vs, Q0, o1, d1, w1, post.mono e1⟩
  have hv := b.boot
  cases b with
  | int => exact (pe_callTy hc (glB_eq hx.sc hg) hm hv ha n3 n1 (star_plain hp'.1 _ _) (back_any _ (stars_plain hp'.2 _))).run pins s τ H Q I fin
  | str => exact (pe_callTy hc (glB_eq hx.sc hg) hm hv ha n3 n1 (star_plain hp'.1 _ _) (back_any _ (stars_plain hp'.2 _))).run pins s τ H Q I fin
  | list m => exact (pe_callTy hc (glB_eq hx.sc hg) hm hv ha n3 n1 (star_plain hp'.1 _ _) (back_any _ (stars_plain hp'.2 _))).run pins s τ H Q I fin
  | tuple => exact (pe_callTy hc (glB_eq hx.sc hg) hm hv ha n3 n1 (star_plain hp'.1 _ _) (back_any _ (stars_plain hp'.2 _))).run pins s τ H Q I fin
  | dict => exact (pe_callTy hc (glB_eq hx.sc hg) hm hv ha n3 n1 (star_plain hp'.1 _ _) (back_any _ (stars_plain hp'.2 _))).run pins s τ H Q I fin
  | _ => exact (pe_callB hc (glB_eq hx.sc hg) hm hv ha n3 n1 (star_plain hp'.1 _ _) (back_any _ (stars_plain hp'.2 _))).run pins s τ H Q I fin
theorem snd_fld {f : Str} {r : FldR Γ f} {oc : E Γ} {oe : Expr} {pos : Pos} (hx : CxOk Γ M X) (hbs : baseB oe = true) (ho : PE X oe (dV Γ.K B (wpE W oc))) : PE X (.Attribute oe f pos) (dV Γ.K B (wpE W (.fld f r oc))) := by
  refine ⟨fun pins s τ H Q I hq => ?_⟩
  refine (pe_fld ho (base_plain hbs _ _ _)).run pins s τ H Q I ?_
  obtain ⟨N, F0, σ, Q0, o, sl, w, post⟩ := hq
  refine dV.bind o sl w fun v x N1 F1 H1 e1 o1 sl1 d1 w1 => ?_
  split at w1
  · rename_i p
    split at w1
    · rename_i C fs ec
      obtain ⟨rfl, w1⟩ := w1
      split at w1
      · rename_i v ev
        cases d1
        obtain ⟨_, dx, xs, hh, dd⟩ := o1.cell p _ ec
        obtain ⟨y, hy, dy⟩ := (Dfs.lookup dd).1 v ev
        exact ⟨p, r.C, dx, xs, y, rfl, hh, by rw [hx.K]; exact r.cl, by rw [hx.K]; exact r.no, hy, (post.mono e1).at o1 dy w1⟩
      · exact w1.elim
    · exact w1.elim
  · exact w1.elim
theorem snd_frz {a : E Γ} {e : Expr} (ha : PE X e (dV Γ.K B (wpE W a))) : PE X e (dV Γ.K B (wpE W (.frz a))) := by
  refine ⟨fun pins s τ H Q I hq => ?_⟩
  refine ha.run pins s τ H Q I ?_
  obtain ⟨N, F0, σ, Q0, o, sl, w, post⟩ := hq
  refine dV.bind o sl w fun v x N1 F1 H1 e1 o1 sl1 d1 w1 => ?_
  split at w1
  · rename_i p
    split at w1
    · rename_i vs ec
      cases d1
      obtain ⟨N2, e2, o2, d2⟩ := o1.freeze ec
      exact post _ _ N2 _ _ (e1.trans e2) o2 d2 w1
    · exact w1.elim
  · exact w1.elim
end
end Bv

/-! The tongue is true to the text: methods of built-in types, isinstance, a dict's display, tests. -/
namespace Bv
open PySem L2 PyProof.Rows
section
variable {K : PySem.W.Frag} {B : Bs} {N H : Hp} {F : MH}
theorem Ok.putL (o : Ok K B N F H) {p : Addr} {vs ws : List Val} {ys : List V} (ec : F p = some (.lst vs)) (d : Dvs K N ws ys) : Ok K B N (mset F p (.lst ws)) (upd H p (.lst ys)) := by
  obtain ⟨_, xs, hx, _⟩ := o.cell p _ ec
  exact o.put ec (fun xs' e => by rw [hx] at e; cases e) ⟨ys, upd_same, d⟩
theorem Ok.putD (o : Ok K B N F H) {p : Addr} {vs ws : List (Str × Val)} {ys : List (Key × V)} (ec : F p = some (.dict vs)) (d : Dkv K N ws ys) : Ok K B N (mset F p (.dict ws)) (upd H p (.dK ys)) := by
  obtain ⟨_, xs, hx, _⟩ := o.cell p _ ec
  exact o.put ec (fun xs' e => by rw [hx] at e; cases e) ⟨ys, upd_same, d⟩
theorem findF_ok {x : Val} {y : V} (d : Dv K N x y) (f : flat x = true) : ∀ {vs : List Val} {xs : List V} {j : Nat}, Dvs K N vs xs → vs.all flat = true → findF x vs = some j →
    ∃ z, xs[j]? = some z ∧ eqV z y = true ∧ ∀ (m : Nat) (z' : V), m < j → xs[m]? = some z' → eqV z' y = false
  | _, _, _, .nil, _, h => by cases h
  | _, _, j, .cons (v := v) (x := a) h t, g, hj => by
    rw [List.all_cons, Bool.and_eq_true] at g
    unfold findF at hj
    split at hj
    · rename_i e
      cases hj
      exact ⟨a, rfl, by rw [h.eqF d g.1 f]; exact e, fun m z' hm => absurd hm (Nat.not_lt_zero _)⟩
    · rename_i e
      obtain ⟨i, hi, rfl⟩ := Option.map_eq_some_iff.mp hj
      obtain ⟨z, h1, h2, h3⟩ := findF_ok d f t g.2 hi
      refine ⟨z, by simpa using h1, h2, fun m z' hm hz => ?_⟩
      cases m with
      | zero =>
        simp at hz
        subst hz
        rw [h.eqF d g.1 f]
        simpa using e
      | succ m => exact h3 m z' (by omega) (by simpa using hz)
end
section
variable {Γ : Amb} {M : Mc} {X : Cx} {B : Bs} {W : XS}
/-- a built-in's method of the told kind -/
def mtS (K : PySem.W.Frag) (b : Bm) : V → List V → Hp → VK → Prop := liftM K fun x as F Q => bmS b x as F Q
theorem sq_rd {K : PySem.W.Frag} {H : Hp} {p : Addr} {xs : List V} (h : Rd H p (.lst xs)) : SqL K H p xs := .inl h
theorem bmS_append {a : Val} {as : List Val} {F : MH} {Q : Q1} (h : bmS .append a as F Q) : ∃ p y vs, a = .ref p ∧ as = [y] ∧ F p = some (.lst vs) ∧ vs.length < sizeLine ∧ Q .non (mset F p (.lst (vs ++ [y]))) := by
  rcases as with _ | ⟨y, _ | ⟨z, t⟩⟩ <;> cases a <;> first | exact (show False from h).elim | skip
  rename_i p
  have h : (match F p with
    | some (.lst vs) => vs.length < sizeLine ∧ Q .non (mset F p (.lst (vs ++ [y])))
    | _ => False) := h
  split at h
  · rename_i vs ec
    exact ⟨p, y, vs, rfl, rfl, ec, h.1, h.2⟩
  · exact h.elim
theorem mtS_append : MtR X "list.append" (mtS X.K .append) := by
  rintro pins s σ H x xs v us Q I rx rs ⟨B, N, F, a, as, Q0, o, d, ds, w, post⟩
  obtain ⟨p, y, vs, rfl, rfl, ec, w1, w2⟩ := bmS_append w
  obtain ⟨z, rfl, dy⟩ := dvs_one ds
  cases d
  obtain ⟨_, ys, hx, dd⟩ := o.cell p _ ec
  exact mt_append pins s σ H _ _ v us Q I rx rs ⟨p, ys, z, rfl, rfl, hx, by rw [← dd.length]; exact w1, post _ _ N _ _ (Same.refl N) (o.putL ec (dd.append (.cons dy .nil))) .non w2⟩
theorem bmS_pop {a : Val} {as : List Val} {F : MH} {Q : Q1} (h : bmS .pop a as F Q) : ∃ p y vs, a = .ref p ∧ as = [] ∧ F p = some (.lst vs) ∧ vs[vs.length - 1]? = some y ∧ Q y (mset F p (.lst vs.dropLast)) := by
  rcases as with _ | ⟨y, t⟩ <;> cases a <;> first | exact (show False from h).elim | skip
  rename_i p
  have h : (match F p with
    | some (.lst vs) => match vs[vs.length - 1]? with
      | some y => Q y (mset F p (.lst vs.dropLast))
      | none => False
    | _ => False) := h
  split at h
  · rename_i vs ec
    split at h
    · rename_i y ey
      exact ⟨p, y, vs, rfl, rfl, ec, ey, h⟩
    · exact h.elim
  · exact h.elim
theorem mtS_pop : MtR X "list.pop" (mtS X.K .pop) := by
  rintro pins s σ H x xs v us Q I rx rs ⟨B, N, F, a, as, Q0, o, d, ds, w, post⟩
  obtain ⟨p, y, vs, rfl, rfl, ec, w1, w2⟩ := bmS_pop w
  cases ds
  cases d
  obtain ⟨_, ys, hx, dd⟩ := o.cell p _ ec
  obtain ⟨z, hz, dz⟩ := dd.get w1
  exact mt_pop pins s σ H _ _ v us Q I rx rs ⟨p, ys, z, rfl, rfl, hx, by rw [← dd.length]; exact hz, post _ _ N _ _ (Same.refl N) (o.putL ec dd.dropLast) dz w2⟩
theorem bmS_clear {a : Val} {as : List Val} {F : MH} {Q : Q1} (h : bmS .clear a as F Q) : ∃ p vs, a = .ref p ∧ as = [] ∧ F p = some (.lst vs) ∧ Q .non (mset F p (.lst [])) := by
  rcases as with _ | ⟨y, t⟩ <;> cases a <;> first | exact (show False from h).elim | skip
  rename_i p
  have h : (match F p with
    | some (.lst vs) => Q .non (mset F p (.lst []))
    | _ => False) := h
  split at h
  · rename_i vs ec
    exact ⟨p, vs, rfl, rfl, ec, h⟩
  · exact h.elim
theorem mtS_clear : MtR X "list.clear" (mtS X.K .clear) := by
  rintro pins s σ H x xs v us Q I rx rs ⟨B, N, F, a, as, Q0, o, d, ds, w, post⟩
  obtain ⟨p, vs, rfl, rfl, ec, w2⟩ := bmS_clear w
  cases ds
  cases d
  obtain ⟨_, ys, hx, dd⟩ := o.cell p _ ec
  exact mt_clear pins s σ H _ _ v us Q I rx rs ⟨p, ys, rfl, rfl, hx, post _ _ N _ _ (Same.refl N) (o.putL ec .nil) .non w2⟩
theorem bmS_index {a : Val} {as : List Val} {F : MH} {Q : Q1} (h : bmS .index a as F Q) : ∃ y vs j, as = [y] ∧ lsOf F a = some vs ∧ flat y = true ∧ vs.all flat = true ∧ findF y vs = some j ∧ Q (.int (j : Nat)) F := by
  rcases as with _ | ⟨y, _ | ⟨z, t⟩⟩
  · cases a <;> exact (show False from h).elim
  · have h : (match lsOf F a with
      | some vs => flat y = true ∧ vs.all flat = true ∧ (match findF y vs with
        | some j => Q (.int (j : Nat)) F
        | none => False)
      | none => False) := by cases a <;> exact h
    split at h
    · rename_i vs ec
      obtain ⟨h1, h2, h3⟩ := h
      split at h3
      · rename_i j ej
        exact ⟨y, vs, j, rfl, ec, h1, h2, ej, h3⟩
      · exact h3.elim
    · exact h.elim
  · cases a <;> exact (show False from h).elim
theorem mtS_index : MtR X "list.index" (mtS X.K .index) := by
  rintro pins s σ H x xs v us Q I rx rs ⟨B, N, F, a, as, Q0, o, d, ds, w, post⟩
  obtain ⟨y, vs, j, rfl, ec, f1, f2, ej, w2⟩ := bmS_index w
  obtain ⟨z, rfl, dy⟩ := dvs_one ds
  obtain ⟨p, ys, rfl, hr, dd⟩ := lsOf_ok o d ec
  obtain ⟨z2, h1, h2, h3⟩ := findF_ok dy f1 dd f2 ej
  exact mt_index pins s σ H _ _ v us Q I rx rs ⟨p, ys, z, j, z2, rfl, rfl, .inl hr, dy.flat f1, dd.flat f2, h1, h2, h3, post.at o (.int _) w2⟩
theorem bmS_count {a : Val} {as : List Val} {F : MH} {Q : Q1} (h : bmS .count a as F Q) : ∃ y vs, as = [y] ∧ lsOf F a = some vs ∧ flat y = true ∧ vs.all flat = true ∧ Q (.int ((vs.countP fun z => eqF z y : Nat) : Int)) F := by
  rcases as with _ | ⟨y, _ | ⟨z, t⟩⟩
  · cases a <;> exact (show False from h).elim
  · have h : (match lsOf F a with
      | some vs => flat y = true ∧ vs.all flat = true ∧ Q (.int ((vs.countP fun z => eqF z y : Nat) : Int)) F
      | none => False) := by cases a <;> exact h
    split at h
    · rename_i vs ec
      exact ⟨y, vs, rfl, ec, h.1, h.2.1, h.2.2⟩
    · exact h.elim
  · cases a <;> exact (show False from h).elim
theorem count_vals {K : PySem.W.Frag} {N : Hp} {y : Val} {z : V} {u : Value} (dy : Dv K N y z) (fy : flat y = true) (rz : RelV z u) : ∀ {vs : List Val} {xs : List V} {us : List Value}, Dvs K N vs xs → vs.all flat = true → Vals xs us → us.countP (eqU z) = vs.countP fun w => eqF w y
  | _, _, _, .nil, _, .nil => rfl
  | _, _, _, .cons h t, g, .cons r rr => by
    rw [List.all_cons, Bool.and_eq_true] at g
    rw [List.countP_cons, List.countP_cons, count_vals dy fy rz t g.2 rr, eqU_of r (h.flat g.1), h.eqF dy g.1 fy]
theorem mtS_count : MtR X "list.count" (mtS X.K .count) := by
  rintro pins s σ H x xs v us Q I rx rs ⟨B, N, F, a, as, Q0, o, d, ds, w, post⟩
  obtain ⟨y, vs, rfl, ec, f1, f2, w2⟩ := bmS_count w
  obtain ⟨z, rfl, dy⟩ := dvs_one ds
  obtain ⟨p, ys, rfl, hr, dd⟩ := lsOf_ok o d ec
  cases rx
  cases rs with
  | cons ry rt =>
    rename_i uy ut
    cases rt
    obtain ⟨its, rv, ⟨⟨cls, dd0, data, sl⟩, n, ho, hc, hdn, hd⟩, hlen⟩ := I.list (show SqL X.K H p ys from .inl hr)
    simp only at hc hd
    subst hc hd
    refine call_meets PySem.F.slot_list_count ⟨_, ho, rfl⟩ PySem.F.entry_list_count (PySem.F.args_list_count_2 _ _)
      (SeqAt.list_countAt p its.toArray n dd0 sl uy (eqU z)) ⟨ho, fun u' hu' => mem_eqAt ry (dy.flat f1) rv (dd.flat f2) u' (by simpa using hu'), ?_⟩
    have e : its.toArray.toList.countP (eqU z) = vs.countP fun w => eqF w y := by
      rw [show its.toArray.toList = its from rfl]
      exact count_vals dy f1 ry dd f2 rv
    rw [e]
    exact ⟨.int ((vs.countP fun w => eqF w y : Nat) : Int), H, I.tok _, ⟨_, rfl⟩, post.at o (.int _) w2⟩
theorem bmS_join {a : Val} {as : List Val} {F : MH} {Q : Q1} (h : bmS .join a as F Q) : ∃ z y ss, a = .str z ∧ as = [y] ∧ lsOf F y = some (ss.map Val.str) ∧ (ss.map (·.length)).sum + ss.length * z.length ≤ 16777216 ∧ Q (.str (Txt.join z ss)) F := by
  rcases as with _ | ⟨y, _ | ⟨z, t⟩⟩ <;> cases a <;> first | exact (show False from h).elim | skip
  rename_i z
  have h : (match lsOf F y with
    | some vs => match asStrs vs with
      | some ss => (ss.map (·.length)).sum + ss.length * z.length ≤ 16777216 ∧ Q (.str (Txt.join z ss)) F
      | none => False
    | none => False) := h
  split at h
  · rename_i vs ec
    split at h
    · rename_i ss es
      have e := asStrs_eq es
      subst e
      exact ⟨z, y, ss, rfl, rfl, ec, h.1, h.2⟩
    · exact h.elim
  · exact h.elim
theorem mtS_join : MtR X "str.join" (mtS X.K .join) := by
  rintro pins s σ H x xs v us Q I rx rs ⟨B, N, F, a, as, Q0, o, d, ds, w, post⟩
  obtain ⟨z, y, ss, rfl, rfl, ec, w1, w2⟩ := bmS_join w
  obtain ⟨y2, rfl, dy⟩ := dvs_one ds
  obtain ⟨p, ys, rfl, hr, dd⟩ := lsOf_ok o dy ec
  have e := dd.strs
  subst e
  cases d
  exact mt_join pins s σ H _ _ v us Q I rx rs ⟨z, p, ss, rfl, rfl, .inl (.inl hr), w1, post.at o (.str _) w2⟩
theorem bmS_split {a : Val} {as : List Val} {F : MH} {Q : Q1} (h : bmS .split a as F Q) : ∃ z y, a = .str z ∧ as = [.str y] ∧ (y.length == 0) = false ∧ z.length + 2 ≤ sizeLine ∧ Q (.lst ((Txt.split z y).map Val.str)) F := by
  rcases as with _ | ⟨y, _ | ⟨z, t⟩⟩ <;> cases a <;> first | exact (show False from h).elim | (cases y <;> exact (show False from h).elim) | skip
  cases y <;> first | exact (show False from h).elim | skip
  exact ⟨_, _, rfl, rfl, h⟩
theorem mtS_split : MtR X "str.split" (mtS X.K .split) := by
  rintro pins s σ H x xs v us Q I rx rs ⟨B, N, F, a, as, Q0, o, d, ds, w, post⟩
  obtain ⟨z, y, rfl, rfl, w1, w2, w3⟩ := bmS_split w
  obtain ⟨y2, rfl, dy⟩ := dvs_one ds
  cases dy
  cases d
  exact mt_split pins s σ H _ _ v us Q I rx rs ⟨z, y, rfl, rfl, w1, w2, post.newL o (Dvs.of_strs _) w3⟩
theorem bmS_partition {a : Val} {as : List Val} {F : MH} {Q : Q1} (h : bmS .partition a as F Q) : ∃ z y, a = .str z ∧ as = [.str y] ∧ (y.length == 0) = false ∧ z.length ≤ sizeLine ∧ Q (.tup [.str (Txt.partition z y).1, .str (Txt.partition z y).2.1, .str (Txt.partition z y).2.2]) F := by
  rcases as with _ | ⟨y, _ | ⟨z, t⟩⟩ <;> cases a <;> first | exact (show False from h).elim | (cases y <;> exact (show False from h).elim) | skip
  cases y <;> first | exact (show False from h).elim | skip
  exact ⟨_, _, rfl, rfl, h⟩
theorem mtS_partition : MtR X "str.partition" (mtS X.K .partition) := by
  rintro pins s σ H x xs v us Q I rx rs ⟨B, N, F, a, as, Q0, o, d, ds, w, post⟩
  obtain ⟨z, y, rfl, rfl, w1, w2, w3⟩ := bmS_partition w
  obtain ⟨y2, rfl, dy⟩ := dvs_one ds
  cases dy
  cases d
  exact mt_partition pins s σ H _ _ v us Q I rx rs ⟨z, y, rfl, rfl, w1, w2, post.newT o (.cons (.str _) (.cons (.str _) (.cons (.str _) .nil))) w3⟩
def Bm.ty : Bm → String
  | .append => "list" | .pop => "list" | .clear => "list" | .index => "list" | .count => "list" | .join => "str" | .split => "str" | .partition => "str" | .get => "dict" | .dpop => "dict"
theorem rec_ty {b : Bm} {T : String} (hT : b.ty = T) {N H : Hp} {F : MH} {v : Val} {x : V} (o : Ok Γ.K B N F H) (d : Dv Γ.K N v x) (h : recS b v F) (hb : T ≠ "dict") : tyV Γ.K T x H := by
  subst hT
  cases b <;> first | exact absurd rfl hb | skip
  · obtain ⟨p, vs, rfl, ec⟩ := h
    cases d
    obtain ⟨_, xs, hx, _⟩ := o.cell p _ ec
    exact .inl ⟨rfl, xs, .inl (.inl hx)⟩
  · obtain ⟨p, vs, rfl, ec⟩ := h
    cases d
    obtain ⟨_, xs, hx, _⟩ := o.cell p _ ec
    exact .inl ⟨rfl, xs, .inl (.inl hx)⟩
  · obtain ⟨p, vs, rfl, ec⟩ := h
    cases d
    obtain ⟨_, xs, hx, _⟩ := o.cell p _ ec
    exact .inl ⟨rfl, xs, .inl (.inl hx)⟩
  · obtain ⟨vs, ec⟩ := h
    obtain ⟨p, xs, rfl, hx, _⟩ := lsOf_ok o d ec
    exact .inl ⟨rfl, xs, .inl hx⟩
  · obtain ⟨z, rfl⟩ := h
    cases d
    rfl
  · obtain ⟨z, rfl⟩ := h
    cases d
    rfl
  · obtain ⟨z, rfl⟩ := h
    cases d
    rfl
  · obtain ⟨vs, ec⟩ := h
    obtain ⟨p, xs, rfl, hx, _⟩ := lsOf_ok o d ec
    exact .inl ⟨rfl, xs, .inl hx⟩
theorem snd_bm0 {b : Bm} {T id : String} {oc : E Γ} {oe : Expr} {ap pos : Pos} (hx : CxOk Γ M X) (pa : PlainAttrs T) (slot : Slot T b.nm id) (hty : typeOf (.builtin id) = pure (.type "method_descriptor")) (hm : MtR X id (mtS X.K b))
    (hT : b.ty = T) (hd : T ≠ "dict") (hbs : baseB oe = true) (hline : (ap.endLine == pos.line) = true)
    (ho : PE X oe (dV Γ.K B (wpE W oc))) : PE X (.Call (.Attribute oe b.nm ap) [] [] pos) (dV Γ.K B (wpE W (.bm b oc .nil))) := by
  refine ⟨fun pins s τ H Q I hq => ?_⟩
  refine (pe_bm0 pa slot hty hm ho (base_plain hbs _ _ _) hline).run pins s τ H Q I ?_
  obtain ⟨N, F0, σ, Q0, o, sl, w, post⟩ := hq
  refine dV.bind o sl w fun v x N1 F1 H1 e1 o1 sl1 d1 w1 => ?_
  rw [hx.K]
  exact ⟨rec_ty hT o1 d1 w1.1 hd, B, N1, F1, v, [], Q0, o1, d1, .nil, w1.2, post.mono e1⟩
theorem snd_bm1 {b : Bm} {T id : String} {oc : E Γ} {es : Es Γ} {oe e : Expr} {args : List Expr} {ap pos : Pos} (hx : CxOk Γ M X) (pa : PlainAttrs T) (slot : Slot T b.nm id) (hty : typeOf (.builtin id) = pure (.type "method_descriptor")) (hm : MtR X id (mtS X.K b))
    (hT : b.ty = T) (hd : T ≠ "dict") (hbs : baseB oe = true) (hline : (ap.endLine == pos.line) = true) (hp : plainsB (e :: args) = true) (hl : (e :: args).length < 29)
    (ho : PE X oe (dV Γ.K B (wpE W oc))) (ha : PA X (e :: args) (dA Γ.K B (wpEs W es))) : PE X (.Call (.Attribute oe b.nm ap) (e :: args) [] pos) (dV Γ.K B (wpE W (.bm b oc es))) := by
  refine ⟨fun pins s τ H Q I hq => ?_⟩
  have hp' := hp
  unfold plainsB at hp'
  rw [List.all_cons, Bool.and_eq_true] at hp'
  refine (pe_bm pa slot hty hm ho ha (base_plain hbs _ _ _) (few_plain hp hl _ _) hline (star_plain hp'.1 _ _) (back_any _ (stars_plain hp'.2 _))).run pins s τ H Q I ?_
  obtain ⟨N, F0, σ, Q0, o, sl, w, post⟩ := hq
  refine dV.bind o sl w fun v x N1 F1 H1 e1 o1 sl1 d1 w1 => ?_
  rw [hx.K]
  refine ⟨rec_ty hT o1 d1 w1.1 hd, dA.bind o1 sl1 w1.2 fun vs xs N2 F2 H2 e2 o2 sl2 d2 w2 => ?_⟩
  exact ⟨B, N2, F2, v, vs, Q0, o2, d1.mono e2, d2, w2, post.mono (e1.trans e2)⟩
theorem dcOf_isD {N H : Hp} {F : MH} (o : Ok Γ.K B N F H) {p : Addr} {kvs : List (Str × Val)} (h : dcOf F p = some kvs) : IsD H p := by
  obtain ⟨xs, r, _⟩ := dcOf_ok o h
  exact .inl ⟨xs, r⟩
theorem bmS_get {a : Val} {as : List Val} {F : MH} {Q : Q1} (h : bmS .get a as F Q) : ∃ p k dflt kvs, a = .ref p ∧ as = [.str k, dflt] ∧ dcOf F p = some kvs ∧ Q ((kget kvs k).getD dflt) F := by
  rcases as with _ | ⟨y, _ | ⟨z, _ | ⟨t, tt⟩⟩⟩ <;> cases a <;> first | exact (show False from h).elim | (cases y <;> exact (show False from h).elim) | skip
  cases y <;> first | exact (show False from h).elim | skip
  rename_i p k
  have h : (match dcOf F p with
    | some kvs => Q ((kget kvs k).getD z) F
    | none => False) := h
  split at h
  · rename_i kvs ec
    exact ⟨p, k, z, kvs, rfl, rfl, ec, h⟩
  · exact h.elim
theorem m2_of {oe a b : Expr} {m : Str} {ap pos : Pos} (hbs : baseB oe = true) (hline : (ap.endLine == pos.line) = true) (ha : plainB a = true) (hb : plainB b = true) : M2 X oe m ap a b pos where
  base := base_plain hbs _ _ _
  few := few_plain (es := [a, b]) (by unfold plainsB; simp [ha, hb]) (by simp) _ _
  line := hline
  trees := by rw [star_plain ha, star_plain hb]; rfl
theorem m1_of {oe a : Expr} {m : Str} {ap pos : Pos} (hbs : baseB oe = true) (hline : (ap.endLine == pos.line) = true) (ha : plainB a = true) : M1 X oe m ap a pos where
  base := base_plain hbs _ _ _
  few := few_plain (es := [a]) (by unfold plainsB; simp [ha]) (by simp) _ _
  line := hline
  trees := by rw [star_plain ha]; rfl
theorem snd_get {oc a b : E Γ} {oe x y : Expr} {ap pos : Pos} (hx : CxOk Γ M X) (hbs : baseB oe = true) (hline : (ap.endLine == pos.line) = true) (hpa : plainB x = true) (hpb : plainB y = true)
    (ho : PE X oe (dV Γ.K B (wpE W oc))) (ha : PE X x (dV Γ.K B (wpE W a))) (hb : PE X y (dV Γ.K B (wpE W b))) : PE X (.Call (.Attribute oe "get" ap) [x, y] [] pos) (dV Γ.K B (wpE W (.bm .get oc (.cons a (.cons b .nil))))) := by
  refine ⟨fun pins s τ H Q I hq => ?_⟩
  refine (pe_dget2 (by have := hx.room.units; omega) ho ha hb (m2_of hbs hline hpa hpb)).run pins s τ H Q I ?_
  obtain ⟨N, F0, σ, Q0, o, sl, w, post⟩ := hq
  refine dV.bind o sl w fun v z N1 F1 H1 e1 o1 sl1 d1 w1 => ?_
  obtain ⟨⟨p, kvs, rfl, ec⟩, w2⟩ := w1
  cases d1
  refine ⟨p, rfl, dcOf_isD o1 ec, dV.bind o1 sl1 w2 fun v2 z2 N2 F2 H2 e2 o2 sl2 d2 w3 => dV.bind o2 sl2 w3 fun v3 z3 N3 F3 H3 e3 o3 sl3 d3 w4 => ?_⟩
  obtain ⟨p', k, dflt, kvs', e4, e5, ec', w5⟩ := bmS_get w4
  cases e4
  cases e5
  obtain ⟨xs, hr, dd⟩ := dcOf_ok o3 ec'
  obtain ⟨g1, g2⟩ := Dkv.get (k := k) dd
  cases d2
  cases hk : kget kvs' k with
  | none =>
    refine ⟨none, .inl ⟨xs, Sum.inr k, hr, rfl, (g2 hk).symm⟩, ?_⟩
    rw [hk] at w5
    exact (post.mono ((e1.trans e2).trans e3)).at o3 d3 w5
  | some u =>
    obtain ⟨y', hy, dy⟩ := g1 u hk
    refine ⟨some y', .inl ⟨xs, Sum.inr k, hr, rfl, hy.symm⟩, ?_⟩
    rw [hk] at w5
    exact (post.mono ((e1.trans e2).trans e3)).at o3 dy w5
theorem bmS_dpop {a : Val} {as : List Val} {F : MH} {Q : Q1} (h : bmS .dpop a as F Q) : ∃ p k kvs y, a = .ref p ∧ as = [.str k] ∧ F p = some (.dict kvs) ∧ kget kvs k = some y ∧ Q y (mset F p (.dict (kdrop kvs k))) := by
  rcases as with _ | ⟨y, _ | ⟨z, t⟩⟩ <;> cases a <;> first | exact (show False from h).elim | (cases y <;> exact (show False from h).elim) | skip
  cases y <;> first | exact (show False from h).elim | skip
  rename_i p k
  have h : (match F p with
    | some (.dict kvs) => match kget kvs k with
      | some y => Q y (mset F p (.dict (kdrop kvs k)))
      | none => False
    | _ => False) := h
  split at h
  · rename_i kvs ec
    split at h
    · rename_i y ey
      exact ⟨p, k, kvs, y, rfl, rfl, ec, ey, h⟩
    · exact h.elim
  · exact h.elim
theorem snd_dpop {oc a : E Γ} {oe x : Expr} {ap pos : Pos} (hx : CxOk Γ M X) (hbs : baseB oe = true) (hline : (ap.endLine == pos.line) = true) (hpa : plainB x = true)
    (ho : PE X oe (dV Γ.K B (wpE W oc))) (ha : PE X x (dV Γ.K B (wpE W a))) : PE X (.Call (.Attribute oe "pop" ap) [x] [] pos) (dV Γ.K B (wpE W (.bm .dpop oc (.cons a .nil)))) := by
  refine ⟨fun pins s τ H Q I hq => ?_⟩
  refine (pe_dpop1 ho ha (m1_of hbs hline hpa)).run pins s τ H Q I ?_
  obtain ⟨N, F0, σ, Q0, o, sl, w, post⟩ := hq
  refine dV.bind o sl w fun v z N1 F1 H1 e1 o1 sl1 d1 w1 => ?_
  obtain ⟨⟨p, kvs, rfl, ec⟩, w2⟩ := w1
  cases d1
  refine ⟨p, rfl, dcOf_isD o1 (by unfold dcOf; rw [ec]), dV.bind o1 sl1 w2 fun v2 z2 N2 F2 H2 e2 o2 sl2 d2 w3 => ?_⟩
  obtain ⟨p', k, kvs', y, e4, e5, ec', ey, w5⟩ := bmS_dpop w3
  cases e4
  cases e5
  obtain ⟨_, xs, hh, dd⟩ := o2.cell p _ ec'
  obtain ⟨g1, _⟩ := Dkv.get (k := k) dd
  obtain ⟨y', hy, dy⟩ := g1 y ey
  cases d2
  exact ⟨xs, Sum.inr k, y', hh, rfl, hy, post _ _ N2 _ _ (e1.trans e2) (o2.putD ec' (Dkv.drop dd)) dy w5⟩
end
end Bv

/-! The tongue is true to the text: isinstance, a dict's display, tests, targets, iterables. -/
namespace Bv
open PySem L2 PyProof.Rows
section
variable {Γ : Amb} {M : Mc} {X : Cx} {B : Bs} {W : XS}
def isiR (Γ : Amb) {x : Str} (r : IsR Γ x) : List V → Hp → VK → Prop := fun xs H Q => ∃ B N F a y Q0, xs = [y, r.v] ∧ Ok Γ.K B N F H ∧ Dv Γ.K N a y ∧ (tyS Γ.K a F fun t => match r.ans t with
    | some b => Q0 (.bl b) F
    | none => False) ∧ Post Γ.K B N Q0 Q
theorem isi_ok {x : Str} (r : IsR Γ x) (hK : X.K = Γ.K) : CallR X (.builtin "isinstance") (isiR Γ r) := by
  rintro pins s σ H xs us Q I rv ⟨B, N, F, a, y, Q0, rfl, o, d, w, post⟩
  have fin : ∀ t : Value, TyX Γ.K H y t → (match r.ans t with
    | some b => Q0 (.bl b) F
    | none => False) → wpAny (model X.prog X.w) X.A (call (.builtin "isinstance") us) (EP X pins σ Q) X.xe s := fun t ty hq => by
    split at hq
    · rename_i b eb
      exact call_isi pins s σ H _ us Q I rv ⟨y, r.v, t, r.c, b, rfl, r.cls, by rw [hK]; exact ty, by rw [hK]; exact r.ok t b eb, post.at o (.bl _) hq⟩
    · exact hq.elim
  unfold tyS at w
  split at w
  · cases d; exact fin _ (.base .non) w
  · cases d; exact fin _ (.base (.bl _)) w
  · cases d; exact fin _ (.base (.int _)) w
  · cases d; exact fin _ (.base (.str _)) w
  · obtain ⟨p, xs, rfl, h, _⟩ := d.tuple o.sub
    exact fin _ (.base (.tup h)) w
  · obtain ⟨p, xs, rfl, h, _⟩ := d.list o.sub
    exact fin _ (.base (.lst h)) w
  · rename_i p
    cases d
    split at w
    · rename_i ec
      obtain ⟨_, xs, h, _⟩ := o.cell p _ ec
      exact fin _ (.base (.lst h)) w
    · rename_i ec
      obtain ⟨_, ob, xs, h, _⟩ := o.cell p _ ec
      exact fin _ (.base (.frz h)) w
    · rename_i ec
      obtain ⟨_, xs, h, _⟩ := o.cell p _ ec
      exact fin _ (.base (.dK h)) w
    · rename_i C fs ec
      obtain ⟨ex, rfl, w⟩ := w
      split at w
      · rename_i b eb
        obtain ⟨_, h⟩ := o.cell p _ ec
        have h : H p = some (ExG (.ref C) none p) := by
          rcases h with h | ⟨dd, xs, hn, _⟩
          · exact h.2
          · exact absurd rfl hn
        obtain ⟨⟨oe, vs, hget, hz, hv⟩, _, _⟩ := (show ObjOk X.prog X.w H s.heap p (ExG (.ref C) none p) from I.hok p _ h)
        obtain ⟨u1, u2, rfl, r1, r2⟩ := vals2 rv
        have e2 := r.cls.eq r2
        subst e2
        cases (show u1 = Value.ref p from r1)
        have J : PySem.W.InstAt s.heap p oe C none := by
          obtain ⟨oc, od, oda, osl⟩ := oe
          obtain ⟨h1, h2⟩ := hz
          dsimp only at h1 h2 hv
          subst h1 h2 hv
          exact ⟨hget, rfl, rfl, trivial⟩
        exact PySem.W.kia_one (PySem.W.handS_kitx_exc ex.hg ex.hk ex.hs ex.hd ex.ha ex.hn ex.ht ex.hm) (by rw [← hK]; exact I.kIn) J (r.ok _ b eb) (fun z => nomatch z) fun tk => ⟨.bl b, H, I.tok tk, rfl, post.at o (.bl _) w⟩
      · exact w.elim
    · exact w.elim
  · exact w.elim
theorem pe_cls {x : Str} (r : IsR Γ x) {p : Pos} (hx : CxOk Γ M X) (hg : glB M.sc x = true) (hn : nmB x = true) : PE X (.Name x p) (tC r.v) := by
  obtain ⟨n1, _, n3⟩ := nm1 hn
  rcases r.at_ with h | ⟨h1, h2, _⟩
  · exact pe_glob (glB_eq hx.sc hg) (by rw [hx.mg]; exact h) r.rel n1
  · exact pe_bltn (glB_eq hx.sc hg) (by rw [hx.mg]; exact h1) h2 r.rel n3 n1
theorem snd_isi {x : Str} {r : IsR Γ x} {a : E Γ} {ae : Expr} {p p2 pos : Pos} (hx : CxOk Γ M X) (ga : AmbOk Γ) (hg0 : glB M.sc "isinstance" = true) (hg : glB M.sc x = true) (hn : nmB x = true) (hp : plainB ae = true) (ha : PE X ae (dV Γ.K B (wpE W a))) :
    PE X (.Call (.Name "isinstance" p) [ae, .Name x p2] [] pos) (dV Γ.K B (wpE W (.isi x r a))) := by
  refine ⟨fun pins s τ H Q I hq => ?_⟩
  have hps : plainsB [ae, .Name x p2] = true := by unfold plainsB; simp [hp]; rfl
  have h2 : PA X [.Name x p2] (tCons (tC r.v) tNil) := pa_cons (pe_cls r hx hg hn) pa_nil
  refine (pe_callB (isi_ok r hx.K) (glB_eq hx.sc hg0) (by rw [hx.mg]; exact ga.bl _ (by decide)) (by decide +kernel) (pa_cons ha h2 (star_plain hp _ _)) (by decide) (by decide) (star_plain hp _ _) (back_any _ (stars_plain (by rfl) _))).run pins s τ H Q I ?_
  obtain ⟨N, F0, σ, Q0, o, sl, w, post⟩ := hq
  refine dV.bind o sl w fun v y N1 F1 H1 e1 o1 sl1 d1 w1 => ?_
  exact ⟨B, N1, F1, v, y, Q0, rfl, o1, d1, w1, post.mono e1⟩
/-- isinstance's second: a tuple of classes, just laid -/
def isiTR (Γ : Amb) (cs : List (Cn Γ)) : List V → Hp → VK → Prop := fun xs H Q => ∃ B N F a y tp Q0, xs = [y, .ref tp] ∧ Ok Γ.K B N F H ∧ Dv Γ.K N a y ∧ H tp = some (.tup (cs.map (·.r.v))) ∧ (tyS Γ.K a F fun t => match ansL t cs with
    | some b => Q0 (.bl b) F
    | none => False) ∧ Post Γ.K B N Q0 Q
theorem ansL_ok {t : Value} : ∀ {cs : List (Cn Γ)} {b : Bool}, ansL t cs = some b → PySem.W.kitAny Γ.K t (cs.map (·.r.c)) = some b
  | [], b, h => h
  | c :: cs, b, h => by
    unfold ansL at h
    split at h
    · rename_i a1 b1 e1 e2
      cases h
      refine kitAny_cons (c.r.ok t _ e1) (fun h => ?_) (fun h => by rw [h]; rfl)
      rw [ansL_ok e2, h]
      rfl
    · cases h
theorem clsV_all : ∀ (cs : List (Cn Γ)), Paired ClsV (cs.map (·.r.v)) (cs.map (·.r.c))
  | [] => .nil
  | c :: cs => .cons c.r.cls (clsV_all cs)
theorem isiT_ok (cs : List (Cn Γ)) (hK : X.K = Γ.K) : CallR X (.builtin "isinstance") (isiTR Γ cs) := by
  rintro pins s σ H xs us Q I rv ⟨B, N, F, a, y, tp, Q0, rfl, o, d, hT, w, post⟩
  have fin : ∀ t : Value, TyX Γ.K H y t → (match ansL t cs with
    | some b => Q0 (.bl b) F
    | none => False) → wpAny (model X.prog X.w) X.A (call (.builtin "isinstance") us) (EP X pins σ Q) X.xe s := fun t ty hq => by
    split at hq
    · rename_i b eb
      exact call_isiT pins s σ H _ us Q I rv ⟨y, tp, _, t, _, b, rfl, hT, clsV_all cs, by rw [hK]; exact ty, by rw [hK]; exact ansL_ok eb, post.at o (.bl _) hq⟩
    · exact hq.elim
  unfold tyS at w
  split at w
  · cases d; exact fin _ (.base .non) w
  · cases d; exact fin _ (.base (.bl _)) w
  · cases d; exact fin _ (.base (.int _)) w
  · cases d; exact fin _ (.base (.str _)) w
  · obtain ⟨p, xs, rfl, h, _⟩ := d.tuple o.sub
    exact fin _ (.base (.tup h)) w
  · obtain ⟨p, xs, rfl, h, _⟩ := d.list o.sub
    exact fin _ (.base (.lst h)) w
  · rename_i p
    cases d
    split at w
    · rename_i ec
      obtain ⟨_, xs, h, _⟩ := o.cell p _ ec
      exact fin _ (.base (.lst h)) w
    · rename_i ec
      obtain ⟨_, ob, xs, h, _⟩ := o.cell p _ ec
      exact fin _ (.base (.frz h)) w
    · rename_i ec
      obtain ⟨_, xs, h, _⟩ := o.cell p _ ec
      exact fin _ (.base (.dK h)) w
    · rename_i C fs ec
      obtain ⟨ex, rfl, w⟩ := w
      split at w
      · rename_i b eb
        obtain ⟨_, h⟩ := o.cell p _ ec
        have h : H p = some (ExG (.ref C) none p) := by
          rcases h with h | ⟨dd, xs, hn, _⟩
          · exact h.2
          · exact absurd rfl hn
        obtain ⟨⟨oe, vs, hget, hz, hv⟩, _, _⟩ := (show ObjOk X.prog X.w H s.heap p (ExG (.ref C) none p) from I.hok p _ h)
        obtain ⟨u1, u2, rfl, r1, r2⟩ := vals2 rv
        cases (show u2 = Value.ref tp from r2)
        cases (show u1 = Value.ref p from r1)
        have J : PySem.W.InstAt s.heap p oe C none := by
          obtain ⟨oc, od, oda, osl⟩ := oe
          obtain ⟨h1, h2⟩ := hz
          dsimp only at h1 h2 hv
          subst h1 h2 hv
          exact ⟨hget, rfl, rfl, trivial⟩
        obtain ⟨_, its, rv2, o2, h1, h2, n, h3⟩ := (show ObjOk X.prog X.w H s.heap tp (.tup (cs.map (·.r.v))) from I.hok tp _ hT)
        have e3 := ClsV.all (clsV_all cs) rv2
        subst e3
        obtain ⟨oc, od, dt, sl⟩ := o2
        simp only at h2 h3
        subst h2 h3
        exact PySem.W.kia_tup (PySem.W.handS_kitx_exc ex.hg ex.hk ex.hs ex.hd ex.ha ex.hn ex.ht ex.hm) (by rw [← hK]; exact I.kIn) J h1 (ansL_ok eb) (fun z => nomatch z) fun tk => ⟨.bl b, H, I.tok tk, rfl, post.at o (.bl _) w⟩
      · exact w.elim
    · exact w.elim
  · exact w.elim
def tClsL : List V → TA
  | [] => tNil
  | v :: r => tCons (tC v) (tClsL r)
theorem mCs_plain : ∀ {cs : List (Cn Γ)} {zs : List Expr}, mCs M cs zs = true → plainsB zs = true
  | [], [], _ => rfl
  | c :: cs, z :: zs, h => by
    unfold mCs at h
    split at h
    · cases ‹_ :: _ = []›
    · rename_i e1 e2
      cases e1; cases e2
      simp only [Bool.and_eq_true] at h
      have := mCs_plain h.2
      unfold plainsB at this ⊢
      rw [List.all_cons, this]
      rfl
    · cases h
  | [], _ :: _, h => by unfold mCs at h; cases h
  | _ :: _, [], h => by unfold mCs at h; cases h
theorem pa_cls (hx : CxOk Γ M X) : ∀ {cs : List (Cn Γ)} {zs : List Expr}, mCs M cs zs = true → PA X zs (tClsL (cs.map (·.r.v)))
  | [], [], _ => pa_nil
  | c :: cs, z :: zs, h => by
    unfold mCs at h
    split at h
    · cases ‹_ :: _ = []›
    · rename_i e1 e2
      cases e1; cases e2
      simp only [Bool.and_eq_true] at h
      obtain ⟨⟨⟨h1, h2⟩, h3⟩, h4⟩ := h
      have e := strB_eq h1
      subst e
      exact pa_cons (pe_cls c.r hx h2 h3) (pa_cls hx h4)
    · cases h
  | [], _ :: _, h => by unfold mCs at h; cases h
  | _ :: _, [], h => by unfold mCs at h; cases h
theorem tClsL_run {σ : L2.St} {H : Hp} {Q : List V → Hp → Prop} : ∀ {vs : List V}, Q vs H → tClsL vs σ H Q
  | [], h => h
  | v :: r, h => show tClsL r σ H fun xs H1 => Q (v :: xs) H1 from tClsL_run (vs := r) h
theorem snd_isiT {cs : List (Cn Γ)} {a : E Γ} {ae : Expr} {zs : List Expr} {k : Nat} {p p2 pos : Pos} (hx : CxOk Γ M X) (ga : AmbOk Γ) (hg0 : glB M.sc "isinstance" = true) (hz : mCs M cs zs = true) (hp : plainB ae = true) (ha : PE X ae (dV Γ.K B (wpE W a))) :
    PE X (.Call (.Name "isinstance" p) [ae, .Tuple zs k p2] [] pos) (dV Γ.K B (wpE W (.isiT cs a))) := by
  refine ⟨fun pins s τ H Q I hq => ?_⟩
  have h2 : PA X [.Tuple zs k p2] (tCons _ tNil) := pa_cons (pe_tup (pa_cls hx hz)) pa_nil
  refine (pe_callB (isiT_ok cs hx.K) (glB_eq hx.sc hg0) (by rw [hx.mg]; exact ga.bl _ (by decide)) (by decide +kernel) (pa_cons ha h2 (star_plain hp _ _)) (by decide) (by decide) (star_plain hp _ _) (back_any _ (stars_plain (by rfl) _))).run pins s τ H Q I ?_
  obtain ⟨N, F0, σ, Q0, o, sl, w, post⟩ := hq
  obtain ⟨hlen, w⟩ := w
  refine dV.bind o sl w fun v y N1 F1 H1 e1 o1 sl1 d1 w1 => ?_
  refine tClsL_run ⟨?_, fun tp hp' => ?_⟩
  · rw [List.length_map, sizeLine_eq]
    omega
  · obtain ⟨e2, o2⟩ := o1.still (u := .tup (cs.map (·.r.v))) hp'
    exact ⟨B, _, F1, v, y, tp, Q0, rfl, o2, d1.mono e2, upd_same, w1, post.mono (e1.trans e2)⟩
end
end Bv

/-! The tongue is true to the text: tests, a dict's display, moments within a block. -/
namespace Bv
open PySem L2 PyProof.Rows
abbrev noX : XS := fun _ _ _ _ => False
theorem Dvs.isEmpty {K : PySem.W.Frag} {N : Hp} {vs : List Val} {xs : List V} (h : Dvs K N vs xs) : xs.isEmpty = vs.isEmpty := by
  cases h <;> rfl
section
variable {K : PySem.W.Frag} {B C : Bs} {N H : Hp} {F : MH}
theorem truS_ok {a : Val} {x : V} {Q : Bool → Prop} (o : Ok K B N F H) (d : Dv K N a x) (h : truS a F Q) : ∃ k, TruV K x H k ∧ Q k := by
  unfold truS at h
  split at h
  · cases d; exact ⟨_, rfl, h⟩
  · cases d; exact ⟨_, rfl, h⟩
  · cases d; exact ⟨_, rfl, h⟩
  · cases d; exact ⟨_, ⟨h.1, rfl⟩, h.2⟩
  · obtain ⟨p, xs, rfl, hp, dd⟩ := d.tuple o.sub
    exact ⟨_, .inr (.inl ⟨xs, .inl (.inl hp), by rw [dd.isEmpty]⟩), h⟩
  · split at h
    · rename_i vs e
      obtain ⟨p, xs, rfl, hp, dd⟩ := lsOf_ok o d e
      exact ⟨_, .inl ⟨xs, .inl hp, by rw [dd.isEmpty]⟩, h⟩
    · exact h.elim
/-- the base does not keep what stands at p -/
def Bs.free (B : Bs) (p : Addr) : Prop := ∀ o, B.H p = some o → B.N p = Option.none → B.F p = Option.none → False
theorem Ok.free_of (o : Ok K B N F H) {p : Addr} (h : H p = Option.none) : B.free p := fun u h0 h1 h2 => by
  have := (o.kept p u h0 h1 h2).1
  rw [h] at this
  cases this
/-- what nobody tells is changed -/
theorem Ok.side (o : Ok K B N F H) {p : Addr} {u : HO} (hf : B.free p) (hN : N p = Option.none) (hF : F p = Option.none) (hx : ∀ xs, H p ≠ some (.xd xs)) : Ok K B N F (upd H p u) := by
  refine ⟨fun b x e => ?_, fun a c q => ⟨(o.cell a c q).1, (o.cell a c q).2.keep fun b x hb r => ?_⟩, fun a u' h0 h1 h2 => ?_, o.low⟩
  · have : b ≠ p := fun z => by rw [z, hN] at e; cases e
    rw [upd_ne this]
    exact o.sub b x e
  · have : b ≠ p := by
      intro z
      rcases hb with z2 | ⟨xs, z2⟩
      · rw [← z2, z, hF] at q; cases q
      · rw [z, z2] at r
        exact hx xs r
    rw [upd_ne this]
    exact r
  · obtain ⟨x, y, z⟩ := o.kept a u' h0 h1 h2
    have : a ≠ p := fun w => by rw [w] at h0 h1 h2; exact hf u' h0 h1 h2
    rw [upd_ne this]
    exact ⟨x, y, z⟩
/-- what stands untold becomes a cell -/
theorem Ok.tell (o : Ok K B N F H) {p : Addr} {c : Cell} (hf : B.free p) (hN : N p = Option.none) (hF : F p = Option.none) (hc : CellIn K N H p c) : Ok K B N (mset F p c) H := by
  refine ⟨o.sub, fun a d q => ?_, fun a u' h0 h1 h2 => ?_, o.low⟩
  · by_cases ha : a = p
    · subst ha; rw [mset_same] at q; cases q; exact ⟨hN, hc⟩
    · rw [mset_ne ha] at q; exact o.cell a d q
  · obtain ⟨x, y, z⟩ := o.kept a u' h0 h1 h2
    have : a ≠ p := fun w => by rw [w] at h0 h1 h2; exact hf u' h0 h1 h2
    exact ⟨x, y, by rw [mset_ne this]; exact z⟩
/-- .. or stands still from now on -/
theorem Ok.tellN (o : Ok K B N F H) {p : Addr} {u : HO} (hf : B.free p) (hN : N p = Option.none) (hF : F p = Option.none) (hu : H p = some u) : Same N (upd N p u) ∧ Ok K B (upd N p u) F H := by
  have e := same_upd (u := u) hN
  refine ⟨e, fun b x q => ?_, fun a c q => ?_, fun a u' h0 h1 h2 => ?_, o.low.trans e⟩
  · by_cases hb : b = p
    · subst hb; rw [upd_same] at q; rw [← q]; exact hu
    · rw [upd_ne hb] at q; exact o.sub b x q
  · have ha : a ≠ p := fun z => by rw [z, hF] at q; cases q
    exact ⟨by rw [upd_ne ha]; exact (o.cell a c q).1, (o.cell a c q).2.mono e⟩
  · obtain ⟨x, y, z⟩ := o.kept a u' h0 h1 h2
    have : a ≠ p := fun w => by rw [w] at h0 h1 h2; exact hf u' h0 h1 h2
    exact ⟨x, by rw [upd_ne this]; exact y, z⟩
end
section
variable {Γ : Amb} {M : Mc} {X : Cx} {B : Bs} {W : XS}
theorem takes_no {K : PySem.W.Frag} {C : Bs} : Takes X (liftW K C noX) := fun u s' ⟨_, _, _, _, _, _, _, _, _, _, _, _, _, _, _, _, w⟩ => by
  obtain ⟨_, _, _, _, _, _, _, _, _, f⟩ := w
  exact f.elim
/-- at some base -/
def dVx (K : PySem.W.Frag) (w : St1 → MH → Q1 → Prop) : TE := fun τ H Q => ∃ C, dV K C w τ H Q
def dTx (K : PySem.W.Frag) (w : St1 → MH → (Bool → MH → Prop) → Prop) : TT := fun τ H Q => ∃ C, dT K C w τ H Q
theorem pe_x {e : Expr} {w : St1 → MH → Q1 → Prop} (h : ∀ C, PE X e (dV Γ.K C w)) : PE X e (dVx Γ.K w) := ⟨fun pins s τ H Q I ⟨C, q⟩ => (h C).run pins s τ H Q I q⟩
theorem pts_x {es : List Expr} {w : St1 → MH → (Bool → MH → Prop) → Prop} (h : ∀ C, PTs X es (dT Γ.K C w)) : PTs X es (dTx Γ.K w) := ⟨fun pins s τ H Q I ⟨C, q⟩ => (h C).run pins s τ H Q I q⟩

theorem snd_t_val {a : E Γ} {e : Expr} (hx : CxOk Γ M X) (he : truB e = true) (ha : PE X e (dV Γ.K B (wpE W a))) : PT X e (dT Γ.K B (wpT W (.val a))) := by
  refine ⟨fun pins s τ H Q I hq => ?_⟩
  refine (pt_truth ha fun w => tru_plain he X.env w).run pins s τ H Q I ?_
  obtain ⟨N, F, σ, Q0, o, sl, w, post⟩ := hq
  refine dV.bind o sl w fun v x N1 F1 H1 e1 o1 sl1 d1 w1 => ?_
  obtain ⟨k, t, q⟩ := truS_ok o1 d1 w1
  exact ⟨k, by rw [hx.K]; exact t, post k N1 F1 H1 e1 o1 q⟩
theorem snd_t_cmp {op : CmpOp} {a b : E Γ} {l r : Expr} {pos : Pos} (hx : CxOk Γ M X) (hp : plainB r = true) (ha : PE X l (dV Γ.K B (wpE W a))) (hb : PE X r (dV Γ.K B (wpE W b))) : PT X (.Compare l [op] [r] pos) (dT Γ.K B (wpT W (.cmp op a b))) := by
  refine ⟨fun pins s τ H Q I hq => ?_⟩
  have ho := cmpS_ok (X := X) hx.room.units op
  rw [hx.K] at ho
  refine (pt_cmpR ho ha hb (marks_plain hp op)).run pins s τ H Q I ?_
  obtain ⟨N, F, σ, Q0, o, sl, w, post⟩ := hq
  refine dV.bind o sl w fun v x N1 F1 H1 e1 o1 sl1 d1 w1 => dV.bind o1 sl1 w1 fun v2 x2 N2 F2 H2 e2 o2 _ d2 w2 => ?_
  refine ⟨B, N2, F2, v, v2, _, o2, d1.mono e2, d2, w2, fun v3 x3 N3 F3 H3 e3 o3 d3 q3 => ?_⟩
  split at q3
  · cases d3
    exact ⟨_, rfl, post _ N3 _ H3 ((e1.trans e2).trans e3) o3 q3⟩
  · exact q3.elim
theorem rdD_dp {K : PySem.W.Frag} {B : Bs} {N H : Hp} {F : MH} (o : Ok K B N F H) : ∀ (n k : Nat) {v : Val} {x : V}, Dv K N v x → okD k (rdD F n v) = true → Dp K H x (toPD (rdD F n v))
  | 0, k, v, x, d, h => Dv.dp o.sub d h
  | n + 1, k, v, x, d, h => by
    have hall : ∀ {k : Nat} {vs : List Val} {xs : List V}, Dvs K N vs xs → (vs.map (rdD F n)).all (okD k) = true → DpAll K H xs ((vs.map (rdD F n)).map toPD) := by
      intro k vs
      induction vs with
      | nil => intro xs d _; cases d; exact .nil
      | cons v vs ih =>
        intro xs d h
        cases d with
        | cons d1 d2 =>
          rw [List.map_cons, List.all_cons, Bool.and_eq_true] at h
          rw [List.map_cons, List.map_cons]
          exact .cons (rdD_dp o n k d1 h.1) (ih d2 h.2)
    have hl : ∀ {a : Addr} {vs : List Val} {xs : List V}, SqL K H a xs → Dvs K N vs xs → okD k (.lst (vs.map (rdD F n))) = true → Dp K H (.ref a) (toPD (.lst (vs.map (rdD F n)))) := by
      intro a vs xs r t h
      cases k with
      | zero => simp [okD] at h
      | succ k => rw [toPD_lst]; exact .lst r (hall (k := k) t h)
    cases v with
    | ref p =>
      cases d
      have er : rdD F (n + 1) (.ref p) = (match F p with | some (.lst vs) => Val.lst (vs.map (rdD F n)) | some (.scr vs) => Val.lst (vs.map (rdD F n)) | _ => .ref p) := by
        first
          | (rw [rdD]; done)
          | (rw [rdD]; rcases F p with _ | c; rfl; cases c <;> rfl)
      rw [er] at h ⊢
      cases e : F p with
      | none => rw [e] at h; cases k <;> simp [okD] at h
      | some c =>
        rw [e] at h
        cases c with
        | lst vs =>
          obtain ⟨_, xs, hx, dd⟩ := o.cell p _ e
          exact hl (.inl (.inl hx)) dd h
        | scr vs =>
          obtain ⟨_, ob, xs, hx, dd⟩ := o.cell p _ e
          exact hl (.inl (.inr ⟨ob, hx⟩)) dd h
        | _ => cases k <;> simp [okD] at h
    | tup vs =>
      cases d with
      | tup r t =>
        have er : rdD F (n + 1) (.tup vs) = .tup (vs.map (rdD F n)) := by rw [rdD]
        rw [er] at h ⊢
        cases k with
        | zero => simp [okD] at h
        | succ k => rw [toPD_tup]; exact .tup (.inl (.inl (o.sub _ _ r))) (hall (k := k) t h)
    | lst vs =>
      cases d with
      | lst r t =>
        have er : rdD F (n + 1) (.lst vs) = .lst (vs.map (rdD F n)) := by rw [rdD]
        rw [er] at h ⊢
        exact hl (.inl (.inl (o.sub _ _ r))) t h
    | _ => exact Dv.dp o.sub d h
theorem neD_ok {X : Cx} (hu : X.A.units + 64 < cLine) : OpR X (compareOp .NotEq) (lift2 X.K fun a b F Q => neD a b F fun k => Q (.bl k) F) := by
  rintro pins s σ H x y v u Q I rx ry ⟨B, N, F, a, b, Q0, o, da, db, h, post⟩
  obtain ⟨h1, h2, h3⟩ := h
  exact op_neD hu pins s σ H _ _ v u Q I rx ry ⟨_, _, rdD_dp o 4 60 da h1, rdD_dp o 4 60 db h2, okD_shaped h1, okD_shaped h2, post.at o (.bl _) h3⟩
theorem snd_t_cmpD {a b : E Γ} {l r : Expr} {pos : Pos} (hx : CxOk Γ M X) (hp : plainB r = true) (ha : PE X l (dV Γ.K B (wpE W a))) (hb : PE X r (dV Γ.K B (wpE W b))) : PT X (.Compare l [.NotEq] [r] pos) (dT Γ.K B (wpT W (.cmpD a b))) := by
  refine ⟨fun pins s τ H Q I hq => ?_⟩
  have ho := neD_ok (X := X) hx.room.units
  rw [hx.K] at ho
  refine (pt_cmpR ho ha hb (marks_plain hp .NotEq)).run pins s τ H Q I ?_
  obtain ⟨N, F, σ, Q0, o, sl, w, post⟩ := hq
  refine dV.bind o sl w fun v x N1 F1 H1 e1 o1 sl1 d1 w1 => dV.bind o1 sl1 w1 fun v2 x2 N2 F2 H2 e2 o2 _ d2 w2 => ?_
  refine ⟨B, N2, F2, v, v2, fun z F3 => match z with | .bl k => Q0 k F3 | _ => False, o2, d1.mono e2, d2, w2, fun v3 x3 N3 F3 H3 e3 o3 d3 q3 => ?_⟩
  cases v3 <;> first | exact q3.elim | skip
  cases d3
  exact ⟨_, rfl, post _ N3 _ H3 ((e1.trans e2).trans e3) o3 q3⟩
theorem snd_t_chain {op op2 : CmpOp} {a b c : E Γ} {l r z : Expr} {pos : Pos} (hx : CxOk Γ M X) (hz : plainB z = true) (ha : PE X l (dV Γ.K B (wpE W a))) (hb : PE X r (dV Γ.K B (wpE W b))) (hc : PE X z (dV Γ.K B (wpE W c))) :
    PT X (.Compare l [op, op2] [r, z] pos) (dT Γ.K B (wpT W (.chain op op2 a b c))) := by
  refine ⟨fun pins s τ H Q I hq => ?_⟩
  have ho := cmpS_ok (X := X) hx.room.units op
  have ho2 := cmpS_ok (X := X) hx.room.units op2
  rw [hx.K] at ho ho2
  refine (pt_chain ho ho2 ha hb hc (show lastMarks [op, op2] [r, z] = false from marks_plain hz op2)).run pins s τ H Q I ?_
  obtain ⟨N, F, σ, Q0, o, sl, w, post⟩ := hq
  refine dV.bind o sl w fun v x N1 F1 H1 e1 o1 sl1 d1 w1 => dV.bind o1 sl1 w1 fun v2 x2 N2 F2 H2 e2 o2 sl2 d2 w2 => ?_
  refine ⟨B, N2, F2, v, v2, _, o2, d1.mono e2, d2, w2, fun v3 x3 N3 F3 H3 e3 o3 d3 w3 => ?_⟩
  split at w3
  · cases d3
    refine ⟨true, rfl, ?_⟩
    rw [if_pos rfl]
    refine dV.bind o3 (sl2.mono e3) w3 fun v4 x4 N4 F4 H4 e4 o4 _ d4 w4 => ?_
    refine ⟨B, N4, F4, v2, v4, _, o4, d2.mono (e3.trans e4), d4, w4, fun v5 x5 N5 F5 H5 e5 o5 d5 q5 => ?_⟩
    split at q5
    · cases d5
      exact ⟨_, rfl, post _ N5 _ H5 ((((e1.trans e2).trans e3).trans e4).trans e5) o5 q5⟩
    · exact q5.elim
  · cases d3
    refine ⟨false, rfl, ?_⟩
    rw [if_neg Bool.false_ne_true]
    exact ⟨false, rfl, post false N3 F3 H3 ((e1.trans e2).trans e3) o3 w3⟩
  · exact w3.elim
theorem snd_t_not {a : T Γ} {l : Expr} {pos : Pos} (ha : PT X l (dT Γ.K B (wpT W a))) : PT X (.UnaryOp .Not l pos) (dT Γ.K B (wpT W (.not a))) := by
  refine ⟨fun pins s τ H Q I hq => ?_⟩
  refine (pt_not ha).run pins s τ H Q I ?_
  obtain ⟨N, F, σ, Q0, o, sl, w, post⟩ := hq
  exact ⟨N, F, σ, _, o, sl, w, fun b N1 F1 H1 e1 o1 q1 => post _ N1 F1 H1 e1 o1 q1⟩
theorem snd_w1 {op : BoolOp} {a : T Γ} {l : Expr} {pos : Pos} (ha : PT X l (dT Γ.K B (wpT W a))) : PW X (.BoolOp op [l] pos) (dT Γ.K B (wpTs W op (.cons a .nil))) := by
  cases op with
  | And => exact pw_and1 ha
  | Or => exact pw_or1 ha
theorem snd_w {op : BoolOp} {a b : T Γ} {r : Ts Γ} {l m : Expr} {rest : List Expr} {pos : Pos} (ha : PT X l (dT Γ.K B (wpT W a))) (hb : PW X (.BoolOp op (m :: rest) pos) (dT Γ.K B (wpTs W op (.cons b r)))) :
    PW X (.BoolOp op (l :: m :: rest) pos) (dT Γ.K B (wpTs W op (.cons a (.cons b r)))) := by
  refine ⟨fun wh pins s τ H Q I hq => ?_⟩
  cases op with
  | And =>
    refine (pw_and ha hb).run wh pins s τ H Q I ?_
    obtain ⟨N, F, σ, Q0, o, sl, w, post⟩ := hq
    refine dT.bind o sl w fun c N1 F1 H1 e1 o1 sl1 w1 => ?_
    cases c with
    | true => exact ⟨N1, F1, σ, Q0, o1, sl1, w1, post.mono e1⟩
    | false => exact post _ N1 F1 H1 e1 o1 w1
  | Or =>
    refine (pw_or ha hb).run wh pins s τ H Q I ?_
    obtain ⟨N, F, σ, Q0, o, sl, w, post⟩ := hq
    refine dT.bind o sl w fun c N1 F1 H1 e1 o1 sl1 w1 => ?_
    cases c with
    | false => exact ⟨N1, F1, σ, Q0, o1, sl1, w1, post.mono e1⟩
    | true => exact post _ N1 F1 H1 e1 o1 w1
/-- {k: v} -/
theorem snd_dic1 {k v : E Γ} {ke ve : Expr} {pos : Pos} (hk : ∀ C, PE X ke (dV Γ.K C (wpE noX k))) (hv : ∀ C, PE X ve (dV Γ.K C (wpE noX v))) : PE X (.Dict [some ke] [ve] pos) (dV Γ.K B (wpE W (.dic1 k v))) := by
  refine ⟨fun pins s τ H Q I hq => ?_⟩
  refine (pe_disp (pps_cons (pe_x hk) (pe_x hv) pps_nil) rfl rfl (fun z => nomatch z) (Nat.le_add_left 1 14)).run pins s τ H Q I ?_
  obtain ⟨N, F, σ, Q0, o, sl, w, post⟩ := hq
  intro p hp
  obtain ⟨hN, hF⟩ := o.free hp
  have o0 := o.grow (same_upd (u := .dK []) hp)
  refine ⟨⟨N, F, upd H p (.dK [])⟩, dV.bind o0.here sl w fun x y N1 F1 H1 e1 o1 sl1 d1 w1 => ⟨⟨N1, F1, H1⟩, dV.bind o1.here sl1 w1 fun x2 y2 N2 F2 H2 e2 o2 sl2 d2 w2 => ?_⟩⟩
  obtain ⟨k1, k2, k3⟩ := o1.kept p _ upd_same hN hF
  obtain ⟨j1, j2, j3⟩ := o2.kept p _ k1 k2 k3
  cases d1 with
  | str s1 =>
    refine ⟨j1, [(Sum.inr s1, y2)], rfl, Nat.le_add_left 1 14, ?_⟩
    have o3 : Ok Γ.K B N2 F2 H2 := (o0.trans o1).trans o2
    have o4 := (o3.side (u := .dK [(Sum.inr s1, y2)]) (o.free_of hp) j2 j3 (fun xs z => by rw [j1] at z; cases z)).tell (c := .dict [(s1, x2)]) (o.free_of hp) j2 j3 ⟨_, upd_same, .cons ⟨rfl, d2⟩ .nil⟩
    exact post _ _ N2 _ _ (e1.trans e2) o4 (.ref p) (w2 p hF j3)
  | _ => exact w2.elim
end
end Bv

/-! The tongue is true to the text: targets, iterables, comprehensions. -/
namespace Bv
open PySem L2 PyProof.Rows
theorem wipe_get {τ : L2.St} {j : Nat} : ∀ {vs : List Nat}, (wipe τ vs)[j]? = if j ∈ vs then (τ[j]?).map (fun _ => none) else τ[j]?
  | [] => by simp [wipe]
  | v :: vs => by
    unfold wipe
    rw [List.getElem?_set, wipe_get (vs := vs), wipe_length]
    by_cases h : v = j
    · subst h
      by_cases hl : v < τ.length
      · simp [hl]
      · simp [hl]
    · by_cases h2 : j ∈ vs
      · simp [h, h2]
      · simp [h, h2, Ne.symm h]
theorem wipe_set {τ : L2.St} {i : Nat} {o : Option V} {vs : List Nat} (h : i ∈ vs) : wipe (τ.set i o) vs = wipe τ vs := by
  apply List.ext_getElem?
  intro j
  rw [wipe_get, wipe_get]
  by_cases hj : j ∈ vs
  · rw [if_pos hj, if_pos hj, List.getElem?_set]
    by_cases e : i = j
    · subst e
      by_cases hl : i < τ.length
      · simp [hl]
      · simp [hl]
    · simp [e]
  · rw [if_neg hj, if_neg hj]
    have e : i ≠ j := fun z => hj (z ▸ h)
    rw [List.getElem?_set_ne e]
theorem wipe_wipe {τ : L2.St} {vs : List Nat} : wipe (wipe τ vs) vs = wipe τ vs := by
  apply List.ext_getElem?
  intro j
  rw [wipe_get, wipe_get]
  by_cases hj : j ∈ vs
  · rw [if_pos hj, if_pos hj]
    cases τ[j]? <;> rfl
  · rw [if_neg hj, if_neg hj]
def setAllV : L2.St → List Nat → List V → L2.St
  | τ, i :: is, x :: xs => setAllV (τ.set i (some x)) is xs
  | τ, _, _ => τ
theorem wipe_all {vs : List Nat} : ∀ {is : List Nat} {xs : List V} {τ : L2.St}, (∀ i ∈ is, i ∈ vs) → wipe (setAllV τ is xs) vs = wipe τ vs
  | [], _, _, _ => rfl
  | _ :: _, [], _, _ => rfl
  | i :: is, x :: xs, τ, h => by
    show wipe (setAllV (τ.set i (some x)) is xs) vs = _
    rw [wipe_all fun j hj => h j (List.mem_cons_of_mem _ hj), wipe_set (h i List.mem_cons_self)]
section
variable {K : PySem.W.Frag} {B : Bs} {N H : Hp} {F : MH} {σ : St1} {τ : L2.St}
theorem Sl.setAll : ∀ {is : List Nat} {vs : List Val} {xs : List V} {σ : St1} {τ : L2.St}, Sl K N σ τ → Dvs K N vs xs → Sl K N (setAll σ is vs) (setAllV τ is xs)
  | [], [], _, _, _, h, _ => h
  | [], _ :: _, _, _, _, h, _ => h
  | _ :: _, _, _, _, _, h, .nil => h
  | i :: is, _, _, _, _, h, .cons d t => by
    have := Sl.setAll (is := is) (h.set i d) t
    exact this
theorem Sl.wipe (h : Sl K N σ τ) : ∀ (vs : List Nat), Sl K N (wipe1 σ vs) (L2.wipe τ vs)
  | [] => h
  | v :: vs => (Sl.wipe h vs).del v none
end
/-- where a target's value goes -/
def dG (K : PySem.W.Frag) (t : Tg) : TG := fun x τ H Q => ∃ C N F σ v k, Ok K C N F H ∧ Sl K N σ τ ∧ Dv K N v x ∧ bindT t v σ F k ∧ ∀ σ' τ', Sl K N σ' τ' → wipe τ' t.slots = wipe τ t.slots → k σ' → Q τ' H
def tgsN : List Nat → TGs
  | [] => gNil
  | i :: is => gCons (gName i) (tgsN is)
theorem tgsN_run {H : Hp} {Q : L2.St → Hp → Prop} : ∀ {is : List Nat} {xs : List V} {τ : L2.St}, xs.length = is.length → Q (setAllV τ is xs) H → tgsN is xs τ H Q
  | [], [], _, _, q => ⟨rfl, q⟩
  | [], _ :: _, _, h, _ => nomatch h
  | _ :: _, [], _, h, _ => nomatch h
  | i :: is, x :: xs, τ, h, q => ⟨x, xs, rfl, tgsN_run (is := is) (by simpa using h) q⟩
section
variable {Γ : Amb} {M : Mc} {X : Cx} {B : Bs} {W : XS}
theorem names_len {env : Env} : ∀ {is : List Nat} {es : List Expr}, mNames M is es = true → (assignEach es env).length = is.length ∧ (assignEach es env).findIdx? (·.1) = none
  | [], [], _ => ⟨rfl, rfl⟩
  | i :: is, e :: es, h => by
    unfold mNames at h
    split at h
    · cases ‹_ :: _ = []›
    · rename_i e1 e2
      cases e1; cases e2
      simp only [Bool.and_eq_true] at h
      obtain ⟨h1, h2⟩ := names_len (env := env) h.2
      refine ⟨by show (assignEach es env).length + 1 = _; rw [h1]; rfl, ?_⟩
      show List.findIdx? _ ((false, _) :: assignEach es env) = none
      rw [List.findIdx?_cons, h2]
      rfl
    · cases h
  | [], _ :: _, h => by unfold mNames at h; cases h
  | _ :: _, [], h => by unfold mNames at h; cases h
theorem pgs_names (hx : CxOk Γ M X) : ∀ {is : List Nat} {es : List Expr}, mNames M is es = true → PGs X es (tgsN is)
  | [], [], _ => pgs_nil
  | i :: is, e :: es, h => by
    unfold mNames at h
    split at h
    · cases ‹_ :: _ = []›
    · rename_i e1 e2
      cases e1; cases e2
      simp only [Bool.and_eq_true] at h
      obtain ⟨⟨h1, h2⟩, h3⟩ := h
      obtain ⟨l1, l2⟩ := locB_eq hx h2
      exact pgs_cons (pg_name hx.nd (by rw [hx.N]; exact slotB_eq h1) l1 l2) (pgs_names hx h3)
    · cases h
  | [], _ :: _, h => by unfold mNames at h; cases h
  | _ :: _, [], h => by unfold mNames at h; cases h
theorem pg_x {t : Tg} {tg : Expr} (h : mTg M t tg = true) (hx : CxOk Γ M X) : PG X tg (dG Γ.K t) := by
  refine ⟨fun pins s τ H x u Q I r hq => ?_⟩
  obtain ⟨C, N, F, σ, v, k, o, sl, d, w, post⟩ := hq
  unfold mTg at h
  split at h
  · rename_i i y p
    simp only [Bool.and_eq_true] at h
    obtain ⟨l1, l2⟩ := locB_eq hx h.2
    exact (pg_name hx.nd (by rw [hx.N]; exact slotB_eq h.1) l1 l2).run pins s τ H x u Q I r (post _ _ (sl.set i d) (wipe_set (by simp [Tg.slots])) w)
  · rename_i is es k2 p
    obtain ⟨n1, n2⟩ := names_len (env := X.env) h
    refine (pg_tup hx.calm (pgs_names hx h) n1 n2).run pins s τ H x u Q I r ?_
    unfold bindT at w
    simp only at w
    split at w
    · rename_i vs
      obtain ⟨p, xs, rfl, hp, dd⟩ := d.tuple o.sub
      exact ⟨p, xs, rfl, .inl (.inl hp), by rw [← dd.length]; exact w.1, tgsN_run (by rw [← dd.length]; exact w.1) (post _ _ (sl.setAll dd) (wipe_all fun _ h => h) w.2)⟩
    · exact w.elim
  · rename_i is es k2 p
    obtain ⟨n1, n2⟩ := names_len (env := X.env) h
    refine (pg_unl hx.calm (pgs_names hx h) n1 n2).run pins s τ H x u Q I r ?_
    unfold bindT at w
    simp only at w
    split at w
    · rename_i vs e
      obtain ⟨p, xs, rfl, hp, dd⟩ := lsOf_ok o d e
      exact ⟨p, xs, rfl, .inl hp, by rw [← dd.length]; exact w.1, tgsN_run (by rw [← dd.length]; exact w.1) (post _ _ (sl.setAll dd) (wipe_all fun _ h => h) w.2)⟩
    · exact w.elim
  · cases h
end

/-! ### iterables -/
/-- the walk J gives the told items while g stands -/
structure Tell (K : PySem.W.Frag) (N0 : Hp) (items : List Val) (g : MH → Prop) (J : L2.It) : Prop where
  go : ∀ {C : Bs} {N : Hp} {F : MH} {H : Hp} {i : Nat}, Same N0 N → Ok K C N F H → g F → i < items.length → J.go i H
  stop : ∀ {C : Bs} {N : Hp} {F : MH} {H : Hp}, Same N0 N → Ok K C N F H → g F → J.stop items.length H
  yld : ∀ {C : Bs} {N : Hp} {F : MH} {H : Hp} {i : Nat} {x : V} {H' : Hp}, Same N0 N → Ok K C N F H → g F → J.yld i H x H' → ∀ v, items[i]? = some v → ∃ N', Same N N' ∧ Ok K C N' F H' ∧ Dv K N' v x
section
variable {K : PySem.W.Frag} {N0 : Hp}
theorem tell_list {v : Val} {vs : List Val} {p : Addr} (d : Dv K N0 v (.ref p)) : Tell K N0 vs (fun F => lsOf F v = some vs) (Itl K p) where
  go := fun {C N F H i} e o g hi => by
    obtain ⟨p', xs, ex, hr, dd⟩ := lsOf_ok o (d.mono e) g
    cases ex
    have hl := dd.length
    exact ⟨xs, xs[i]'(by omega), .inl hr, List.getElem?_eq_getElem _⟩
  stop := fun {C N F H} e o g => by
    obtain ⟨p', xs, ex, hr, dd⟩ := lsOf_ok o (d.mono e) g
    cases ex
    exact ⟨xs, .inl hr, Nat.le_of_eq dd.length.symm⟩
  yld := fun {C N F H i x H'} e o g y v' hv => by
    obtain ⟨p', xs, ex, hr, dd⟩ := lsOf_ok o (d.mono e) g
    cases ex
    obtain ⟨rfl, y⟩ := y
    obtain ⟨x', h1, h2⟩ := dd.get hv
    rw [y xs (.inl hr)] at h1
    cases h1
    exact ⟨N, Same.refl N, o, h2⟩
theorem tell_tup {vs : List Val} {p : Addr} (d : Dv K N0 (.tup vs) (.ref p)) : Tell K N0 vs (fun _ => True) (Itt K p) where
  go := fun {C N F H i} e o g hi => by
    obtain ⟨p', xs, ex, hr, dd⟩ := (d.mono e).tuple o.sub
    cases ex
    have hl := dd.length
    exact ⟨xs, xs[i]'(by omega), .of hr, List.getElem?_eq_getElem _⟩
  stop := fun {C N F H} e o g => by
    obtain ⟨p', xs, ex, hr, dd⟩ := (d.mono e).tuple o.sub
    cases ex
    exact ⟨xs, .of hr, Nat.le_of_eq dd.length.symm⟩
  yld := fun {C N F H i x H'} e o g y v' hv => by
    obtain ⟨p', xs, ex, hr, dd⟩ := (d.mono e).tuple o.sub
    cases ex
    obtain ⟨rfl, y⟩ := y
    obtain ⟨x', h1, h2⟩ := dd.get hv
    rw [y xs (.of hr)] at h1
    cases h1
    exact ⟨N, Same.refl N, o, h2⟩
theorem tell_str {z : Str} : Tell K N0 (charsOf z) (fun _ => True) (Its z) where
  go := fun {C N F H i} e o g hi => by
    unfold charsOf at hi
    simp at hi
    exact hi
  stop := fun {C N F H} e o g => by
    unfold charsOf
    show z.cps.size ≤ _
    simp
  yld := fun {C N F H i x H'} e o g y v' hv => by
    obtain ⟨rfl, c, hc, rfl⟩ := y
    unfold charsOf at hv
    rw [List.getElem?_map, Array.getElem?_toList, hc] at hv
    cases hv
    exact ⟨N, Same.refl N, o, .str _⟩
theorem tell_rng {lo : Int} {n : Nat} : Tell K N0 (rngV lo n) (fun _ => True) (Itr lo n) where
  go := fun {C N F H i} e o g hi => by
    unfold rngV at hi
    simp at hi
    exact hi
  stop := fun {C N F H} e o g => by
    unfold rngV
    show n ≤ _
    simp
  yld := fun {C N F H i x H'} e o g y v' hv => by
    obtain ⟨rfl, rfl⟩ := y
    unfold rngV at hv
    rw [List.getElem?_map] at hv
    cases hq : (List.range n)[i]? with
    | none => rw [hq] at hv; cases hv
    | some j =>
      rw [hq] at hv
      cases hv
      obtain ⟨h1, h2⟩ := List.getElem?_eq_some_iff.mp hq
      rw [List.getElem_range] at h2
      subst h2
      exact ⟨N, Same.refl N, o, .int _⟩
theorem tell_enum {v : Val} {vs : List Val} {p : Addr} (d : Dv K N0 v (.ref p)) : Tell K N0 (enumV vs) (fun F => lsOf F v = some vs) (Ite K p) where
  go := fun {C N F H i} e o g hi => by
    obtain ⟨p', xs, ex, hr, dd⟩ := lsOf_ok o (d.mono e) g
    cases ex
    have hl := dd.length
    unfold enumV at hi
    simp at hi
    exact ⟨xs, xs[i]'(by omega), .inl hr, List.getElem?_eq_getElem _⟩
  stop := fun {C N F H} e o g => by
    obtain ⟨p', xs, ex, hr, dd⟩ := lsOf_ok o (d.mono e) g
    cases ex
    refine ⟨xs, .inl hr, ?_⟩
    have hl := dd.length
    unfold enumV
    simp
    omega
  yld := fun {C N F H i x H'} e o g y v' hv => by
    obtain ⟨p', xs, ex, hr, dd⟩ := lsOf_ok o (d.mono e) g
    cases ex
    obtain ⟨T, x0, rfl, hT, rfl, y⟩ := y
    unfold enumV at hv
    rw [List.getElem?_zipWith] at hv
    cases hq : (List.range vs.length)[i]? with
    | none => rw [hq] at hv; cases hv
    | some j =>
      rw [hq] at hv
      cases hw : vs[i]? with
      | none => rw [hw] at hv; cases hv
      | some w =>
        rw [hw] at hv
        cases hv
        obtain ⟨h1, h2⟩ := List.getElem?_eq_some_iff.mp hq
        rw [List.getElem_range] at h2
        subst h2
        obtain ⟨x', k1, k2⟩ := dd.get hw
        rw [y xs (.inl hr)] at k1
        cases k1
        obtain ⟨e2, o2⟩ := o.still (u := .tup [.int (i : Nat), x0]) hT
        exact ⟨_, e2, o2, .tup upd_same (.cons (.int _) (.cons (k2.mono e2) .nil))⟩
theorem tell_zip {v w : Val} {vs ws : List Val} {p q : Addr} (d : Dv K N0 v (.ref p)) (d2 : Dv K N0 w (.ref q)) : Tell K N0 (zipV vs ws) (fun F => lsOf F v = some vs ∧ lsOf F w = some ws) (Itz K p q) where
  go := fun {C N F H i} e o g hi => by
    obtain ⟨p', xs, ex, hr, dd⟩ := lsOf_ok o (d.mono e) g.1
    cases ex
    obtain ⟨p', ys, ex, hr2, dd2⟩ := lsOf_ok o (d2.mono e) g.2
    cases ex
    have hl := dd.length
    have hl2 := dd2.length
    unfold zipV at hi
    simp at hi
    exact ⟨xs, ys, xs[i]'(by omega), ys[i]'(by omega), .inl hr, .inl hr2, List.getElem?_eq_getElem _, List.getElem?_eq_getElem _⟩
  stop := fun {C N F H} e o g => by
    obtain ⟨p', xs, ex, hr, dd⟩ := lsOf_ok o (d.mono e) g.1
    cases ex
    obtain ⟨p', ys, ex, hr2, dd2⟩ := lsOf_ok o (d2.mono e) g.2
    cases ex
    refine ⟨xs, ys, .inl hr, .inl hr2, ?_⟩
    have hl := dd.length
    have hl2 := dd2.length
    unfold zipV
    simp
    omega
  yld := fun {C N F H i x H'} e o g y v' hv => by
    obtain ⟨p', xs, ex, hr, dd⟩ := lsOf_ok o (d.mono e) g.1
    cases ex
    obtain ⟨p', ys, ex, hr2, dd2⟩ := lsOf_ok o (d2.mono e) g.2
    cases ex
    obtain ⟨T, x0, y0, rfl, hT, rfl, y1, y2⟩ := y
    unfold zipV at hv
    rw [List.getElem?_zipWith] at hv
    cases hq : vs[i]? with
    | none => rw [hq] at hv; cases hv
    | some a =>
      rw [hq] at hv
      cases hw : ws[i]? with
      | none => rw [hw] at hv; cases hv
      | some b =>
        rw [hw] at hv
        cases hv
        obtain ⟨x', k1, k2⟩ := dd.get hq
        rw [y1 xs (.inl hr)] at k1
        cases k1
        obtain ⟨x', k1, k3⟩ := dd2.get hw
        rw [y2 ys (.inl hr2)] at k1
        cases k1
        obtain ⟨e2, o2⟩ := o.still (u := .tup [x0, y0]) hT
        exact ⟨_, e2, o2, .tup upd_same (.cons (k2.mono e2) (.cons (k3.mono e2) .nil))⟩
theorem tell_keys {u : HO} {kvs : List (Str × Val)} {xs : List (Key × V)} {p : Addr} {ob : Obj} (hu : u = .frz ob (.dK xs)) (d : Dkv K N0 kvs xs) : Tell K N0 (kvs.map fun kv => .str kv.1) (fun F => F p = some (.lck u kvs)) (Itk p ob xs) where
  go := fun {C N F H i} e o g hi => by
    obtain ⟨_, hh, _⟩ := o.cell p _ g
    subst hu
    rw [List.length_map, d.length] at hi
    exact ⟨hh, hi⟩
  stop := fun {C N F H} e o g => by
    obtain ⟨_, hh, _⟩ := o.cell p _ g
    subst hu
    rw [List.length_map, d.length]
    exact ⟨hh, Nat.le_refl _⟩
  yld := fun {C N F H i x H'} e o g y v' hv => by
    obtain ⟨rfl, k, v, hk, rfl⟩ := y
    refine ⟨N, Same.refl N, o, ?_⟩
    have e1 := d.keys
    have e2 : (xs.map (·.1))[i]? = some k := by rw [List.getElem?_map, hk]; rfl
    rw [e1, List.getElem?_map, List.getElem?_map] at e2
    rw [List.getElem?_map] at hv
    cases hq : kvs[i]? with
    | none => rw [hq] at hv; cases hv
    | some kv =>
      rw [hq] at hv e2
      cases hv
      cases e2
      exact .str _
end
/-- an iterable, read -/
def dI {Γ : Amb} (B : Bs) (W : XS) (it : Bv.It Γ) : TI := fun τ H R => ∃ N F σ Qi, Ok Γ.K B N F H ∧ Sl Γ.K N σ τ ∧ wpIt W it σ F Qi ∧
  ∀ items g N' F' H' J, Same N N' → Ok Γ.K B N' F' H' → Qi items g F' → Tell Γ.K N' items g J → R J H'
section
variable {Γ : Amb} {M : Mc} {X : Cx} {B : Bs} {W : XS} {tg : Expr}
theorem snd_it_lst {a : E Γ} {e : Expr} (hx : CxOk Γ M X) (ha : PE X e (dV Γ.K B (wpE W a))) : PI X tg e (dI B W (.lst a)) := by
  refine ⟨fun pins s τ H R I hq => ?_⟩
  refine (pi_list ha).run pins s τ H R I ?_
  obtain ⟨N, F, σ, Q0, o, sl, w, post⟩ := hq
  rw [hx.K]
  refine dV.bind o sl w fun v x N1 F1 H1 e1 o1 sl1 d1 w1 => ?_
  split at w1
  · rename_i vs ev
    obtain ⟨p, xs, rfl, hr, dd⟩ := lsOf_ok o1 d1 ev
    exact ⟨p, rfl, ⟨xs, .inl hr⟩, post _ _ N1 F1 H1 _ e1 o1 w1 (tell_list d1)⟩
  · exact w1.elim
theorem snd_it_tup {a : E Γ} {e : Expr} (hx : CxOk Γ M X) (ha : PE X e (dV Γ.K B (wpE W a))) : PI X tg e (dI B W (.tupl a)) := by
  refine ⟨fun pins s τ H R I hq => ?_⟩
  refine (pi_tup ha).run pins s τ H R I ?_
  obtain ⟨N, F, σ, Q0, o, sl, w, post⟩ := hq
  rw [hx.K]
  refine dV.bind o sl w fun v x N1 F1 H1 e1 o1 sl1 d1 w1 => ?_
  split at w1
  · rename_i vs
    obtain ⟨p, xs, rfl, hr, dd⟩ := d1.tuple o1.sub
    exact ⟨p, rfl, ⟨xs, .of hr⟩, post _ _ N1 F1 H1 _ e1 o1 w1 (tell_tup d1)⟩
  · exact w1.elim
theorem snd_it_str {a : E Γ} {e : Expr} (ha : PE X e (dV Γ.K B (wpE W a))) : PI X tg e (dI B W (.str a)) := by
  refine ⟨fun pins s τ H R I hq => ?_⟩
  refine (pi_str ha).run pins s τ H R I ?_
  obtain ⟨N, F, σ, Q0, o, sl, w, post⟩ := hq
  refine dV.bind o sl w fun v x N1 F1 H1 e1 o1 sl1 d1 w1 => ?_
  split at w1
  · cases d1
    exact ⟨_, rfl, post _ _ N1 F1 H1 _ e1 o1 w1 tell_str⟩
  · exact w1.elim
theorem snd_it_rng1 {a : E Γ} {e : Expr} {p pos : Pos} (hx : CxOk Γ M X) (ga : AmbOk Γ) (hg : glB M.sc "range" = true) (hp : plainB e = true) (ha : PE X e (dV Γ.K B (wpE W a))) : PI X tg (.Call (.Name "range" p) [e] [] pos) (dI B W (.rng1 a)) := by
  refine ⟨fun pins s τ H R I hq => ?_⟩
  refine (pi_range1 (glB_eq hx.sc hg) (by rw [hx.mg]; exact ga.bl _ (by decide)) (pa_cons ha pa_nil (star_plain hp _ _)) (star_plain hp _ _)).run pins s τ H R I ?_
  obtain ⟨N, F, σ, Q0, o, sl, w, post⟩ := hq
  refine dV.bind o sl w fun v x N1 F1 H1 e1 o1 sl1 d1 w1 => ?_
  split at w1
  · cases d1
    exact ⟨_, rfl, w1.1, w1.2.1, post _ _ N1 F1 H1 _ e1 o1 w1.2.2 tell_rng⟩
  · exact w1.elim
theorem snd_it_rng2 {a b : E Γ} {e e2 : Expr} {p pos : Pos} (hx : CxOk Γ M X) (ga : AmbOk Γ) (hg : glB M.sc "range" = true) (hp : plainB e = true) (hp2 : plainB e2 = true) (ha : PE X e (dV Γ.K B (wpE W a))) (hb : PE X e2 (dV Γ.K B (wpE W b))) :
    PI X tg (.Call (.Name "range" p) [e, e2] [] pos) (dI B W (.rng2 a b)) := by
  refine ⟨fun pins s τ H R I hq => ?_⟩
  refine (pi_range2 (glB_eq hx.sc hg) (by rw [hx.mg]; exact ga.bl _ (by decide)) (pa_cons ha (pa_cons hb pa_nil (star_plain hp2 _ _)) (star_plain hp _ _)) (by rw [star_plain hp, star_plain hp2]; rfl) (star_plain hp2 _ _)).run pins s τ H R I ?_
  obtain ⟨N, F, σ, Q0, o, sl, w, post⟩ := hq
  refine dV.bind o sl w fun v x N1 F1 H1 e1 o1 sl1 d1 w1 => dV.bind o1 sl1 w1 fun v2 x2 N2 F2 H2 e2 o2 sl2 d2 w2 => ?_
  split at w2
  · cases d1
    cases d2
    exact ⟨_, _, rfl, w2.1, post _ _ N2 F2 H2 _ (e1.trans e2) o2 w2.2 tell_rng⟩
  · exact w2.elim
theorem snd_it_zip {a b : E Γ} {e e2 : Expr} {p pos tpos : Pos} {elts : List Expr} {kk : Nat} (hx : CxOk Γ M X) (ga : AmbOk Γ) (hg : glB M.sc "zip" = true) (hp : plainB e = true) (hp2 : plainB e2 = true) (ha : PE X e (dV Γ.K B (wpE W a))) (hb : PE X e2 (dV Γ.K B (wpE W b))) :
    PI X (.Tuple elts kk tpos) (.Call (.Name "zip" p) [e, e2] [] pos) (dI B W (.zip2 a b)) := by
  refine ⟨fun pins s τ H R I hq => ?_⟩
  refine (pi_zip (glB_eq hx.sc hg) (by rw [hx.mg]; exact ga.bl _ (by decide)) (pa_cons ha (pa_cons hb pa_nil (star_plain hp2 _ _)) (star_plain hp _ _)) (star_plain hp _ _) (by rw [star_plain hp2]; rfl)).run pins s τ H R I ?_
  obtain ⟨N, F, σ, Q0, o, sl, w, post⟩ := hq
  rw [hx.K]
  refine dV.bind o sl w fun v x N1 F1 H1 e1 o1 sl1 d1 w1 => dV.bind o1 sl1 w1 fun v2 x2 N2 F2 H2 e2 o2 sl2 d2 w2 => ?_
  split at w2
  · rename_i vs ws ev ew
    obtain ⟨q1, xs, rfl, hr, dd⟩ := lsOf_ok o2 (d1.mono e2) ev
    obtain ⟨q2, ys, rfl, hr2, dd2⟩ := lsOf_ok o2 d2 ew
    exact ⟨q1, q2, xs, ys, rfl, .inl hr, .inl hr2, post _ _ N2 F2 H2 _ (e1.trans e2) o2 w2 (tell_zip (d1.mono e2) d2)⟩
  · exact w2.elim
theorem snd_it_enum {a : E Γ} {e : Expr} {p pos tpos : Pos} {elts : List Expr} {kk : Nat} (hx : CxOk Γ M X) (ga : AmbOk Γ) (hg : glB M.sc "enumerate" = true) (hp : plainB e = true) (ha : PE X e (dV Γ.K B (wpE W a))) :
    PI X (.Tuple elts kk tpos) (.Call (.Name "enumerate" p) [e] [] pos) (dI B W (.enum a)) := by
  refine ⟨fun pins s τ H R I hq => ?_⟩
  refine (pi_enum (glB_eq hx.sc hg) (by rw [hx.mg]; exact ga.bl _ (by decide)) (pa_cons ha pa_nil (star_plain hp _ _)) (star_plain hp _ _)).run pins s τ H R I ?_
  obtain ⟨N, F, σ, Q0, o, sl, w, post⟩ := hq
  rw [hx.K]
  refine dV.bind o sl w fun v x N1 F1 H1 e1 o1 sl1 d1 w1 => ?_
  split at w1
  · rename_i vs ev
    obtain ⟨q1, xs, rfl, hr, dd⟩ := lsOf_ok o1 d1 ev
    exact ⟨q1, xs, rfl, .inl hr, post _ _ N1 F1 H1 _ e1 o1 w1 (tell_enum d1)⟩
  · exact w1.elim
end
end Bv

/-! The tongue is true to the text: comprehensions, and all expressions. -/
namespace Bv
open PySem L2 PyProof.Rows
/-- a comprehension's turn -/
def lcTurn {Γ : Amb} (t : Tg) (cond : Ts Γ) (elt : E Γ) (σ : St1) : Val → MH → (Option Val → MH → Prop) → Prop := fun x F2 k => bindT t x (wipe1 σ t.slots) F2 fun σ' => wpCs noX cond σ' F2 fun b F3 => match b with
        | true => wpE noX elt σ' F3 fun v F4 => k (some v) F4
        | false => k none F3
theorem lc_obl {Γ : Amb} {B : Bs} {N1 : Hp} {F1 : MH} {H1 : Hp} {σ : St1} {τ : L2.St} {items : List Val} {g : MH → Prop} {J : L2.It} {t : Tg} {cond : Ts Γ} {elt : E Γ} {m : Bool} {Q0 : Q1} {Q : VK}
    (o1 : Ok Γ.K B N1 F1 H1) (sl1 : Sl Γ.K N1 σ τ) (tell : Tell Γ.K N1 items g J) (w : lcGo g (lcTurn t cond elt σ) (fun vs F2 => newLs m vs F2 Q0) items [] F1) (post : Post Γ.K B N1 Q0 Q) {vs : List Nat} (hvs : vs = t.slots) :
    ∀ D, H1 D = none → ∃ W : Nat → Nat → Hp → Prop, (∃ m, W 0 m (upd H1 D (.lst []))) ∧ ∀ i m H, W i m H →
      (J.stop i H ∧ Q (.ref D) H) ∨ (J.go i H ∧ ∃ Nx : Hp → Prop, (∀ H', Nx H' → ∃ m', m' < m ∧ W (i + 1) m' H') ∧ ∀ x H', J.yld i H x H' → dG Γ.K t x (wipe τ vs) H' fun σ2 H2 => wipe σ2 vs = wipe τ vs ∧ dTx Γ.K (wpCs noX cond) σ2 H2 fun b H3 =>
        if b = true then dVx Γ.K (wpE noX elt) σ2 H3 fun y H4 => ∃ acc, H4 D = some (.lst acc) ∧ acc.length < sizeLine ∧ Nx (upd H4 D (.lst (acc ++ [y]))) else Nx H3) := by
  intro D hD
  subst hvs
  have hfree := o1.free_of hD
  obtain ⟨hN1, hF1⟩ := o1.free hD
  let P : Nat → Hp → Prop := fun i H => ∃ N F acc xs, Same N1 N ∧ Ok Γ.K B N F H ∧ H D = some (.lst xs) ∧ N D = none ∧ F D = none ∧ Dvs Γ.K N acc xs ∧ lcGo g (lcTurn t cond elt σ) (fun vs F2 => newLs m vs F2 Q0) (items.drop i) acc F
  refine ⟨fun i m H => m = items.length - i ∧ i ≤ items.length ∧ P i H, ⟨items.length, by simp, Nat.zero_le _, N1, F1, [], [], Same.refl _, o1.grow (same_upd hD), upd_same, hN1, hF1, .nil, by simpa using w⟩, ?_⟩
  rintro i m0 H ⟨rfl, hi, N, F, acc, xs, e, o, hd, hN, hF, da, w⟩
  by_cases hlt : i < items.length
  · right
    rw [List.drop_eq_getElem_cons hlt] at w
    unfold lcGo at w
    obtain ⟨hg, w⟩ := w
    refine ⟨tell.go e o hg hlt, P (i + 1), fun H' p' => ⟨items.length - (i + 1), by omega, rfl, hlt, p'⟩, fun x H' y => ?_⟩
    obtain ⟨N2, e2, o2, d2⟩ := tell.yld e o.here hg y _ (List.getElem?_eq_getElem hlt)
    refine ⟨⟨N, F, H⟩, N2, F, wipe1 σ t.slots, _, _, o2, (sl1.mono (e.trans e2)).wipe _, d2, w, fun σ' τ' sl' hw k => ⟨hw.trans wipe_wipe, ?_⟩⟩
    refine ⟨⟨N, F, H⟩, N2, F, σ', _, o2, sl', k, fun b N3 F3 H3 e3 o3 q3 => ?_⟩
    cases b with
    | true =>
      rw [if_pos rfl]
      refine ⟨⟨N, F, H⟩, N3, F3, σ', _, o3, sl'.mono e3, q3, fun v yv N4 F4 H4 e4 o4 d4 q4 => ?_⟩
      obtain ⟨k1, k2, k3⟩ := o4.kept D _ hd hN hF
      refine ⟨xs, k1, by rw [← da.length]; exact q4.1, N4, F4, acc ++ [v], xs ++ [yv], ((e.trans e2).trans e3).trans e4, ?_, upd_same, k2, k3, ?_, q4.2⟩
      · exact (o.trans o4).side hfree k2 k3 (fun zs z => by rw [k1] at z; cases z)
      · exact (da.mono ((e2.trans e3).trans e4)).append (.cons d4 .nil)
    | false =>
      rw [if_neg Bool.false_ne_true]
      obtain ⟨k1, k2, k3⟩ := o3.kept D _ hd hN hF
      exact ⟨N3, F3, acc, xs, (e.trans e2).trans e3, o.trans o3, k1, k2, k3, da.mono (e2.trans e3), q3⟩
  · left
    have ei : i = items.length := by omega
    subst ei
    rw [List.drop_length] at w
    unfold lcGo at w
    obtain ⟨hg, w⟩ := w
    refine ⟨tell.stop e o hg, ?_⟩
    cases m with
    | true =>
      have o' := o.tell (c := .lst acc) hfree hN hF ⟨xs, hd, da⟩
      exact post _ _ N _ H e o' (.ref D) (w D hF)
    | false =>
      obtain ⟨e2, o'⟩ := o.tellN hfree hN hF hd
      exact post _ _ _ _ H (e.trans e2) o' (.lst upd_same (da.mono e2)) w
section
variable {Γ : Amb} {M : Mc} {X : Cx} {B : Bs} {W : XS}
theorem CxOk.blk (hx : CxOk Γ M X) {s : Shared} {H : Hp} {scope : Scope} {C : Addr} {cl : List (Str × Addr)} {fp : List Addr} : CxOk Γ (M.blk scope) (X.blk s H scope (compEnvC scope cl C X.env) fp) :=
  ⟨hx.P, hx.w, hx.K, hx.mg, hx.base, hx.room, hx.calm, hx.N, hx.nd, by show relS scope X.env.scope = relS scope M.sc; rw [hx.sc], fun x h => h⟩
theorem own_slots {N : List Str} {t : Tg} : (ownOf N t).map (·.2) = t.slots := by
  unfold ownOf
  rw [List.map_map]
  show List.map (fun i => i) t.slots = t.slots
  simp
theorem snd_lc {m : Bool} {elt : E Γ} {t : Tg} {it : Bv.It Γ} {cond : Ts Γ} {tg iter ee : Expr} {ifs : List Expr} {scope : Scope} {pos : Pos} (hx : CxOk Γ M X) (hb : blkB M.N M.sc scope (ownOf M.N t) = true) (hp : ∀ x, foldedSetIterable iter X.env x = pure x)
    (hi : PI X tg iter (dI B W it)) (hg : ∀ X', CxOk Γ (M.blk scope) X' → PG X' tg (dG Γ.K t)) (ht : ∀ X', CxOk Γ (M.blk scope) X' → PTs X' ifs (dTx Γ.K (wpCs noX cond))) (he : ∀ X', CxOk Γ (M.blk scope) X' → PE X' ee (dVx Γ.K (wpE noX elt))) :
    PE X (.ListComp ee [⟨tg, iter, ifs, 0⟩] scope pos) (dV Γ.K B (wpE W (.lc m elt t it cond))) := by
  refine ⟨fun pins s τ H Q I hq => ?_⟩
  refine (pe_lc hx.calm hx.nd hi (by rw [hx.N, hx.sc]; exact blkOk_by hb) (fun _ _ _ _ _ => hg _ hx.blk) (fun _ _ _ _ _ => ht _ hx.blk) (fun _ _ _ _ _ => he _ hx.blk) hp).run pins s τ H Q I ?_
  obtain ⟨N, F, σ, Q0, o, sl, w, post⟩ := hq
  exact ⟨N, F, σ, _, o, sl, w, fun items g N1 F1 H1 J e1 o1 w1 tell => lc_obl o1 (sl.mono e1) tell w1 (post.mono e1) own_slots⟩
/-- its obligation, where it is a statement's value -/
theorem lc_read {m : Bool} {elt : E Γ} {t : Tg} {it : Bv.It Γ} {cond : Ts Γ} {τ : L2.St} {H : Hp} {Q : VK} (hq : dV Γ.K B (wpE W (.lc m elt t it cond)) τ H Q) : tLc (dI B W it) (dG Γ.K t) (dTx Γ.K (wpCs noX cond)) (dVx Γ.K (wpE noX elt)) ((ownOf M.N t).map (·.2)) τ H Q := by
  obtain ⟨N, F, σ, Q0, o, sl, w, post⟩ := hq
  exact ⟨N, F, σ, _, o, sl, w, fun items g N1 F1 H1 J e1 o1 w1 tell => lc_obl o1 (sl.mono e1) tell w1 (post.mono e1) own_slots⟩
theorem lock_cell {N H : Hp} {F : MH} {p : Addr} {kvs : List (Str × Val)} (o : Ok Γ.K B N F H) (ec : F p = some (.dict kvs)) : ∃ xs, H p = some (.dK xs) ∧ Dkv Γ.K N kvs xs ∧ ∀ od, Ok Γ.K B N (mset F p (.lck (.frz od (.dK xs)) kvs)) (upd H p (.frz od (.dK xs))) := by
  obtain ⟨_, xs, hh, dd⟩ := o.cell p _ ec
  exact ⟨xs, hh, dd, fun od => o.put ec (fun ys z => by rw [hh] at z; cases z) ⟨upd_same, od, xs, rfl, dd⟩⟩
theorem unlock_cell {N H : Hp} {F : MH} {p : Addr} {kvs : List (Str × Val)} {od : Obj} {xs : List (Key × V)} (o : Ok Γ.K B N F H) (ec : F p = some (.lck (.frz od (.dK xs)) kvs)) : H p = some (.frz od (.dK xs)) ∧ Ok Γ.K B N (mset F p (.dict kvs)) (upd H p (.dK xs)) := by
  obtain ⟨_, hh, o', xs', hu, dd⟩ := o.cell p _ ec
  cases hu
  exact ⟨hh, o.put ec (fun ys z => by rw [hh] at z; cases z) ⟨xs, upd_same, dd⟩⟩
theorem snd_lcK {m : Bool} {elt d : E Γ} {t : Tg} {cond : Ts Γ} {tg iter ee : Expr} {ifs : List Expr} {scope : Scope} {pos : Pos} (hx : CxOk Γ M X) (hb : blkB M.N M.sc scope (ownOf M.N t) = true) (hp : ∀ x, foldedSetIterable iter X.env x = pure x)
    (hi : PE X iter (dV Γ.K B (wpE noX d))) (hg : ∀ X', CxOk Γ (M.blk scope) X' → PG X' tg (dG Γ.K t)) (ht : ∀ X', CxOk Γ (M.blk scope) X' → PTs X' ifs (dTx Γ.K (wpCs noX cond))) (he : ∀ X', CxOk Γ (M.blk scope) X' → PE X' ee (dVx Γ.K (wpE noX elt))) :
    PE X (.ListComp ee [⟨tg, iter, ifs, 0⟩] scope pos) (dV Γ.K B (wpE W (.lcK m elt t d cond))) := by
  refine ⟨fun pins s τ H Q I hq => ?_⟩
  refine (pe_lock (pe_lc hx.calm hx.nd (pi_keys hi) (by rw [hx.N, hx.sc]; exact blkOk_by hb) (fun _ _ _ _ _ => hg _ hx.blk) (fun _ _ _ _ _ => ht _ hx.blk) (fun _ _ _ _ _ => he _ hx.blk) hp)).run pins s τ H Q I ?_
  obtain ⟨N, F, σ, Q0, o, sl, w, post⟩ := hq
  obtain ⟨p, kvs, ec, w⟩ := w
  obtain ⟨xs, hh, dd, lk⟩ := lock_cell o ec
  refine ⟨p, .dK xs, hh, trivial, fun od => ?_⟩
  refine dV.bind (lk od) sl (w (.frz od (.dK xs))) fun v x N1 F1 H1 e1 o1 sl1 d1 w1 => ?_
  obtain ⟨hv, w1⟩ := w1
  split at hv
  · subst hv
    rename_i q
    cases d1
    have hF1 : F1 q = some (.lck (.frz od (.dK xs)) kvs) := by
      cases hk : kvs.map fun kv => Val.str kv.1 with
      | nil => rw [hk] at w1; unfold lcGo at w1; exact w1.1
      | cons a r => rw [hk] at w1; unfold lcGo at w1; exact w1.1
    obtain ⟨_, hh1, _⟩ := o1.cell q _ hF1
    refine ⟨q, od, rfl, .inl ⟨xs, hh1, ?_⟩⟩
    refine lc_obl (m := m) (Q := fun v H' => H' q = some (HO.frz od (HO.dK xs)) ∧ Q v (upd H' q (HO.dK xs))) (Q0 := fun v F3 => F3 q = some (.lck (.frz od (.dK xs)) kvs) ∧ Q0 v (mset F3 q (.dict kvs))) o1 sl1 (tell_keys rfl (dd.mono e1)) w1 (fun v3 x3 N3 F3 H3 e3 o3 d3 q3 => ?_) (own_slots (N := M.N))
    obtain ⟨k1, k2⟩ := unlock_cell o3 q3.1
    exact ⟨k1, post v3 x3 N3 _ _ (e1.trans e3) k2 d3 q3.2⟩
  · exact hv.elim
end
end Bv

/-! The tongue is true to the text: all expressions. -/
namespace Bv
open PySem L2 PyProof.Rows
section
variable {Γ : Amb} (ga : AmbOk Γ)
theorem plain_mIt {M : Mc} {X : Cx} (it : Bv.It Γ) {e : Expr} (h : mIt M it e = true) (x : Value) : foldedSetIterable e X.env x = pure x := by
  cases it with
  | lst a => unfold mIt at h; exact noset_plain (plain_mE a h) _ x
  | tupl a => unfold mIt at h; exact noset_plain (plain_mE a h) _ x
  | str a => unfold mIt at h; exact noset_plain (plain_mE a h) _ x
  | rng1 a => unfold mIt at h; split at h <;> first | rfl | cases h
  | rng2 a b => unfold mIt at h; split at h <;> first | rfl | cases h
  | zip2 a b => unfold mIt at h; split at h <;> first | rfl | cases h
  | enum a => unfold mIt at h; split at h <;> first | rfl | cases h
theorem decEq_of {α : Type} [DecidableEq α] {a b : α} (h : decide (a = b) = true) : a = b := of_decide_eq_true h
theorem pts_dT {X : Cx} {ifs : List Expr} {K : PySem.W.Frag} {w : St1 → MH → (Bool → MH → Prop) → Prop} (h : ∀ C, PTs X ifs (dT K C w)) : PTs X ifs (dTx K w) := ⟨fun pins s τ H Q I ⟨C, q⟩ => (h C).run pins s τ H Q I q⟩
def Es.len : Es Γ → Nat
  | .nil => 0
  | .cons _ r => r.len + 1
theorem mEs_len {M : Mc} : ∀ {es : Es Γ} {vs : List Expr}, mEs M es vs = true → vs.length = es.len
  | .nil, [], _ => rfl
  | .nil, _ :: _, h => by unfold mEs at h; cases h
  | .cons a r, [], h => by unfold mEs at h; cases h
  | .cons a r, e :: vs, h => by
    unfold mEs at h
    simp only [Bool.and_eq_true] at h
    rw [List.length_cons, mEs_len h.2]
    rfl
theorem snd_cs_nil {X : Cx} {B : Bs} {W : XS} : PTs X [] (dT Γ.K B (wpCs W (.nil : Ts Γ))) := by
  refine ⟨fun pins s τ H Q I hq => ?_⟩
  obtain ⟨N, F, σ, Q0, o, sl, w, post⟩ := hq
  exact pts_nil.run pins s τ H Q I (post _ N F H (Same.refl N) o w)
theorem snd_bmG {M : Mc} {X : Cx} {B : Bs} {W : XS} {b : Bm} {o : E Γ} {es : Es Γ} {oe : Expr} {args : List Expr} {ap pos : Pos} (n1 : b ≠ .get) (n2 : b ≠ .dpop) (hx : CxOk Γ M X) (h4 : mEs M es args = true) (hl : args.length = b.arity) (h3 : baseB oe = true) (h6 : (ap.endLine == pos.line) = true)
    (ho : PE X oe (dV Γ.K B (wpE W o))) (ha : PA X args (dA Γ.K B (wpEs W es))) : PE X (.Call (.Attribute oe b.nm ap) args [] pos) (dV Γ.K B (wpE W (.bm b o es))) := by
  have hp := plains_mEs es h4
  rcases args with _ | ⟨x, t⟩
  · have ee : es = .nil := by
      cases es with
      | nil => rfl
      | cons a r => unfold mEs at h4; cases h4
    subst ee
    cases b with
    | pop => exact snd_bm0 (b := .pop) hx F.plainAttrs_list F.slot_list_pop F.type_list_pop mtS_pop rfl (by decide) h3 h6 ho
    | clear => exact snd_bm0 (b := .clear) hx F.plainAttrs_list F.slot_list_clear F.type_list_clear mtS_clear rfl (by decide) h3 h6 ho
    | _ => cases hl
  · have hlt : (x :: t).length < 29 := by
      rw [hl]
      cases b <;> decide
    cases b with
    | append => exact snd_bm1 (b := .append) hx F.plainAttrs_list F.slot_list_append F.type_list_append mtS_append rfl (by decide) h3 h6 hp hlt ho ha
    | index => exact snd_bm1 (b := .index) hx F.plainAttrs_list F.slot_list_index F.type_list_index mtS_index rfl (by decide) h3 h6 hp hlt ho ha
    | count => exact snd_bm1 (b := .count) hx F.plainAttrs_list F.slot_list_count F.type_list_count mtS_count rfl (by decide) h3 h6 hp hlt ho ha
    | join => exact snd_bm1 (b := .join) hx F.plainAttrs_str F.slot_str_join F.type_str_join mtS_join rfl (by decide) h3 h6 hp hlt ho ha
    | split => exact snd_bm1 (b := .split) hx F.plainAttrs_str F.slot_str_split F.type_str_split mtS_split rfl (by decide) h3 h6 hp hlt ho ha
    | partition => exact snd_bm1 (b := .partition) hx F.plainAttrs_str F.slot_str_partition F.type_str_partition mtS_partition rfl (by decide) h3 h6 hp hlt ho ha
    | get => exact absurd rfl n1
    | dpop => exact absurd rfl n2
    | pop => cases hl
    | clear => cases hl
include ga
mutual
theorem sndE : ∀ (c : E Γ) {M : Mc} {X : Cx} {B : Bs} {W : XS} {e : Expr}, mE M c e = true → CxOk Γ M X → Takes X (liftW Γ.K B W) → PE X e (dV Γ.K B (wpE W c))
  | .var i, M, X, B, W, e, h, hx, tk => snd_var h hx
  | .cst v, M, X, B, W, e, h, hx, tk => snd_cst h hx
  | .gl x r, M, X, B, W, e, h, hx, tk => snd_gl h hx
  | .bin op a b, M, X, B, W, e, h, hx, tk => by
    unfold mE at h
    split at h
    · simp only [Bool.and_eq_true] at h
      obtain ⟨⟨h1, h2⟩, h3⟩ := h
      have e1 := of_decide_eq_true h1
      subst e1
      exact snd_bin hx (sndE a h2 hx tk) (sndE b h3 hx tk)
    · cases h
  | .addL a b, M, X, B, W, e, h, hx, tk => by
    unfold mE at h
    split at h
    · simp only [Bool.and_eq_true] at h
      obtain ⟨⟨h1, h2⟩, h3⟩ := h
      have e1 := of_decide_eq_true h1
      subst e1
      exact snd_addL hx (sndE a h2 hx tk) (sndE b h3 hx tk)
    · cases h
  | .neg a, M, X, B, W, e, h, hx, tk => by
    unfold mE at h
    split at h
    · exact snd_neg (sndE a h hx tk)
    · cases h
  | .not a, M, X, B, W, e, h, hx, tk => by
    unfold mE at h
    split at h
    · exact snd_not (sndE a h hx tk)
    · cases h
  | .cmp op a b, M, X, B, W, e, h, hx, tk => by
    unfold mE at h
    split at h
    · simp only [Bool.and_eq_true] at h
      obtain ⟨⟨h1, h2⟩, h3⟩ := h
      have e1 := of_decide_eq_true h1
      subst e1
      exact snd_cmp hx (plain_mE b h3) (sndE a h2 hx tk) (sndE b h3 hx tk)
    · cases h
  | .chain op op2 a b c, M, X, B, W, e, h, hx, tk => by
    unfold mE at h
    split at h
    · simp only [Bool.and_eq_true] at h
      obtain ⟨⟨⟨⟨h1, h2⟩, h3⟩, h4⟩, h5⟩ := h
      have e1 := of_decide_eq_true h1
      subst e1
      have e2 := of_decide_eq_true h2
      subst e2
      exact snd_chain hx (plain_mE c h5) (sndE a h3 hx tk) (sndE b h4 hx tk) (sndE c h5 hx tk)
    · cases h
  | .bool op es, M, X, B, W, e, h, hx, tk => by
    unfold mE at h
    split at h
    · simp only [Bool.and_eq_true] at h
      obtain ⟨⟨h1, h2⟩, h3⟩ := h
      have e1 := of_decide_eq_true h1
      subst e1
      exact sndBl es h2 hx tk (by have := of_decide_eq_true h3; omega)
    · cases h
  | .tup es, M, X, B, W, e, h, hx, tk => by
    unfold mE at h
    split at h
    · exact snd_tup (sndEs es h hx tk)
    · cases h
  | .lst m es, M, X, B, W, e, h, hx, tk => by
    unfold mE at h
    split at h
    · exact snd_lst (sndEs es h hx tk)
    · cases h
  | .dic0, M, X, B, W, e, h, hx, tk => by
    unfold mE at h
    split at h
    · exact snd_dic0
    · cases h
  | .dic1 k v, M, X, B, W, e, h, hx, tk => by
    unfold mE at h
    split at h
    · simp only [Bool.and_eq_true] at h
      exact snd_dic1 (fun C => sndE k h.1 hx takes_no) (fun C => sndE v h.2 hx takes_no)
    · cases h
  | .ix a i, M, X, B, W, e, h, hx, tk => by
    unfold mE at h
    split at h
    · simp only [Bool.and_eq_true] at h
      exact snd_ix hx (plain_mE i h.2) (sndE a h.1 hx tk) (sndE i h.2 hx tk)
    · cases h
  | .sl a lo hi, M, X, B, W, e, h, hx, tk => by
    unfold mE at h
    split at h
    · simp only [Bool.and_eq_true] at h
      exact snd_sl hx (sndE a h.1.1 hx tk) (sndP lo h.1.2 hx tk) (sndP hi h.2 hx tk)
    · cases h
  | .rev a k, M, X, B, W, e, h, hx, tk => by
    unfold mE at h
    split at h
    · simp only [Bool.and_eq_true] at h
      exact snd_rev hx (sndE a h.1 hx tk) (sndP k h.2 hx tk)
    · cases h
  | .call x r es, M, X, B, W, e, h, hx, tk => by
    unfold mE at h
    split at h
    · rename_i y p args pos
      simp only [Bool.and_eq_true] at h
      obtain ⟨⟨⟨⟨h1, h2⟩, h3⟩, h4⟩, h5⟩ := h
      have e1 := strB_eq h1
      subst e1
      have h6 := sndEs es h4 hx tk
      have h7 := plains_mEs es h4
      cases args with
      | nil => cases h5
      | cons a args => exact snd_call hx tk h2 h3 h7 h6
    · cases h
  | .meth m r o es, M, X, B, W, e, h, hx, tk => by
    unfold mE at h
    split at h
    · rename_i o' m' ap args p
      simp only [Bool.and_eq_true] at h
      obtain ⟨⟨⟨⟨⟨h1, h2⟩, h3⟩, h4⟩, h5⟩, h6⟩ := h
      have e1 := strB_eq h1
      subst e1
      have h8 := sndE o h2 hx tk
      have h9 := sndEs es h4 hx tk
      have h7 := plains_mEs es h4
      cases args with
      | nil =>
        cases es with
        | nil => exact snd_meth0 hx tk h3 h6 h8
        | cons a r => unfold mEs at h4; cases h4
      | cons a args => exact snd_meth hx tk h3 (of_decide_eq_true h5) h6 h7 h8 h9
    · cases h
  | .mk x r es, M, X, B, W, e, h, hx, tk => by
    unfold mE at h
    split at h
    · rename_i y p args pos
      simp only [Bool.and_eq_true] at h
      obtain ⟨⟨⟨h1, h2⟩, h3⟩, h4⟩ := h
      have e1 := strB_eq h1
      subst e1
      have h6 := sndEs es h4 hx tk
      have h7 := plains_mEs es h4
      cases args with
      | nil =>
        cases es with
        | nil => exact snd_mk0 hx h2 h3
        | cons a r => unfold mEs at h4; cases h4
      | cons a args => exact snd_mk hx h2 h3 h7 h6
    · cases h
  | .bi b es, M, X, B, W, e, h, hx, tk => by
    unfold mE at h
    split at h
    · rename_i y p args pos
      simp only [Bool.and_eq_true] at h
      obtain ⟨⟨⟨⟨h1, h2⟩, h3⟩, h4⟩, h5⟩ := h
      have e1 := strB_eq h1
      subst e1
      have h6 := sndEs es h4 hx tk
      have h7 := plains_mEs es h4
      cases args with
      | nil => cases h5
      | cons a args => exact snd_bi hx ga h2 h3 h7 h6
    · cases h
  | .bm .append o es, M, X, B, W, e, h, hx, tk => by
    unfold mE at h
    split at h
    · rename_i o' m' ap args p
      simp only [Bool.and_eq_true] at h
      obtain ⟨⟨⟨⟨⟨h1, h2⟩, h3⟩, h4⟩, h5⟩, h6⟩ := h
      have e1 := strB_eq h1
      subst e1
      exact snd_bmG (b := .append) (fun z => nomatch z) (fun z => nomatch z) hx h4 (of_decide_eq_true h5) h3 h6 (sndE o h2 hx tk) (sndEs es h4 hx tk)
    · cases h
  | .bm .pop o es, M, X, B, W, e, h, hx, tk => by
    unfold mE at h
    split at h
    · rename_i o' m' ap args p
      simp only [Bool.and_eq_true] at h
      obtain ⟨⟨⟨⟨⟨h1, h2⟩, h3⟩, h4⟩, h5⟩, h6⟩ := h
      have e1 := strB_eq h1
      subst e1
      exact snd_bmG (b := .pop) (fun z => nomatch z) (fun z => nomatch z) hx h4 (of_decide_eq_true h5) h3 h6 (sndE o h2 hx tk) (sndEs es h4 hx tk)
    · cases h
  | .bm .clear o es, M, X, B, W, e, h, hx, tk => by
    unfold mE at h
    split at h
    · rename_i o' m' ap args p
      simp only [Bool.and_eq_true] at h
      obtain ⟨⟨⟨⟨⟨h1, h2⟩, h3⟩, h4⟩, h5⟩, h6⟩ := h
      have e1 := strB_eq h1
      subst e1
      exact snd_bmG (b := .clear) (fun z => nomatch z) (fun z => nomatch z) hx h4 (of_decide_eq_true h5) h3 h6 (sndE o h2 hx tk) (sndEs es h4 hx tk)
    · cases h
  | .bm .index o es, M, X, B, W, e, h, hx, tk => by
    unfold mE at h
    split at h
    · rename_i o' m' ap args p
      simp only [Bool.and_eq_true] at h
      obtain ⟨⟨⟨⟨⟨h1, h2⟩, h3⟩, h4⟩, h5⟩, h6⟩ := h
      have e1 := strB_eq h1
      subst e1
      exact snd_bmG (b := .index) (fun z => nomatch z) (fun z => nomatch z) hx h4 (of_decide_eq_true h5) h3 h6 (sndE o h2 hx tk) (sndEs es h4 hx tk)
    · cases h
  | .bm .count o es, M, X, B, W, e, h, hx, tk => by
    unfold mE at h
    split at h
    · rename_i o' m' ap args p
      simp only [Bool.and_eq_true] at h
      obtain ⟨⟨⟨⟨⟨h1, h2⟩, h3⟩, h4⟩, h5⟩, h6⟩ := h
      have e1 := strB_eq h1
      subst e1
      exact snd_bmG (b := .count) (fun z => nomatch z) (fun z => nomatch z) hx h4 (of_decide_eq_true h5) h3 h6 (sndE o h2 hx tk) (sndEs es h4 hx tk)
    · cases h
  | .bm .join o es, M, X, B, W, e, h, hx, tk => by
    unfold mE at h
    split at h
    · rename_i o' m' ap args p
      simp only [Bool.and_eq_true] at h
      obtain ⟨⟨⟨⟨⟨h1, h2⟩, h3⟩, h4⟩, h5⟩, h6⟩ := h
      have e1 := strB_eq h1
      subst e1
      exact snd_bmG (b := .join) (fun z => nomatch z) (fun z => nomatch z) hx h4 (of_decide_eq_true h5) h3 h6 (sndE o h2 hx tk) (sndEs es h4 hx tk)
    · cases h
  | .bm .split o es, M, X, B, W, e, h, hx, tk => by
    unfold mE at h
    split at h
    · rename_i o' m' ap args p
      simp only [Bool.and_eq_true] at h
      obtain ⟨⟨⟨⟨⟨h1, h2⟩, h3⟩, h4⟩, h5⟩, h6⟩ := h
      have e1 := strB_eq h1
      subst e1
      exact snd_bmG (b := .split) (fun z => nomatch z) (fun z => nomatch z) hx h4 (of_decide_eq_true h5) h3 h6 (sndE o h2 hx tk) (sndEs es h4 hx tk)
    · cases h
  | .bm .partition o es, M, X, B, W, e, h, hx, tk => by
    unfold mE at h
    split at h
    · rename_i o' m' ap args p
      simp only [Bool.and_eq_true] at h
      obtain ⟨⟨⟨⟨⟨h1, h2⟩, h3⟩, h4⟩, h5⟩, h6⟩ := h
      have e1 := strB_eq h1
      subst e1
      exact snd_bmG (b := .partition) (fun z => nomatch z) (fun z => nomatch z) hx h4 (of_decide_eq_true h5) h3 h6 (sndE o h2 hx tk) (sndEs es h4 hx tk)
    · cases h
  | .bm .get o (.cons a (.cons b .nil)), M, X, B, W, e, h, hx, tk => by
    unfold mE at h
    split at h
    · rename_i o' m' ap args p
      simp only [Bool.and_eq_true] at h
      obtain ⟨⟨⟨⟨⟨h1, h2⟩, h3⟩, h4⟩, h5⟩, h6⟩ := h
      have e1 := strB_eq h1
      subst e1
      rcases args with _ | ⟨x, _ | ⟨y, _ | ⟨z, t⟩⟩⟩
      · simp [mEs] at h4
      · simp [mEs] at h4
      · simp only [mEs, Bool.and_eq_true] at h4
        exact snd_get hx h3 h6 (plain_mE a h4.1) (plain_mE b h4.2.1) (sndE o h2 hx tk) (sndE a h4.1 hx tk) (sndE b h4.2.1 hx tk)
      · simp [mEs] at h4
    · cases h
  | .bm .dpop o (.cons a .nil), M, X, B, W, e, h, hx, tk => by
    unfold mE at h
    split at h
    · rename_i o' m' ap args p
      simp only [Bool.and_eq_true] at h
      obtain ⟨⟨⟨⟨⟨h1, h2⟩, h3⟩, h4⟩, h5⟩, h6⟩ := h
      have e1 := strB_eq h1
      subst e1
      rcases args with _ | ⟨x, _ | ⟨z, t⟩⟩
      · simp [mEs] at h4
      · simp only [mEs, Bool.and_eq_true] at h4
        exact snd_dpop hx h3 h6 (plain_mE a h4.1) (sndE o h2 hx tk) (sndE a h4.1 hx tk)
      · simp [mEs] at h4
    · cases h
  | .bm .get o .nil, M, X, B, W, e, h, hx, tk => by
    unfold mE at h
    split at h
    · rename_i o' m' ap args p
      simp only [Bool.and_eq_true] at h
      have h5 := of_decide_eq_true h.1.2
      have h6 := mEs_len h.1.1.2
      rw [h5] at h6
      simp [Es.len, Bm.arity] at h6
    · cases h
  | .bm .get o (.cons a .nil), M, X, B, W, e, h, hx, tk => by
    unfold mE at h
    split at h
    · rename_i o' m' ap args p
      simp only [Bool.and_eq_true] at h
      have h5 := of_decide_eq_true h.1.2
      have h6 := mEs_len h.1.1.2
      rw [h5] at h6
      simp [Es.len, Bm.arity] at h6
    · cases h
  | .bm .get o (.cons a (.cons b (.cons c r))), M, X, B, W, e, h, hx, tk => by
    unfold mE at h
    split at h
    · rename_i o' m' ap args p
      simp only [Bool.and_eq_true] at h
      have h5 := of_decide_eq_true h.1.2
      have h6 := mEs_len h.1.1.2
      rw [h5] at h6
      simp [Es.len, Bm.arity] at h6
    · cases h
  | .bm .dpop o .nil, M, X, B, W, e, h, hx, tk => by
    unfold mE at h
    split at h
    · rename_i o' m' ap args p
      simp only [Bool.and_eq_true] at h
      have h5 := of_decide_eq_true h.1.2
      have h6 := mEs_len h.1.1.2
      rw [h5] at h6
      simp [Es.len, Bm.arity] at h6
    · cases h
  | .bm .dpop o (.cons a (.cons b r)), M, X, B, W, e, h, hx, tk => by
    unfold mE at h
    split at h
    · rename_i o' m' ap args p
      simp only [Bool.and_eq_true] at h
      have h5 := of_decide_eq_true h.1.2
      have h6 := mEs_len h.1.1.2
      rw [h5] at h6
      simp [Es.len, Bm.arity] at h6
    · cases h
  | .isi x r a, M, X, B, W, e, h, hx, tk => by
    unfold mE at h
    split at h
    · simp only [Bool.and_eq_true] at h
      obtain ⟨⟨⟨⟨⟨h1, h2⟩, h3⟩, h4⟩, h5⟩, h6⟩ := h
      have e1 := strB_eq h1
      subst e1
      have e2 := strB_eq h3
      subst e2
      exact snd_isi hx ga h2 h4 h5 (plain_mE a h6) (sndE a h6 hx tk)
    · cases h
  | .isiT cs a, M, X, B, W, e, h, hx, tk => by
    unfold mE at h
    split at h
    · simp only [Bool.and_eq_true] at h
      obtain ⟨⟨⟨h1, h2⟩, h3⟩, h4⟩ := h
      have e1 := strB_eq h1
      subst e1
      exact snd_isiT hx ga h2 h3 (plain_mE a h4) (sndE a h4 hx tk)
    · cases h
  | .fld f r o, M, X, B, W, e, h, hx, tk => by
    unfold mE at h
    split at h
    · simp only [Bool.and_eq_true] at h
      obtain ⟨⟨h1, h2⟩, h3⟩ := h
      have e1 := strB_eq h1
      subst e1
      exact snd_fld hx h3 (sndE o h2 hx tk)
    · cases h
  | .lc m elt t it cond, M, X, B, W, e, h, hx, tk => by
    unfold mE at h
    split at h
    · simp only [Bool.and_eq_true] at h
      obtain ⟨⟨⟨⟨⟨⟨h1, h2⟩, h3⟩, h4⟩, h5⟩, h6⟩, h7⟩ := h
      have i1 := sndIt it h3 h2 hx tk
      exact snd_lc hx h1 (fun x => plain_mIt it h3 x) i1 (fun X' hx' => pg_x h4 hx') (fun X' hx' => pts_dT fun C => sndCs cond h5 (of_decide_eq_true h6) hx' takes_no) (fun X' hx' => pe_x fun C => sndE elt h7 hx' takes_no)
    · cases h
  | .lcK m elt t d cond, M, X, B, W, e, h, hx, tk => by
    unfold mE at h
    split at h
    · simp only [Bool.and_eq_true] at h
      obtain ⟨⟨⟨⟨⟨h1, h3⟩, h4⟩, h5⟩, h6⟩, h7⟩ := h
      exact snd_lcK hx h1 (fun x => noset_plain (plain_mE d h3) _ x) (sndE d h3 hx takes_no) (fun X' hx' => pg_x h4 hx') (fun X' hx' => pts_dT fun C => sndCs cond h5 (of_decide_eq_true h6) hx' takes_no) (fun X' hx' => pe_x fun C => sndE elt h7 hx' takes_no)
    · cases h
  | .frz a, M, X, B, W, e, h, hx, tk => by
    unfold mE at h
    exact snd_frz (sndE a h hx tk)
theorem sndEs : ∀ (es : Es Γ) {M : Mc} {X : Cx} {B : Bs} {W : XS} {vs : List Expr}, mEs M es vs = true → CxOk Γ M X → Takes X (liftW Γ.K B W) → PA X vs (dA Γ.K B (wpEs W es))
  | .nil, M, X, B, W, vs, h, hx, tk => by
    unfold mEs at h
    cases vs with
    | nil => exact snd_pa_nil
    | cons a r => cases h
  | .cons a r, M, X, B, W, vs, h, hx, tk => by
    unfold mEs at h
    split at h
    · simp only [Bool.and_eq_true] at h
      exact snd_pa_cons (plain_mE a h.1) (sndE a h.1 hx tk) (sndEs r h.2 hx tk)
    · cases h
theorem sndP : ∀ (es : Es Γ) {M : Mc} {X : Cx} {B : Bs} {W : XS} {o : Option Expr}, mP M es o = true → CxOk Γ M X → Takes X (liftW Γ.K B W) → PO X o (dO Γ.K B (wpP W es))
  | .nil, M, X, B, W, o, h, hx, tk => by
    unfold mP at h
    cases o with
    | none => exact snd_po_nil
    | some a => cases h
  | .cons a r, M, X, B, W, o, h, hx, tk => by
    unfold mP at h
    split at h
    · exact snd_po_some (sndE a h hx tk)
    · cases h
theorem sndBl : ∀ (es : Es Γ) {M : Mc} {X : Cx} {B : Bs} {W : XS} {op : BoolOp} {vs : List Expr} {pos : Pos}, mEs M es vs = true → CxOk Γ M X → Takes X (liftW Γ.K B W) → 1 ≤ vs.length → PE X (.BoolOp op vs pos) (dV Γ.K B (wpBl W op es))
  | .nil, M, X, B, W, op, vs, pos, h, hx, tk, hl => by
    unfold mEs at h
    cases vs with
    | nil => cases hl
    | cons a r => cases h
  | .cons a .nil, M, X, B, W, op, vs, pos, h, hx, tk, hl => by
    unfold mEs at h
    split at h
    · rename_i e rest
      simp only [Bool.and_eq_true] at h
      obtain ⟨h1, h2⟩ := h
      unfold mEs at h2
      cases rest with
      | nil => exact snd_bool1 (sndE a h1 hx tk)
      | cons _ _ => cases h2
    · cases h
  | .cons a (.cons b r), M, X, B, W, op, vs, pos, h, hx, tk, hl => by
    unfold mEs at h
    split at h
    · rename_i e rest
      simp only [Bool.and_eq_true] at h
      obtain ⟨h1, h2⟩ := h
      cases rest with
      | nil => unfold mEs at h2; cases h2
      | cons m rest => exact snd_bool (sndE a h1 hx tk) (sndBl (.cons b r) h2 hx tk (by simp))
    · cases h
theorem sndT : ∀ (t : T Γ) {M : Mc} {X : Cx} {B : Bs} {W : XS} {e : Expr}, mT M t e = true → CxOk Γ M X → Takes X (liftW Γ.K B W) → PT X e (dT Γ.K B (wpT W t))
  | .val a, M, X, B, W, e, h, hx, tk => by
    unfold mT at h
    simp only [Bool.and_eq_true] at h
    exact snd_t_val hx h.1 (sndE a h.2 hx tk)
  | .cmp op a b, M, X, B, W, e, h, hx, tk => by
    unfold mT at h
    split at h
    · simp only [Bool.and_eq_true] at h
      obtain ⟨⟨h1, h2⟩, h3⟩ := h
      have e1 := of_decide_eq_true h1
      subst e1
      exact snd_t_cmp hx (plain_mE b h3) (sndE a h2 hx tk) (sndE b h3 hx tk)
    · cases h
  | .chain op op2 a b c, M, X, B, W, e, h, hx, tk => by
    unfold mT at h
    split at h
    · simp only [Bool.and_eq_true] at h
      obtain ⟨⟨⟨⟨h1, h2⟩, h3⟩, h4⟩, h5⟩ := h
      have e1 := of_decide_eq_true h1
      subst e1
      have e2 := of_decide_eq_true h2
      subst e2
      exact snd_t_chain hx (plain_mE c h5) (sndE a h3 hx tk) (sndE b h4 hx tk) (sndE c h5 hx tk)
    · cases h
  | .cmpD a b, M, X, B, W, e, h, hx, tk => by
    unfold mT at h
    split at h
    · simp only [Bool.and_eq_true] at h
      obtain ⟨⟨h1, h2⟩, h3⟩ := h
      have e1 := of_decide_eq_true h1
      subst e1
      exact snd_t_cmpD hx (plain_mE b h3) (sndE a h2 hx tk) (sndE b h3 hx tk)
    · cases h
  | .not a, M, X, B, W, e, h, hx, tk => by
    unfold mT at h
    split at h
    · exact snd_t_not (sndT a h hx tk)
    · cases h
  | .bool op ts, M, X, B, W, e, h, hx, tk => by
    unfold mT at h
    split at h
    · simp only [Bool.and_eq_true] at h
      obtain ⟨⟨h1, h2⟩, h3⟩ := h
      have e1 := of_decide_eq_true h1
      subst e1
      exact (sndTs ts h2 hx tk (of_decide_eq_true h3)).pt
    · cases h
theorem sndTs : ∀ (ts : Ts Γ) {M : Mc} {X : Cx} {B : Bs} {W : XS} {op : BoolOp} {vs : List Expr} {pos : Pos}, mTs M ts vs = true → CxOk Γ M X → Takes X (liftW Γ.K B W) → 1 ≤ vs.length → PW X (.BoolOp op vs pos) (dT Γ.K B (wpTs W op ts))
  | .nil, M, X, B, W, op, vs, pos, h, hx, tk, hl => by
    unfold mTs at h
    cases vs with
    | nil => cases hl
    | cons a r => cases h
  | .cons a .nil, M, X, B, W, op, vs, pos, h, hx, tk, hl => by
    unfold mTs at h
    split at h
    · rename_i e rest
      simp only [Bool.and_eq_true] at h
      obtain ⟨h1, h2⟩ := h
      unfold mTs at h2
      cases rest with
      | nil => exact snd_w1 (sndT a h1 hx tk)
      | cons _ _ => cases h2
    · cases h
  | .cons a (.cons b r), M, X, B, W, op, vs, pos, h, hx, tk, hl => by
    unfold mTs at h
    split at h
    · rename_i e rest
      simp only [Bool.and_eq_true] at h
      obtain ⟨h1, h2⟩ := h
      cases rest with
      | nil => unfold mTs at h2; cases h2
      | cons m rest => exact snd_w (sndT a h1 hx tk) (sndTs (.cons b r) h2 hx tk (by simp))
    · cases h
theorem sndCs : ∀ (ts : Ts Γ) {M : Mc} {X : Cx} {B : Bs} {W : XS} {ifs : List Expr}, mTs M ts ifs = true → ifs.length ≤ 1 → CxOk Γ M X → Takes X (liftW Γ.K B W) → PTs X ifs (dT Γ.K B (wpCs W ts))
  | .nil, M, X, B, W, ifs, h, hl, hx, tk => by
    unfold mTs at h
    cases ifs with
    | nil => exact snd_cs_nil
    | cons a r => cases h
  | .cons a r, M, X, B, W, ifs, h, hl, hx, tk => by
    unfold mTs at h
    split at h
    · rename_i e rest
      simp only [Bool.and_eq_true] at h
      cases rest with
      | nil => exact pts_one (sndT a h.1 hx tk)
      | cons _ _ => simp at hl
    · cases h
theorem sndIt : ∀ (it : Bv.It Γ) {M : Mc} {X : Cx} {B : Bs} {W : XS} {tg e : Expr}, mIt M it e = true → tgB it tg = true → CxOk Γ M X → Takes X (liftW Γ.K B W) → PI X tg e (dI B W it)
  | .lst a, M, X, B, W, tg, e, h, ht, hx, tk => by
    unfold mIt at h
    exact snd_it_lst hx (sndE a h hx tk)
  | .tupl a, M, X, B, W, tg, e, h, ht, hx, tk => by
    unfold mIt at h
    exact snd_it_tup hx (sndE a h hx tk)
  | .str a, M, X, B, W, tg, e, h, ht, hx, tk => by
    unfold mIt at h
    exact snd_it_str (sndE a h hx tk)
  | .rng1 a, M, X, B, W, tg, e, h, ht, hx, tk => by
    unfold mIt at h
    split at h
    · simp only [Bool.and_eq_true] at h
      obtain ⟨⟨h1, h2⟩, h3⟩ := h
      have e1 := strB_eq h1
      subst e1
      exact snd_it_rng1 hx ga h2 (plain_mE a h3) (sndE a h3 hx tk)
    · cases h
  | .rng2 a b, M, X, B, W, tg, e, h, ht, hx, tk => by
    unfold mIt at h
    split at h
    · simp only [Bool.and_eq_true] at h
      obtain ⟨⟨⟨h1, h2⟩, h3⟩, h4⟩ := h
      have e1 := strB_eq h1
      subst e1
      exact snd_it_rng2 hx ga h2 (plain_mE a h3) (plain_mE b h4) (sndE a h3 hx tk) (sndE b h4 hx tk)
    · cases h
  | .zip2 a b, M, X, B, W, tg, e, h, ht, hx, tk => by
    unfold mIt at h
    split at h
    · simp only [Bool.and_eq_true] at h
      obtain ⟨⟨⟨h1, h2⟩, h3⟩, h4⟩ := h
      have e1 := strB_eq h1
      subst e1
      unfold tgB at ht
      simp only at ht
      split at ht
      · exact snd_it_zip hx ga h2 (plain_mE a h3) (plain_mE b h4) (sndE a h3 hx tk) (sndE b h4 hx tk)
      · cases ht
    · cases h
  | .enum a, M, X, B, W, tg, e, h, ht, hx, tk => by
    unfold mIt at h
    split at h
    · simp only [Bool.and_eq_true] at h
      obtain ⟨⟨h1, h2⟩, h3⟩ := h
      have e1 := strB_eq h1
      subst e1
      unfold tgB at ht
      simp only at ht
      split at ht
      · exact snd_it_enum hx ga h2 (plain_mE a h3) (sndE a h3 hx tk)
      · cases ht
    · cases h
end
end
end Bv

/-! An except clause that keeps the exception; an own error raised with any text. -/
namespace Bv
open PySem PySem.Spec L2 PyProof.Rows
section
variable {X : Cx} {pins : List (Addr × Obj)} {σ : L2.St} {H : Hp} {sI s s' : Shared} {B : Heap}
/-- back on the ground: the exception's own object is told, too -/
theorem landedX {a : Addr} {o : HO} (I : Inv X pins σ H sI) (nb : ∀ b o, sI.heap.get? b = some o → b ∉ frs X.stack → B.get? b = some o) (st : B.StaysIn s'.heap) (up : sI.heap.UpToSlots s'.heap) (os : s'.os = sI.os) (ag : AllBare s'.gens)
    (hp : sI.heap.get? a = none) (hn : H a = none) (new : ObjOk X.prog X.w (upd H a o) s'.heap a o) : Inv X pins σ (upd H a o) s' := by
  have nf : ∀ b ∈ frs X.stack, ∀ o, sI.heap.get? b = some o → ∃ sl, s'.heap.get? b = some { o with slots := sl } := fun b hb o e => by
    obtain ⟨_, o', e', hd⟩ := I.stack.mem hb
    rw [e] at e'; cases e'
    exact up b o e hd
  have J := I.call (ch := []) (h' := s'.heap) (g' := s'.gens) (t' := s'.toks) (d' := s'.drawn) (H' := upd H a o)
    ⟨fun b o e _ hb _ => st b o (nb b o e hb), fun b o e _ hb _ => nf b hb o e, fun b u q n _ => by rw [upd_ne (fun z => by rw [z, hp] at q; cases q)]; exact n, fun b o e _ => by
      by_cases hb : b ∈ frs X.stack
      · obtain ⟨sl, q⟩ := nf b hb o e
        exact ⟨_, q⟩
      · exact ⟨o, st b o (nb b o e hb)⟩, fun b xs q => by rw [upd_ne (ne_of_none q hn)]; exact q, fun b u xs q => by rw [upd_ne (ne_of_none q hn)]; exact q, fun b ps q => ⟨#[], by rw [upd_ne (ne_of_none q hn), q]; simp⟩⟩
    (HOk.laidN ((I.inGround nb).kept st) (fun _ _ e => e) hn new) ag (fun _ z => nomatch z)
  obtain ⟨a1, a2, a3, a4, a5⟩ := s'
  have e5 : a5 = sI.os := os
  subst e5
  exact J
theorem toSuite (I : Inv X pins σ H s) {a : Addr} : Inv (X.suite a (X.pn ++ pins)) [] σ H s :=
  ⟨I.ok.suite _ _, I.os, I.bare, I.base, I.loc, I.cell, I.free, I.freeC, fun p hp => I.pin p (by rw [List.append_nil] at hp; exact hp), I.hok, I.len⟩
theorem ofSuite {a : Addr} (I : Inv (X.suite a (X.pn ++ pins)) [] σ H s) (ok : X.Ok) : Inv X pins σ H s :=
  ⟨ok, I.os, I.bare, I.base, I.loc, I.cell, I.free, I.freeC, fun p hp => I.pin p (by rw [List.append_nil]; exact hp), I.hok, I.len⟩
end
/-- what the clause 'except x as n: z = n' wishes of an exception of the body -/
def wK (K : PySem.W.Frag) (c : Value) (i j : Nat) (Wout : WX) (D : Ends) : WX := fun cls d σ H =>
  ∃ b, PySem.W.exmOne K cls c = some b ∧ (b = true → ∀ a, H a = none → D.nx ((σ.set j (some (.ref a))).set i none) (upd H a (ExG cls d a))) ∧ (b = false → Wout cls d σ H)
section
variable {X : Cx} {x n z : Str} {c : Value} {i j : Nat} {body : List Stmt} {np zp np2 ap pos pos' : Pos} {tb : WX → TS} {Wout : WX}
theorem ps_tryK (hs : X.stack = X.env :: X.outer) (hf : X.env.frame = some X.env.locals) (hN : X.N.Nodup) (hi : X.N[i]? = some n) (hj : X.N[j]? = some z) (hij : i ≠ j) (hln : X.env.kindOf n = some .local) (hlz : X.env.kindOf z = some .local)
    (hd1 : (n == ("__debug__" : Str)) = false) (hd2 : (n == ("__classdict__" : Str)) = false) (hc : Names X x c) (tk : Takes X Wout)
    (hb : ∀ (W : WX) (pn : List (Addr × Obj)) (xe : Value → Shared → Prop), Takes (X.tr pn xe) W → PassesOwn (model X.prog X.w) X.A X.env xe → PSs (X.tr pn xe) body (tb W)) :
    PS X (.Try body [.ExceptHandler (some (.Name x np)) (some n) [.Assign [.Name z zp] (.Name n np2) ap] pos'] [] [] pos) (fun D σ H => tb (wK X.K c i j Wout D) D σ H) := by
  refine ⟨fun pins s σ H D I h => ?_⟩
  have ok := I.ok
  have hfr : X.A.frames = some (X.env :: X.outer) := by rw [ok.frames, hs]
  have hloc : Loc X.env.scope n := .inl hln
  refine wpAny_Try_except ?_
  refine wpAny_mono ((hb (wK X.K c i j Wout D) (X.pn ++ pins) (fun e s₁ => wpAny (model X.prog X.w) X.A (noteFrame e X.env) (fun _ s₂ => wpAny (model X.prog X.w) X.A (setFlight e none) (fun _ s₃ =>
    wpAny (model X.prog X.w) X.A (handleBy e X.env [.ExceptHandler (some (.Name x np)) (some n) [.Assign [.Name z zp] (.Name n np2) ap] pos']) (SP X pins D) X.xe s₃) X.xe s₂) X.xe s₁) (fun u s' xx => ?_) PassesOwn.looking).run [] s σ H D (I.toTry _) h) (fun f s1 hsp => ?_) (fun e s1 he => he)
  · -- the catch
    obtain ⟨a, B, sI, pins', σ', H', cls, d, rfl, J', nb, up, sky, na, os, ag, b, hb1, hyes, hno⟩ := xx
    have J : Inv X pins σ' H' sI := J'.ofTry ok
    have sky' : Sky B (X.env :: X.outer) a (Zc cls d) X.env.locals s'.heap := by rw [← hs]; exact sky
    show wpAny (model X.prog X.w) X.A (noteFrame (.ref a) X.env) _ _ _
    refine Sky.land Zc.steady hfr hf sky' fun h3 fl3 up3 => ?_
    have J3 : Inv X pins σ' H' { s' with heap := h3 } := J.landed nb fl3.1 (up.trans up3) os ag
    obtain ⟨oe3, vs3, he3, hz3, hd3⟩ := fl3.there
    have notFr : ∀ {h : Heap} {o : Obj} {vs : Array Value}, h.FunFrames B (X.env :: X.outer) → h.get? a = some o → o.data = .fields vs → a ∉ frs (X.env :: X.outer) := fun {h o vs} ff e dd hm => by
      obtain ⟨_, o', e', hnf⟩ := ff.mem hm
      rw [e] at e'; cases e'
      exact hnf _ dd
    have nfr := notFr fl3.2.2.1 he3 hd3
    have nL : a ≠ X.env.locals := fun z => nfr (List.mem_filterMap.mpr ⟨X.env, List.mem_cons_self, by rw [hf, z]⟩)
    have nF : a ∉ X.fs := fun hm => by
      obtain ⟨e, he, q⟩ := List.mem_filterMap.mp hm
      exact nfr (List.mem_filterMap.mpr ⟨e, List.mem_cons_of_mem _ he, q⟩)
    have S3 := J3.suite he3 hd3 na nL nF
    refine wpAny_handleBy_cons (codeAny_handlers_test ?_) (by intro q; cases q)
    have LT : PySem.W.Looks (model X.prog X.w) h3 (typeOf (.ref a)) cls := fun A Q E s k q => wpAny_typeOf_ref (k _ _ he3) (by rw [hz3.1]; exact q)
    have LM := PySem.W.exm_one (M := model X.prog X.w) (J3.kIn) LT hb1
    have test : ∀ {Q : Value → Shared → Prop} {E : Value → Shared → Prop}, Q c { s' with heap := h3 } → wpAny (model X.prog X.w) (X.A.mark (some (.ref a))) (eval (.Name x np) X.env) Q E { s' with heap := h3 } := fun {Q E} q => by
      obtain ⟨hg, hdbg, hm | ⟨hm, hv, hnn⟩⟩ := hc
      · exact ld_glob (X := X.suite a ((a, oe3) :: (X.pn ++ pins))) S3 hg hm q hdbg
      · exact ld_blt (X := X.suite a ((a, oe3) :: (X.pn ++ pins))) S3 hg hm hv q hnn hdbg
    refine test (LM.here ?_)
    cases b with
    | true =>
      refine codeAny_handlers_suite_as ?_
      refine HandSPX.lands_againZ fl3 fun h4 fl4 up4 => ?_
      have J4 : Inv X pins σ' H' { s' with heap := h4 } := J.landed nb fl4.1 ((up.trans up3).trans up4) os ag
      obtain ⟨oe4, vs4, he4, hz4, hd4⟩ := fl4.there
      have nI : sI.heap.get? a = none := by
        cases e : sI.heap.get? a with
        | none => rfl
        | some o =>
          have q := nb a o e (by rw [hs]; exact notFr fl4.2.2.1 he4 hd4)
          rw [fl4.2.1] at q
          cases q
      have new : ObjOk X.prog X.w (upd H' a (ExG cls d a)) h4 a (ExG cls d a) := ⟨⟨oe4, vs4, he4, hz4, hd4⟩, ⟨oe4, he4⟩, fun h1 h2 ⟨o, vs, q1, q2, q3⟩ k => ⟨o, vs, k o q1, q2, q3⟩⟩
      have JX : Inv X pins σ' (upd H' a (ExG cls d a)) { s' with heap := h4 } := landedX J nb fl4.1 ((up.trans up3).trans up4) os ag nI na new
      refine store_ok (X := X) (v := .ref a) JX hN hi hloc rfl (fun s5 J5 => ?_) (.inr hln)
      have S5 := toSuite J5 (a := a)
      have hli : i < σ'.length := by rw [J'.len]; exact (List.getElem?_eq_some_iff.mp hi).1
      have PA1 : PSs (X.suite a (X.pn ++ pins)) [.Assign [.Name z zp] (.Name n np2) ap] (tAsg (tVar i) (gName j)) :=
        pss_one (ps_set (X := X.suite a (X.pn ++ pins)) hN hj (.inl hlz) (pe_var (X := X.suite a (X.pn ++ pins)) hi (.inl hln) hd1 hd2) rfl (.inr hlz))
      refine wpAny_mono (PA1.run [] s5 _ _ { nx := fun σ6 H6 => σ6 = (σ'.set i (some (.ref a))).set j (some (.ref a)) ∧ H6 = upd H' a (ExG cls d a), rt := fun _ _ => False } S5 ⟨.ref a, List.getElem?_set_self hli, rfl, rfl⟩) (fun f s6 hsp => ?_) (fun _ _ z => False.elim z)
      cases f with
      | next =>
        obtain ⟨σ6, H6, S6, e6, e7⟩ := hsp
        subst e6 e7
        refine gone_ok (ofSuite S6 ok) hN hi hln fun s7 J7 => ⟨_, _, J7, ?_⟩
        have e8 : (((σ'.set i (some (V.ref a))).set j (some (.ref a))).set i none) = (σ'.set j (some (.ref a))).set i none := by
          rw [List.set_comm _ _ hij, List.set_set]
        rw [e8]
        exact hyes rfl a na
      | brk => obtain ⟨_, _, _, q⟩ := hsp; exact q.elim
      | cont => obtain ⟨_, _, _, q⟩ := hsp; exact q.elim
      | ret u => obtain ⟨_, _, _, _, _, q⟩ := hsp; exact q.elim
    | false =>
      show wpAny _ X.A (handleBy (.ref a) X.env []) _ _ _
      refine wpAny_handleBy_nil ?_
      obtain ⟨k1, k2, k3, oe, vs, T, oT, ts', he, hz, hd, h1, hr⟩ := id fl3
      unfold PySem.passOn
      refine wpAny_bind (wpAny_field he hd h1 ?_)
      rw [if_neg (show ¬ ((Value.ref T == Value.none) = true) from by simp)]
      have fin : wpAny (model X.prog X.w) X.A (setFlight (.ref a) X.env.frame) (fun _ s4 => wpAny (model X.prog X.w) X.A (throw (.ref a) : Sem Flow) (SP X pins D) X.xe s4) X.xe { s' with heap := h3 } := by
        rw [hf]
        refine HandSPX.setFlight_upZ fl3 fun h4 hh4 up4 => wpAny_throw (tk _ _ ?_)
        exact ⟨a, B, sI, pins, σ', H', cls, d, rfl, J, nb, (up.trans up3).trans up4, .inr (.inr (by rw [hs]; exact hh4)), na, os, ag, hno rfl⟩
      first
        | exact wpAny_bind (wpAny_pure (wpAny_bind fin))
        | exact wpAny_bind fin
  · cases f with
    | next =>
      obtain ⟨σ', H', J', q⟩ := hsp
      exact wpAny_execs_nil ⟨σ', H', J'.ofTry ok, q⟩
    | brk =>
      obtain ⟨σ', H', J', q⟩ := hsp
      exact ⟨σ', H', J'.ofTry ok, q⟩
    | cont =>
      obtain ⟨σ', H', J', q⟩ := hsp
      exact ⟨σ', H', J'.ofTry ok, q⟩
    | ret u =>
      obtain ⟨v, σ', H', J', r, q⟩ := hsp
      exact ⟨v, σ', H', J'.ofTry ok, r, q⟩
end
section
variable {X : Cx} {C : Addr} {bmB : List Value} {B newId initId : String}
/-- X(e) -/
theorem pmk_ownE {x : Str} {e : Expr} {te : TE} {p pos : Pos} (F : ExcBaseFacts B newId initId bmB) (q : PySem.W.excIn X.K C bmB newId = true) (gC : X.mg x = some (.ref C)) (kC : PySem.W.keepIn X.K (.ref C) = true) (r : Raises X (.ref C)) (hg : Gl X x)
    (hdb : (x == ("__debug__" : Str)) = false) (hp : plainB e = true) (he : PE X e te) : PMk X (.Call (.Name x p) [e] [] pos) (fun σ H Q => te σ H fun _ H1 => Q (.ref C) none H1) := by
  intro pins s σ H Q I h
  refine wpAny_Call_Name_kw (ld_glob I hg gC ?_ hdb)
  have ha : PA X [e] (tCons te tNil) := pa_cons he pa_nil (star_plain hp _ _)
  refine PySem.W.callWith_K (h₀ := X.base) I.ok.mod.kin kC (thn (ha.run pos pins s σ H (fun vs H1 => match vs with
    | [_] => Q (.ref C) none H1
    | _ => False) I h) fun us s1 hh => ?_) (star_plain hp _ _) rfl
  obtain ⟨vs, H1, I1, r1, hq⟩ := hh
  split at hq
  rotate_left
  · exact hq.elim
  refine ⟨I1.kIn, ?_⟩
  cases r1 with
  | cons ru rn =>
    rename_i u us'
    cases rn
    show wpAny _ _ (call (.ref C) [u]) _ _ _
    obtain ⟨bm, N, nm, qn, bs, hdct, sn, sub, ab, col, dd, k0, k1, k2, k3, k5, mN, hC, hN, hni, T⟩ := exc_obj I1.kIn q
    refine wpAny_call_exc_subT F T hC hN hni (fun h' e hm => ?_) (by show 1 ≤ sizeLine; rw [sizeLine_eq]; omega)
    exact mk_of I1 hm r hq (I1.hok.gone hm.new)
end
end Bv

/-! The tongue is true to the text: statements. -/
namespace Bv
open PySem L2 PyProof.Rows
structure SxOk (Γ : Amb) (M : Mc) (X : Cx) (B : Bs) (W : XS) : Prop where
  cx : CxOk Γ M X
  tk : Takes X (liftW Γ.K B W)
  pass : PassesOwn (model X.prog X.w) X.A X.env X.xe
  hs : X.stack = X.env :: X.outer
  hf : X.env.frame = some X.env.locals
def PostN (K : PySem.W.Frag) (B : Bs) (N : Hp) (Qn : St1 → MH → Prop) (nx : L2.St → Hp → Prop) : Prop := ∀ σ' τ' N' F' H', Same N N' → Ok K B N' F' H' → Sl K N' σ' τ' → Qn σ' F' → nx τ' H'
theorem PostN.mono {K : PySem.W.Frag} {B : Bs} {N N' : Hp} {Q0 : St1 → MH → Prop} {Q : L2.St → Hp → Prop} (e : Same N N') (h : PostN K B N Q0 Q) : PostN K B N' Q0 Q := fun b x N2 F2 H2 e2 => h b x N2 F2 H2 (e.trans e2)
def dS (K : PySem.W.Frag) (B : Bs) (w : St1 → MH → (St1 → MH → Prop) → Q1 → Prop) : TS := fun D τ H => ∃ N F σ Qn Qr, Ok K B N F H ∧ Sl K N σ τ ∧ w σ F Qn Qr ∧ PostN K B N Qn D.nx ∧ Post K B N Qr D.rt
/-! ### changes in place -/
def liftSet (K : PySem.W.Frag) : TSet := fun x y z H Q => ∃ B N F a b c Q0, Ok K B N F H ∧ Dv K N a x ∧ Dv K N b y ∧ Dv K N c z ∧ setS a b c F Q0 ∧ ∀ F' H', Ok K B N F' H' → Q0 F' → Q H'
theorem setS_cases {o i v : Val} {F : MH} {Q : MH → Prop} (h : setS o i v F Q) :
    (∃ p j vs n, o = .ref p ∧ i = .int j ∧ F p = some (.lst vs) ∧ ixN vs.length j = some n ∧ Q (mset F p (.lst (vs.set n v)))) ∨
    ∃ p k kvs, o = .ref p ∧ i = .str k ∧ F p = some (.dict kvs) ∧ kvs.length < sizeLine ∧ Q (mset F p (.dict (kput kvs k v))) := by
  cases o <;> first | exact (show False from h).elim | skip
  rename_i p
  cases i <;> first | exact (show False from h).elim | skip
  · rename_i j
    have h : (match F p with
      | some (.lst vs) => match ixN vs.length j with
        | some n => Q (mset F p (.lst (vs.set n v)))
        | none => False
      | _ => False) := h
    split at h
    · rename_i vs ec
      split at h
      · rename_i n en
        exact .inl ⟨p, j, vs, n, rfl, rfl, ec, en, h⟩
      · exact h.elim
    · exact h.elim
  · rename_i k
    have h : (match F p with
      | some (.dict kvs) => kvs.length < sizeLine ∧ Q (mset F p (.dict (kput kvs k v)))
      | _ => False) := h
    split at h
    · rename_i kvs ec
      exact .inr ⟨p, k, kvs, rfl, rfl, ec, h.1, h.2⟩
    · exact h.elim
section
variable {X : Cx}
theorem setS_ok (hu : X.A.units + 64 < cLine) : PSet X (liftSet X.K) := by
  intro pins s σ H x y z ov iv u Q I rx ry rz ⟨B, N, F, a, b, c, Q0, o, da, db, dc, w, post⟩
  rcases setS_cases w with ⟨p, j, vs, n, rfl, rfl, ec, en, q⟩ | ⟨p, k, kvs, rfl, rfl, ec, el, q⟩
  · cases da
    cases db
    obtain ⟨_, xs, hh, dd⟩ := o.cell p _ ec
    exact set_list pins s σ H _ _ _ ov iv u Q I rx ry rz ⟨p, xs, j, n, rfl, rfl, hh, by rw [← dd.length]; exact en, post _ _ (o.putL ec (dd.set dc n)) q⟩
  · cases da
    cases db
    obtain ⟨_, xs, hh, dd⟩ := o.cell p _ ec
    exact set_dict (by omega) pins s σ H _ _ _ ov iv u Q I rx ry rz ⟨p, _, rfl, .inl ⟨xs, Sum.inr k, hh, rfl, by rw [← dd.length]; exact el, rfl⟩, post _ _ (o.putD ec (Dkv.put dc dd)) q⟩
end
theorem Dfs.put {K : PySem.W.Frag} {N : Hp} {f : Str} {v : Val} {x : V} (d : Dv K N v x) : ∀ {fs : List (Str × Val)} {xs : List (Str × V)}, Dfs K N fs xs → Dfs K N (putV f v fs) (putF f x xs)
  | _, _, .nil => .cons ⟨rfl, d⟩ .nil
  | _, _, .cons (a := p) (b := q) h t => by
    obtain ⟨p1, p2⟩ := p
    obtain ⟨q1, q2⟩ := q
    obtain ⟨e, dd⟩ := h
    cases e
    show Dfs K N (if p1 = f then _ else _) (if p1 = f then _ else _)
    by_cases hp : p1 = f
    · rw [if_pos hp, if_pos hp]
      exact .cons ⟨rfl, d⟩ t
    · rw [if_neg hp, if_neg hp]
      exact .cons ⟨rfl, dd⟩ (Dfs.put d t)
/-! ### forms -/
theorem noswap {e : Expr} (h : isComp e = false) (t : Option Expr) (l : Nat) (env : Env) : swapsWith e t l env = pure false := by
  cases e <;> first | rfl | cases h
theorem noswap_cell {y : Str} {py : Pos} (e : Expr) {env : Env} (h : env.kindOf y = some .cell) (l : Nat) : swapsWith e (some (.Name y py)) l env = pure false := by
  cases e <;> first | rfl | (unfold swapsWith; have e0 : (NameKind.cell == NameKind.local) = false := rfl; simp [h, e0])
theorem fldswap (e : Expr) (o : Expr) (f : Str) (p : Pos) (l : Nat) (env : Env) : swapsWith e (some (.Attribute o f p)) l env = pure false := by
  cases e <;> rfl
theorem subswap (e : Expr) (o i : Expr) (p : Pos) (l : Nat) (env : Env) : swapsWith e (some (.Subscript o i p)) l env = pure false := by
  cases e <;> rfl
theorem nosto_name {x : Str} {p : Pos} (e : Expr) (env : Env) : swappedStores [.Name x p] e env = pure none := by
  cases e <;> rfl
theorem nosto_sub {o i : Expr} {p : Pos} (e : Expr) (env : Env) : swappedStores [.Subscript o i p] e env = pure none := by
  cases e <;> rfl
theorem nosto_tup {es : List Expr} {k : Nat} {p : Pos} {e : Expr} (h : isTup e = false) (env : Env) : swappedStores [.Tuple es k p] e env = pure none := by
  cases e <;> first | rfl | cases h
theorem sub_plain {i : Expr} (h : plainB i = true) (o : Expr) (pos : Pos) (env : Env) (v : Value) : assign (.Subscript o i pos) env v = (do
      let ov ← holding [v] (eval o env)
      let iv ← holding [v, ov] (eval i env)
      standAt pos
      holding [v, ov, iv] (setItem ov iv v)
      release [v, ov, iv] []) := by
  cases i <;> first | rfl | cases h
theorem par_sw {M : Mc} {X : Cx} {x y : Str} {px py pt pt2 : Pos} {kt k2 : Nat} {a b : Expr} (hs : X.env.scope = M.sc) (hk : X.env.scope.kind = .function) (h : parB M x y px py a b = true) :
    M.sc.names.lookup x = some .local ∧ M.sc.names.lookup y = some .local ∧ plainB a = true ∧ plainB b = true ∧ swappedStores [.Tuple [.Name x px, .Name y py] kt pt] (.Tuple [a, b] k2 pt2) X.env = pure (some [x, y]) := by
  unfold parB at h
  simp only [Bool.and_eq_true, Bool.not_eq_true'] at h
  obtain ⟨⟨⟨⟨⟨⟨⟨h1, h2⟩, h3⟩, h4⟩, h5⟩, h6⟩, h7⟩, h8⟩ := h
  have k1 : M.sc.names.lookup x = some .local := by simpa using h1
  have k2' : M.sc.names.lookup y = some .local := by simpa using h2
  refine ⟨k1, k2', h5, h6, ?_⟩
  have e1 : X.env.kindOf x = some .local := by show X.env.scope.names.lookup x = _; rw [hs]; exact k1
  have e2 : X.env.kindOf y = some .local := by show X.env.scope.names.lookup y = _; rw [hs]; exact k2'
  have eb : X.env.blockKind = .function := by unfold Env.blockKind; rw [hk]; rfl
  have hn : x ≠ y := by
    unfold strB at h3
    simpa using h3
  have hl : px.line = py.line := by simpa using h4
  unfold swappedStores
  have s1 : ([a, b].any fun | .Starred .. => true | _ => false) = false := by
    have : ∀ e : Expr, plainB e = true → (match e with | .Starred .. => true | _ => false) = false := fun e h => by cases e <;> first | rfl | cases h
    simp only [List.any_cons, List.any_nil, this a h5, this b h6]
    rfl
  have s2 : ([a, b].all (foldedForSure 8)) = false := by simpa [List.all_cons] using h7
  have s3 : ([a, b].all (constantsAlone 8)) = false := by simpa [List.all_cons] using h8
  have s4 : ([x, y].eraseDups.length != [x, y].length) = false := by
    have : (y == x) = false := by simpa using (Ne.symm hn)
    simp [List.eraseDups_cons, List.filter, this]
  simp only [s1, s2, s3, eb]
  simp [e1, e2, hl, List.filterMap, Expr.pos, s4]
  have c1 : ∀ e : Expr, plainB e = true → ¬ (match e with | .Starred .. => true | _ => false) = true := fun e h => by cases e <;> first | exact Bool.false_ne_true | cases h
  rw [if_neg (fun q => q.elim (c1 a h5) (c1 b h6)), if_pos (by simpa using s4)]
/-! ### a for, a while -/
section
variable {Γ : Amb} {B : Bs}
theorem for_obl {N1 : Hp} {F1 : MH} {H1 : Hp} {σ1 : St1} {τ1 : L2.St} {items : List Val} {g : MH → Prop} {J : L2.It} {t : Tg} {wb : St1 → MH → (St1 → MH → Prop) → Q1 → Prop} {Qn : St1 → MH → Prop} {Qr : Q1} {D : Ends}
    (o1 : Ok Γ.K B N1 F1 H1) (sl1 : Sl Γ.K N1 σ1 τ1) (tell : Tell Γ.K N1 items g J) (w : forGo g (fun x σ F2 k => bindT t x σ F2 fun σ' => wb σ' F2 k Qr) Qn items σ1 F1) (pn : PostN Γ.K B N1 Qn D.nx) (pr : Post Γ.K B N1 Qr D.rt) :
    ∃ W : Nat → Nat → L2.St → Hp → Prop, (∃ m, W 0 m τ1 H1) ∧ ∀ i m τ H, W i m τ H →
      (J.stop i H ∧ D.nx τ H) ∨ (J.go i H ∧ ∃ Nx : L2.St → Hp → Prop, (∀ τ' H', Nx τ' H' → ∃ m', m' < m ∧ W (i + 1) m' τ' H') ∧ ∀ x H', J.yld i H x H' → dG Γ.K t x τ H' fun τ2 H2 => dS Γ.K B wb { D with nx := Nx, ct := Nx, bk := D.nx } τ2 H2) := by
  let P : Nat → L2.St → Hp → Prop := fun i τ H => ∃ N F σ, Same N1 N ∧ Ok Γ.K B N F H ∧ Sl Γ.K N σ τ ∧ forGo g (fun x σ F2 k => bindT t x σ F2 fun σ' => wb σ' F2 k Qr) Qn (items.drop i) σ F
  refine ⟨fun i m τ H => m = items.length - i ∧ i ≤ items.length ∧ P i τ H, ⟨items.length, by simp, Nat.zero_le _, N1, F1, σ1, Same.refl _, o1, sl1, by simpa using w⟩, ?_⟩
  rintro i m0 τ H ⟨rfl, hi, N, F, σ, e, o, sl, w⟩
  by_cases hlt : i < items.length
  · right
    rw [List.drop_eq_getElem_cons hlt] at w
    unfold forGo at w
    obtain ⟨hg, w⟩ := w
    refine ⟨tell.go e o hg hlt, P (i + 1), fun τ' H' p' => ⟨items.length - (i + 1), by omega, rfl, hlt, p'⟩, fun x H' y => ?_⟩
    obtain ⟨N2, e2, o2, d2⟩ := tell.yld e o hg y _ (List.getElem?_eq_getElem hlt)
    refine ⟨B, N2, F, σ, _, _, o2, sl.mono e2, d2, w, fun σ' τ' sl' _ k => ?_⟩
    refine ⟨N2, F, σ', _, _, o2, sl', k, fun σ3 τ3 N3 F3 H3 e3 o3 sl3 q3 => ?_, pr.mono (e.trans e2)⟩
    exact ⟨N3, F3, σ3, (e.trans e2).trans e3, o3, sl3, q3⟩
  · left
    have ei : i = items.length := by omega
    subst ei
    rw [List.drop_length] at w
    unfold forGo at w
    exact ⟨tell.stop e o w.1, pn _ _ N F H e o sl w.2⟩
end
section
variable {Γ : Amb} {M : Mc} {X : Cx} {B : Bs} {W : XS}
theorem snd_asg {t : Tg} {c : E Γ} {tg e : Expr} {pos : Pos} (sx : SxOk Γ M X B W) (hg : mTg M t tg = true) (he : PE X e (dV Γ.K B (wpE W c))) (hs : swapsWithSole [tg] e pos.line X.env = pure false) (hw : swappedStores [tg] e X.env = pure none) (h1 : (assignEach [tg] X.env).map (·.2) = [assign tg X.env]) :
    PS X (.Assign [tg] e pos) (dS Γ.K B (wpS W (.asg t c))) := by
  refine ⟨fun pins s τ H D I hq => ?_⟩
  refine (ps_asg he (pg_x hg sx.cx) hs hw h1).run pins s τ H D I ?_
  obtain ⟨N, F, σ, Qn, Qr, o, sl, w, pn, pr⟩ := hq
  refine dV.bind o sl w fun v x N1 F1 H1 e1 o1 sl1 d1 w1 => ?_
  exact ⟨B, N1, F1, σ, v, _, o1, sl1, d1, w1, fun σ' τ' sl' _ q => pn _ _ N1 F1 H1 e1 o1 sl' q⟩
/-- a comprehension that goes to a name -/
theorem snd_asgLc {m : Bool} {elt : E Γ} {t : Tg} {it : Bv.It Γ} {cond : Ts Γ} {i : Nat} {y : Str} {py : Pos} {tg iter ee : Expr} {ifs : List Expr} {scope : Scope} {pos spos : Pos} (sx : SxOk Γ M X B W) (hi' : slotB M.N i y = true) (hsw : swB M y py (.ListComp ee [⟨tg, iter, ifs, 0⟩] scope pos) = true)
    (hb : blkB M.N M.sc scope (ownOf M.N t) = true) (hp : ∀ x, foldedSetIterable iter X.env x = pure x)
    (hi : PI X tg iter (dI B W it)) (hg : ∀ X', CxOk Γ (M.blk scope) X' → PG X' tg (dG Γ.K t)) (ht : ∀ X', CxOk Γ (M.blk scope) X' → PTs X' ifs (dTx Γ.K (wpCs noX cond))) (he : ∀ X', CxOk Γ (M.blk scope) X' → PE X' ee (dVx Γ.K (wpE noX elt))) :
    PS X (.Assign [.Name y py] (.ListComp ee [⟨tg, iter, ifs, 0⟩] scope pos) spos) (dS Γ.K B (wpS W (.asg (.nm i) (.lc m elt t it cond)))) := by
  refine ⟨fun pins s τ H D I hq => ?_⟩
  have hx := sx.cx
  unfold swB at hsw
  simp only [Bool.and_eq_true] at hsw
  obtain ⟨⟨s1, s2⟩, s3⟩ := hsw
  have hyl : X.env.scope.names.lookup y = some .local := by rw [hx.sc]; simpa using s1
  refine (ps_setLc hx.calm hx.nd (by rw [hx.N]; exact slotB_eq hi') hyl (sw_true I.ok.kind hyl s2 (by simpa using s3)) hi (by rw [hx.N, hx.sc]; exact blkOk_by hb) (fun _ _ _ _ _ => hg _ hx.blk) (fun _ _ _ _ _ => ht _ hx.blk) (fun _ _ _ _ _ => he _ hx.blk) hp).run pins s τ H D I ?_
  obtain ⟨N, F, σ, Qn, Qr, o, sl, w, pn, pr⟩ := hq
  exact lc_read (M := M) (m := m) (Γ := Γ) (B := B) (W := W) ⟨N, F, σ, _, o, sl, w, fun v x N1 F1 H1 e1 o1 d1 q1 => pn _ _ N1 F1 H1 e1 o1 ((sl.mono e1).set i d1) q1⟩
theorem snd_asgLcK {m : Bool} {elt d : E Γ} {t : Tg} {cond : Ts Γ} {i : Nat} {y : Str} {py : Pos} {tg iter ee : Expr} {ifs : List Expr} {scope : Scope} {pos spos : Pos} (sx : SxOk Γ M X B W) (hi' : slotB M.N i y = true) (hsw : swB M y py (.ListComp ee [⟨tg, iter, ifs, 0⟩] scope pos) = true)
    (hb : blkB M.N M.sc scope (ownOf M.N t) = true) (hp : ∀ x, foldedSetIterable iter X.env x = pure x)
    (hi : PE X iter (dV Γ.K B (wpE noX d))) (hg : ∀ X', CxOk Γ (M.blk scope) X' → PG X' tg (dG Γ.K t)) (ht : ∀ X', CxOk Γ (M.blk scope) X' → PTs X' ifs (dTx Γ.K (wpCs noX cond))) (he : ∀ X', CxOk Γ (M.blk scope) X' → PE X' ee (dVx Γ.K (wpE noX elt))) :
    PS X (.Assign [.Name y py] (.ListComp ee [⟨tg, iter, ifs, 0⟩] scope pos) spos) (dS Γ.K B (wpS W (.asg (.nm i) (.lcK m elt t d cond)))) := by
  refine ⟨fun pins s τ H D I hq => ?_⟩
  have hx := sx.cx
  unfold swB at hsw
  simp only [Bool.and_eq_true] at hsw
  obtain ⟨⟨s1, s2⟩, s3⟩ := hsw
  have hyl : X.env.scope.names.lookup y = some .local := by rw [hx.sc]; simpa using s1
  refine (ps_lock (ps_setLc hx.calm hx.nd (by rw [hx.N]; exact slotB_eq hi') hyl (sw_true I.ok.kind hyl s2 (by simpa using s3)) (pi_keys hi) (by rw [hx.N, hx.sc]; exact blkOk_by hb) (fun _ _ _ _ _ => hg _ hx.blk) (fun _ _ _ _ _ => ht _ hx.blk) (fun _ _ _ _ _ => he _ hx.blk) hp)).run pins s τ H D I ?_
  obtain ⟨N, F, σ, Qn, Qr, o, sl, w, pn, pr⟩ := hq
  obtain ⟨p, kvs, ec, w⟩ := w
  obtain ⟨xs, hh, dd, lk⟩ := lock_cell o ec
  refine ⟨p, .dK xs, hh, trivial, fun od => ?_⟩
  refine dV.bind (lk od) sl (w (.frz od (.dK xs))) fun v x N1 F1 H1 e1 o1 sl1 d1 w1 => ?_
  obtain ⟨hv, w1⟩ := w1
  split at hv
  · subst hv
    rename_i q
    cases d1
    have hF1 : F1 q = some (.lck (.frz od (.dK xs)) kvs) := by
      cases hk : kvs.map fun kv => Val.str kv.1 with
      | nil => rw [hk] at w1; unfold lcGo at w1; exact w1.1
      | cons a r => rw [hk] at w1; unfold lcGo at w1; exact w1.1
    obtain ⟨_, hh1, _⟩ := o1.cell q _ hF1
    refine ⟨q, od, rfl, .inl ⟨xs, hh1, ?_⟩⟩
    refine lc_obl (m := m) (Q := fun v H' => gName i v τ H' fun σ' H' => H' q = some (HO.frz od (HO.dK xs)) ∧ D.nx σ' (upd H' q (HO.dK xs))) (Q0 := fun v F3 => F3 q = some (.lck (.frz od (.dK xs)) kvs) ∧ Qn (σ.set i (some v)) (mset F3 q (.dict kvs))) o1 sl1 (tell_keys rfl (dd.mono e1)) w1 (fun v3 x3 N3 F3 H3 e3 o3 d3 q3 => ?_) (own_slots (N := M.N))
    obtain ⟨k1, k2⟩ := unlock_cell o3 q3.1
    exact ⟨k1, pn _ _ N3 _ _ (e1.trans e3) k2 ((sl1.mono e3).set i d3) q3.2⟩
  · exact hv.elim
theorem snd_par {i j : Nat} {a b : E Γ} {x y : Str} {px py pt pt2 pos : Pos} {kt k2 : Nat} {ae be : Expr} (sx : SxOk Γ M X B W) (h1 : slotB M.N i x = true) (h2 : slotB M.N j y = true) (hij : i ≠ j) (hp : parB M x y px py ae be = true) (ha : PE X ae (dV Γ.K B (wpE W a))) (hb : PE X be (dV Γ.K B (wpE W b))) :
    PS X (.Assign [.Tuple [.Name x px, .Name y py] kt pt] (.Tuple [ae, be] k2 pt2) pos) (dS Γ.K B (wpS W (.par i j a b))) := by
  refine ⟨fun pins s τ H D I hq => ?_⟩
  have hx := sx.cx
  obtain ⟨p1, p2, p3, p4, p5⟩ := par_sw (pt := pt) (pt2 := pt2) (kt := kt) (k2 := k2) hx.sc I.ok.kind hp
  refine (ps_par hx.calm hx.nd (by rw [hx.N]; exact slotB_eq h1) (by rw [hx.N]; exact slotB_eq h2) hij (by rw [hx.sc]; exact p1) (by rw [hx.sc]; exact p2) (pa_cons ha (pa_cons hb pa_nil (star_plain p4 _ _)) (star_plain p3 _ _)) p5 rfl).run pins s τ H D I ?_
  obtain ⟨N, F, σ, Qn, Qr, o, sl, w, pn, pr⟩ := hq
  refine dV.bind o sl w fun v x N1 F1 H1 e1 o1 sl1 d1 w1 => dV.bind o1 sl1 w1 fun v2 x2 N2 F2 H2 e2 o2 sl2 d2 w2 => ?_
  exact ⟨x, x2, rfl, pn _ _ N2 F2 H2 (e1.trans e2) o2 ((sl2.set i (d1.mono e2)).set j d2) w2⟩
theorem snd_setI {oc ic vc : E Γ} {oe ie ve : Expr} {p pos : Pos} (sx : SxOk Γ M X B W) (hp : plainB ie = true) (ho : PE X oe (dV Γ.K B (wpE W oc))) (hi : PE X ie (dV Γ.K B (wpE W ic))) (hv : PE X ve (dV Γ.K B (wpE W vc))) :
    PS X (.Assign [.Subscript oe ie p] ve pos) (dS Γ.K B (wpS W (.setI oc ic vc))) := by
  refine ⟨fun pins s τ H D I hq => ?_⟩
  have hx := sx.cx
  refine (ps_asg hv (pg_sub ho hi (setS_ok hx.room.units) (fun v => sub_plain hp _ _ _ v)) (subswap ve oe ie p pos.line X.env) (nosto_sub ve X.env) rfl).run pins s τ H D I ?_
  obtain ⟨N, F, σ, Qn, Qr, o, sl, w, pn, pr⟩ := hq
  refine dV.bind o sl w fun v x N1 F1 H1 e1 o1 sl1 d1 w1 => dV.bind o1 sl1 w1 fun v2 x2 N2 F2 H2 e2 o2 sl2 d2 w2 => dV.bind o2 sl2 w2 fun v3 x3 N3 F3 H3 e3 o3 sl3 d3 w3 => ?_
  rw [hx.K]
  exact ⟨B, N3, F3, v2, v3, v, _, o3, d2.mono e3, d3, d1.mono (e2.trans e3), w3, fun F' H' o' q => pn _ _ N3 F' H' ((e1.trans e2).trans e3) o' sl3 q⟩
theorem snd_setF {f : Str} {r : FldR Γ f} {oc vc : E Γ} {oe ve : Expr} {p pos : Pos} (sx : SxOk Γ M X B W) (ho : PE X oe (dV Γ.K B (wpE W oc))) (hv : PE X ve (dV Γ.K B (wpE W vc))) :
    PS X (.Assign [.Attribute oe f p] ve pos) (dS Γ.K B (wpS W (.setF f r oc vc))) := by
  refine ⟨fun pins s τ H D I hq => ?_⟩
  have hx := sx.cx
  refine (ps_fld ho hv (fldswap _ _ _ _ _ _)).run pins s τ H D I ?_
  obtain ⟨N, F, σ, Qn, Qr, o, sl, w, pn, pr⟩ := hq
  refine dV.bind o sl w fun v x N1 F1 H1 e1 o1 sl1 d1 w1 => dV.bind o1 sl1 w1 fun v2 x2 N2 F2 H2 e2 o2 sl2 d2 w2 => ?_
  split at w2
  · rename_i q
    split at w2
    · rename_i C fs ec
      obtain ⟨rfl, wl, w2⟩ := w2
      cases d2
      obtain ⟨_, dx, xs, hh, dd⟩ := o2.cell q _ ec
      refine ⟨q, r.C, dx, xs, rfl, hh, by rw [hx.K]; exact r.cl, by rw [hx.K]; exact r.no, by rw [← Paired.length dd]; exact wl, ?_⟩
      exact pn _ _ N2 _ _ (e1.trans e2) (o2.put (d := .inst r.C (putV f v fs)) ec (fun ys z => by rw [hh] at z; cases z) ⟨dx, _, upd_same, Dfs.put (d1.mono e2) dd⟩) sl2 w2
    · exact w2.elim
  · exact w2.elim
theorem snd_aug {i : Nat} {c : E Γ} {x : Str} {e : Expr} {p pos : Pos} (sx : SxOk Γ M X B W) (h1 : slotB M.N i x = true) (h2 : locB M x = true) (he : PE X e (dV Γ.K B (wpE W c))) : PS X (.AugAssign (.Name x p) .Add e pos) (dS Γ.K B (wpS W (.aug i c))) := by
  refine ⟨fun pins s τ H D I hq => ?_⟩
  have hx := sx.cx
  obtain ⟨l1, l2⟩ := locB_eq hx h2
  refine (ps_aug hx.nd (by rw [hx.N]; exact slotB_eq h1) l1 he ip_add l2).run pins s τ H D I ?_
  obtain ⟨N, F, σ, Qn, Qr, o, sl, w, pn, pr⟩ := hq
  have w : (match σ[i]? with
    | some (some (.int a)) => wpE W c σ F fun y F1 => match y with
      | .int b => Qn (σ.set i (some (.int (a + b)))) F1
      | _ => False
    | _ => False) := w
  split at w
  · rename_i a ea
    obtain ⟨y, hy, dy⟩ := sl.get i _ ea
    cases dy
    refine ⟨_, hy, dV.bind o sl w fun v x N1 F1 H1 e1 o1 sl1 d1 w1 => ?_⟩
    split at w1
    · cases d1
      exact ⟨_, _, rfl, rfl, pn _ _ N1 F1 H1 e1 o1 (sl1.set i (.int _)) w1⟩
    · exact w1.elim
  · exact w.elim
theorem snd_for {t : Tg} {it : Bv.It Γ} {body : Ss Γ} {tg iter : Expr} {bs : List Stmt} {pos : Pos} (sx : SxOk Γ M X B W) (hg : mTg M t tg = true) (hp : ∀ x, foldedSetIterable iter X.env x = pure x) (hi : PI X tg iter (dI B W it)) (hb : PSs X bs (dS Γ.K B (wpB W body))) :
    PS X (.For tg iter bs [] pos) (dS Γ.K B (wpS W (.for t it body))) := by
  refine ⟨fun pins s τ H D I hq => ?_⟩
  have hx := sx.cx
  refine (ps_for sx.pass hx.calm hi (pg_x hg hx) hb hp).run pins s τ H D I ?_
  obtain ⟨N, F, σ, Qn, Qr, o, sl, w, pn, pr⟩ := hq
  exact ⟨N, F, σ, _, o, sl, w, fun items g N1 F1 H1 J e1 o1 w1 tell => for_obl o1 (sl.mono e1) tell w1 (pn.mono e1) (pr.mono e1)⟩
theorem snd_forK {t : Tg} {d : E Γ} {body : Ss Γ} {tg iter : Expr} {bs : List Stmt} {pos : Pos} (sx : SxOk Γ M X B W) (hg : mTg M t tg = true) (hp : ∀ x, foldedSetIterable iter X.env x = pure x) (hi : PE X iter (dV Γ.K B (wpE noX d))) (hb : PSs X bs (dS Γ.K B (wpB noX body))) :
    PS X (.For tg iter bs [] pos) (dS Γ.K B (wpS W (.forK t d body))) := by
  refine ⟨fun pins s τ H D I hq => ?_⟩
  have hx := sx.cx
  refine (ps_lock (ps_for sx.pass hx.calm (pi_keys hi) (pg_x hg hx) hb hp)).run pins s τ H D I ?_
  obtain ⟨N, F, σ, Qn, Qr, o, sl, w, pn, pr⟩ := hq
  obtain ⟨p, kvs, ec, w⟩ := w
  obtain ⟨xs, hh, dd, lk⟩ := lock_cell o ec
  refine ⟨p, .dK xs, hh, trivial, fun od => ?_⟩
  refine dV.bind (lk od) sl (w (.frz od (.dK xs))) fun v x N1 F1 H1 e1 o1 sl1 d1 w1 => ?_
  obtain ⟨hv, w1⟩ := w1
  split at hv
  · subst hv
    rename_i q
    cases d1
    have hF1 : F1 q = some (.lck (.frz od (.dK xs)) kvs) := by
      cases hk : kvs.map fun kv => Val.str kv.1 with
      | nil => rw [hk] at w1; unfold forGo at w1; exact w1.1
      | cons a r => rw [hk] at w1; unfold forGo at w1; exact w1.1
    obtain ⟨_, hh1, _⟩ := o1.cell q _ hF1
    refine ⟨q, od, rfl, .inl ⟨xs, hh1, ?_⟩⟩
    refine for_obl (wb := wpB noX body) (Qr := fun v F3 => F3 q = some (.lck (.frz od (.dK xs)) kvs) ∧ Qr v (mset F3 q (.dict kvs))) (Qn := fun σ' F3 => F3 q = some (.lck (.frz od (.dK xs)) kvs) ∧ Qn σ' (mset F3 q (.dict kvs))) o1 sl1 (tell_keys rfl (dd.mono e1)) w1 (fun σ3 τ3 N3 F3 H3 e3 o3 sl3 q3 => ?_) (fun v3 x3 N3 F3 H3 e3 o3 d3 q3 => ?_)
    · obtain ⟨k1, k2⟩ := unlock_cell o3 q3.1
      exact ⟨k1, pn _ _ N3 _ _ (e1.trans e3) k2 sl3 q3.2⟩
    · obtain ⟨k1, k2⟩ := unlock_cell o3 q3.1
      exact ⟨k1, pr v3 x3 N3 _ _ (e1.trans e3) k2 d3 q3.2⟩
  · exact hv.elim
theorem snd_whl {t : T Γ} {body : Ss Γ} {c : Expr} {bs : List Stmt} {pos : Pos} (sx : SxOk Γ M X B W) (hc : PT X c (dT Γ.K B (wpT W t))) (hb : PSs X bs (dS Γ.K B (wpB W body))) : PS X (.While c bs [] pos) (dS Γ.K B (wpS W (.whl t body))) := by
  refine ⟨fun pins s τ H D I hq => ?_⟩
  refine (ps_while sx.pass hc hb).run pins s τ H D I ?_
  obtain ⟨N, F, σ, Qn, Qr, o, sl, w, pn, pr⟩ := hq
  obtain ⟨J, ⟨m0, j0⟩, step⟩ := w
  refine ⟨fun m τ H => ∃ N1 F1 σ1, Same N N1 ∧ Ok Γ.K B N1 F1 H ∧ Sl Γ.K N1 σ1 τ ∧ J m σ1 F1, ⟨m0, N, F, σ, Same.refl N, o, sl, j0⟩, ?_⟩
  rintro m τ1 H1 ⟨N1, F1, σ1, e1, o1, sl1, j1⟩
  refine dT.bind o1 sl1 (step m σ1 F1 j1) fun b N2 F2 H2 e2 o2 sl2 q2 => ?_
  cases b with
  | true =>
    rw [if_pos rfl]
    refine ⟨fun τ' H' => ∃ m', m' < m ∧ ∃ N3 F3 σ3, Same N N3 ∧ Ok Γ.K B N3 F3 H' ∧ Sl Γ.K N3 σ3 τ' ∧ J m' σ3 F3, fun τ' H' h => h, ?_⟩
    refine ⟨N2, F2, σ1, _, _, o2, sl2, q2, fun σ3 τ3 N3 F3 H3 e3 o3 sl3 q3 => ?_, pr.mono (e1.trans e2)⟩
    obtain ⟨m', hm, j3⟩ := q3
    exact ⟨m', hm, N3, F3, σ3, (e1.trans e2).trans e3, o3, sl3, j3⟩
  | false =>
    rw [if_neg Bool.false_ne_true]
    exact pn _ _ N2 F2 H2 (e1.trans e2) o2 sl2 q2
theorem snd_rai {x : Str} {r : RaiR Γ x} {a : E Γ} {e : Expr} {p p2 pos : Pos} (sx : SxOk Γ M X B W) (hg : glB M.sc x = true) (hn : nmB x = true) (hp : plainB e = true) (he : PE X e (dV Γ.K B (wpE W a))) :
    PS X (.Raise (some (.Call (.Name x p) [e] [] p2)) none pos) (dS Γ.K B (wpS W (.rai x r a))) := by
  refine ⟨fun pins s τ H D I hq => ?_⟩
  have hx := sx.cx
  obtain ⟨q1, q2, q3, q4, q5⟩ := r.ok
  refine (ps_raise hx.calm sx.tk (pmk_ownE F.excBase_ValueError (by rw [hx.K]; exact q1) (by rw [hx.mg]; exact q2) (by rw [hx.K]; exact q3) (raises_own (by rw [hx.K]; exact q4) (by rw [hx.K]; exact q5)) (glB_eq hx.sc hg) (nm1 hn).1 hp he)).run pins s τ H D I ?_
  obtain ⟨N, F, σ, Qn, Qr, o, sl, w, pn, pr⟩ := hq
  refine dV.bind o sl w fun v x N1 F1 H1 e1 o1 sl1 d1 w1 => ?_
  exact ⟨r.C, [], N1, F1, σ, rfl, o1, .inl ⟨rfl, rfl⟩, sl1, w1⟩
/-- what a try's body wishes of an exception -/
def tryX {Γ : Amb} {x : Str} (W : XS) (r : ExR Γ x) (i j : Nat) (Qn : St1 → MH → Prop) : XS := fun C fs σ F => match r.ans C with
    | some true => ∀ p, F p = none → Qn ((σ.set j (some (.ref p))).set i none) (mset F p (.exn C fs))
    | some false => W C fs σ F
    | none => False
theorem snd_try {x : Str} {r : ExR Γ x} {i j : Nat} {body : Ss Γ} {n z : Str} {bs : List Stmt} {np zp np2 ap pos pos' : Pos} (sx : SxOk Γ M X B W) (hg : glB M.sc x = true) (hn : nmB x = true) (h1 : slotB M.N i n = true) (h2 : M.sc.names.lookup n = some .local) (h3 : nmB n = true) (h4 : slotB M.N j z = true) (h5 : M.sc.names.lookup z = some .local) (hij : i ≠ j)
    (hb : ∀ (C : Bs) (W' : XS) (X' : Cx), SxOk Γ M X' C W' → PSs X' bs (dS Γ.K C (wpB W' body))) :
    PS X (.Try bs [.ExceptHandler (some (.Name x np)) (some n) [.Assign [.Name z zp] (.Name n np2) ap] pos'] [] [] pos) (dS Γ.K B (wpS W (.tryK x r i j body))) := by
  have hx := sx.cx
  have hcls : Names X x (.ref r.C) := ⟨glB_eq hx.sc hg, (nm1 hn).1, .inl (by rw [hx.mg]; exact r.mg)⟩
  refine ⟨fun pins s τ H D I hq => ?_⟩
  refine (ps_tryK (tb := fun W' D τ H => ∃ C W1, dS Γ.K C (wpB W1 body) D τ H ∧ ∀ cls d τ H, liftW Γ.K C W1 cls d τ H → W' cls d τ H) sx.hs sx.hf hx.nd (by rw [hx.N]; exact slotB_eq h1) (by rw [hx.N]; exact slotB_eq h4) hij
    (by show X.env.scope.names.lookup n = _; rw [hx.sc]; exact h2) (by show X.env.scope.names.lookup z = _; rw [hx.sc]; exact h5) (nm1 h3).1 (nm1 h3).2.1 hcls sx.tk (fun W' pn xe tk pass => ?_)).run pins s τ H D I ?_
  · refine ⟨fun pins s τ H D I ⟨C, W1, q, im⟩ => ?_⟩
    exact (hb C W1 (X.tr pn xe) ⟨⟨hx.P, hx.w, hx.K, hx.mg, hx.base, hx.room, hx.calm, hx.N, hx.nd, hx.sc, hx.fn⟩, tk.imp im, pass, sx.hs, sx.hf⟩).run pins s τ H D I q
  · obtain ⟨N, F, σ, Qn, Qr, o, sl, w, pn, pr⟩ := hq
    refine ⟨⟨N, F, H⟩, tryX W r i j Qn, ⟨N, F, σ, Qn, Qr, o.here, sl, w, fun σ' τ' N' F' H' e o' sl' q => pn _ _ N' F' H' e (o.trans o') sl' q, fun v x N' F' H' e o' d q => pr _ _ N' F' H' e (o.trans o') d q⟩, fun cls d τ2 H2 hl => ?_⟩
    obtain ⟨C, fs, N2, F2, σ2, rfl, o2, xr, sl2, q⟩ := hl
    unfold tryX at q
    split at q
    · rename_i ea
      refine ⟨true, by rw [hx.K]; exact r.ok C _ ea, fun _ a ha => ?_, (by intro z; cases z)⟩
      have e2 : Same N N2 := o2.low
      have hF := (o2.free ha).2
      refine pn _ _ N2 _ _ e2 ?_ ((sl2.set j (.ref a)).del i none) (q a hF)
      refine (o.trans o2).new ha ?_
      rcases xr with ⟨rfl, rfl⟩ | ⟨dd, xs, hne, rfl, hdd, dfs⟩
      · exact .inl ⟨rfl, upd_same⟩
      · exact .inr ⟨dd, xs, hne, upd_same, by rw [upd_ne (ne_of_none hdd ha)]; exact hdd, dfs⟩
    · rename_i ea
      refine ⟨false, by rw [hx.K]; exact r.ok C _ ea, (by intro z; cases z), fun _ => ?_⟩
      exact ⟨C, fs, N2, F2, σ2, rfl, o.trans o2, xr, sl2, q⟩
    · exact q.elim
end
end Bv

/-! The tongue is true to the text: all statements, a def. -/
namespace Bv
open PySem L2 PyProof.Rows
section
variable {Γ : Amb} (ga : AmbOk Γ)
theorem sx_no {M : Mc} {X : Cx} {B : Bs} {W : XS} (sx : SxOk Γ M X B W) : SxOk Γ M X B noX := ⟨sx.cx, takes_no, sx.pass, sx.hs, sx.hf⟩
include ga
mutual
theorem sndS : ∀ (c : S Γ) {M : Mc} {X : Cx} {B : Bs} {W : XS} {s : Stmt}, mS M c s = true → SxOk Γ M X B W → PS X s (dS Γ.K B (wpS W c))
  | .asg t c, M, X, B, W, s, h, sx => by
    unfold mS at h
    split at h
    · rename_i tg v pos
      simp only [Bool.and_eq_true] at h
      obtain ⟨⟨h1, h2⟩, h3⟩ := h
      cases t with
      | nm i =>
        cases tg with
        | Name y py =>
          simp only [Bool.or_eq_true, Bool.and_eq_true, Bool.not_eq_true'] at h3
          rcases h3 with h3 | h3 | ⟨h3, h4⟩
          · exact snd_asg sx h1 (sndE ga c h2 sx.cx sx.tk) (noswap h3 (some (.Name y py)) pos.line X.env) (nosto_name v X.env) rfl
          · exact snd_asg sx h1 (sndE ga c h2 sx.cx sx.tk) (noswap_cell v (by show X.env.scope.names.lookup y = _; rw [sx.cx.sc]; simpa using h3) pos.line) (nosto_name v X.env) rfl
          · have h5 : slotB M.N i y = true := by
              unfold mTg at h1
              simp only [Bool.and_eq_true] at h1
              exact h1.1
            cases c with
            | lc m elt t it cond =>
              unfold mE at h2
              split at h2
              · simp only [Bool.and_eq_true] at h2
                obtain ⟨⟨⟨⟨⟨⟨k1, k2⟩, k3⟩, k4⟩, k5⟩, k6⟩, k7⟩ := h2
                exact snd_asgLc sx h5 h4 k1 (fun x => plain_mIt it k3 x) (sndIt ga it k3 k2 sx.cx sx.tk) (fun X' hx' => pg_x k4 hx') (fun X' hx' => pts_dT fun C => sndCs ga cond k5 (of_decide_eq_true k6) hx' takes_no) (fun X' hx' => pe_x fun C => sndE ga elt k7 hx' takes_no)
              · cases h2
            | lcK m elt t d cond =>
              unfold mE at h2
              split at h2
              · simp only [Bool.and_eq_true] at h2
                obtain ⟨⟨⟨⟨⟨k1, k3⟩, k4⟩, k5⟩, k6⟩, k7⟩ := h2
                exact snd_asgLcK sx h5 h4 k1 (fun x => noset_plain (plain_mE d k3) _ x) (sndE ga d k3 sx.cx takes_no) (fun X' hx' => pg_x k4 hx') (fun X' hx' => pts_dT fun C => sndCs ga cond k5 (of_decide_eq_true k6) hx' takes_no) (fun X' hx' => pe_x fun C => sndE ga elt k7 hx' takes_no)
              · cases h2
            | _ => cases h3
        | _ => unfold mTg at h1; cases h1
      | tp is =>
        cases tg with
        | Tuple es k p =>
          simp only [Bool.and_eq_true, Bool.not_eq_true'] at h3
          exact snd_asg sx h1 (sndE ga c h2 sx.cx sx.tk) (noswap h3.1 (some (.Tuple es k p)) pos.line X.env) (nosto_tup h3.2 X.env) rfl
        | _ => unfold mTg at h1; cases h1
      | ul is =>
        cases tg with
        | Tuple es k p =>
          simp only [Bool.and_eq_true, Bool.not_eq_true'] at h3
          exact snd_asg sx h1 (sndE ga c h2 sx.cx sx.tk) (noswap h3.1 (some (.Tuple es k p)) pos.line X.env) (nosto_tup h3.2 X.env) rfl
        | _ => unfold mTg at h1; cases h1
    · cases h
  | .par i j a b, M, X, B, W, s, h, sx => by
    unfold mS at h
    split at h
    · simp only [Bool.and_eq_true] at h
      obtain ⟨⟨⟨⟨⟨h1, h2⟩, h3⟩, h4⟩, h5⟩, h6⟩ := h
      exact snd_par sx h1 h2 (of_decide_eq_true h3) h4 (sndE ga a h5 sx.cx sx.tk) (sndE ga b h6 sx.cx sx.tk)
    · cases h
  | .setI o i v, M, X, B, W, s, h, sx => by
    unfold mS at h
    split at h
    · simp only [Bool.and_eq_true] at h
      exact snd_setI sx (plain_mE i h.1.2) (sndE ga o h.1.1 sx.cx sx.tk) (sndE ga i h.1.2 sx.cx sx.tk) (sndE ga v h.2 sx.cx sx.tk)
    · cases h
  | .setF f r o v, M, X, B, W, s, h, sx => by
    unfold mS at h
    split at h
    · simp only [Bool.and_eq_true] at h
      obtain ⟨⟨h1, h2⟩, h3⟩ := h
      have e1 := strB_eq h1
      subst e1
      exact snd_setF sx (sndE ga o h2 sx.cx sx.tk) (sndE ga v h3 sx.cx sx.tk)
    · cases h
  | .aug i e, M, X, B, W, s, h, sx => by
    unfold mS at h
    split at h
    · simp only [Bool.and_eq_true] at h
      exact snd_aug sx h.1.1 h.1.2 (sndE ga e h.2 sx.cx sx.tk)
    · cases h
  | .ex e, M, X, B, W, s, h, sx => by
    unfold mS at h
    split at h
    · simp only [Bool.and_eq_true, Bool.not_eq_true'] at h
      refine ⟨fun pins s τ H D I hq => ?_⟩
      refine (ps_expr (sndE ga e h.1 sx.cx sx.tk) (noswap h.2 _ _ _)).run pins s τ H D I ?_
      obtain ⟨N, F, σ, Qn, Qr, o, sl, w, pn, pr⟩ := hq
      exact dV.bind o sl w fun v x N1 F1 H1 e1 o1 sl1 d1 w1 => pn _ _ N1 F1 H1 e1 o1 sl1 w1
    · cases h
  | .ifs t a b, M, X, B, W, s, h, sx => by
    unfold mS at h
    split at h
    · simp only [Bool.and_eq_true] at h
      obtain ⟨⟨h1, h2⟩, h3⟩ := h
      refine ⟨fun pins s τ H D I hq => ?_⟩
      refine (ps_if (sndT ga t h1 sx.cx sx.tk) (sndB a h2 sx) (sndB b h3 sx)).run pins s τ H D I ?_
      obtain ⟨N, F, σ, Qn, Qr, o, sl, w, pn, pr⟩ := hq
      refine dT.bind o sl w fun k N1 F1 H1 e1 o1 sl1 w1 => ?_
      cases k with
      | true => rw [if_pos rfl]; exact ⟨N1, F1, σ, Qn, Qr, o1, sl1, w1, pn.mono e1, pr.mono e1⟩
      | false => rw [if_neg Bool.false_ne_true]; exact ⟨N1, F1, σ, Qn, Qr, o1, sl1, w1, pn.mono e1, pr.mono e1⟩
    · cases h
  | .for t it body, M, X, B, W, s, h, sx => by
    unfold mS at h
    split at h
    · simp only [Bool.and_eq_true] at h
      obtain ⟨⟨⟨h1, h2⟩, h3⟩, h4⟩ := h
      exact snd_for sx h1 (fun x => plain_mIt it h3 x) (sndIt ga it h3 h2 sx.cx sx.tk) (sndB body h4 sx)
    · cases h
  | .forK t d body, M, X, B, W, s, h, sx => by
    unfold mS at h
    split at h
    · simp only [Bool.and_eq_true] at h
      obtain ⟨⟨h1, h3⟩, h4⟩ := h
      exact snd_forK sx h1 (fun x => noset_plain (plain_mE d h3) _ x) (sndE ga d h3 sx.cx takes_no) (sndB body h4 (sx_no sx))
    · cases h
  | .whl t body, M, X, B, W, s, h, sx => by
    unfold mS at h
    split at h
    · simp only [Bool.and_eq_true] at h
      exact snd_whl sx (sndT ga t h.1 sx.cx sx.tk) (sndB body h.2 sx)
    · cases h
  | .ret e, M, X, B, W, s, h, sx => by
    unfold mS at h
    split at h
    · refine ⟨fun pins s τ H D I hq => ?_⟩
      refine (ps_ret (sndE ga e h sx.cx sx.tk)).run pins s τ H D I ?_
      obtain ⟨N, F, σ, Qn, Qr, o, sl, w, pn, pr⟩ := hq
      exact ⟨N, F, σ, Qr, o, sl, w, pr⟩
    · cases h
  | .retN, M, X, B, W, s, h, sx => by
    unfold mS at h
    split at h
    · refine ⟨fun pins s τ H D I hq => ?_⟩
      refine ps_retN.run pins s τ H D I ?_
      obtain ⟨N, F, σ, Qn, Qr, o, sl, w, pn, pr⟩ := hq
      exact pr.at o .non w
    · cases h
  | .rai x r a, M, X, B, W, s, h, sx => by
    unfold mS at h
    split at h
    · simp only [Bool.and_eq_true] at h
      obtain ⟨⟨⟨h1, h2⟩, h3⟩, h4⟩ := h
      have e1 := strB_eq h1
      subst e1
      exact snd_rai sx h2 h3 (plain_mE a h4) (sndE ga a h4 sx.cx sx.tk)
    · cases h
  | .tryK x r i j body, M, X, B, W, s, h, sx => by
    unfold mS at h
    split at h
    · simp only [Bool.and_eq_true, beq_iff_eq] at h
      obtain ⟨⟨⟨⟨⟨⟨⟨⟨⟨⟨h1, h2⟩, h3⟩, h4⟩, h5⟩, h6⟩, h7⟩, h8⟩, h9⟩, h10⟩, h11⟩ := h
      have e1 := strB_eq h1
      subst e1
      have e2 := strB_eq h5
      subst e2
      exact snd_try sx h2 h3 h4 h6 h7 h8 h9 (of_decide_eq_true h10) fun C W' X' sx' => sndB body h11 sx'
    · cases h
  | .pass, M, X, B, W, s, h, sx => by
    unfold mS at h
    split at h
    · refine ⟨fun pins s τ H D I hq => ?_⟩
      refine ps_pass.run pins s τ H D I ?_
      obtain ⟨N, F, σ, Qn, Qr, o, sl, w, pn, pr⟩ := hq
      exact pn _ _ N F H (Same.refl N) o sl w
    · cases h
theorem sndB : ∀ (c : Ss Γ) {M : Mc} {X : Cx} {B : Bs} {W : XS} {ss : List Stmt}, mB M c ss = true → SxOk Γ M X B W → PSs X ss (dS Γ.K B (wpB W c))
  | .nil, M, X, B, W, ss, h, sx => by
    unfold mB at h
    cases ss with
    | nil =>
      refine ⟨fun pins s τ H D I hq => ?_⟩
      refine pss_nil.run pins s τ H D I ?_
      obtain ⟨N, F, σ, Qn, Qr, o, sl, w, pn, pr⟩ := hq
      exact pn _ _ N F H (Same.refl N) o sl w
    | cons a r => cases h
  | .cons a r, M, X, B, W, ss, h, sx => by
    unfold mB at h
    split at h
    · simp only [Bool.and_eq_true] at h
      refine ⟨fun pins s τ H D I hq => ?_⟩
      refine (pss_cons (sndS a h.1 sx) (sndB r h.2 sx)).run pins s τ H D I ?_
      obtain ⟨N, F, σ, Qn, Qr, o, sl, w, pn, pr⟩ := hq
      refine ⟨N, F, σ, _, Qr, o, sl, w, fun σ' τ' N' F' H' e o' sl' q => ?_, pr⟩
      exact ⟨N', F', σ', Qn, Qr, o', sl', q, pn.mono e, pr.mono e⟩
    · cases h
end
end
/-- the slots at the entry -/
def start1 (N : List Str) (vs : List Val) : St1 := vs.map some ++ List.replicate (N.length - vs.length) none
theorem start_sl {K : PySem.W.Frag} {H : Hp} {N : List Str} {vs : List Val} {xs : List V} (d : Dvs K H vs xs) : Sl K H (start1 N vs) (L2.start N xs) := by
  have hl := d.length
  refine ⟨by simp [start1, L2.start, hl], fun i v e => ?_⟩
  unfold start1 at e
  unfold L2.start
  by_cases h : i < vs.length
  · rw [List.getElem?_append_left (by simpa using h), List.getElem?_map] at e
    rw [List.getElem?_append_left (by simpa [← hl] using h), List.getElem?_map]
    obtain ⟨w, hw, e⟩ := Option.map_eq_some_iff.mp e
    cases e
    obtain ⟨x, hx, dx⟩ := d.get hw
    exact ⟨x, by rw [hx]; rfl, dx⟩
  · rw [List.getElem?_append_right (by simpa using h), List.getElem?_replicate] at e
    split at e <;> cases e
/-- a def, by its term: what its term asks is what it promises -/
theorem fun_ok {Γ : Amb} (ga : AmbOk Γ) {x qual : Str} {st : Stmt} {f : Addr} {fd : FuncData} {N ps : List Str} {sp : Spec} (Fu : Fun Γ.K x qual st f fd) (S : FnScope N ps (defScope st)) (c : Ss Γ) (hm : mB ⟨N, defScope st, fun _ => true⟩ c (defBody st) = true)
    (hlen : ∀ vs F Q E, sp vs F Q E → vs.length = ps.length) (hwp : ∀ vs F Q E, sp vs F Q E → wpB (fun C fs _ F => E C fs F) c (start1 N vs) F (fun _ F => Q .non F) Q) : FnOk Γ.P Γ.w Γ.K Γ.mg Γ.base (L2.CX Γ.P Γ.w) (Γ.k + 1) f fd ps (liftSp Γ.K sp) := by
  refine Fu.okX S (fun vs H Q E h => ?_) (fun cdv A outer s H vs Q E hr h => ?_)
  · obtain ⟨B, N, F, as, Q0, E0, o, d, w, _, _⟩ := h
    rw [← d.length]
    exact hlen _ _ _ _ w
  · obtain ⟨B, N0, F, as, Q0, E0, o, d, w, pq, px⟩ := h
    have cx : CxOk Γ ⟨N, defScope st, fun _ => true⟩ (cxOf (L2.CX Γ.P Γ.w) Γ.P Γ.w Γ.K Γ.mg Γ.base N qual (defScope st) f cdv A outer s H E) := ⟨rfl, rfl, rfl, rfl, rfl, hr, rfl, rfl, S.nd, rfl, fun _ _ => rfl⟩
    have tk : Takes (cxOf (L2.CX Γ.P Γ.w) Γ.P Γ.w Γ.K Γ.mg Γ.base N qual (defScope st) f cdv A outer s H E) (liftW Γ.K ⟨N0, F, H⟩ fun C fs _ F => E0 C fs F) := by
      refine (takes_of rfl rfl rfl rfl).imp fun cls d2 σ H2 hl => ?_
      obtain ⟨C, fs, N2, F2, σ2, rfl, o2, xr, sl2, q⟩ := hl
      exact px C fs d2 N2 F2 H2 o2.low (o.trans o2) xr q
    refine ⟨_, sndB ga c hm ⟨cx, tk, passes_of rfl, rfl, rfl⟩, N0, F, start1 N as, _, _, o.here, start_sl d, hwp _ _ _ _ w, fun σ' τ' N' F' H' e o' sl' q => ?_, fun v x N' F' H' e o' d' q => pq v x N' F' H' e (o.trans o') d' q⟩
    exact pq .non .non N' F' H' e (o.trans o') .non q
/-- the law's own def: nothing comes out of it -/
theorem top_ok {Γ : Amb} (ga : AmbOk Γ) {x qual : Str} {st : Stmt} {f : Addr} {fd : FuncData} {N ps : List Str} {sp : Spec} (Fu : Fun Γ.K x qual st f fd) (S : FnScope N ps (defScope st)) (c : Ss Γ) (hm : mB ⟨N, defScope st, fun _ => true⟩ c (defBody st) = true)
    (hlen : ∀ vs F Q E, sp vs F Q E → vs.length = ps.length) (hwp : ∀ vs F Q E, sp vs F Q E → wpB noX c (start1 N vs) F (fun _ F => Q .non F) Q) : FnOk Γ.P Γ.w Γ.K Γ.mg Γ.base L2.CX0 (Γ.k + 1) f fd ps (liftSp Γ.K sp) := by
  refine Fu.ok S (fun vs H Q E h => ?_) (fun cdv A outer s H vs Q E hr h => ?_)
  · obtain ⟨B, N, F, as, Q0, E0, o, d, w, _, _⟩ := h
    rw [← d.length]
    exact hlen _ _ _ _ w
  · obtain ⟨B, N0, F, as, Q0, E0, o, d, w, pq, px⟩ := h
    have cx : CxOk Γ ⟨N, defScope st, fun _ => true⟩ (cxOf L2.CX0 Γ.P Γ.w Γ.K Γ.mg Γ.base N qual (defScope st) f cdv A outer s H E).nox := ⟨rfl, rfl, rfl, rfl, rfl, hr, rfl, rfl, S.nd, rfl, fun _ _ => rfl⟩
    refine ⟨_, sndB ga c hm (B := ⟨N0, F, H⟩) (W := noX) ⟨cx, takes_no, PassesOwn.never, rfl, rfl⟩, N0, F, start1 N as, _, _, o.here, start_sl d, hwp _ _ _ _ w, fun σ' τ' N' F' H' e o' sl' q => ?_, fun v x N' F' H' e o' d' q => pq v x N' F' H' e (o.trans o') d' q⟩
    exact pq .non .non N' F' H' e (o.trans o') .non q
end Bv

/-! The terms of the defs. -/
namespace Bv
open PySem L2 PyProof.Rows
def top (i : Nat) : Stmt := PySem.Challenge.pw_wholeowners_k05_told_lists.main.body.getD i (.Pass ⟨0, 0, 0, 0⟩)
def topM (i j : Nat) : Stmt := match top i with
  | .ClassDef _ _ _ body _ _ _ _ _ _ _ => body.getD j (.Pass ⟨0, 0, 0, 0⟩)
  | _ => .Pass ⟨0, 0, 0, 0⟩
/- divisor: slots 0 one 1 other -/
def c_divisor {Γ : Amb}  : Ss Γ :=
  (.cons (.asg (.nm 0) (.bi .abs (.cons (.var 0) .nil)))
  (.cons (.asg (.nm 1) (.bi .abs (.cons (.var 1) .nil)))
  (.cons (.whl (.cmp .Gt (.var 1) (.cst (.int 0))) (.cons (.par 0 1 (.var 1) (.bin .Mod (.var 0) (.var 1)))
  .nil))
  (.cons (.ret (.var 0))
  .nil))))

abbrev s_divisor : Stmt := top 13
def n_divisor : List Str := ["one", "other"]
theorem f_divisor : FnScope n_divisor ["one", "other"] (defScope s_divisor) := ⟨rfl, rfl, rfl, by decide +kernel, rfl, by decide +kernel, by decide +kernel⟩
theorem k_divisor {Γ : Amb}  : mB (Γ := Γ) ⟨n_divisor, defScope s_divisor, fun _ => true⟩ (c_divisor) (defBody s_divisor) = true := by kernel_rfl

/- made: slots 0 top 1 bottom 2 by -/
def c_made {Γ : Amb} (r_divisor : CallR1 Γ "divisor") : Ss Γ :=
  (.cons (.asg (.nm 2) (.call "divisor" r_divisor (.cons (.var 0) (.cons (.var 1) .nil))))
  (.cons (.ifs (.cmp .Lt (.var 1) (.cst (.int 0))) (.cons (.asg (.nm 2) (.neg (.var 2)))
  .nil) .nil)
  (.cons (.ret (.tup (.cons (.bin .FloorDiv (.var 0) (.var 2)) (.cons (.bin .FloorDiv (.var 1) (.var 2)) .nil))))
  .nil)))

abbrev s_made : Stmt := top 14
def n_made : List Str := ["top", "bottom", "by"]
theorem f_made : FnScope n_made ["top", "bottom"] (defScope s_made) := ⟨rfl, rfl, rfl, by decide +kernel, rfl, by decide +kernel, by decide +kernel⟩
theorem k_made {Γ : Amb} (r_divisor : CallR1 Γ "divisor") : mB (Γ := Γ) ⟨n_made, defScope s_made, fun _ => true⟩ (c_made r_divisor) (defBody s_made) = true := by kernel_rfl

/- added: slots 0 one 1 other -/
def c_added {Γ : Amb} (r_made : CallR1 Γ "made") : Ss Γ :=
  (.cons (.ret (.call "made" r_made (.cons (.bin .Add (.bin .Mult (.ix (.var 0) (.cst (.int 0))) (.ix (.var 1) (.cst (.int 1)))) (.bin .Mult (.ix (.var 1) (.cst (.int 0))) (.ix (.var 0) (.cst (.int 1))))) (.cons (.bin .Mult (.ix (.var 0) (.cst (.int 1))) (.ix (.var 1) (.cst (.int 1)))) .nil))))
  .nil)

abbrev s_added : Stmt := top 15
def n_added : List Str := ["one", "other"]
theorem f_added : FnScope n_added ["one", "other"] (defScope s_added) := ⟨rfl, rfl, rfl, by decide +kernel, rfl, by decide +kernel, by decide +kernel⟩
theorem k_added {Γ : Amb} (r_made : CallR1 Γ "made") : mB (Γ := Γ) ⟨n_added, defScope s_added, fun _ => true⟩ (c_added r_made) (defBody s_added) = true := by kernel_rfl

/- minus: slots 0 one 1 other -/
def c_minus {Γ : Amb} (r_made : CallR1 Γ "made") : Ss Γ :=
  (.cons (.ret (.call "made" r_made (.cons (.bin .Sub (.bin .Mult (.ix (.var 0) (.cst (.int 0))) (.ix (.var 1) (.cst (.int 1)))) (.bin .Mult (.ix (.var 1) (.cst (.int 0))) (.ix (.var 0) (.cst (.int 1))))) (.cons (.bin .Mult (.ix (.var 0) (.cst (.int 1))) (.ix (.var 1) (.cst (.int 1)))) .nil))))
  .nil)

abbrev s_minus : Stmt := top 16
def n_minus : List Str := ["one", "other"]
theorem f_minus : FnScope n_minus ["one", "other"] (defScope s_minus) := ⟨rfl, rfl, rfl, by decide +kernel, rfl, by decide +kernel, by decide +kernel⟩
theorem k_minus {Γ : Amb} (r_made : CallR1 Γ "made") : mB (Γ := Γ) ⟨n_minus, defScope s_minus, fun _ => true⟩ (c_minus r_made) (defBody s_minus) = true := by kernel_rfl

/- is_less: slots 0 one 1 other -/
def c_is_less {Γ : Amb}  : Ss Γ :=
  (.cons (.ret (.cmp .Lt (.bin .Mult (.ix (.var 0) (.cst (.int 0))) (.ix (.var 1) (.cst (.int 1)))) (.bin .Mult (.ix (.var 1) (.cst (.int 0))) (.ix (.var 0) (.cst (.int 1))))))
  .nil)

abbrev s_is_less : Stmt := top 17
def n_is_less : List Str := ["one", "other"]
theorem f_is_less : FnScope n_is_less ["one", "other"] (defScope s_is_less) := ⟨rfl, rfl, rfl, by decide +kernel, rfl, by decide +kernel, by decide +kernel⟩
theorem k_is_less {Γ : Amb}  : mB (Γ := Γ) ⟨n_is_less, defScope s_is_less, fun _ => true⟩ (c_is_less) (defBody s_is_less) = true := by kernel_rfl

/- is_name: slots 0 text 1 sign -/
def c_is_name {Γ : Amb} (g_LETTERS : GlR Γ "LETTERS") : Ss Γ :=
  (.cons (.ret (.bool .And (.cons (.chain .Lt .LtE (.cst (.int 0)) (.bi .len (.cons (.var 0) .nil)) (.cst (.int 8))) (.cons (.bi .all (.cons (.lc false (.cmp .In (.var 1) (.gl "LETTERS" g_LETTERS)) (.nm 1) (.str (.var 0)) .nil) .nil)) .nil))))
  .nil)

abbrev s_is_name : Stmt := top 22
def n_is_name : List Str := ["text", "sign"]
theorem f_is_name : FnScope n_is_name ["text"] (defScope s_is_name) := ⟨rfl, rfl, rfl, by decide +kernel, rfl, by decide +kernel, by decide +kernel⟩
theorem k_is_name {Γ : Amb} (g_LETTERS : GlR Γ "LETTERS") : mB (Γ := Γ) ⟨n_is_name, defScope s_is_name, fun _ => true⟩ (c_is_name g_LETTERS) (defBody s_is_name) = true := by kernel_rfl

/- must_loss: slots 0 number -/
def c_must_loss {Γ : Amb} (x_NoLoss : RaiR Γ "NoLoss") : Ss Γ :=
  (.cons (.ifs (.cmp .Lt (.var 0) (.cst (.int 0))) (.cons (.rai "NoLoss" x_NoLoss (.cst (.str "a loss below nought")))
  .nil) .nil)
  .nil)

abbrev s_must_loss : Stmt := top 23
def n_must_loss : List Str := ["number"]
theorem f_must_loss : FnScope n_must_loss ["number"] (defScope s_must_loss) := ⟨rfl, rfl, rfl, by decide +kernel, rfl, by decide +kernel, by decide +kernel⟩
theorem k_must_loss {Γ : Amb} (x_NoLoss : RaiR Γ "NoLoss") : mB (Γ := Γ) ⟨n_must_loss, defScope s_must_loss, fun _ => true⟩ (c_must_loss x_NoLoss) (defBody s_must_loss) = true := by kernel_rfl

/- Entry.__init__: slots 0 self 1 numbers 2 held -/
def c_Entry_init {Γ : Amb} (f_held : FldR Γ "held") (f_numbers : FldR Γ "numbers") : Ss Γ :=
  (.cons (.setF "numbers" f_numbers (.var 0) (.var 1))
  (.cons (.setF "held" f_held (.var 0) (.var 2))
  .nil))

abbrev s_Entry_init : Stmt := topM 24 0
def n_Entry_init : List Str := ["self", "numbers", "held"]
theorem f_Entry_init : FnScope n_Entry_init ["self", "numbers", "held"] (defScope s_Entry_init) := ⟨rfl, rfl, rfl, by decide +kernel, rfl, by decide +kernel, by decide +kernel⟩
theorem k_Entry_init {Γ : Amb} (f_held : FldR Γ "held") (f_numbers : FldR Γ "numbers") : mB (Γ := Γ) ⟨n_Entry_init, defScope s_Entry_init, fun _ => true⟩ (c_Entry_init f_held f_numbers) (defBody s_Entry_init) = true := by kernel_rfl

/- Book.__init__: slots 0 self -/
def c_Book_init {Γ : Amb} (f_entries : FldR Γ "entries") (f_people : FldR Γ "people") : Ss Γ :=
  (.cons (.setF "people" f_people (.var 0) (.lst true .nil))
  (.cons (.setF "entries" f_entries (.var 0) .dic0)
  .nil))

abbrev s_Book_init : Stmt := topM 25 0
def n_Book_init : List Str := ["self"]
theorem f_Book_init : FnScope n_Book_init ["self"] (defScope s_Book_init) := ⟨rfl, rfl, rfl, by decide +kernel, rfl, by decide +kernel, by decide +kernel⟩
theorem k_Book_init {Γ : Amb} (f_entries : FldR Γ "entries") (f_people : FldR Γ "people") : mB (Γ := Γ) ⟨n_Book_init, defScope s_Book_init, fun _ => true⟩ (c_Book_init f_entries f_people) (defBody s_Book_init) = true := by kernel_rfl

/- Book.must_be_new: slots 0 self 1 name -/
def c_Book_must_be_new {Γ : Amb} (f_people : FldR Γ "people") (f_entries : FldR Γ "entries") (x_Twice : RaiR Γ "Twice") (r_is_name : CallR1 Γ "is_name") (x_NoName : RaiR Γ "NoName") : Ss Γ :=
  (.cons (.ifs (.not (.val (.call "is_name" r_is_name (.cons (.var 1) .nil)))) (.cons (.rai "NoName" x_NoName (.cst (.str "no name")))
  .nil) .nil)
  (.cons (.ifs (.bool .Or (.cons (.cmp .In (.var 1) (.fld "people" f_people (.var 0))) (.cons (.cmp .In (.var 1) (.fld "entries" f_entries (.var 0))) .nil))) (.cons (.rai "Twice" x_Twice (.cst (.str "a holder has this name")))
  .nil) .nil)
  .nil))

abbrev s_Book_must_be_new : Stmt := topM 25 1
def n_Book_must_be_new : List Str := ["self", "name"]
theorem f_Book_must_be_new : FnScope n_Book_must_be_new ["self", "name"] (defScope s_Book_must_be_new) := ⟨rfl, rfl, rfl, by decide +kernel, rfl, by decide +kernel, by decide +kernel⟩
theorem k_Book_must_be_new {Γ : Amb} (f_people : FldR Γ "people") (f_entries : FldR Γ "entries") (x_Twice : RaiR Γ "Twice") (r_is_name : CallR1 Γ "is_name") (x_NoName : RaiR Γ "NoName") : mB (Γ := Γ) ⟨n_Book_must_be_new, defScope s_Book_must_be_new, fun _ => true⟩ (c_Book_must_be_new f_people f_entries x_Twice r_is_name x_NoName) (defBody s_Book_must_be_new) = true := by kernel_rfl

/- Book.must_hold: slots 0 self 1 name -/
def c_Book_must_hold {Γ : Amb} (f_people : FldR Γ "people") (f_entries : FldR Γ "entries") (x_NoHolder : RaiR Γ "NoHolder") : Ss Γ :=
  (.cons (.ifs (.bool .And (.cons (.cmp .NotIn (.var 1) (.fld "people" f_people (.var 0))) (.cons (.cmp .NotIn (.var 1) (.fld "entries" f_entries (.var 0))) .nil))) (.cons (.rai "NoHolder" x_NoHolder (.cst (.str "no holder has this name")))
  .nil) .nil)
  .nil)

abbrev s_Book_must_hold : Stmt := topM 25 2
def n_Book_must_hold : List Str := ["self", "name"]
theorem f_Book_must_hold : FnScope n_Book_must_hold ["self", "name"] (defScope s_Book_must_hold) := ⟨rfl, rfl, rfl, by decide +kernel, rfl, by decide +kernel, by decide +kernel⟩
theorem k_Book_must_hold {Γ : Amb} (f_people : FldR Γ "people") (f_entries : FldR Γ "entries") (x_NoHolder : RaiR Γ "NoHolder") : mB (Γ := Γ) ⟨n_Book_must_hold, defScope s_Book_must_hold, fun _ => true⟩ (c_Book_must_hold f_people f_entries x_NoHolder) (defBody s_Book_must_hold) = true := by kernel_rfl

/- Book.entry_of: slots 0 self 1 house -/
def c_Book_entry_of {Γ : Amb} (f_entries : FldR Γ "entries") (x_NoHouse : RaiR Γ "NoHouse") : Ss Γ :=
  (.cons (.ifs (.cmp .NotIn (.var 1) (.fld "entries" f_entries (.var 0))) (.cons (.rai "NoHouse" x_NoHouse (.cst (.str "no house has this name")))
  .nil) .nil)
  (.cons (.ret (.ix (.fld "entries" f_entries (.var 0)) (.var 1)))
  .nil))

abbrev s_Book_entry_of : Stmt := topM 25 3
def n_Book_entry_of : List Str := ["self", "house"]
theorem f_Book_entry_of : FnScope n_Book_entry_of ["self", "house"] (defScope s_Book_entry_of) := ⟨rfl, rfl, rfl, by decide +kernel, rfl, by decide +kernel, by decide +kernel⟩
theorem k_Book_entry_of {Γ : Amb} (f_entries : FldR Γ "entries") (x_NoHouse : RaiR Γ "NoHouse") : mB (Γ := Γ) ⟨n_Book_entry_of, defScope s_Book_entry_of, fun _ => true⟩ (c_Book_entry_of f_entries x_NoHouse) (defBody s_Book_entry_of) = true := by kernel_rfl

/- Book.person: slots 0 self 1 name -/
def c_Book_person {Γ : Amb} (f_people : FldR Γ "people") (g_MOST_PERSONS : GlR Γ "MOST_PERSONS") (x_TooMany : RaiR Γ "TooMany") (t_must_be_new : MethR Γ "must_be_new") : Ss Γ :=
  (.cons (.ex (.meth "must_be_new" t_must_be_new (.var 0) (.cons (.var 1) .nil)))
  (.cons (.ifs (.cmp .Eq (.bi .len (.cons (.fld "people" f_people (.var 0)) .nil)) (.gl "MOST_PERSONS" g_MOST_PERSONS)) (.cons (.rai "TooMany" x_TooMany (.cst (.str "too many persons")))
  .nil) .nil)
  (.cons (.ex (.bm .append (.fld "people" f_people (.var 0)) (.cons (.var 1) .nil)))
  .nil)))

abbrev s_Book_person : Stmt := topM 25 4
def n_Book_person : List Str := ["self", "name"]
theorem f_Book_person : FnScope n_Book_person ["self", "name"] (defScope s_Book_person) := ⟨rfl, rfl, rfl, by decide +kernel, rfl, by decide +kernel, by decide +kernel⟩
theorem k_Book_person {Γ : Amb} (f_people : FldR Γ "people") (g_MOST_PERSONS : GlR Γ "MOST_PERSONS") (x_TooMany : RaiR Γ "TooMany") (t_must_be_new : MethR Γ "must_be_new") : mB (Γ := Γ) ⟨n_Book_person, defScope s_Book_person, fun _ => true⟩ (c_Book_person f_people g_MOST_PERSONS x_TooMany t_must_be_new) (defBody s_Book_person) = true := by kernel_rfl

/- Book.house: slots 0 self 1 name 2 owner 3 things 4 mark 5 loss -/
def c_Book_house {Γ : Amb} (f_entries : FldR Γ "entries") (m_Entry : MkR Γ "Entry") (g_MOST_HOUSES : GlR Γ "MOST_HOUSES") (x_TooMany : RaiR Γ "TooMany") (r_must_loss : CallR1 Γ "must_loss") (t_must_hold : MethR Γ "must_hold") (t_must_be_new : MethR Γ "must_be_new") : Ss Γ :=
  (.cons (.ex (.meth "must_be_new" t_must_be_new (.var 0) (.cons (.var 1) .nil)))
  (.cons (.ex (.meth "must_hold" t_must_hold (.var 0) (.cons (.var 2) .nil)))
  (.cons (.ex (.call "must_loss" r_must_loss (.cons (.var 5) .nil)))
  (.cons (.ifs (.cmp .Eq (.bi .len (.cons (.fld "entries" f_entries (.var 0)) .nil)) (.gl "MOST_HOUSES" g_MOST_HOUSES)) (.cons (.rai "TooMany" x_TooMany (.cst (.str "too many houses")))
  .nil) .nil)
  (.cons (.setI (.fld "entries" f_entries (.var 0)) (.var 1) (.mk "Entry" m_Entry (.cons (.tup (.cons (.var 3) (.cons (.var 4) (.cons (.var 5) .nil)))) (.cons (.dic1 (.var 2) (.tup (.cons (.cst (.int 1)) (.cons (.cst (.int 1)) .nil)))) .nil))))
  .nil)))))

abbrev s_Book_house : Stmt := topM 25 5
def n_Book_house : List Str := ["self", "name", "owner", "things", "mark", "loss"]
theorem f_Book_house : FnScope n_Book_house ["self", "name", "owner", "things", "mark", "loss"] (defScope s_Book_house) := ⟨rfl, rfl, rfl, by decide +kernel, rfl, by decide +kernel, by decide +kernel⟩
theorem k_Book_house {Γ : Amb} (f_entries : FldR Γ "entries") (m_Entry : MkR Γ "Entry") (g_MOST_HOUSES : GlR Γ "MOST_HOUSES") (x_TooMany : RaiR Γ "TooMany") (r_must_loss : CallR1 Γ "must_loss") (t_must_hold : MethR Γ "must_hold") (t_must_be_new : MethR Γ "must_be_new") : mB (Γ := Γ) ⟨n_Book_house, defScope s_Book_house, fun _ => true⟩ (c_Book_house f_entries m_Entry g_MOST_HOUSES x_TooMany r_must_loss t_must_hold t_must_be_new) (defBody s_Book_house) = true := by kernel_rfl

/- Book.sale: slots 0 self 1 house 2 one 3 other 4 share 5 held 6 has -/
def c_Book_sale {Γ : Amb} (r_added : CallR1 Γ "added") (r_minus : CallR1 Γ "minus") (r_is_less : CallR1 Γ "is_less") (x_NoShare : RaiR Γ "NoShare") (t_must_hold : MethR Γ "must_hold") (f_held : FldR Γ "held") (t_entry_of : MethR Γ "entry_of") : Ss Γ :=
  (.cons (.asg (.nm 5) (.fld "held" f_held (.meth "entry_of" t_entry_of (.var 0) (.cons (.var 1) .nil))))
  (.cons (.ex (.meth "must_hold" t_must_hold (.var 0) (.cons (.var 2) .nil)))
  (.cons (.ex (.meth "must_hold" t_must_hold (.var 0) (.cons (.var 3) .nil)))
  (.cons (.asg (.nm 6) (.bm .get (.var 5) (.cons (.var 2) (.cons (.tup (.cons (.cst (.int 0)) (.cons (.cst (.int 1)) .nil))) .nil))))
  (.cons (.ifs (.bool .Or (.cons (.cmp .LtE (.ix (.var 4) (.cst (.int 0))) (.cst (.int 0))) (.cons (.val (.call "is_less" r_is_less (.cons (.var 6) (.cons (.var 4) .nil)))) .nil))) (.cons (.rai "NoShare" x_NoShare (.cst (.str "no such share goes from one to the other")))
  .nil) .nil)
  (.cons (.setI (.var 5) (.var 2) (.call "minus" r_minus (.cons (.var 6) (.cons (.var 4) .nil))))
  (.cons (.setI (.var 5) (.var 3) (.call "added" r_added (.cons (.bm .get (.var 5) (.cons (.var 3) (.cons (.tup (.cons (.cst (.int 0)) (.cons (.cst (.int 1)) .nil))) .nil))) (.cons (.var 4) .nil))))
  .nil)))))))

abbrev s_Book_sale : Stmt := topM 25 6
def n_Book_sale : List Str := ["self", "house", "one", "other", "share", "held", "has"]
theorem f_Book_sale : FnScope n_Book_sale ["self", "house", "one", "other", "share"] (defScope s_Book_sale) := ⟨rfl, rfl, rfl, by decide +kernel, rfl, by decide +kernel, by decide +kernel⟩
theorem k_Book_sale {Γ : Amb} (r_added : CallR1 Γ "added") (r_minus : CallR1 Γ "minus") (r_is_less : CallR1 Γ "is_less") (x_NoShare : RaiR Γ "NoShare") (t_must_hold : MethR Γ "must_hold") (f_held : FldR Γ "held") (t_entry_of : MethR Γ "entry_of") : mB (Γ := Γ) ⟨n_Book_sale, defScope s_Book_sale, fun _ => true⟩ (c_Book_sale r_added r_minus r_is_less x_NoShare t_must_hold f_held t_entry_of) (defBody s_Book_sale) = true := by kernel_rfl

/- Book.put_number: slots 0 self 1 house 2 place 3 number 4 entry -/
def c_Book_put_number {Γ : Amb} (f_numbers : FldR Γ "numbers") (t_entry_of : MethR Γ "entry_of") : Ss Γ :=
  (.cons (.asg (.nm 4) (.meth "entry_of" t_entry_of (.var 0) (.cons (.var 1) .nil)))
  (.cons (.setF "numbers" f_numbers (.var 4) (.bin .Add (.bin .Add (.sl (.fld "numbers" f_numbers (.var 4)) .nil (.cons (.var 2) .nil)) (.tup (.cons (.var 3) .nil))) (.sl (.fld "numbers" f_numbers (.var 4)) (.cons (.bin .Add (.var 2) (.cst (.int 1))) .nil) .nil)))
  .nil))

abbrev s_Book_put_number : Stmt := topM 25 7
def n_Book_put_number : List Str := ["self", "house", "place", "number", "entry"]
theorem f_Book_put_number : FnScope n_Book_put_number ["self", "house", "place", "number"] (defScope s_Book_put_number) := ⟨rfl, rfl, rfl, by decide +kernel, rfl, by decide +kernel, by decide +kernel⟩
theorem k_Book_put_number {Γ : Amb} (f_numbers : FldR Γ "numbers") (t_entry_of : MethR Γ "entry_of") : mB (Γ := Γ) ⟨n_Book_put_number, defScope s_Book_put_number, fun _ => true⟩ (c_Book_put_number f_numbers t_entry_of) (defBody s_Book_put_number) = true := by kernel_rfl

/- Book.things: slots 0 self 1 house 2 number -/
def c_Book_things {Γ : Amb} (t_put_number : MethR Γ "put_number") : Ss Γ :=
  (.cons (.ex (.meth "put_number" t_put_number (.var 0) (.cons (.var 1) (.cons (.cst (.int 0)) (.cons (.var 2) .nil)))))
  .nil)

abbrev s_Book_things : Stmt := topM 25 8
def n_Book_things : List Str := ["self", "house", "number"]
theorem f_Book_things : FnScope n_Book_things ["self", "house", "number"] (defScope s_Book_things) := ⟨rfl, rfl, rfl, by decide +kernel, rfl, by decide +kernel, by decide +kernel⟩
theorem k_Book_things {Γ : Amb} (t_put_number : MethR Γ "put_number") : mB (Γ := Γ) ⟨n_Book_things, defScope s_Book_things, fun _ => true⟩ (c_Book_things t_put_number) (defBody s_Book_things) = true := by kernel_rfl

/- Book.mark: slots 0 self 1 house 2 number -/
def c_Book_mark {Γ : Amb} (t_put_number : MethR Γ "put_number") : Ss Γ :=
  (.cons (.ex (.meth "put_number" t_put_number (.var 0) (.cons (.var 1) (.cons (.cst (.int 1)) (.cons (.var 2) .nil)))))
  .nil)

abbrev s_Book_mark : Stmt := topM 25 9
def n_Book_mark : List Str := ["self", "house", "number"]
theorem f_Book_mark : FnScope n_Book_mark ["self", "house", "number"] (defScope s_Book_mark) := ⟨rfl, rfl, rfl, by decide +kernel, rfl, by decide +kernel, by decide +kernel⟩
theorem k_Book_mark {Γ : Amb} (t_put_number : MethR Γ "put_number") : mB (Γ := Γ) ⟨n_Book_mark, defScope s_Book_mark, fun _ => true⟩ (c_Book_mark t_put_number) (defBody s_Book_mark) = true := by kernel_rfl

/- Book.loss: slots 0 self 1 house 2 number -/
def c_Book_loss {Γ : Amb} (t_put_number : MethR Γ "put_number") (r_must_loss : CallR1 Γ "must_loss") (t_entry_of : MethR Γ "entry_of") : Ss Γ :=
  (.cons (.ex (.meth "entry_of" t_entry_of (.var 0) (.cons (.var 1) .nil)))
  (.cons (.ex (.call "must_loss" r_must_loss (.cons (.var 2) .nil)))
  (.cons (.ex (.meth "put_number" t_put_number (.var 0) (.cons (.var 1) (.cons (.cst (.int 2)) (.cons (.var 2) .nil)))))
  .nil)))

abbrev s_Book_loss : Stmt := topM 25 10
def n_Book_loss : List Str := ["self", "house", "number"]
theorem f_Book_loss : FnScope n_Book_loss ["self", "house", "number"] (defScope s_Book_loss) := ⟨rfl, rfl, rfl, by decide +kernel, rfl, by decide +kernel, by decide +kernel⟩
theorem k_Book_loss {Γ : Amb} (t_put_number : MethR Γ "put_number") (r_must_loss : CallR1 Γ "must_loss") (t_entry_of : MethR Γ "entry_of") : mB (Γ := Γ) ⟨n_Book_loss, defScope s_Book_loss, fun _ => true⟩ (c_Book_loss t_put_number r_must_loss t_entry_of) (defBody s_Book_loss) = true := by kernel_rfl

/- Book.persons: slots 0 self -/
def c_Book_persons {Γ : Amb} (f_people : FldR Γ "people") : Ss Γ :=
  (.cons (.ret (.bi (.sorted true) (.cons (.fld "people" f_people (.var 0)) .nil)))
  .nil)

abbrev s_Book_persons : Stmt := topM 25 11
def n_Book_persons : List Str := ["self"]
theorem f_Book_persons : FnScope n_Book_persons ["self"] (defScope s_Book_persons) := ⟨rfl, rfl, rfl, by decide +kernel, rfl, by decide +kernel, by decide +kernel⟩
theorem k_Book_persons {Γ : Amb} (f_people : FldR Γ "people") : mB (Γ := Γ) ⟨n_Book_persons, defScope s_Book_persons, fun _ => true⟩ (c_Book_persons f_people) (defBody s_Book_persons) = true := by kernel_rfl

/- Book.houses: slots 0 self -/
def c_Book_houses {Γ : Amb} (f_entries : FldR Γ "entries") : Ss Γ :=
  (.cons (.ret (.bi (.sorted true) (.cons (.fld "entries" f_entries (.var 0)) .nil)))
  .nil)

abbrev s_Book_houses : Stmt := topM 25 12
def n_Book_houses : List Str := ["self"]
theorem f_Book_houses : FnScope n_Book_houses ["self"] (defScope s_Book_houses) := ⟨rfl, rfl, rfl, by decide +kernel, rfl, by decide +kernel, by decide +kernel⟩
theorem k_Book_houses {Γ : Amb} (f_entries : FldR Γ "entries") : mB (Γ := Γ) ⟨n_Book_houses, defScope s_Book_houses, fun _ => true⟩ (c_Book_houses f_entries) (defBody s_Book_houses) = true := by kernel_rfl

/- Book.shares: slots 0 self 1 house 2 held 3 holder -/
def c_Book_shares {Γ : Amb} (f_held : FldR Γ "held") (t_entry_of : MethR Γ "entry_of") : Ss Γ :=
  (.cons (.asg (.nm 2) (.fld "held" f_held (.meth "entry_of" t_entry_of (.var 0) (.cons (.var 1) .nil))))
  (.cons (.ret (.lc true (.tup (.cons (.var 3) (.cons (.ix (.var 2) (.var 3)) .nil))) (.nm 3) (.lst (.bi (.sorted false) (.cons (.var 2) .nil))) (.cons (.cmp .NotEq (.ix (.var 2) (.var 3)) (.tup (.cons (.cst (.int 0)) (.cons (.cst (.int 1)) .nil)))) .nil)))
  .nil))

abbrev s_Book_shares : Stmt := topM 25 13
def n_Book_shares : List Str := ["self", "house", "held", "holder"]
theorem f_Book_shares : FnScope n_Book_shares ["self", "house"] (defScope s_Book_shares) := ⟨rfl, rfl, rfl, by decide +kernel, rfl, by decide +kernel, by decide +kernel⟩
theorem k_Book_shares {Γ : Amb} (f_held : FldR Γ "held") (t_entry_of : MethR Γ "entry_of") : mB (Γ := Γ) ⟨n_Book_shares, defScope s_Book_shares, fun _ => true⟩ (c_Book_shares f_held t_entry_of) (defBody s_Book_shares) = true := by kernel_rfl

/- Book.of: slots 0 self 1 house -/
def c_Book_of {Γ : Amb} (f_numbers : FldR Γ "numbers") (t_entry_of : MethR Γ "entry_of") : Ss Γ :=
  (.cons (.ret (.fld "numbers" f_numbers (.meth "entry_of" t_entry_of (.var 0) (.cons (.var 1) .nil))))
  .nil)

abbrev s_Book_of : Stmt := topM 25 14
def n_Book_of : List Str := ["self", "house"]
theorem f_Book_of : FnScope n_Book_of ["self", "house"] (defScope s_Book_of) := ⟨rfl, rfl, rfl, by decide +kernel, rfl, by decide +kernel, by decide +kernel⟩
theorem k_Book_of {Γ : Amb} (f_numbers : FldR Γ "numbers") (t_entry_of : MethR Γ "entry_of") : mB (Γ := Γ) ⟨n_Book_of, defScope s_Book_of, fun _ => true⟩ (c_Book_of f_numbers t_entry_of) (defBody s_Book_of) = true := by kernel_rfl

/- _law_purse: slots 0 _law_cell 1 _law_number_here 2 _law_found 3 _law_k -/
def c_l_purse {Γ : Amb}  : Ss Γ :=
  (.cons (.asg (.nm 1) (.bin .Mod (.var 0) (.cst (.int 2147483647))))
  (.cons (.asg (.nm 2) (.cst (.int 1)))
  (.cons (.for (.nm 3) (.rng1 (.cst (.int 24))) (.cons (.asg (.nm 1) (.bin .Mod (.bin .Add (.bin .Add (.bin .Add (.bin .Mult (.var 1) (.var 1)) (.bin .Mult (.bin .Mult (.cst (.int 48271)) (.var 3)) (.var 3))) (.var 3)) (.cst (.int 3))) (.cst (.int 2147483629))))
  (.cons (.asg (.nm 2) (.bin .Add (.bin .Mult (.var 2) (.cst (.int 2147483587))) (.bin .Mod (.bin .Mult (.var 1) (.var 1)) (.cst (.int 2147483587)))))
  .nil)))
  (.cons (.ifs (.cmp .GtE (.var 0) (.bin .Pow (.cst (.int 10)) (.cst (.int 18)))) (.cons (.ret (.lst true (.cons (.bin .Sub (.var 0) (.bin .Pow (.cst (.int 10)) (.cst (.int 18)))) (.cons (.var 2) .nil))))
  .nil) .nil)
  (.cons (.ret (.lst true (.cons (.cst (.int 0)) (.cons (.var 2) .nil))))
  .nil)))))

abbrev s_l_purse : Stmt := top 27
def n_l_purse : List Str := ["_law_cell", "_law_number_here", "_law_found", "_law_k"]
theorem f_l_purse : FnScope n_l_purse ["_law_cell"] (defScope s_l_purse) := ⟨rfl, rfl, rfl, by decide +kernel, rfl, by decide +kernel, by decide +kernel⟩
theorem k_l_purse {Γ : Amb}  : mB (Γ := Γ) ⟨n_l_purse, defScope s_l_purse, fun _ => true⟩ (c_l_purse) (defBody s_l_purse) = true := by kernel_rfl

/- _law_take: slots 0 _law_purse_here 1 _law_many 2 _law_at 3 _law_found -/
def c_l_take {Γ : Amb}  : Ss Γ :=
  (.cons (.asg (.nm 2) (.bi .int (.cons (.cmp .Eq (.ix (.var 0) (.cst (.int 0))) (.cst (.int 0))) .nil)))
  (.cons (.asg (.nm 3) (.bin .Mod (.ix (.var 0) (.var 2)) (.var 1)))
  (.cons (.setI (.var 0) (.var 2) (.bin .FloorDiv (.ix (.var 0) (.var 2)) (.var 1)))
  (.cons (.ret (.var 3))
  .nil))))

abbrev s_l_take : Stmt := top 28
def n_l_take : List Str := ["_law_purse_here", "_law_many", "_law_at", "_law_found"]
theorem f_l_take : FnScope n_l_take ["_law_purse_here", "_law_many"] (defScope s_l_take) := ⟨rfl, rfl, rfl, by decide +kernel, rfl, by decide +kernel, by decide +kernel⟩
theorem k_l_take {Γ : Amb}  : mB (Γ := Γ) ⟨n_l_take, defScope s_l_take, fun _ => true⟩ (c_l_take) (defBody s_l_take) = true := by kernel_rfl

/- _law_divisor: slots 0 _law_one_here 1 _law_other -/
def c_l_divisor {Γ : Amb}  : Ss Γ :=
  (.cons (.whl (.cmp .NotEq (.var 1) (.cst (.int 0))) (.cons (.par 0 1 (.var 1) (.bin .Mod (.var 0) (.var 1)))
  .nil))
  (.cons (.ret (.bi .abs (.cons (.var 0) .nil)))
  .nil))

abbrev s_l_divisor : Stmt := top 29
def n_l_divisor : List Str := ["_law_one_here", "_law_other"]
theorem f_l_divisor : FnScope n_l_divisor ["_law_one_here", "_law_other"] (defScope s_l_divisor) := ⟨rfl, rfl, rfl, by decide +kernel, rfl, by decide +kernel, by decide +kernel⟩
theorem k_l_divisor {Γ : Amb}  : mB (Γ := Γ) ⟨n_l_divisor, defScope s_l_divisor, fun _ => true⟩ (c_l_divisor) (defBody s_l_divisor) = true := by kernel_rfl

/- _law_lowest: slots 0 _law_top 1 _law_bottom 2 _law_share -/
def c_l_lowest {Γ : Amb} (r_l_divisor : CallR1 Γ "_law_divisor") : Ss Γ :=
  (.cons (.asg (.nm 2) (.call "_law_divisor" r_l_divisor (.cons (.var 0) (.cons (.var 1) .nil))))
  (.cons (.ret (.tup (.cons (.bin .FloorDiv (.var 0) (.var 2)) (.cons (.bin .FloorDiv (.var 1) (.var 2)) .nil))))
  .nil))

abbrev s_l_lowest : Stmt := top 30
def n_l_lowest : List Str := ["_law_top", "_law_bottom", "_law_share"]
theorem f_l_lowest : FnScope n_l_lowest ["_law_top", "_law_bottom"] (defScope s_l_lowest) := ⟨rfl, rfl, rfl, by decide +kernel, rfl, by decide +kernel, by decide +kernel⟩
theorem k_l_lowest {Γ : Amb} (r_l_divisor : CallR1 Γ "_law_divisor") : mB (Γ := Γ) ⟨n_l_lowest, defScope s_l_lowest, fun _ => true⟩ (c_l_lowest r_l_divisor) (defBody s_l_lowest) = true := by kernel_rfl

/- _law_plus: slots 0 _law_one_here 1 _law_other -/
def c_l_plus {Γ : Amb} (r_l_lowest : CallR1 Γ "_law_lowest") : Ss Γ :=
  (.cons (.ret (.call "_law_lowest" r_l_lowest (.cons (.bin .Add (.bin .Mult (.ix (.var 0) (.cst (.int 0))) (.ix (.var 1) (.cst (.int 1)))) (.bin .Mult (.ix (.var 1) (.cst (.int 0))) (.ix (.var 0) (.cst (.int 1))))) (.cons (.bin .Mult (.ix (.var 0) (.cst (.int 1))) (.ix (.var 1) (.cst (.int 1)))) .nil))))
  .nil)

abbrev s_l_plus : Stmt := top 31
def n_l_plus : List Str := ["_law_one_here", "_law_other"]
theorem f_l_plus : FnScope n_l_plus ["_law_one_here", "_law_other"] (defScope s_l_plus) := ⟨rfl, rfl, rfl, by decide +kernel, rfl, by decide +kernel, by decide +kernel⟩
theorem k_l_plus {Γ : Amb} (r_l_lowest : CallR1 Γ "_law_lowest") : mB (Γ := Γ) ⟨n_l_plus, defScope s_l_plus, fun _ => true⟩ (c_l_plus r_l_lowest) (defBody s_l_plus) = true := by kernel_rfl

/- _law_times: slots 0 _law_one_here 1 _law_other -/
def c_l_times {Γ : Amb} (r_l_lowest : CallR1 Γ "_law_lowest") : Ss Γ :=
  (.cons (.ret (.call "_law_lowest" r_l_lowest (.cons (.bin .Mult (.ix (.var 0) (.cst (.int 0))) (.ix (.var 1) (.cst (.int 0)))) (.cons (.bin .Mult (.ix (.var 0) (.cst (.int 1))) (.ix (.var 1) (.cst (.int 1)))) .nil))))
  .nil)

abbrev s_l_times : Stmt := top 32
def n_l_times : List Str := ["_law_one_here", "_law_other"]
theorem f_l_times : FnScope n_l_times ["_law_one_here", "_law_other"] (defScope s_l_times) := ⟨rfl, rfl, rfl, by decide +kernel, rfl, by decide +kernel, by decide +kernel⟩
theorem k_l_times {Γ : Amb} (r_l_lowest : CallR1 Γ "_law_lowest") : mB (Γ := Γ) ⟨n_l_times, defScope s_l_times, fun _ => true⟩ (c_l_times r_l_lowest) (defBody s_l_times) = true := by kernel_rfl

/- _law_lesser: slots 0 _law_one_here 1 _law_other -/
def c_l_lesser {Γ : Amb}  : Ss Γ :=
  (.cons (.ret (.cmp .Lt (.bin .Mult (.ix (.var 0) (.cst (.int 0))) (.ix (.var 1) (.cst (.int 1)))) (.bin .Mult (.ix (.var 1) (.cst (.int 0))) (.ix (.var 0) (.cst (.int 1))))))
  .nil)

abbrev s_l_lesser : Stmt := top 33
def n_l_lesser : List Str := ["_law_one_here", "_law_other"]
theorem f_l_lesser : FnScope n_l_lesser ["_law_one_here", "_law_other"] (defScope s_l_lesser) := ⟨rfl, rfl, rfl, by decide +kernel, rfl, by decide +kernel, by decide +kernel⟩
theorem k_l_lesser {Γ : Amb}  : mB (Γ := Γ) ⟨n_l_lesser, defScope s_l_lesser, fun _ => true⟩ (c_l_lesser) (defBody s_l_lesser) = true := by kernel_rfl

/- _law_names: slots 0 _law_purse_here 1 _law_letters 2 _law_first 3 _law_found 4 _law_k 5 _law_long 6 _law_tail 7 _law_j -/
def c_l_names {Γ : Amb} (r_l_take : CallR1 Γ "_law_take") : Ss Γ :=
  (.cons (.asg (.nm 1) (.cst (.str "abcdefghijklmnopqrstuvwxyz")))
  (.cons (.asg (.nm 2) (.call "_law_take" r_l_take (.cons (.var 0) (.cons (.cst (.int 26)) .nil))))
  (.cons (.asg (.nm 3) (.lst true .nil))
  (.cons (.for (.nm 4) (.rng1 (.cst (.int 14))) (.cons (.asg (.nm 5) (.call "_law_take" r_l_take (.cons (.var 0) (.cons (.cst (.int 8)) .nil))))
  (.cons (.asg (.nm 6) (.bm .join (.cst (.str "")) (.cons (.lc false (.ix (.var 1) (.call "_law_take" r_l_take (.cons (.var 0) (.cons (.cst (.int 26)) .nil)))) (.nm 7) (.rng1 (.var 5)) .nil) .nil)))
  (.cons (.ex (.bm .append (.var 3) (.cons (.bin .Add (.ix (.var 1) (.bin .Mod (.bin .Add (.var 2) (.bin .Mult (.cst (.int 7)) (.var 4))) (.cst (.int 26)))) (.var 6)) .nil)))
  .nil))))
  (.cons (.ret (.frz (.var 3)))
  .nil)))))

abbrev s_l_names : Stmt := top 34
def n_l_names : List Str := ["_law_purse_here", "_law_letters", "_law_first", "_law_found", "_law_k", "_law_long", "_law_tail", "_law_j"]
theorem f_l_names : FnScope n_l_names ["_law_purse_here"] (defScope s_l_names) := ⟨rfl, rfl, rfl, by decide +kernel, rfl, by decide +kernel, by decide +kernel⟩
theorem k_l_names {Γ : Amb} (r_l_take : CallR1 Γ "_law_take") : mB (Γ := Γ) ⟨n_l_names, defScope s_l_names, fun _ => true⟩ (c_l_names r_l_take) (defBody s_l_names) = true := by kernel_rfl

/- _law_is_name: slots 0 _law_text 1 _law_strange 2 _law_sign -/
def c_l_is_name {Γ : Amb}  : Ss Γ :=
  (.cons (.asg (.nm 1) (.lc false (.var 2) (.nm 2) (.str (.var 0)) (.cons (.cmp .NotIn (.var 2) (.cst (.str "abcdefghijklmnopqrstuvwxyz"))) .nil)))
  (.cons (.ret (.bool .And (.cons (.cmp .NotEq (.var 0) (.cst (.str ""))) (.cons (.cmp .Lt (.bi .len (.cons (.var 0) .nil)) (.cst (.int 9))) (.cons (.cmp .Eq (.var 1) (.lst false .nil)) .nil)))))
  .nil))

abbrev s_l_is_name : Stmt := top 35
def n_l_is_name : List Str := ["_law_text", "_law_strange", "_law_sign"]
theorem f_l_is_name : FnScope n_l_is_name ["_law_text"] (defScope s_l_is_name) := ⟨rfl, rfl, rfl, by decide +kernel, rfl, by decide +kernel, by decide +kernel⟩
theorem k_l_is_name {Γ : Amb}  : mB (Γ := Γ) ⟨n_l_is_name, defScope s_l_is_name, fun _ => true⟩ (c_l_is_name) (defBody s_l_is_name) = true := by kernel_rfl

/- _law_refusal: slots 0 _law_model 1 _law_deed_here 2 _law_people 3 _law_entries 4 _law_has 5 _law_name -/
def c_l_refusal {Γ : Amb} (r_l_lesser : CallR1 Γ "_law_lesser") (r_l_is_name : CallR1 Γ "_law_is_name") : Ss Γ :=
  (.cons (.asg (.ul [2, 3]) (.var 0))
  (.cons (.ifs (.bool .Or (.cons (.cmp .Eq (.ix (.var 1) (.cst (.int 0))) (.cst (.str "person"))) (.cons (.cmp .Eq (.ix (.var 1) (.cst (.int 0))) (.cst (.str "house"))) .nil))) (.cons (.ifs (.not (.val (.call "_law_is_name" r_l_is_name (.cons (.ix (.var 1) (.cst (.int 1))) .nil)))) (.cons (.ret (.lst false (.cons (.cst (.int 0)) .nil)))
  .nil) .nil)
  (.cons (.ifs (.bool .Or (.cons (.cmp .In (.ix (.var 1) (.cst (.int 1))) (.var 2)) (.cons (.cmp .In (.ix (.var 1) (.cst (.int 1))) (.var 3)) .nil))) (.cons (.ret (.lst false (.cons (.cst (.int 1)) .nil)))
  .nil) .nil)
  (.cons (.ifs (.cmp .Eq (.ix (.var 1) (.cst (.int 0))) (.cst (.str "person"))) (.cons (.ret (.bin .Mult (.lst false (.cons (.cst (.int 2)) .nil)) (.bi .int (.cons (.cmp .Eq (.bi .len (.cons (.var 2) .nil)) (.cst (.int 6))) .nil))))
  .nil) .nil)
  (.cons (.ifs (.bool .And (.cons (.cmp .NotIn (.ix (.var 1) (.cst (.int 2))) (.var 2)) (.cons (.cmp .NotIn (.ix (.var 1) (.cst (.int 2))) (.var 3)) .nil))) (.cons (.ret (.lst false (.cons (.cst (.int 3)) .nil)))
  .nil) .nil)
  (.cons (.ifs (.cmp .Lt (.ix (.var 1) (.cst (.int 5))) (.cst (.int 0))) (.cons (.ret (.lst false (.cons (.cst (.int 5)) .nil)))
  .nil) .nil)
  (.cons (.ret (.bin .Mult (.lst false (.cons (.cst (.int 2)) .nil)) (.bi .int (.cons (.cmp .Eq (.bi .len (.cons (.var 3) .nil)) (.cst (.int 8))) .nil))))
  .nil)))))) .nil)
  (.cons (.ifs (.cmp .NotIn (.ix (.var 1) (.cst (.int 1))) (.var 3)) (.cons (.ret (.lst false (.cons (.cst (.int 4)) .nil)))
  .nil) .nil)
  (.cons (.ifs (.cmp .Eq (.ix (.var 1) (.cst (.int 0))) (.cst (.str "sale"))) (.cons (.ifs (.cmp .Gt (.bi .len (.cons (.lc false (.var 5) (.nm 5) (.tupl (.sl (.var 1) (.cons (.cst (.int 2)) .nil) (.cons (.cst (.int 4)) .nil))) (.cons (.bool .And (.cons (.cmp .NotIn (.var 5) (.var 2)) (.cons (.cmp .NotIn (.var 5) (.var 3)) .nil))) .nil)) .nil)) (.cst (.int 0))) (.cons (.ret (.lst false (.cons (.cst (.int 3)) .nil)))
  .nil) .nil)
  (.cons (.asg (.nm 4) (.bm .get (.ix (.ix (.var 3) (.ix (.var 1) (.cst (.int 1)))) (.cst (.int 3))) (.cons (.ix (.var 1) (.cst (.int 2))) (.cons (.tup (.cons (.cst (.int 0)) (.cons (.cst (.int 1)) .nil))) .nil))))
  (.cons (.ret (.bin .Mult (.lst false (.cons (.cst (.int 6)) .nil)) (.bi .int (.cons (.bool .Or (.cons (.cmp .LtE (.ix (.ix (.var 1) (.cst (.int 4))) (.cst (.int 0))) (.cst (.int 0))) (.cons (.call "_law_lesser" r_l_lesser (.cons (.var 4) (.cons (.ix (.var 1) (.cst (.int 4))) .nil))) .nil))) .nil))))
  .nil))) .nil)
  (.cons (.ret (.bin .Mult (.lst false (.cons (.cst (.int 5)) .nil)) (.bi .int (.cons (.bool .And (.cons (.cmp .Eq (.ix (.var 1) (.cst (.int 0))) (.cst (.str "loss"))) (.cons (.cmp .Lt (.ix (.var 1) (.cst (.int 2))) (.cst (.int 0))) .nil))) .nil))))
  .nil)))))

abbrev s_l_refusal : Stmt := top 36
def n_l_refusal : List Str := ["_law_model", "_law_deed_here", "_law_people", "_law_entries", "_law_has", "_law_name"]
theorem f_l_refusal : FnScope n_l_refusal ["_law_model", "_law_deed_here"] (defScope s_l_refusal) := ⟨rfl, rfl, rfl, by decide +kernel, rfl, by decide +kernel, by decide +kernel⟩
theorem k_l_refusal {Γ : Amb} (r_l_lesser : CallR1 Γ "_law_lesser") (r_l_is_name : CallR1 Γ "_law_is_name") : mB (Γ := Γ) ⟨n_l_refusal, defScope s_l_refusal, fun _ => true⟩ (c_l_refusal r_l_lesser r_l_is_name) (defBody s_l_refusal) = true := by kernel_rfl

/- _law_changed: slots 0 _law_model 1 _law_deed_here 2 _law_people 3 _law_entries 4 _law_held 5 _law_top 6 _law_bottom -/
def c_l_changed {Γ : Amb} (r_l_plus : CallR1 Γ "_law_plus") : Ss Γ :=
  (.cons (.asg (.ul [2, 3]) (.var 0))
  (.cons (.ifs (.cmp .Eq (.ix (.var 1) (.cst (.int 0))) (.cst (.str "person"))) (.cons (.ex (.bm .append (.var 2) (.cons (.ix (.var 1) (.cst (.int 1))) .nil)))
  .nil) (.cons (.ifs (.cmp .Eq (.ix (.var 1) (.cst (.int 0))) (.cst (.str "house"))) (.cons (.setI (.var 3) (.ix (.var 1) (.cst (.int 1))) (.lst true (.cons (.ix (.var 1) (.cst (.int 3))) (.cons (.ix (.var 1) (.cst (.int 4))) (.cons (.ix (.var 1) (.cst (.int 5))) (.cons (.dic1 (.ix (.var 1) (.cst (.int 2))) (.tup (.cons (.cst (.int 1)) (.cons (.cst (.int 1)) .nil)))) .nil))))))
  .nil) (.cons (.ifs (.cmp .Eq (.ix (.var 1) (.cst (.int 0))) (.cst (.str "sale"))) (.cons (.asg (.nm 4) (.ix (.ix (.var 3) (.ix (.var 1) (.cst (.int 1)))) (.cst (.int 3))))
  (.cons (.asg (.tp [5, 6]) (.ix (.var 1) (.cst (.int 4))))
  (.cons (.setI (.var 4) (.ix (.var 1) (.cst (.int 2))) (.call "_law_plus" r_l_plus (.cons (.ix (.var 4) (.ix (.var 1) (.cst (.int 2)))) (.cons (.tup (.cons (.neg (.var 5)) (.cons (.var 6) .nil))) .nil))))
  (.cons (.setI (.var 4) (.ix (.var 1) (.cst (.int 3))) (.call "_law_plus" r_l_plus (.cons (.bm .get (.var 4) (.cons (.ix (.var 1) (.cst (.int 3))) (.cons (.tup (.cons (.cst (.int 0)) (.cons (.cst (.int 1)) .nil))) .nil))) (.cons (.ix (.var 1) (.cst (.int 4))) .nil))))
  .nil)))) (.cons (.setI (.ix (.var 3) (.ix (.var 1) (.cst (.int 1)))) (.bm .index (.lst false (.cons (.cst (.str "things")) (.cons (.cst (.str "mark")) (.cons (.cst (.str "loss")) .nil)))) (.cons (.ix (.var 1) (.cst (.int 0))) .nil)) (.ix (.var 1) (.cst (.int 2))))
  .nil))
  .nil))
  .nil))
  .nil))

abbrev s_l_changed : Stmt := top 37
def n_l_changed : List Str := ["_law_model", "_law_deed_here", "_law_people", "_law_entries", "_law_held", "_law_top", "_law_bottom"]
theorem f_l_changed : FnScope n_l_changed ["_law_model", "_law_deed_here"] (defScope s_l_changed) := ⟨rfl, rfl, rfl, by decide +kernel, rfl, by decide +kernel, by decide +kernel⟩
theorem k_l_changed {Γ : Amb} (r_l_plus : CallR1 Γ "_law_plus") : mB (Γ := Γ) ⟨n_l_changed, defScope s_l_changed, fun _ => true⟩ (c_l_changed r_l_plus) (defBody s_l_changed) = true := by kernel_rfl

/- _law_deed: slots 0 _law_book 1 _law_deed_here -/
def c_l_deed {Γ : Amb} (t_loss : MethR Γ "loss") (t_mark : MethR Γ "mark") (t_things : MethR Γ "things") (t_sale : MethR Γ "sale") (t_house : MethR Γ "house") (t_person : MethR Γ "person") : Ss Γ :=
  (.cons (.ifs (.cmp .Eq (.ix (.var 1) (.cst (.int 0))) (.cst (.str "person"))) (.cons (.ret (.meth "person" t_person (.var 0) (.cons (.ix (.var 1) (.cst (.int 1))) .nil)))
  .nil) .nil)
  (.cons (.ifs (.cmp .Eq (.ix (.var 1) (.cst (.int 0))) (.cst (.str "house"))) (.cons (.ret (.meth "house" t_house (.var 0) (.cons (.ix (.var 1) (.cst (.int 1))) (.cons (.ix (.var 1) (.cst (.int 2))) (.cons (.ix (.var 1) (.cst (.int 3))) (.cons (.ix (.var 1) (.cst (.int 4))) (.cons (.ix (.var 1) (.cst (.int 5))) .nil)))))))
  .nil) .nil)
  (.cons (.ifs (.cmp .Eq (.ix (.var 1) (.cst (.int 0))) (.cst (.str "sale"))) (.cons (.ret (.meth "sale" t_sale (.var 0) (.cons (.ix (.var 1) (.cst (.int 1))) (.cons (.ix (.var 1) (.cst (.int 2))) (.cons (.ix (.var 1) (.cst (.int 3))) (.cons (.ix (.var 1) (.cst (.int 4))) .nil))))))
  .nil) .nil)
  (.cons (.ifs (.cmp .Eq (.ix (.var 1) (.cst (.int 0))) (.cst (.str "things"))) (.cons (.ret (.meth "things" t_things (.var 0) (.cons (.ix (.var 1) (.cst (.int 1))) (.cons (.ix (.var 1) (.cst (.int 2))) .nil))))
  .nil) .nil)
  (.cons (.ifs (.cmp .Eq (.ix (.var 1) (.cst (.int 0))) (.cst (.str "mark"))) (.cons (.ret (.meth "mark" t_mark (.var 0) (.cons (.ix (.var 1) (.cst (.int 1))) (.cons (.ix (.var 1) (.cst (.int 2))) .nil))))
  .nil) .nil)
  (.cons (.ret (.meth "loss" t_loss (.var 0) (.cons (.ix (.var 1) (.cst (.int 1))) (.cons (.ix (.var 1) (.cst (.int 2))) .nil))))
  .nil))))))

abbrev s_l_deed : Stmt := top 38
def n_l_deed : List Str := ["_law_book", "_law_deed_here"]
theorem f_l_deed : FnScope n_l_deed ["_law_book", "_law_deed_here"] (defScope s_l_deed) := ⟨rfl, rfl, rfl, by decide +kernel, rfl, by decide +kernel, by decide +kernel⟩
theorem k_l_deed {Γ : Amb} (t_loss : MethR Γ "loss") (t_mark : MethR Γ "mark") (t_things : MethR Γ "things") (t_sale : MethR Γ "sale") (t_house : MethR Γ "house") (t_person : MethR Γ "person") : mB (Γ := Γ) ⟨n_l_deed, defScope s_l_deed, fun _ => true⟩ (c_l_deed t_loss t_mark t_things t_sale t_house t_person) (defBody s_l_deed) = true := by kernel_rfl

/- _law_did: slots 0 _law_book 1 _law_deed_here 2 _law_told_here 3 _law_kept 4 _law_e -/
def c_l_did {Γ : Amb} (e_OwnError : ExR Γ "OwnError") (r_l_deed : CallR1 Γ "_law_deed") : Ss Γ :=
  (.cons (.asg (.nm 2) (.cst (.int 0)))
  (.cons (.asg (.nm 3) (.cst .non))
  (.cons (.tryK "OwnError" e_OwnError 4 3 (.cons (.asg (.nm 2) (.call "_law_deed" r_l_deed (.cons (.var 0) (.cons (.var 1) .nil))))
  .nil))
  (.cons (.ret (.lst false (.cons (.var 2) (.cons (.var 3) .nil))))
  .nil))))

abbrev s_l_did : Stmt := top 39
def n_l_did : List Str := ["_law_book", "_law_deed_here", "_law_told_here", "_law_kept", "_law_e"]
theorem f_l_did : FnScope n_l_did ["_law_book", "_law_deed_here"] (defScope s_l_did) := ⟨rfl, rfl, rfl, by decide +kernel, rfl, by decide +kernel, by decide +kernel⟩
theorem k_l_did {Γ : Amb} (e_OwnError : ExR Γ "OwnError") (r_l_deed : CallR1 Γ "_law_deed") : mB (Γ := Γ) ⟨n_l_did, defScope s_l_did, fun _ => true⟩ (c_l_did e_OwnError r_l_deed) (defBody s_l_did) = true := by kernel_rfl

/- _law_which: slots 0 _law_e 1 _law_found 2 _law_k -/
def c_l_which {Γ : Amb} (i_ValueError : IsR Γ "ValueError") (i_OwnError : IsR Γ "OwnError") (i_NoText : IsR Γ "NoText") (i_Whole : IsR Γ "Whole") (i_NoHouse : IsR Γ "NoHouse") (i_NoLoss : IsR Γ "NoLoss") (i_NoShare : IsR Γ "NoShare") (i_NoName : IsR Γ "NoName") (i_Twice : IsR Γ "Twice") (i_TooMany : IsR Γ "TooMany") (i_NoHolder : IsR Γ "NoHolder") : Ss Γ :=
  (.cons (.asg (.nm 1) (.lst false (.cons (.isi "NoName" i_NoName (.var 0)) (.cons (.isi "Twice" i_Twice (.var 0)) (.cons (.isi "TooMany" i_TooMany (.var 0)) (.cons (.isi "NoHolder" i_NoHolder (.var 0)) .nil))))))
  (.cons (.asg (.nm 1) (.bin .Add (.var 1) (.lst false (.cons (.isi "NoHouse" i_NoHouse (.var 0)) (.cons (.isi "NoLoss" i_NoLoss (.var 0)) (.cons (.isi "NoShare" i_NoShare (.var 0)) .nil))))))
  (.cons (.asg (.nm 1) (.bin .Add (.var 1) (.lst false (.cons (.isi "NoText" i_NoText (.var 0)) (.cons (.isi "Whole" i_Whole (.var 0)) .nil)))))
  (.cons (.ifs (.bool .Or (.cons (.not (.val (.isi "ValueError" i_ValueError (.var 0)))) (.cons (.not (.val (.isi "OwnError" i_OwnError (.var 0)))) .nil))) (.cons (.ret (.lst false .nil))
  .nil) .nil)
  (.cons (.ret (.lc false (.var 2) (.nm 2) (.rng1 (.cst (.int 9))) (.cons (.val (.ix (.var 1) (.var 2))) .nil)))
  .nil)))))

abbrev s_l_which : Stmt := top 40
def n_l_which : List Str := ["_law_e", "_law_found", "_law_k"]
theorem f_l_which : FnScope n_l_which ["_law_e"] (defScope s_l_which) := ⟨rfl, rfl, rfl, by decide +kernel, rfl, by decide +kernel, by decide +kernel⟩
theorem k_l_which {Γ : Amb} (i_ValueError : IsR Γ "ValueError") (i_OwnError : IsR Γ "OwnError") (i_NoText : IsR Γ "NoText") (i_Whole : IsR Γ "Whole") (i_NoHouse : IsR Γ "NoHouse") (i_NoLoss : IsR Γ "NoLoss") (i_NoShare : IsR Γ "NoShare") (i_NoName : IsR Γ "NoName") (i_Twice : IsR Γ "Twice") (i_TooMany : IsR Γ "TooMany") (i_NoHolder : IsR Γ "NoHolder") : mB (Γ := Γ) ⟨n_l_which, defScope s_l_which, fun _ => true⟩ (c_l_which i_ValueError i_OwnError i_NoText i_Whole i_NoHouse i_NoLoss i_NoShare i_NoName i_Twice i_TooMany i_NoHolder) (defBody s_l_which) = true := by kernel_rfl

/- _law_done: slots 0 _law_book 1 _law_model 2 _law_deed_here 3 _law_due 4 _law_told_here 5 _law_kept -/
def c_l_done {Γ : Amb} (r_l_changed : CallR1 Γ "_law_changed") (r_l_which : CallR1 Γ "_law_which") (r_l_did : CallR1 Γ "_law_did") (r_l_refusal : CallR1 Γ "_law_refusal") : Ss Γ :=
  (.cons (.asg (.nm 3) (.call "_law_refusal" r_l_refusal (.cons (.var 1) (.cons (.var 2) .nil))))
  (.cons (.asg (.ul [4, 5]) (.call "_law_did" r_l_did (.cons (.var 0) (.cons (.var 2) .nil))))
  (.cons (.ifs (.cmp .NotEq (.var 3) (.lst false .nil)) (.cons (.ret (.cmp .Eq (.call "_law_which" r_l_which (.cons (.var 5) .nil)) (.var 3)))
  .nil) .nil)
  (.cons (.ex (.call "_law_changed" r_l_changed (.cons (.var 1) (.cons (.var 2) .nil))))
  (.cons (.ret (.bool .And (.cons (.cmp .Is (.var 5) (.cst .non)) (.cons (.cmp .Is (.var 4) (.cst .non)) .nil))))
  .nil)))))

abbrev s_l_done : Stmt := top 41
def n_l_done : List Str := ["_law_book", "_law_model", "_law_deed_here", "_law_due", "_law_told_here", "_law_kept"]
theorem f_l_done : FnScope n_l_done ["_law_book", "_law_model", "_law_deed_here"] (defScope s_l_done) := ⟨rfl, rfl, rfl, by decide +kernel, rfl, by decide +kernel, by decide +kernel⟩
theorem k_l_done {Γ : Amb} (r_l_changed : CallR1 Γ "_law_changed") (r_l_which : CallR1 Γ "_law_which") (r_l_did : CallR1 Γ "_law_did") (r_l_refusal : CallR1 Γ "_law_refusal") : mB (Γ := Γ) ⟨n_l_done, defScope s_l_done, fun _ => true⟩ (c_l_done r_l_changed r_l_which r_l_did r_l_refusal) (defBody s_l_done) = true := by kernel_rfl

/- _law_shares: slots 0 _law_model 1 _law_house 2 _law_held 3 _law_name -/
def c_l_shares {Γ : Amb}  : Ss Γ :=
  (.cons (.asg (.nm 2) (.ix (.ix (.ix (.var 0) (.cst (.int 1))) (.var 1)) (.cst (.int 3))))
  (.cons (.ret (.lc false (.tup (.cons (.var 3) (.cons (.ix (.var 2) (.var 3)) .nil))) (.nm 3) (.lst (.bi (.sorted false) (.cons (.var 2) .nil))) (.cons (.cmp .Gt (.ix (.ix (.var 2) (.var 3)) (.cst (.int 0))) (.cst (.int 0))) .nil)))
  .nil))

abbrev s_l_shares : Stmt := top 42
def n_l_shares : List Str := ["_law_model", "_law_house", "_law_held", "_law_name"]
theorem f_l_shares : FnScope n_l_shares ["_law_model", "_law_house"] (defScope s_l_shares) := ⟨rfl, rfl, rfl, by decide +kernel, rfl, by decide +kernel, by decide +kernel⟩
theorem k_l_shares {Γ : Amb}  : mB (Γ := Γ) ⟨n_l_shares, defScope s_l_shares, fun _ => true⟩ (c_l_shares) (defBody s_l_shares) = true := by kernel_rfl

/- _law_whole: slots 0 _law_found -/
def c_l_whole {Γ : Amb} (i_int : IsR Γ "int") (i_bool : IsR Γ "bool") : Ss Γ :=
  (.cons (.ret (.bool .And (.cons (.isi "int" i_int (.var 0)) (.cons (.not (.isi "bool" i_bool (.var 0))) .nil))))
  .nil)

abbrev s_l_whole : Stmt := top 43
def n_l_whole : List Str := ["_law_found"]
theorem f_l_whole : FnScope n_l_whole ["_law_found"] (defScope s_l_whole) := ⟨rfl, rfl, rfl, by decide +kernel, rfl, by decide +kernel, by decide +kernel⟩
theorem k_l_whole {Γ : Amb} (i_int : IsR Γ "int") (i_bool : IsR Γ "bool") : mB (Γ := Γ) ⟨n_l_whole, defScope s_l_whole, fun _ => true⟩ (c_l_whole i_int i_bool) (defBody s_l_whole) = true := by kernel_rfl

/- _law_same: slots 0 _law_found 1 _law_due 2 _law_k -/
def c_l_same {Γ : Amb} (r_l_whole : CallR1 Γ "_law_whole") (i_str : IsR Γ "str") (i_tuple : IsR Γ "tuple") (i_list : IsR Γ "list") (r_l_same : CallR1 Γ "_law_same") : Ss Γ :=
  (.cons (.ifs (.bool .Or (.cons (.val (.isi "tuple" i_tuple (.var 1))) (.cons (.val (.isi "list" i_list (.var 1))) .nil))) (.cons (.ifs (.bool .Or (.cons (.cmp .NotEq (.isi "tuple" i_tuple (.var 0)) (.isi "tuple" i_tuple (.var 1))) (.cons (.cmp .NotEq (.isi "list" i_list (.var 0)) (.isi "list" i_list (.var 1))) .nil))) (.cons (.ret (.cst (.bl false)))
  .nil) .nil)
  (.cons (.ifs (.cmp .NotEq (.bi .len (.cons (.var 0) .nil)) (.bi .len (.cons (.var 1) .nil))) (.cons (.ret (.cst (.bl false)))
  .nil) .nil)
  (.cons (.ret (.cmp .Eq (.bi .len (.cons (.lc false (.var 2) (.nm 2) (.rng1 (.bi .len (.cons (.var 1) .nil))) (.cons (.not (.val (.call "_law_same" r_l_same (.cons (.ix (.var 0) (.var 2)) (.cons (.ix (.var 1) (.var 2)) .nil))))) .nil)) .nil)) (.cst (.int 0))))
  .nil))) .nil)
  (.cons (.ifs (.val (.isi "str" i_str (.var 1))) (.cons (.ret (.bool .And (.cons (.isi "str" i_str (.var 0)) (.cons (.cmp .Eq (.var 0) (.var 1)) .nil))))
  .nil) .nil)
  (.cons (.ret (.bool .And (.cons (.call "_law_whole" r_l_whole (.cons (.var 0) .nil)) (.cons (.cmp .Eq (.var 0) (.var 1)) .nil))))
  .nil)))

abbrev s_l_same : Stmt := top 44
def n_l_same : List Str := ["_law_found", "_law_due", "_law_k"]
theorem f_l_same : FnScope n_l_same ["_law_found", "_law_due"] (defScope s_l_same) := ⟨rfl, rfl, rfl, by decide +kernel, rfl, by decide +kernel, by decide +kernel⟩
theorem k_l_same {Γ : Amb} (r_l_whole : CallR1 Γ "_law_whole") (i_str : IsR Γ "str") (i_tuple : IsR Γ "tuple") (i_list : IsR Γ "list") (r_l_same : CallR1 Γ "_law_same") : mB (Γ := Γ) ⟨n_l_same, defScope s_l_same, fun _ => true⟩ (c_l_same r_l_whole i_str i_tuple i_list r_l_same) (defBody s_l_same) = true := by kernel_rfl

/- _law_told: slots 0 _law_book 1 _law_model 2 _law_house -/
def c_l_told {Γ : Amb} (r_l_same : CallR1 Γ "_law_same") (t_shares : MethR Γ "shares") (r_l_shares : CallR1 Γ "_law_shares") (t_of : MethR Γ "of") (t_persons : MethR Γ "persons") (t_houses : MethR Γ "houses") : Ss Γ :=
  (.cons (.ifs (.bool .Or (.cons (.not (.val (.call "_law_same" r_l_same (.cons (.meth "persons" t_persons (.var 0) .nil) (.cons (.bi (.sorted false) (.cons (.ix (.var 1) (.cst (.int 0))) .nil)) .nil))))) (.cons (.not (.val (.call "_law_same" r_l_same (.cons (.meth "houses" t_houses (.var 0) .nil) (.cons (.bi (.sorted false) (.cons (.ix (.var 1) (.cst (.int 1))) .nil)) .nil))))) .nil))) (.cons (.ret (.cst (.bl false)))
  .nil) .nil)
  (.cons (.forK (.nm 2) (.ix (.var 1) (.cst (.int 1))) (.cons (.ifs (.not (.val (.call "_law_same" r_l_same (.cons (.meth "of" t_of (.var 0) (.cons (.var 2) .nil)) (.cons (.bi .tuple (.cons (.sl (.ix (.ix (.var 1) (.cst (.int 1))) (.var 2)) .nil (.cons (.cst (.int 3)) .nil)) .nil)) .nil))))) (.cons (.ret (.cst (.bl false)))
  .nil) .nil)
  (.cons (.ifs (.not (.val (.call "_law_same" r_l_same (.cons (.meth "shares" t_shares (.var 0) (.cons (.var 2) .nil)) (.cons (.call "_law_shares" r_l_shares (.cons (.var 1) (.cons (.var 2) .nil))) .nil))))) (.cons (.ret (.cst (.bl false)))
  .nil) .nil)
  .nil)))
  (.cons (.ret (.cst (.bl true)))
  .nil)))

abbrev s_l_told : Stmt := top 45
def n_l_told : List Str := ["_law_book", "_law_model", "_law_house"]
theorem f_l_told : FnScope n_l_told ["_law_book", "_law_model"] (defScope s_l_told) := ⟨rfl, rfl, rfl, by decide +kernel, rfl, by decide +kernel, by decide +kernel⟩
theorem k_l_told {Γ : Amb} (r_l_same : CallR1 Γ "_law_same") (t_shares : MethR Γ "shares") (r_l_shares : CallR1 Γ "_law_shares") (t_of : MethR Γ "of") (t_persons : MethR Γ "persons") (t_houses : MethR Γ "houses") : mB (Γ := Γ) ⟨n_l_told, defScope s_l_told, fun _ => true⟩ (c_l_told r_l_same t_shares r_l_shares t_of t_persons t_houses) (defBody s_l_told) = true := by kernel_rfl

/- _law_one: slots 0 _law_purse_here 1 _law_words 2 _law_odd -/
def c_l_one {Γ : Amb} (r_l_take : CallR1 Γ "_law_take") : Ss Γ :=
  (.cons (.ifs (.bool .And (.cons (.val (.var 2)) (.cons (.cmp .Eq (.call "_law_take" r_l_take (.cons (.var 0) (.cons (.cst (.int 8)) .nil))) (.cst (.int 7))) .nil))) (.cons (.ret (.ix (.lst false (.cons (.cst (.str "")) (.cons (.cst (.str "A")) (.cons (.cst (.str "ninefolds")) (.cons (.cst (.str "a b")) (.cons (.cst (.str "a1")) (.cons (.cst (.str "aB")) (.cons (.cst (.str "-")) (.cons (.cst (.str "zzzzzzzz")) .nil))))))))) (.call "_law_take" r_l_take (.cons (.var 0) (.cons (.cst (.int 8)) .nil)))))
  .nil) .nil)
  (.cons (.ret (.ix (.var 1) (.call "_law_take" r_l_take (.cons (.var 0) (.cons (.bi .len (.cons (.var 1) .nil)) .nil)))))
  .nil))

abbrev s_l_one : Stmt := top 46
def n_l_one : List Str := ["_law_purse_here", "_law_words", "_law_odd"]
theorem f_l_one : FnScope n_l_one ["_law_purse_here", "_law_words", "_law_odd"] (defScope s_l_one) := ⟨rfl, rfl, rfl, by decide +kernel, rfl, by decide +kernel, by decide +kernel⟩
theorem k_l_one {Γ : Amb} (r_l_take : CallR1 Γ "_law_take") : mB (Γ := Γ) ⟨n_l_one, defScope s_l_one, fun _ => true⟩ (c_l_one r_l_take) (defBody s_l_one) = true := by kernel_rfl

/- _law_number: slots 0 _law_purse_here 1 _law_sort -/
def c_l_number {Γ : Amb} (r_l_take : CallR1 Γ "_law_take") : Ss Γ :=
  (.cons (.asg (.nm 1) (.call "_law_take" r_l_take (.cons (.var 0) (.cons (.cst (.int 4)) .nil))))
  (.cons (.ret (.bin .Sub (.call "_law_take" r_l_take (.cons (.var 0) (.cons (.ix (.lst false (.cons (.cst (.int 21)) (.cons (.cst (.int 201)) (.cons (.bin .Add (.bin .Mult (.cst (.int 2)) (.bin .Pow (.cst (.int 10)) (.cst (.int 6)))) (.cst (.int 1))) (.cons (.bin .Sub (.bin .Mult (.cst (.int 2)) (.bin .Pow (.cst (.int 10)) (.cst (.int 30)))) (.cst (.int 1))) .nil))))) (.var 1)) .nil))) (.ix (.lst false (.cons (.cst (.int 10)) (.cons (.cst (.int 100)) (.cons (.bin .Pow (.cst (.int 10)) (.cst (.int 6))) (.cons (.bin .Sub (.bin .Pow (.cst (.int 10)) (.cst (.int 30))) (.cst (.int 1))) .nil))))) (.var 1))))
  .nil))

abbrev s_l_number : Stmt := top 47
def n_l_number : List Str := ["_law_purse_here", "_law_sort"]
theorem f_l_number : FnScope n_l_number ["_law_purse_here"] (defScope s_l_number) := ⟨rfl, rfl, rfl, by decide +kernel, rfl, by decide +kernel, by decide +kernel⟩
theorem k_l_number {Γ : Amb} (r_l_take : CallR1 Γ "_law_take") : mB (Γ := Γ) ⟨n_l_number, defScope s_l_number, fun _ => true⟩ (c_l_number r_l_take) (defBody s_l_number) = true := by kernel_rfl

/- _law_part: slots 0 _law_purse_here 1 _law_has 2 _law_sort 3 _law_bottom 4 _law_some -/
def c_l_part {Γ : Amb} (r_l_plus : CallR1 Γ "_law_plus") (r_l_take : CallR1 Γ "_law_take") (r_l_times : CallR1 Γ "_law_times") (r_l_lowest : CallR1 Γ "_law_lowest") : Ss Γ :=
  (.cons (.asg (.nm 2) (.call "_law_take" r_l_take (.cons (.var 0) (.cons (.cst (.int 8)) .nil))))
  (.cons (.asg (.nm 3) (.bin .Add (.cst (.int 2)) (.call "_law_take" r_l_take (.cons (.var 0) (.cons (.ix (.lst false (.cons (.cst (.int 5)) (.cons (.cst (.int 5)) (.cons (.cst (.int 12)) (.cons (.cst (.int 12)) (.cons (.cst (.int 100)) (.cons (.cst (.int 5)) (.cons (.cst (.int 5)) (.cons (.bin .Pow (.cst (.int 10)) (.cst (.int 6))) .nil))))))))) (.var 2)) .nil)))))
  (.cons (.asg (.nm 4) (.call "_law_lowest" r_l_lowest (.cons (.bin .Add (.call "_law_take" r_l_take (.cons (.var 0) (.cons (.var 3) .nil))) (.cst (.int 1))) (.cons (.var 3) .nil))))
  (.cons (.ifs (.cmp .Eq (.var 2) (.cst (.int 5))) (.cons (.asg (.nm 4) (.ix (.lst false (.cons (.tup (.cons (.cst (.int 0)) (.cons (.cst (.int 1)) .nil))) (.cons (.tup (.cons (.neg (.cst (.int 1))) (.cons (.cst (.int 2)) .nil))) (.cons (.tup (.cons (.cst (.int 3)) (.cons (.cst (.int 2)) .nil))) (.cons (.tup (.cons (.cst (.int 1)) (.cons (.cst (.int 1)) .nil))) (.cons (.call "_law_plus" r_l_plus (.cons (.var 1) (.cons (.tup (.cons (.cst (.int 1)) (.cons (.bin .Pow (.cst (.int 10)) (.cst (.int 6))) .nil))) .nil))) .nil)))))) (.call "_law_take" r_l_take (.cons (.var 0) (.cons (.cst (.int 5)) .nil)))))
  .nil) (.cons (.ifs (.bool .And (.cons (.cmp .NotEq (.var 2) (.cst (.int 4))) (.cons (.cmp .NotEq (.var 2) (.cst (.int 7))) .nil))) (.cons (.asg (.nm 4) (.call "_law_times" r_l_times (.cons (.var 4) (.cons (.var 1) .nil))))
  .nil) .nil)
  .nil))
  (.cons (.ifs (.cmp .Gt (.ix (.var 4) (.cst (.int 1))) (.bin .Pow (.cst (.int 10)) (.cst (.int 28)))) (.cons (.ret (.tup (.cons (.cst (.int 1)) (.cons (.cst (.int 2)) .nil))))
  .nil) .nil)
  (.cons (.ret (.var 4))
  .nil))))))

abbrev s_l_part : Stmt := top 48
def n_l_part : List Str := ["_law_purse_here", "_law_has", "_law_sort", "_law_bottom", "_law_some"]
theorem f_l_part : FnScope n_l_part ["_law_purse_here", "_law_has"] (defScope s_l_part) := ⟨rfl, rfl, rfl, by decide +kernel, rfl, by decide +kernel, by decide +kernel⟩
theorem k_l_part {Γ : Amb} (r_l_plus : CallR1 Γ "_law_plus") (r_l_take : CallR1 Γ "_law_take") (r_l_times : CallR1 Γ "_law_times") (r_l_lowest : CallR1 Γ "_law_lowest") : mB (Γ := Γ) ⟨n_l_part, defScope s_l_part, fun _ => true⟩ (c_l_part r_l_plus r_l_take r_l_times r_l_lowest) (defBody s_l_part) = true := by kernel_rfl

/- _law_sale: slots 0 _law_purse_here 1 _law_words 2 _law_model 3 _law_odd 4 _law_holders 5 _law_house 6 _law_one_here 7 _law_has 8 _law_people 9 _law_entries 10 _law_having 11 _law_at -/
def c_l_sale {Γ : Amb} (r_l_one : CallR1 Γ "_law_one") (r_l_part : CallR1 Γ "_law_part") (r_l_take : CallR1 Γ "_law_take") (r_l_shares : CallR1 Γ "_law_shares") : Ss Γ :=
  (.cons (.asg (.ul [8, 9]) (.var 2))
  (.cons (.asg (.nm 4) (.bin .Add (.bi (.sorted false) (.cons (.var 8) .nil)) (.bi (.sorted false) (.cons (.var 9) .nil))))
  (.cons (.asg (.nm 5) (.call "_law_one" r_l_one (.cons (.var 0) (.cons (.bin .Add (.bin .Mult (.bi (.sorted false) (.cons (.var 9) .nil)) (.cst (.int 4))) (.bin .Mult (.sl (.var 1) .nil (.cons (.cst (.int 3)) .nil)) (.bi .int (.cons (.var 3) .nil)))) (.cons (.var 3) .nil)))))
  (.cons (.asg (.nm 6) (.call "_law_one" r_l_one (.cons (.var 0) (.cons (.var 4) (.cons (.var 3) .nil)))))
  (.cons (.asg (.nm 7) (.tup (.cons (.cst (.int 1)) (.cons (.cst (.int 1)) .nil))))
  (.cons (.ifs (.cmp .In (.var 5) (.var 9)) (.cons (.asg (.nm 10) (.call "_law_shares" r_l_shares (.cons (.var 2) (.cons (.var 5) .nil))))
  (.cons (.asg (.nm 11) (.call "_law_take" r_l_take (.cons (.var 0) (.cons (.bin .Mult (.cst (.int 4)) (.bi .len (.cons (.var 10) .nil))) .nil))))
  (.cons (.ifs (.cmp .Lt (.var 11) (.bin .Mult (.cst (.int 3)) (.bi .len (.cons (.var 10) .nil)))) (.cons (.asg (.nm 6) (.ix (.ix (.var 10) (.bin .FloorDiv (.var 11) (.cst (.int 3)))) (.cst (.int 0))))
  .nil) .nil)
  (.cons (.asg (.nm 7) (.bm .get (.ix (.ix (.var 9) (.var 5)) (.cst (.int 3))) (.cons (.var 6) (.cons (.tup (.cons (.cst (.int 0)) (.cons (.cst (.int 1)) .nil))) .nil))))
  .nil)))) .nil)
  (.cons (.ifs (.cmp .Eq (.ix (.var 7) (.cst (.int 0))) (.cst (.int 0))) (.cons (.asg (.nm 7) (.tup (.cons (.cst (.int 1)) (.cons (.cst (.int 1)) .nil))))
  .nil) .nil)
  (.cons (.ret (.tup (.cons (.cst (.str "sale")) (.cons (.var 5) (.cons (.var 6) (.cons (.call "_law_one" r_l_one (.cons (.var 0) (.cons (.bin .Add (.bin .Mult (.var 4) (.cst (.int 3))) (.bin .Mult (.sl (.var 1) .nil (.cons (.cst (.int 2)) .nil)) (.bi .int (.cons (.var 3) .nil)))) (.cons (.var 3) .nil)))) (.cons (.call "_law_part" r_l_part (.cons (.var 0) (.cons (.var 7) .nil))) .nil)))))))
  .nil))))))))

abbrev s_l_sale : Stmt := top 49
def n_l_sale : List Str := ["_law_purse_here", "_law_words", "_law_model", "_law_odd", "_law_holders", "_law_house", "_law_one_here", "_law_has", "_law_people", "_law_entries", "_law_having", "_law_at"]
theorem f_l_sale : FnScope n_l_sale ["_law_purse_here", "_law_words", "_law_model", "_law_odd"] (defScope s_l_sale) := ⟨rfl, rfl, rfl, by decide +kernel, rfl, by decide +kernel, by decide +kernel⟩
theorem k_l_sale {Γ : Amb} (r_l_one : CallR1 Γ "_law_one") (r_l_part : CallR1 Γ "_law_part") (r_l_take : CallR1 Γ "_law_take") (r_l_shares : CallR1 Γ "_law_shares") : mB (Γ := Γ) ⟨n_l_sale, defScope s_l_sale, fun _ => true⟩ (c_l_sale r_l_one r_l_part r_l_take r_l_shares) (defBody s_l_sale) = true := by kernel_rfl

/- _law_drawn: slots 0 _law_purse_here 1 _law_words 2 _law_model 3 _law_odd 4 _law_most 5 _law_sort 6 _law_holders 7 _law_house 8 _law_number_here 9 _law_people 10 _law_entries 11 _law_name 12 _law_owner 13 _law_loss -/
def c_l_drawn {Γ : Amb} (r_l_number : CallR1 Γ "_law_number") (r_l_one : CallR1 Γ "_law_one") (r_l_sale : CallR1 Γ "_law_sale") (r_l_take : CallR1 Γ "_law_take") : Ss Γ :=
  (.cons (.asg (.ul [9, 10]) (.var 2))
  (.cons (.asg (.nm 5) (.call "_law_take" r_l_take (.cons (.var 0) (.cons (.var 4) .nil))))
  (.cons (.asg (.nm 6) (.bin .Add (.bi (.sorted false) (.cons (.var 9) .nil)) (.bi (.sorted false) (.cons (.var 10) .nil))))
  (.cons (.ifs (.bool .Or (.cons (.cmp .Lt (.var 5) (.cst (.int 2))) (.cons (.cmp .Eq (.var 6) (.lst false .nil)) .nil))) (.cons (.ret (.tup (.cons (.cst (.str "person")) (.cons (.call "_law_one" r_l_one (.cons (.var 0) (.cons (.var 1) (.cons (.var 3) .nil)))) .nil))))
  .nil) .nil)
  (.cons (.ifs (.bool .Or (.cons (.cmp .Lt (.var 5) (.cst (.int 5))) (.cons (.cmp .Eq (.bi .len (.cons (.var 10) .nil)) (.cst (.int 0))) .nil))) (.cons (.asg (.nm 11) (.call "_law_one" r_l_one (.cons (.var 0) (.cons (.var 1) (.cons (.var 3) .nil)))))
  (.cons (.asg (.nm 12) (.call "_law_one" r_l_one (.cons (.var 0) (.cons (.bin .Add (.bin .Mult (.var 6) (.cst (.int 3))) (.bin .Mult (.sl (.var 1) .nil (.cons (.cst (.int 4)) .nil)) (.bi .int (.cons (.var 3) .nil)))) (.cons (.var 3) .nil)))))
  (.cons (.asg (.nm 13) (.call "_law_number" r_l_number (.cons (.var 0) .nil)))
  (.cons (.ifs (.bool .Or (.cons (.not (.val (.var 3))) (.cons (.cmp .Gt (.bin .Mod (.var 13) (.cst (.int 4))) (.cst (.int 0))) .nil))) (.cons (.asg (.nm 13) (.bi .abs (.cons (.var 13) .nil)))
  .nil) .nil)
  (.cons (.ret (.tup (.cons (.cst (.str "house")) (.cons (.var 11) (.cons (.var 12) (.cons (.call "_law_number" r_l_number (.cons (.var 0) .nil)) (.cons (.call "_law_number" r_l_number (.cons (.var 0) .nil)) (.cons (.var 13) .nil))))))))
  .nil))))) .nil)
  (.cons (.ifs (.cmp .Lt (.var 5) (.cst (.int 9))) (.cons (.ret (.call "_law_sale" r_l_sale (.cons (.var 0) (.cons (.var 1) (.cons (.var 2) (.cons (.var 3) .nil))))))
  .nil) .nil)
  (.cons (.asg (.nm 7) (.call "_law_one" r_l_one (.cons (.var 0) (.cons (.bin .Add (.bin .Mult (.bi (.sorted false) (.cons (.var 10) .nil)) (.cst (.int 4))) (.bin .Mult (.sl (.var 1) .nil (.cons (.cst (.int 3)) .nil)) (.bi .int (.cons (.var 3) .nil)))) (.cons (.var 3) .nil)))))
  (.cons (.asg (.nm 8) (.call "_law_number" r_l_number (.cons (.var 0) .nil)))
  (.cons (.ifs (.bool .And (.cons (.not (.val (.var 3))) (.cons (.cmp .Eq (.var 5) (.cst (.int 11))) .nil))) (.cons (.asg (.nm 8) (.bi .abs (.cons (.var 8) .nil)))
  .nil) .nil)
  (.cons (.ret (.tup (.cons (.ix (.lst false (.cons (.cst (.str "things")) (.cons (.cst (.str "mark")) (.cons (.cst (.str "loss")) .nil)))) (.bin .Sub (.var 5) (.cst (.int 9)))) (.cons (.var 7) (.cons (.var 8) .nil)))))
  .nil))))))))))

abbrev s_l_drawn : Stmt := top 50
def n_l_drawn : List Str := ["_law_purse_here", "_law_words", "_law_model", "_law_odd", "_law_most", "_law_sort", "_law_holders", "_law_house", "_law_number_here", "_law_people", "_law_entries", "_law_name", "_law_owner", "_law_loss"]
theorem f_l_drawn : FnScope n_l_drawn ["_law_purse_here", "_law_words", "_law_model", "_law_odd", "_law_most"] (defScope s_l_drawn) := ⟨rfl, rfl, rfl, by decide +kernel, rfl, by decide +kernel, by decide +kernel⟩
theorem k_l_drawn {Γ : Amb} (r_l_number : CallR1 Γ "_law_number") (r_l_one : CallR1 Γ "_law_one") (r_l_sale : CallR1 Γ "_law_sale") (r_l_take : CallR1 Γ "_law_take") : mB (Γ := Γ) ⟨n_l_drawn, defScope s_l_drawn, fun _ => true⟩ (c_l_drawn r_l_number r_l_one r_l_sale r_l_take) (defBody s_l_drawn) = true := by kernel_rfl

/- _law_lists: slots 0 _law_book 1 _law_house -/
def c_l_lists {Γ : Amb} (t_persons : MethR Γ "persons") (t_houses : MethR Γ "houses") (t_shares : MethR Γ "shares") : Ss Γ :=
  (.cons (.ret (.lst false (.cons (.meth "persons" t_persons (.var 0) .nil) (.cons (.meth "houses" t_houses (.var 0) .nil) (.cons (.meth "shares" t_shares (.var 0) (.cons (.var 1) .nil)) .nil)))))
  .nil)

abbrev s_l_lists : Stmt := top 51
def n_l_lists : List Str := ["_law_book", "_law_house"]
theorem f_l_lists : FnScope n_l_lists ["_law_book", "_law_house"] (defScope s_l_lists) := ⟨rfl, rfl, rfl, by decide +kernel, rfl, by decide +kernel, by decide +kernel⟩
theorem k_l_lists {Γ : Amb} (t_persons : MethR Γ "persons") (t_houses : MethR Γ "houses") (t_shares : MethR Γ "shares") : mB (Γ := Γ) ⟨n_l_lists, defScope s_l_lists, fun _ => true⟩ (c_l_lists t_persons t_houses t_shares) (defBody s_l_lists) = true := by kernel_rfl

/- law: slots 0 _law_script 1 _law_words 2 _law_book 3 _law_model 4 _law_deed_here 5 _law_held 6 _law_cell 7 _law_purse_here 8 _law_house 9 _law_told_here 10 _law_other 11 _law_at 12 _law_one_here -/
def c_law {Γ : Amb} (r_l_told : CallR1 Γ "_law_told") (r_l_lists : CallR1 Γ "_law_lists") (r_l_take : CallR1 Γ "_law_take") (r_l_done : CallR1 Γ "_law_done") (r_l_drawn : CallR1 Γ "_law_drawn") (r_l_purse : CallR1 Γ "_law_purse") (m_Book : MkR Γ "Book") (r_l_names : CallR1 Γ "_law_names") : Ss Γ :=
  (.cons (.asg (.nm 1) (.call "_law_names" r_l_names (.cons (.call "_law_purse" r_l_purse (.cons (.bin .Add (.ix (.bin .Add (.var 0) (.lst false (.cons (.cst (.int 0)) .nil))) (.cst (.int 0))) (.cst (.int 5))) .nil)) .nil)))
  (.cons (.asg (.nm 2) (.mk "Book" m_Book .nil))
  (.cons (.asg (.nm 3) (.lst false (.cons (.lst true .nil) (.cons .dic0 .nil))))
  (.cons (.for (.nm 4) (.lst (.lst false (.cons (.tup (.cons (.cst (.str "person")) (.cons (.ix (.var 1) (.cst (.int 0))) .nil))) (.cons (.tup (.cons (.cst (.str "house")) (.cons (.ix (.var 1) (.cst (.int 1))) (.cons (.ix (.var 1) (.cst (.int 0))) (.cons (.cst (.int 5)) (.cons (.cst (.int 3)) (.cons (.cst (.int 1)) .nil))))))) (.cons (.tup (.cons (.cst (.str "house")) (.cons (.ix (.var 1) (.cst (.int 2))) (.cons (.ix (.var 1) (.cst (.int 1))) (.cons (.neg (.cst (.int 2))) (.cons (.cst (.int 0)) (.cons (.cst (.int 0)) .nil))))))) .nil))))) (.cons (.ifs (.not (.val (.call "_law_done" r_l_done (.cons (.var 2) (.cons (.var 3) (.cons (.var 4) .nil)))))) (.cons (.ret (.cst (.bl false)))
  .nil) .nil)
  .nil))
  (.cons (.asg (.nm 5) (.lst true .nil))
  (.cons (.for (.nm 6) (.lst (.bin .Add (.lst false (.cons (.cst (.int 0)) (.cons (.cst (.int 7)) (.cons (.cst (.int 2)) .nil)))) (.sl (.var 0) .nil (.cons (.cst (.int 24)) .nil)))) (.cons (.asg (.nm 7) (.call "_law_purse" r_l_purse (.cons (.var 6) .nil)))
  (.cons (.ifs (.not (.val (.call "_law_done" r_l_done (.cons (.var 2) (.cons (.var 3) (.cons (.call "_law_drawn" r_l_drawn (.cons (.var 7) (.cons (.var 1) (.cons (.var 3) (.cons (.cst (.bl true)) (.cons (.cst (.int 12)) .nil)))))) .nil)))))) (.cons (.ret (.cst (.bl false)))
  .nil) .nil)
  (.cons (.asg (.nm 8) (.ix (.bi (.sorted false) (.cons (.ix (.var 3) (.cst (.int 1))) .nil)) (.call "_law_take" r_l_take (.cons (.var 7) (.cons (.bi .len (.cons (.ix (.var 3) (.cst (.int 1))) .nil)) .nil)))))
  (.cons (.asg (.nm 9) (.call "_law_lists" r_l_lists (.cons (.var 2) (.cons (.var 8) .nil))))
  (.cons (.ex (.bm .append (.var 5) (.cons (.lst false (.cons (.var 9) (.cons (.lc false (.bi (.list false) (.cons (.var 12) .nil)) (.nm 12) (.lst (.var 9)) .nil) .nil))) .nil)))
  (.cons (.asg (.nm 10) (.call "_law_lists" r_l_lists (.cons (.var 2) (.cons (.var 8) .nil))))
  (.cons (.ifs (.bool .Or (.cons (.cmpD (.var 10) (.var 9)) (.cons (.not (.val (.call "_law_told" r_l_told (.cons (.var 2) (.cons (.var 3) .nil))))) .nil))) (.cons (.ret (.cst (.bl false)))
  .nil) .nil)
  (.cons (.asg (.nm 11) (.call "_law_take" r_l_take (.cons (.var 7) (.cons (.cst (.int 3)) .nil))))
  (.cons (.ifs (.cmp .Eq (.call "_law_take" r_l_take (.cons (.var 7) (.cons (.cst (.int 2)) .nil))) (.cst (.int 0))) (.cons (.ex (.bm .clear (.ix (.var 10) (.var 11)) .nil))
  .nil) (.cons (.ex (.bm .append (.ix (.var 10) (.var 11)) (.cons (.ix (.ix (.var 10) (.var 11)) (.cst (.int 0))) .nil)))
  .nil))
  (.cons (.ifs (.bool .Or (.cons (.not (.val (.call "_law_told" r_l_told (.cons (.var 2) (.cons (.var 3) .nil))))) (.cons (.cmpD (.lst false (.cons (.var 9) (.cons (.call "_law_lists" r_l_lists (.cons (.var 2) (.cons (.var 8) .nil))) .nil))) (.lst false (.cons (.ix (.ix (.var 5) (.neg (.cst (.int 1)))) (.cst (.int 1))) (.cons (.ix (.ix (.var 5) (.neg (.cst (.int 1)))) (.cst (.int 1))) .nil)))) .nil))) (.cons (.ret (.cst (.bl false)))
  .nil) .nil)
  .nil)))))))))))
  (.cons (.ret (.cmp .Eq (.bi .len (.cons (.lc false (.var 12) (.nm 12) (.lst (.var 5)) (.cons (.cmpD (.ix (.var 12) (.cst (.int 0))) (.ix (.var 12) (.cst (.int 1)))) .nil)) .nil)) (.cst (.int 0))))
  .nil)))))))

abbrev s_law : Stmt := top 52
def n_law : List Str := ["_law_script", "_law_words", "_law_book", "_law_model", "_law_deed_here", "_law_held", "_law_cell", "_law_purse_here", "_law_house", "_law_told_here", "_law_other", "_law_at", "_law_one_here"]
theorem f_law : FnScope n_law ["_law_script"] (defScope s_law) := ⟨rfl, rfl, rfl, by decide +kernel, rfl, by decide +kernel, by decide +kernel⟩
theorem k_law {Γ : Amb} (r_l_told : CallR1 Γ "_law_told") (r_l_lists : CallR1 Γ "_law_lists") (r_l_take : CallR1 Γ "_law_take") (r_l_done : CallR1 Γ "_law_done") (r_l_drawn : CallR1 Γ "_law_drawn") (r_l_purse : CallR1 Γ "_law_purse") (m_Book : MkR Γ "Book") (r_l_names : CallR1 Γ "_law_names") : mB (Γ := Γ) ⟨n_law, defScope s_law, fun _ => true⟩ (c_law r_l_told r_l_lists r_l_take r_l_done r_l_drawn r_l_purse m_Book r_l_names) (defBody s_law) = true := by kernel_rfl

end Bv

/-! Sums: what the small defs give. -/
namespace Bv
open PySem L2 PyProof.Rows
/-- below 2^9000 in size -/
def Sm (x : Int) : Prop := x.natAbs < 2 ^ 9000
theorem Sm.log {x : Int} (h : Sm x) : x.natAbs.log2 < 9000 := by
  by_cases e : x.natAbs = 0
  · rw [e]; decide
  · exact (Nat.log2_lt e).mpr h
theorem Sm.bits {x : Int} (h : Sm x) : Builtin.Int.intBits x ≤ 2 ^ 20 := by
  have := h.log
  unfold Builtin.Int.intBits
  have e : (2 : Nat) ^ 20 = 1048576 := by decide
  rw [e]
  split <;> omega
theorem Sm.mul {x y : Int} (h : Sm x) (h2 : Sm y) : IntMulOk x y := .of_bits h.bits h2.bits
theorem Sm.div {i j : Int} (h : Sm j) (h0 : 0 < j) : DivOk i j := ⟨by omega, PyProof.noPylong_of_log2 h.log⟩
theorem small_mul {i j : Int} (h1 : -(2 ^ 64) < j) (h2 : j < 2 ^ 64) : IntMulOk i j := CMul.ok (.inr ⟨h1, h2⟩)
theorem small_mulL {i j : Int} (h1 : -(2 ^ 64) < i) (h2 : i < 2 ^ 64) : IntMulOk i j := CMul.ok (.inl ⟨h1, h2⟩)
theorem Sm.of_small {j : Int} (h1 : -(2 ^ 64) < j) (h2 : j < 2 ^ 64) : Sm j := by
  have e : (2 : Nat) ^ 64 ≤ 2 ^ 9000 := Nat.pow_le_pow_right (by decide) (by decide)
  have : j.natAbs < 2 ^ 64 := by omega
  exact Nat.lt_of_lt_of_le this e
/-- a fraction as two numbers, lowered -/
def low (t b : Int) : Int × Int := (t / (Int.gcd t b : Int), b / (Int.gcd t b : Int))
def frP (p : Int × Int) : Val := .tup [.int p.1, .int p.2]
def spDiv : Spec := fun vs F Q _ => ∃ a b : Int, vs = [.int a, .int b] ∧ Q (.int (Int.gcd a b)) F
def spMade : Spec := fun vs F Q _ => ∃ t b : Int, vs = [.int t, .int b] ∧ 0 < b ∧ Sm b ∧ Q (frP (low t b)) F
theorem abs_val (a : Int) : (if a < 0 then -a else a) = (a.natAbs : Int) := by split <;> omega
theorem gcd_step {x y : Int} (hx : 0 ≤ x) (hy : 0 < y) : Int.gcd y (x.fmod y) = Int.gcd x y := by
  rw [Int.fmod_eq_emod_of_nonneg x (Int.le_of_lt hy)]
  obtain ⟨n, rfl⟩ := Int.eq_ofNat_of_zero_le hx
  obtain ⟨m, rfl⟩ := Int.eq_ofNat_of_zero_le (Int.le_of_lt hy)
  show Nat.gcd m ((n : Int) % (m : Int)).natAbs = Nat.gcd n m
  have e : ((n : Int) % (m : Int)).natAbs = n % m := by omega
  rw [e, Nat.gcd_comm n m, Nat.gcd_rec m n, Nat.gcd_comm]
def gcdI (a b : Int) (F0 : MH) (m : Nat) (σ : St1) (F : MH) : Prop := ∃ x y : Int, σ = [some (.int x), some (.int y)] ∧ F = F0 ∧ 0 ≤ x ∧ 0 ≤ y ∧ m = y.toNat ∧ Int.gcd x y = Int.gcd a b
theorem w_divisor {Γ : Amb} : ∀ vs F Q E, spDiv vs F Q E → wpB (fun C fs _ F => E C fs F) (c_divisor (Γ := Γ)) (start1 n_divisor vs) F (fun _ F => Q .non F) Q := by
  rintro vs F Q E ⟨a, b, rfl, h⟩
  unfold c_divisor
  simp only [wpB, wpS, wpE, wpEs, wpT, wpTs, wpCs, wpP, wpIt, wpBl, bindT, biS, bmS, recS, tyS, truS, start1, List.map, List.length, List.replicate, List.append_nil, List.nil_append, List.cons_append, Nat.sub_self, Nat.reduceSub, Nat.reduceAdd, List.length_cons, List.length_nil, List.getElem?_cons_zero, List.getElem?_cons_succ, List.set_cons_zero, List.set_cons_succ, setAll, wipe1, Tg.slots, binS, subS, mulS, fdivS, modS, powS, cmpS, ltS, isS, isNS, asStrs, asBls, newLs, n_divisor]
  refine ⟨gcdI a b F, ⟨_, _, _, rfl, rfl, ?_, ?_, rfl, ?_⟩, ?_⟩
  · split <;> omega
  · split <;> omega
  · rw [abs_val, abs_val]; rfl
  · rintro m σ F1 ⟨x, y, rfl, rfl, hx, hy, rfl, hg⟩
    simp only [wpB, wpS, wpE, wpEs, wpT, wpTs, wpCs, wpP, wpIt, wpBl, bindT, biS, bmS, recS, tyS, truS, start1, List.map, List.length, List.replicate, List.append_nil, List.nil_append, List.cons_append, Nat.sub_self, Nat.reduceSub, Nat.reduceAdd, List.length_cons, List.length_nil, List.getElem?_cons_zero, List.getElem?_cons_succ, List.set_cons_zero, List.set_cons_succ, setAll, wipe1, Tg.slots, binS, subS, mulS, fdivS, modS, powS, cmpS, ltS, isS, isNS, asStrs, asBls, newLs]
    by_cases hp : (0 : Int) < y
    · rw [decide_eq_true hp]
      simp only [wpB, wpS, wpE, wpEs, wpT, wpTs, wpCs, wpP, wpIt, wpBl, bindT, biS, bmS, recS, tyS, truS, start1, List.map, List.length, List.replicate, List.append_nil, List.nil_append, List.cons_append, Nat.sub_self, Nat.reduceSub, Nat.reduceAdd, List.length_cons, List.length_nil, List.getElem?_cons_zero, List.getElem?_cons_succ, List.set_cons_zero, List.set_cons_succ, setAll, wipe1, Tg.slots, binS, subS, mulS, fdivS, modS, powS, cmpS, ltS, isS, isNS, asStrs, asBls, newLs]
      refine ⟨by omega, (x.fmod y).toNat, ?_, y, x.fmod y, rfl, rfl, by omega, ?_, rfl, ?_⟩
      · have h1 := Int.fmod_lt_of_pos x hp
        omega
      · exact Int.fmod_nonneg_of_pos x hp
      · rw [gcd_step hx hp]; exact hg
    · rw [decide_eq_false hp]
      have e : y = 0 := by omega
      subst e
      simp only [wpB, wpS, wpE, wpEs, wpT, wpTs, wpCs, wpP, wpIt, wpBl, bindT, biS, bmS, recS, tyS, truS, start1, List.map, List.length, List.replicate, List.append_nil, List.nil_append, List.cons_append, Nat.sub_self, Nat.reduceSub, Nat.reduceAdd, List.length_cons, List.length_nil, List.getElem?_cons_zero, List.getElem?_cons_succ, List.set_cons_zero, List.set_cons_succ, setAll, wipe1, Tg.slots, binS, subS, mulS, fdivS, modS, powS, cmpS, ltS, isS, isNS, asStrs, asBls, newLs]
      have e2 : (x : Int) = (Int.gcd a b : Int) := by rw [← hg, Int.gcd_zero_right]; omega
      rw [e2]
      exact h
theorem gcd_le_right {t b : Int} (hb : 0 < b) : 0 < (Int.gcd t b : Int) ∧ (Int.gcd t b : Int) ≤ b := by
  have h1 : 0 < Int.gcd t b := Int.gcd_pos_of_ne_zero_right t (by omega)
  have h2 : (Int.gcd t b : Int) ∣ b := Int.gcd_dvd_right ..
  have h3 := Int.le_of_dvd hb h2
  omega
theorem Sm.le {x y : Int} (h : Sm y) (h2 : x.natAbs ≤ y.natAbs) : Sm x := Nat.lt_of_le_of_lt h2 h
theorem w_made {Γ : Amb} {r : CallR1 Γ "divisor"} (hr : r.sp = spDiv) : ∀ vs F Q E, spMade vs F Q E → wpB (fun C fs _ F => E C fs F) (c_made r) (start1 n_made vs) F (fun _ F => Q .non F) Q := by
  rintro vs F Q E ⟨t, b, rfl, h0, hs, h⟩
  unfold c_made
  simp only [wpB, wpS, wpE, wpEs, wpT, wpTs, wpCs, wpP, wpIt, wpBl, bindT, biS, bmS, recS, tyS, truS, start1, List.map, List.length, List.replicate, List.append_nil, List.nil_append, List.cons_append, Nat.sub_self, Nat.reduceSub, Nat.reduceAdd, List.length_cons, List.length_nil, List.getElem?_cons_zero, List.getElem?_cons_succ, List.set_cons_zero, List.set_cons_succ, setAll, wipe1, Tg.slots, binS, subS, mulS, fdivS, modS, powS, cmpS, ltS, isS, isNS, asStrs, asBls, newLs, n_made, hr]
  refine ⟨t, b, rfl, ?_⟩
  have hn : ¬ b < 0 := by omega
  obtain ⟨g1, g2⟩ := gcd_le_right (t := t) h0
  have d : ∀ i, DivOk i (Int.gcd t b : Int) := fun i => Sm.div (hs.le (by omega)) g1
  simp only [wpB, wpS, wpE, wpEs, wpT, wpTs, wpCs, wpP, wpIt, wpBl, bindT, biS, bmS, recS, tyS, truS, start1, List.map, List.length, List.replicate, List.append_nil, List.nil_append, List.cons_append, Nat.sub_self, Nat.reduceSub, Nat.reduceAdd, List.length_cons, List.length_nil, List.getElem?_cons_zero, List.getElem?_cons_succ, List.set_cons_zero, List.set_cons_succ, setAll, wipe1, Tg.slots, binS, subS, mulS, fdivS, modS, powS, cmpS, ltS, isS, isNS, asStrs, asBls, newLs, decide_eq_false hn]
  refine ⟨d _, d _, by rw [sizeLine_eq]; decide, ?_⟩
  rw [Int.fdiv_eq_ediv_of_nonneg _ (Int.le_of_lt g1), Int.fdiv_eq_ediv_of_nonneg _ (Int.le_of_lt g1)]
  exact h
end Bv

/-! Draws from a purse. -/
namespace Bv
open PySem L2 PyProof.Rows
/-! ### loops by an invariant -/
theorem forGo_inv {g : MH → Prop} {turn : Val → St1 → MH → (St1 → MH → Prop) → Prop} {Qn : St1 → MH → Prop} {items : List Val} (I : Nat → St1 → MH → Prop) (hg : ∀ i σ F, I i σ F → g F)
    (hs : ∀ i x σ F (k : St1 → MH → Prop), items[i]? = some x → I i σ F → (∀ σ' F', I (i + 1) σ' F' → k σ' F') → turn x σ F k) (hd : ∀ σ F, I items.length σ F → Qn σ F) {σ : St1} {F : MH} (h0 : I 0 σ F) : forGo g turn Qn items σ F := by
  have gen : ∀ (l : List Val) (i : Nat) σ F, items.drop i = l → i + l.length = items.length → I i σ F → forGo g turn Qn l σ F := by
    intro l
    induction l with
    | nil =>
      intro i σ F e hl h
      have e2 : i = items.length := by simpa using hl
      subst e2
      exact ⟨hg _ _ _ h, hd _ _ h⟩
    | cons x l ih =>
      intro i σ F e hl h
      refine ⟨hg _ _ _ h, hs i x σ F _ ?_ h fun σ' F' h' => ih (i + 1) σ' F' ?_ ?_ h'⟩
      · have := congrArg (·[0]?) e
        simpa using this
      · rw [← List.drop_drop, e]; rfl
      · simp at hl ⊢; omega
  exact gen items 0 σ F rfl (by simp) h0
theorem lcGo_inv {g : MH → Prop} {turn : Val → MH → (Option Val → MH → Prop) → Prop} {Q : List Val → MH → Prop} {items : List Val} (I : Nat → List Val → MH → Prop) (hz : items.length ≤ sizeLine) (hg : ∀ i acc F, I i acc F → g F)
    (hs : ∀ i x acc F (k : Option Val → MH → Prop), items[i]? = some x → I i acc F → (∀ v F', I (i + 1) (acc ++ [v]) F' → k (some v) F') → (∀ F', I (i + 1) acc F' → k none F') → turn x F k) (hd : ∀ acc F, I items.length acc F → Q acc F) {F : MH} (h0 : I 0 [] F) : lcGo g turn Q items [] F := by
  have gen : ∀ (l : List Val) (i : Nat) acc F, items.drop i = l → i + l.length = items.length → acc.length ≤ i → I i acc F → lcGo g turn Q l acc F := by
    intro l
    induction l with
    | nil =>
      intro i acc F e hl ha h
      have e2 : i = items.length := by simpa using hl
      subst e2
      exact ⟨hg _ _ _ h, hd _ _ h⟩
    | cons x l ih =>
      intro i acc F e hl ha h
      have hx : items.drop (i + 1) = l := by rw [← List.drop_drop, e]; rfl
      have hl2 : i + 1 + l.length = items.length := by simp at hl; omega
      refine ⟨hg _ _ _ h, hs i x acc F _ ?_ h (fun v F' h' => ⟨by omega, ih (i + 1) _ F' hx hl2 (by simp; omega) h'⟩) (fun F' h' => ih (i + 1) acc F' hx hl2 (by omega) h')⟩
      have := congrArg (·[0]?) e
      simpa using this
  exact gen items 0 [] F rfl (by simp) (by simp) h0
/-! ### equality -/
theorem eqS_int {i j : Int} {F : MH} {Q : Bool → Prop} (h : Q (i == j)) : eqS (.int i) (.int j) F Q := ⟨rfl, rfl, by simpa [rdF, toPD, PyData.eqv] using h⟩
/-! ### the purse -/
def Pur (F : MH) (p : Addr) : Prop := ∃ a b : Int, F p = some (.lst [.int a, .int b])
theorem Pur.set {F : MH} {p : Addr} {a b : Int} : Pur (mset F p (.lst [.int a, .int b])) p := ⟨a, b, mset_same⟩
end Bv

/-! Fractions; numbers and parts drawn. -/
namespace Bv
open PySem L2 PyProof.Rows
theorem atI_get {α : Type} {vs : List α} {r : Int} {v : α} (h0 : 0 ≤ r) (h : vs[r.toNat]? = some v) : atI vs r = some v := by
  obtain ⟨hl, e⟩ := List.getElem?_eq_some_iff.mp h
  unfold atI ixN
  rw [if_pos h0, if_pos (by omega)]
  exact h
theorem ix_list {a : Val} {vs : List Val} {r : Int} {v : Val} {F : MH} {Q : Q1} (e : lsOf F a = some vs) (h0 : 0 ≤ r) (h : vs[r.toNat]? = some v) (q : Q v F) : ixS a (.int r) F Q := by
  cases a with
  | lst ws => cases e; simp only [ixS, lsOf, atS, atI_get h0 h]; exact q
  | ref p => simp only [ixS, e, atS, atI_get h0 h]; exact q
  | _ => cases e
theorem ix_tup {vs : List Val} {r : Int} {v : Val} {F : MH} {Q : Q1} (h0 : 0 ≤ r) (h : vs[r.toNat]? = some v) (q : Q v F) : ixS (.tup vs) (.int r) F Q := by
  simp only [ixS, atS, atI_get h0 h]; exact q
/-! ### fractions -/
theorem low_eq {t b : Int} (hb : 0 < b) : ∃ g : Int, 0 < g ∧ t = (low t b).1 * g ∧ b = (low t b).2 * g := by
  obtain ⟨g1, g2⟩ := gcd_le_right (t := t) hb
  refine ⟨_, g1, ?_, ?_⟩
  · exact (Int.ediv_mul_cancel (Int.gcd_dvd_left ..)).symm
  · exact (Int.ediv_mul_cancel (Int.gcd_dvd_right ..)).symm
theorem low_zero {b : Int} (hb : 0 < b) : low 0 b = (0, 1) := by
  unfold low
  rw [Int.gcd_zero_left]
  have : (b.natAbs : Int) = b := by omega
  rw [this, Int.zero_ediv, Int.ediv_self (by omega)]
theorem low_bd {t b A C : Int} (ht : 0 ≤ t) (hb : 0 < b) (h : t ≤ A * b) (hc : b ≤ C) : 0 ≤ (low t b).1 ∧ 0 < (low t b).2 ∧ (low t b).1 ≤ A * (low t b).2 ∧ (low t b).2 ≤ C ∧ (0 < t → 0 < (low t b).1) := by
  obtain ⟨g, hg, e1, e2⟩ := low_eq (t := t) hb
  generalize (low t b).1 = x at *
  generalize (low t b).2 = y at *
  subst e1
  subst e2
  have hx : 0 ≤ x := Int.nonneg_of_mul_nonneg_left ht hg
  have hy : 0 < y := Int.pos_of_mul_pos_left hb hg
  refine ⟨hx, hy, ?_, ?_, fun hp => Int.pos_of_mul_pos_left hp hg⟩
  · have : x * g ≤ (A * y) * g := by grind
    exact Int.le_of_mul_le_mul_right this hg
  · have h1 : y * 1 ≤ y * g := Int.mul_le_mul_of_nonneg_left (by omega) (by omega)
    omega
theorem low_pos_iff {t b : Int} (ht : 0 ≤ t) (hb : 0 < b) : (low t b).1 > 0 ↔ 0 < t := by
  constructor
  · intro h
    by_cases e : t = 0
    · rw [e, low_zero hb] at h; exact absurd h (by decide)
    · omega
  · exact (low_bd (A := t) (C := b) ht hb (by
      have : t * 1 ≤ t * b := Int.mul_le_mul_of_nonneg_left (by omega) ht
      omega) (Int.le_refl _)).2.2.2.2
/-- a share: n sales behind it -/
structure Fr (n : Nat) (p : Int × Int) : Prop where
  nn : 0 ≤ p.1
  pos : 0 < p.2
  val : p.1 ≤ 2 ^ n * p.2
  den : p.2 ≤ (10 ^ 29) ^ n
theorem two_pow_pos (n : Nat) : (0 : Int) < 2 ^ n := Int.pow_pos (by decide)
theorem den_pos (n : Nat) : (0 : Int) < (10 ^ 29) ^ n := Int.pow_pos (by decide)
theorem Fr.up {n : Nat} {p : Int × Int} (h : Fr n p) : Fr (n + 1) p := by
  refine ⟨h.nn, h.pos, ?_, ?_⟩
  · have h1 : (2 : Int) ^ n * p.2 ≤ 2 ^ (n + 1) * p.2 := Int.mul_le_mul_of_nonneg_right (by rw [Int.pow_succ]; have := two_pow_pos n; omega) (Int.le_of_lt h.pos)
    exact Int.le_trans h.val h1
  · have h1 : ((10 : Int) ^ 29) ^ n ≤ (10 ^ 29) ^ (n + 1) := by
      rw [Int.pow_succ]
      have := den_pos n
      have h2 : ((10 : Int) ^ 29) ^ n * 1 ≤ (10 ^ 29) ^ n * 10 ^ 29 := Int.mul_le_mul_of_nonneg_left (by decide) (Int.le_of_lt this)
      rw [Int.mul_one] at h2
      exact h2
    exact Int.le_trans h.den h1
theorem Fr.mono {n m : Nat} {p : Int × Int} (h : Fr n p) (hm : n ≤ m) : Fr m p := by
  induction hm with
  | refl => exact h
  | step _ ih => exact ih.up
theorem Fr.one : Fr 0 (1, 1) := ⟨by decide, by decide, by decide, by decide⟩
theorem Fr.zero : Fr 0 (0, 1) := ⟨by decide, by decide, by decide, by decide⟩
/-- a part that may be sold of a share -/
structure Pt (sh p : Int × Int) : Prop where
  pos : 0 < p.1
  dpos : 0 < p.2
  le : p.1 * sh.2 ≤ sh.1 * p.2
theorem Pt.val {n : Nat} {sh p : Int × Int} (h : Pt sh p) (f : Fr n sh) : p.1 ≤ 2 ^ n * p.2 := by
  have h1 : p.1 * sh.2 ≤ (2 ^ n * p.2) * sh.2 := by
    have h2 : sh.1 * p.2 ≤ 2 ^ n * sh.2 * p.2 := Int.mul_le_mul_of_nonneg_right f.val (Int.le_of_lt h.dpos)
    have := h.le
    grind
  exact Int.le_of_mul_le_mul_right h1 f.pos
theorem Fr.less {n : Nat} {sh p : Int × Int} (f : Fr n sh) (h : Pt sh p) (hd : p.2 < 10 ^ 29) : Fr (n + 1) (low (sh.1 * p.2 - p.1 * sh.2) (sh.2 * p.2)) := by
  have h1 := h.le
  have hb : 0 < sh.2 * p.2 := Int.mul_pos f.pos h.dpos
  obtain ⟨a, b, c, d, _⟩ := low_bd (t := sh.1 * p.2 - p.1 * sh.2) (A := 2 ^ (n + 1)) (C := (10 ^ 29) ^ (n + 1)) (by omega) hb (by
    have h2 : sh.1 * p.2 ≤ 2 ^ n * sh.2 * p.2 := Int.mul_le_mul_of_nonneg_right f.val (Int.le_of_lt h.dpos)
    have h3 : 0 < p.1 * sh.2 := Int.mul_pos h.pos f.pos
    have h4 : 0 < 2 ^ n * (sh.2 * p.2) := Int.mul_pos (two_pow_pos n) hb
    rw [Int.pow_succ]
    grind) (by
    rw [Int.pow_succ]
    have h2 : sh.2 * p.2 ≤ (10 ^ 29) ^ n * p.2 := Int.mul_le_mul_of_nonneg_right f.den (Int.le_of_lt h.dpos)
    have h3 : ((10 : Int) ^ 29) ^ n * p.2 ≤ (10 ^ 29) ^ n * 10 ^ 29 := Int.mul_le_mul_of_nonneg_left (Int.le_of_lt hd) (Int.le_of_lt (den_pos n))
    omega)
  exact ⟨a, b, c, d⟩
theorem Fr.more {n m : Nat} {sh p o : Int × Int} (f : Fr n sh) (h : Pt sh p) (hd : p.2 < 10 ^ 29) (fo : Fr m o) (hm : n ≤ m) : Fr (m + 1) (low (o.1 * p.2 + p.1 * o.2) (o.2 * p.2)) ∧ 0 < (low (o.1 * p.2 + p.1 * o.2) (o.2 * p.2)).1 := by
  have hb : 0 < o.2 * p.2 := Int.mul_pos fo.pos h.dpos
  have hv := h.val (f.mono hm)
  have hp : 0 < p.1 * o.2 := Int.mul_pos h.pos fo.pos
  have h0 : 0 ≤ o.1 * p.2 := Int.mul_nonneg fo.nn (Int.le_of_lt h.dpos)
  obtain ⟨a, b, c, d, e⟩ := low_bd (t := o.1 * p.2 + p.1 * o.2) (A := 2 ^ (m + 1)) (C := (10 ^ 29) ^ (m + 1)) (by omega) hb (by
    have h2 : o.1 * p.2 ≤ 2 ^ m * o.2 * p.2 := Int.mul_le_mul_of_nonneg_right fo.val (Int.le_of_lt h.dpos)
    have h3 : p.1 * o.2 ≤ 2 ^ m * p.2 * o.2 := Int.mul_le_mul_of_nonneg_right hv (Int.le_of_lt fo.pos)
    rw [Int.pow_succ]
    grind) (by
    rw [Int.pow_succ]
    have h2 : o.2 * p.2 ≤ (10 ^ 29) ^ m * p.2 := Int.mul_le_mul_of_nonneg_right fo.den (Int.le_of_lt h.dpos)
    have h3 : ((10 : Int) ^ 29) ^ m * p.2 ≤ (10 ^ 29) ^ m * 10 ^ 29 := Int.mul_le_mul_of_nonneg_left (Int.le_of_lt hd) (Int.le_of_lt (den_pos m))
    omega)
  exact ⟨⟨a, b, c, d⟩, e (by omega)⟩
/-- bounds by bits -/
theorem bits_ok {x : Int} {n : Nat} (h0 : 0 ≤ x) (h : x ≤ 2 ^ n) (hn : n < 9000) : Sm x := by
  unfold Sm
  have h1 : (x.natAbs : Int) ≤ ((2 ^ n : Nat) : Int) := by
    rw [Int.natCast_pow]
    have : (x.natAbs : Int) = x := by omega
    rw [this]
    exact h
  have h2 : x.natAbs ≤ 2 ^ n := by omega
  exact Nat.lt_of_le_of_lt h2 (Nat.pow_lt_pow_right (by decide) hn)
theorem den_bits (n : Nat) : ((10 : Int) ^ 29) ^ n ≤ 2 ^ (97 * n) := by
  induction n with
  | zero => decide
  | succ n ih =>
    rw [Int.pow_succ, show 97 * (n + 1) = 97 * n + 97 from rfl, Int.pow_add]
    have h1 : ((10 : Int) ^ 29) ^ n * 10 ^ 29 ≤ 2 ^ (97 * n) * 10 ^ 29 := Int.mul_le_mul_of_nonneg_right ih (by decide)
    have h2 : (2 : Int) ^ (97 * n) * 10 ^ 29 ≤ 2 ^ (97 * n) * 2 ^ 97 := Int.mul_le_mul_of_nonneg_left (by decide) (Int.le_of_lt (two_pow_pos _))
    omega
theorem Fr.sm2 {n : Nat} {p : Int × Int} (f : Fr n p) : p.2 ≤ 2 ^ (97 * n) := Int.le_trans f.den (den_bits n)
theorem Fr.sm1 {n : Nat} {p : Int × Int} (f : Fr n p) : p.1 ≤ 2 ^ (98 * n) := by
  have h1 : (2 : Int) ^ n * p.2 ≤ 2 ^ n * 2 ^ (97 * n) := Int.mul_le_mul_of_nonneg_left f.sm2 (Int.le_of_lt (two_pow_pos n))
  rw [← Int.pow_add] at h1
  have e : n + 97 * n = 98 * n := by omega
  rw [e] at h1
  exact Int.le_trans f.val h1
end Bv

/-! A purse of a script; numbers, parts drawn. -/
namespace Bv
open PySem L2 PyProof.Rows
theorem pow_i {i j : Int} {F : MH} {Q : Q1} (h : 0 ≤ j ∧ j ≤ 1000000 ∧ i.natAbs < 2 ^ 64) (q : Q (.int (i ^ j.toNat)) F) : powS (.int i) (.int j) F Q := ⟨h, q⟩
def Keep (p : Addr) (F F' : MH) : Prop := ∀ a c, a ≠ p → F a = some c → F' a = some c
theorem Keep.set {F : MH} {p : Addr} {c : Cell} : Keep p F (mset F p c) := fun a d h e => by rw [mset_ne h]; exact e
theorem Keep.trans {p : Addr} {F F' F'' : MH} (h : Keep p F F') (h2 : Keep p F' F'') : Keep p F F'' := fun a c e q => h2 a c e (h a c e q)
theorem Keep.refl {p : Addr} {F : MH} : Keep p F F := fun a c _ q => q
end Bv

/-! The purse of a script. -/
namespace Bv
open PySem L2 PyProof.Rows
theorem cut_map {α β : Type} (f : α → β) (xs : List α) (lo hi : Option Int) : cut (xs.map f) lo hi = (cut xs lo hi).map f := by
  unfold cut
  rw [List.length_map, List.map_take, List.map_drop]
theorem mem_cut {α : Type} {xs : List α} {lo hi : Option Int} {x : α} (h : x ∈ cut xs lo hi) : x ∈ xs := List.mem_of_mem_drop (List.mem_of_mem_take h)
theorem len_cut {α : Type} {xs : List α} {lo hi : Option Int} : (cut xs lo hi).length ≤ xs.length := by
  unfold cut
  rw [List.length_take, List.length_drop]
  omega
theorem int_get {cs : List Int} {r : Int} (h0 : 0 ≤ r) (h1 : r < cs.length) : ∃ c ∈ cs, (cs.map Val.int)[r.toNat]? = some (.int c) := by
  have : r.toNat < cs.length := by omega
  exact ⟨cs[r.toNat], List.getElem_mem _, by rw [List.getElem?_map, List.getElem?_eq_getElem this]; rfl⟩
theorem sl_list {v : Val} {vs : List Val} {lo hi : Option Int} {F : MH} {Q : Q1} (e : lsOf F v = some vs) (q : Q (.lst (cut vs lo hi)) F) : slS v lo hi F Q := by
  cases v with
  | lst ws => cases e; exact q
  | ref p => simp only [slS, e]; exact q
  | _ => cases e
end Bv

/-! The names: what they are made of. -/
namespace Bv
open PySem L2 PyProof.Rows
def abc : Str := "abcdefghijklmnopqrstuvwxyz"
/-- a holder's name -/
structure Name (x : Str) : Prop where
  pos : 0 < x.length
  le : x.length ≤ 8
  ok : ∀ c ∈ x.cps.toList, c ∈ abc.cps.toList
theorem abc_get {r : Int} (h0 : 0 ≤ r) (h1 : r < 26) : abc.cps.toList[r.toNat]? = some (97 + r.toNat) := by
  have : ∀ n : Fin 26, abc.cps.toList[n.1]? = some (97 + n.1) := by decide +kernel
  exact this ⟨r.toNat, by omega⟩
theorem abc_mem {n : Nat} (h : n < 26) : 97 + n ∈ abc.cps.toList := by
  have h1 := abc_get (r := (n : Int)) (by omega) (by omega)
  have h2 := List.mem_of_getElem? h1
  simpa using h2
def ch (s : Int) : Nat := 97 + (s.fmod 26).toNat
theorem ch_mem (s : Int) : ch s ∈ abc.cps.toList := abc_mem (by
  have h1 := Int.fmod_nonneg_of_pos s (b := 26) (by decide)
  have h2 := Int.fmod_lt_of_pos s (b := 26) (by decide)
  omega)
open TL in
theorem joinL_chars : ∀ (cs : List Nat), joinL [] (cs.map fun c => [c]) = cs
  | [] => rfl
  | [c] => rfl
  | c :: d :: r => by
    have := joinL_chars (d :: r)
    show [c] ++ ([] ++ joinL [] ((d :: r).map fun c => [c])) = _
    rw [this]
    rfl
open TL in
theorem join_chars (cs : List Nat) : Txt.join Str.empty (cs.map fun c => (⟨#[c]⟩ : Str)) = ⟨cs.toArray⟩ := by
  rw [join_eq]
  apply ext_tl
  rw [tl_join]
  have e : (cs.map fun c => (⟨#[c]⟩ : Str)).map tl = cs.map fun c => [c] := by rw [List.map_map]; rfl
  rw [e]
  exact joinL_chars cs
theorem sum_ones : ∀ (l : List Nat), ((l.map fun c => (⟨#[c]⟩ : Str)).map fun x => x.length).sum = l.length
  | [] => rfl
  | c :: l => by
    rw [List.map_cons, List.map_cons, List.sum_cons, sum_ones l, List.length_cons]
    show 1 + l.length = _
    omega
theorem range_item {lo : Int} {n i : Nat} {x : Val} (h : (rngV lo n)[i]? = some x) : x = .int (lo + i) ∧ i < n := by
  unfold rngV at h
  rw [List.getElem?_map] at h
  obtain ⟨j, hj, rfl⟩ := Option.map_eq_some_iff.mp h
  obtain ⟨hj1, hj2⟩ := List.getElem?_eq_some_iff.mp hj
  rw [List.getElem_range] at hj2
  rw [List.length_range] at hj1
  subst hj2
  exact ⟨rfl, hj1⟩
theorem range_item0 {n i : Nat} {x : Val} (h : (rngV 0 n)[i]? = some x) : x = .int i ∧ i < n := by
  obtain ⟨h1, h2⟩ := range_item h
  rw [Int.zero_add] at h1
  exact ⟨h1, h2⟩
theorem range_succ_map {α : Type} (f : Nat → α) (i : Nat) : (List.range (i + 1)).map f = (List.range i).map f ++ [f i] := by
  rw [List.range_succ, List.map_append]; rfl
theorem add_int {i j : Int} {F : MH} {Q : Q1} (h : Q (.int (i + j)) F) : addS (.int i) (.int j) F Q := h
theorem rng_len {lo : Int} {n : Nat} : (rngV lo n).length = n := by unfold rngV; simp
theorem Keep.none {p q : Addr} {F F' : MH} (h : Keep p F F') (hq : F' q = Option.none) (hp : q ≠ p) : F q = Option.none := by
  cases e : F q with
  | none => rfl
  | some c => rw [h q c hp e] at hq; cases hq
theorem Pur.ne {F : MH} {p q : Addr} (h : Pur F p) (hq : F q = none) : q ≠ p := by
  rintro rfl
  obtain ⟨a, b, e⟩ := h
  rw [hq] at e
  cases e
end Bv

/-! The book's small methods. -/
namespace Bv
open PySem L2 PyProof.Rows
/-! ### in -/
theorem inS_ls {a b : Val} {vs : List Val} {F : MH} {R : Bool → Prop} (e : lsOf F b = some vs) (h1 : flat a = true) (h2 : vs.all flat = true) (h : R (inL a vs)) : inS a b F R := by
  cases b with
  | lst ws => cases e; cases a <;> exact ⟨h1, h2, h⟩
  | ref p => cases a <;> (simp only [inS, e]; exact ⟨h1, h2, h⟩)
  | _ => cases e
theorem inS_d {k : Str} {p : Addr} {kvs : List (Str × Val)} {F : MH} {R : Bool → Prop} (e : dcOf F p = some kvs) (h : R (kget kvs k).isSome) : inS (.str k) (.ref p) F R := by
  unfold dcOf at e
  cases c : F p with
  | none => rw [c] at e; cases e
  | some d =>
    rw [c] at e
    cases d with
    | dict ws => cases e; simp only [inS, lsOf, c]; exact h
    | lck u ws => cases e; simp only [inS, lsOf, c]; exact h
    | _ => cases e
theorem inL_strs (k : Str) (l : List Str) : inL (.str k) (l.map .str) = decide (k ∈ l) := by
  unfold inL
  induction l with
  | nil => rfl
  | cons a l ih =>
    rw [List.map_cons, List.any_cons, ih]
    by_cases h : a = k
    · subst h
      simp [eqF]
    · have : k ≠ a := Ne.symm h
      simp [eqF, h, this]
theorem flat_strs (l : List Str) : (l.map Val.str).all flat = true := by
  rw [List.all_map]; simp [flat]
theorem in_strs {k : Str} {b : Val} {l : List Str} {F : MH} {R : Bool → Prop} (e : lsOf F b = some (l.map .str)) (h : R (decide (k ∈ l))) : inS (.str k) b F R := inS_ls e rfl (flat_strs l) (by rw [inL_strs]; exact h)
/-! ### dicts -/
theorem kget_mem {l : List (Str × Val)} {k : Str} {v : Val} (h : kget l k = some v) : (k, v) ∈ l := by
  unfold kget at h
  obtain ⟨⟨a, b⟩, h1, h2⟩ := Option.map_eq_some_iff.mp h
  have h3 := List.find?_some h1
  simp only [decide_eq_true_eq] at h3
  subst h3
  simp only at h2
  subst h2
  exact List.mem_of_find?_eq_some h1
theorem kget_none {l : List (Str × Val)} {k : Str} : kget l k = none ↔ k ∉ l.map (·.1) := by
  unfold kget
  rw [Option.map_eq_none_iff, List.find?_eq_none]
  constructor
  · intro h hm
    obtain ⟨x, hx, e⟩ := List.mem_map.mp hm
    exact h x hx (by simp [e])
  · intro h x hx e
    simp only [decide_eq_true_eq] at e
    exact h (List.mem_map.mpr ⟨x, hx, e⟩)
theorem kget_isSome {l : List (Str × Val)} {k : Str} : (kget l k).isSome = decide (k ∈ l.map (·.1)) := by
  cases h : kget l k with
  | none => rw [decide_eq_false (kget_none.mp h)]; rfl
  | some v => rw [decide_eq_true (List.mem_map.mpr ⟨_, kget_mem h, rfl⟩)]; rfl
theorem kget_of {l : List (Str × Val)} {k : Str} {v : Val} (nd : (l.map (·.1)).Nodup) (h : (k, v) ∈ l) : kget l k = some v := by
  cases e : kget l k with
  | none => exact absurd (List.mem_map.mpr ⟨_, h, rfl⟩) (kget_none.mp e)
  | some w =>
    have h2 := kget_mem e
    induction l with
    | nil => cases h
    | cons a l ih =>
      rw [List.map_cons, List.nodup_cons] at nd
      rcases List.mem_cons.mp h with e1 | e1
      · rcases List.mem_cons.mp h2 with e3 | e3
        · rw [← e1] at e3; cases e3; rfl
        · exact absurd (List.mem_map.mpr ⟨_, e3, by rw [← e1]⟩) nd.1
      · rcases List.mem_cons.mp h2 with e3 | e3
        · exact absurd (List.mem_map.mpr ⟨_, e1, by rw [← e3]⟩) nd.1
        · have hh : kget l k = some w := by
            have : a.1 ≠ k := fun z => nd.1 (List.mem_map.mpr ⟨_, e1, z.symm⟩)
            unfold kget at e ⊢
            rw [List.find?_cons_of_neg (by simpa using this)] at e
            exact e
          exact ih nd.2 e1 hh e3
/-! ### the book's cells -/
def bookFs (pl en : Addr) : List (Str × Val) := [("people", .ref pl), ("entries", .ref en)]
def entFs (nums : Val) (h : Addr) : List (Str × Val) := [("numbers", nums), ("held", .ref h)]
/-- the book's own cells -/
structure BkC (CB : Addr) (F : MH) (b pl en : Addr) (ps : List Str) (es : List (Str × Val)) : Prop where
  b : F b = some (.inst CB (bookFs pl en))
  pl : F pl = some (.lst (ps.map .str))
  en : F en = some (.dict es)
theorem fld_people {pl en : Addr} : (bookFs pl en).lookup ("people" : Str) = some (Val.ref pl) := rfl
theorem fld_entries {pl en : Addr} : (bookFs pl en).lookup ("entries" : Str) = some (Val.ref en) := rfl
theorem fld_held {n : Val} {h : Addr} : (entFs n h).lookup ("held" : Str) = some (Val.ref h) := rfl
def spIsName : Spec := fun vs F Q _ => ∃ x, vs = [.str x] ∧ Name x ∧ Q (.bl true) F
theorem Str.eta1 (c : Nat) : (⟨#[c]⟩ : Str).cps = #[c] := rfl
theorem w_is_name {Γ : Amb} {g : GlR Γ "LETTERS"} (hg : g.v = .str abc) : ∀ vs F Q E, spIsName vs F Q E → wpB (fun C fs _ F => E C fs F) (c_is_name g) (start1 n_is_name vs) F (fun _ F => Q .non F) Q := by
  rintro vs F Q E ⟨x, rfl, hn, h⟩
  unfold c_is_name
  simp only [wpB, wpS, wpE, wpEs, wpT, wpTs, wpCs, wpP, wpIt, wpBl, bindT, biS, bmS, recS, tyS, truS, start1, List.map, List.length, List.replicate, List.append_nil, List.nil_append, List.cons_append, Nat.sub_self, Nat.reduceSub, Nat.reduceAdd, List.length_cons, List.length_nil, List.getElem?_cons_zero, List.getElem?_cons_succ, List.set_cons_zero, List.set_cons_succ, setAll, wipe1, Tg.slots, binS, subS, mulS, fdivS, modS, powS, cmpS, ltS, isS, isNS, asStrs, asBls, newLs, n_is_name, hg, lenS]
  have hp := hn.pos
  have hl := hn.le
  have hz : x.length ≤ sizeLine := by rw [sizeLine_eq]; omega
  refine ⟨hz, ?_⟩
  rw [decide_eq_true (by omega : (0 : Int) < (x.length : Int))]
  simp only
  rw [decide_eq_true (by omega : (x.length : Int) ≤ 8)]
  simp only
  refine lcGo_inv (fun i acc F1 => acc = (List.replicate i true).map .bl ∧ F1 = F) ?_ (fun _ _ _ _ => trivial) ?_ ?_ ⟨rfl, rfl⟩
  · unfold charsOf
    rw [List.length_map, Array.length_toList]
    exact hz
  · rintro i v acc F1 k hx ⟨rfl, rfl⟩ hk
    unfold charsOf at hx
    rw [List.getElem?_map] at hx
    obtain ⟨c, hc, rfl⟩ := Option.map_eq_some_iff.mp hx
    refine fun _ => ⟨c, rfl, hk _ _ ⟨?_, rfl⟩⟩
    rw [decide_eq_true (hn.ok c (List.mem_of_getElem? hc)), List.replicate_succ', List.map_append]
    rfl
  · rintro acc F1 ⟨rfl, rfl⟩
    simp only [wpB, wpS, wpE, wpEs, wpT, wpTs, wpCs, wpP, wpIt, wpBl, bindT, biS, bmS, recS, tyS, truS, start1, List.map, List.length, List.replicate, List.append_nil, List.nil_append, List.cons_append, Nat.sub_self, Nat.reduceSub, Nat.reduceAdd, List.length_cons, List.length_nil, List.getElem?_cons_zero, List.getElem?_cons_succ, List.set_cons_zero, List.set_cons_succ, setAll, wipe1, Tg.slots, binS, subS, mulS, fdivS, modS, powS, cmpS, ltS, isS, isNS, asStrs, asBls, newLs, boolsF, lsOf, asBls_map]
    rw [show (List.replicate (charsOf x).length true).all id = true by simp]
    exact h
def spLoss : Spec := fun vs F Q _ => ∃ x : Int, vs = [.int x] ∧ 0 ≤ x ∧ Q .non F
theorem w_must_loss {Γ : Amb} {x : RaiR Γ "NoLoss"} : ∀ vs F Q E, spLoss vs F Q E → wpB (fun C fs _ F => E C fs F) (c_must_loss x) (start1 n_must_loss vs) F (fun _ F => Q .non F) Q := by
  rintro vs F Q E ⟨x, rfl, hn, h⟩
  unfold c_must_loss
  simp only [wpB, wpS, wpE, wpEs, wpT, wpTs, wpCs, wpP, wpIt, wpBl, bindT, biS, bmS, recS, tyS, truS, start1, List.map, List.length, List.replicate, List.append_nil, List.nil_append, List.cons_append, Nat.sub_self, Nat.reduceSub, Nat.reduceAdd, List.length_cons, List.length_nil, List.getElem?_cons_zero, List.getElem?_cons_succ, List.set_cons_zero, List.set_cons_succ, setAll, wipe1, Tg.slots, binS, subS, mulS, fdivS, modS, powS, cmpS, ltS, isS, isNS, asStrs, asBls, newLs, n_must_loss]
  rw [decide_eq_false (by omega)]
  exact h
def spEInit (CE : Addr) : Spec := fun vs F Q _ => ∃ (e : Addr) (a b : Val), vs = [.ref e, a, b] ∧ F e = some (.inst CE []) ∧ Q .non (mset F e (.inst CE [("numbers", a), ("held", b)]))
theorem w_Entry_init {Γ : Amb} {CE : Addr} {fh : FldR Γ "held"} {fn : FldR Γ "numbers"} (h1 : fh.C = CE) (h2 : fn.C = CE) : ∀ vs F Q E, spEInit CE vs F Q E → wpB (fun C fs _ F => E C fs F) (c_Entry_init fh fn) (start1 n_Entry_init vs) F (fun _ F => Q .non F) Q := by
  rintro vs F Q E ⟨e, a, b, rfl, he, h⟩
  unfold c_Entry_init
  simp only [wpB, wpS, wpE, wpEs, wpT, wpTs, wpCs, wpP, wpIt, wpBl, bindT, biS, bmS, recS, tyS, truS, start1, List.map, List.length, List.replicate, List.append_nil, List.nil_append, List.cons_append, Nat.sub_self, Nat.reduceSub, Nat.reduceAdd, List.length_cons, List.length_nil, List.getElem?_cons_zero, List.getElem?_cons_succ, List.set_cons_zero, List.set_cons_succ, setAll, wipe1, Tg.slots, binS, subS, mulS, fdivS, modS, powS, cmpS, ltS, isS, isNS, asStrs, asBls, newLs, n_Entry_init, he, h1, h2, putV, mset_same, mset_mset]
  refine ⟨trivial, by decide, trivial, by decide, ?_⟩
  exact h
def spBInit (CB : Addr) : Spec := fun vs F Q _ => ∃ b : Addr, vs = [.ref b] ∧ F b = some (.inst CB []) ∧ ∀ pl en F', F pl = none → F en = none → BkC CB F' b pl en [] [] → (∀ a c, a ≠ b → F a = some c → F' a = some c) → Q .non F'
theorem w_Book_init {Γ : Amb} {CB : Addr} {fe : FldR Γ "entries"} {fp : FldR Γ "people"} (h1 : fe.C = CB) (h2 : fp.C = CB) : ∀ vs F Q E, spBInit CB vs F Q E → wpB (fun C fs _ F => E C fs F) (c_Book_init fe fp) (start1 n_Book_init vs) F (fun _ F => Q .non F) Q := by
  rintro vs F Q E ⟨b, rfl, hb, h⟩
  unfold c_Book_init
  simp only [wpB, wpS, wpE, wpEs, wpT, wpTs, wpCs, wpP, wpIt, wpBl, bindT, biS, bmS, recS, tyS, truS, start1, List.map, List.length, List.replicate, List.append_nil, List.nil_append, List.cons_append, Nat.sub_self, Nat.reduceSub, Nat.reduceAdd, List.length_cons, List.length_nil, List.getElem?_cons_zero, List.getElem?_cons_succ, List.set_cons_zero, List.set_cons_succ, setAll, wipe1, Tg.slots, binS, subS, mulS, fdivS, modS, powS, cmpS, ltS, isS, isNS, asStrs, asBls, newLs, n_Book_init]
  refine ⟨by rw [sizeLine_eq]; decide, fun pl hpl => ?_⟩
  have n1 : b ≠ pl := fun z => by rw [← z, hb] at hpl; cases hpl
  simp only [mset_ne n1, hb, h2, putV, h1]
  refine ⟨trivial, by decide, fun en hen => ?_⟩
  have n2 : en ≠ b := fun z => by rw [z, mset_same] at hen; cases hen
  rw [mset_ne n2] at hen
  have n3 : en ≠ pl := fun z => by rw [z, mset_same] at hen; cases hen
  rw [mset_ne n3] at hen
  simp only [mset_ne (Ne.symm n2), mset_same]
  refine ⟨trivial, by show 1 < 1000; decide, ?_⟩
  refine h pl en _ hpl hen ⟨mset_same, ?_, ?_⟩ fun a c ha hc => ?_
  · rw [mset_ne (Ne.symm n1), mset_ne (Ne.symm n3), mset_ne (Ne.symm n1), mset_same]; rfl
  · rw [mset_ne n2, mset_same]
  · have a1 : a ≠ pl := fun z => by rw [z, hpl] at hc; cases hc
    have a2 : a ≠ en := fun z => by rw [z, hen] at hc; cases hc
    rw [mset_ne ha, mset_ne a2, mset_ne ha, mset_ne a1]
    exact hc
end Bv

/-! The book's methods. -/
namespace Bv
open PySem L2 PyProof.Rows
def less (sh p : Int × Int) : Int × Int := low (sh.1 * p.2 - p.1 * sh.2) (sh.2 * p.2)
def more (o p : Int × Int) : Int × Int := low (o.1 * p.2 + p.1 * o.2) (o.2 * p.2)
structure SmP (p : Int × Int) : Prop where
  a : Sm p.1
  b : Sm p.2
def spLess : Spec := fun vs F Q _ => ∃ p q : Int × Int, vs = [frP p, frP q] ∧ SmP p ∧ SmP q ∧ Q (.bl (decide (p.1 * q.2 < q.1 * p.2))) F
def spMinus : Spec := fun vs F Q _ => ∃ p q : Int × Int, vs = [frP p, frP q] ∧ SmP p ∧ SmP q ∧ 0 < p.2 * q.2 ∧ Sm (p.2 * q.2) ∧ Q (frP (less p q)) F
def spAdded : Spec := fun vs F Q _ => ∃ p q : Int × Int, vs = [frP p, frP q] ∧ SmP p ∧ SmP q ∧ 0 < p.2 * q.2 ∧ Sm (p.2 * q.2) ∧ Q (frP (more p q)) F
theorem ix0 {p : Int × Int} {F : MH} {Q : Q1} (h : Q (.int p.1) F) : ixS (frP p) (.int 0) F Q := ix_tup (by decide) rfl h
theorem ix1 {p : Int × Int} {F : MH} {Q : Q1} (h : Q (.int p.2) F) : ixS (frP p) (.int 1) F Q := ix_tup (by decide) rfl h
theorem w_is_less {Γ : Amb} : ∀ vs F Q E, spLess vs F Q E → wpB (fun C fs _ F => E C fs F) (c_is_less (Γ := Γ)) (start1 n_is_less vs) F (fun _ F => Q .non F) Q := by
  rintro vs F Q E ⟨p, q, rfl, hp, hq, h⟩
  unfold c_is_less
  simp only [wpB, wpS, wpE, wpEs, wpT, wpTs, wpCs, wpP, wpIt, wpBl, bindT, biS, bmS, recS, tyS, truS, start1, List.map, List.length, List.replicate, List.append_nil, List.nil_append, List.cons_append, Nat.sub_self, Nat.reduceSub, Nat.reduceAdd, List.length_cons, List.length_nil, List.getElem?_cons_zero, List.getElem?_cons_succ, List.set_cons_zero, List.set_cons_succ, setAll, wipe1, Tg.slots, binS, subS, mulS, fdivS, modS, powS, cmpS, ltS, isS, isNS, asStrs, asBls, newLs, n_is_less]
  refine ix0 (ix1 ?_)
  refine ⟨hp.a.mul hq.b, ix0 (ix1 ?_)⟩
  exact ⟨hq.a.mul hp.b, h⟩
theorem mul_i {i j : Int} {F : MH} {Q : Q1} (h1 : IntMulOk i j) (h : Q (.int (i * j)) F) : mulS (.int i) (.int j) F Q := ⟨h1, h⟩
theorem w_minus {Γ : Amb} {r : CallR1 Γ "made"} (hr : r.sp = spMade) : ∀ vs F Q E, spMinus vs F Q E → wpB (fun C fs _ F => E C fs F) (c_minus r) (start1 n_minus vs) F (fun _ F => Q .non F) Q := by
  rintro vs F Q E ⟨p, q, rfl, hp, hq, h0, h1, h⟩
  unfold c_minus
  simp only [wpB, wpS, wpE, wpEs, wpT, wpTs, wpCs, wpP, wpIt, wpBl, bindT, biS, bmS, recS, tyS, truS, start1, List.map, List.length, List.replicate, List.append_nil, List.nil_append, List.cons_append, Nat.sub_self, Nat.reduceSub, Nat.reduceAdd, List.length_cons, List.length_nil, List.getElem?_cons_zero, List.getElem?_cons_succ, List.set_cons_zero, List.set_cons_succ, setAll, wipe1, Tg.slots, binS, subS, fdivS, modS, powS, cmpS, ltS, isS, isNS, asStrs, asBls, newLs, n_minus, hr]
  refine ix0 (ix1 (mul_i (hp.a.mul hq.b) (ix0 (ix1 (mul_i (hq.a.mul hp.b) ?_)))))
  refine ix1 (ix1 (mul_i (hp.b.mul hq.b) ?_))
  unfold less at h
  exact ⟨_, _, rfl, h0, h1, h⟩
theorem w_added {Γ : Amb} {r : CallR1 Γ "made"} (hr : r.sp = spMade) : ∀ vs F Q E, spAdded vs F Q E → wpB (fun C fs _ F => E C fs F) (c_added r) (start1 n_added vs) F (fun _ F => Q .non F) Q := by
  rintro vs F Q E ⟨p, q, rfl, hp, hq, h0, h1, h⟩
  unfold c_added
  simp only [wpB, wpS, wpE, wpEs, wpT, wpTs, wpCs, wpP, wpIt, wpBl, bindT, biS, bmS, recS, tyS, truS, start1, List.map, List.length, List.replicate, List.append_nil, List.nil_append, List.cons_append, Nat.sub_self, Nat.reduceSub, Nat.reduceAdd, List.length_cons, List.length_nil, List.getElem?_cons_zero, List.getElem?_cons_succ, List.set_cons_zero, List.set_cons_succ, setAll, wipe1, Tg.slots, binS, subS, fdivS, modS, powS, cmpS, ltS, isS, isNS, asStrs, asBls, newLs, n_added, hr]
  refine ix0 (ix1 (mul_i (hp.a.mul hq.b) (ix0 (ix1 (mul_i (hq.a.mul hp.b) (add_int ?_))))))
  refine ix1 (ix1 (mul_i (hp.b.mul hq.b) ?_))
  unfold more at h
  exact ⟨_, _, rfl, h0, h1, h⟩
/-! ### the book -/
def spMustNew (CB : Addr) : Spec := fun vs F Q _ => ∃ b x pl en ps es, vs = [.ref b, .str x] ∧ BkC CB F b pl en ps es ∧ Name x ∧ x ∉ ps ∧ x ∉ es.map (·.1) ∧ Q .non F
theorem w_must_be_new {Γ : Amb} {CB : Addr} {fp : FldR Γ "people"} {fe : FldR Γ "entries"} {x1 : RaiR Γ "Twice"} {r : CallR1 Γ "is_name"} {x2 : RaiR Γ "NoName"} (h1 : fp.C = CB) (h2 : fe.C = CB) (hr : r.sp = spIsName) :
    ∀ vs F Q E, spMustNew CB vs F Q E → wpB (fun C fs _ F => E C fs F) (c_Book_must_be_new fp fe x1 r x2) (start1 n_Book_must_be_new vs) F (fun _ F => Q .non F) Q := by
  rintro vs F Q E ⟨b, x, pl, en, ps, es, rfl, bk, hn, hp, he, h⟩
  unfold c_Book_must_be_new
  simp only [wpB, wpS, wpE, wpEs, wpT, wpTs, wpCs, wpP, wpIt, wpBl, bindT, biS, bmS, recS, tyS, truS, start1, List.map, List.length, List.replicate, List.append_nil, List.nil_append, List.cons_append, Nat.sub_self, Nat.reduceSub, Nat.reduceAdd, List.length_cons, List.length_nil, List.getElem?_cons_zero, List.getElem?_cons_succ, List.set_cons_zero, List.set_cons_succ, setAll, wipe1, Tg.slots, binS, subS, mulS, fdivS, modS, powS, cmpS, ltS, isS, isNS, asStrs, asBls, newLs, n_Book_must_be_new, hr, bk.b, h1, h2, fld_people, fld_entries]
  refine ⟨x, rfl, hn, ?_⟩
  simp only [wpB, wpS, wpE, wpEs, wpT, wpTs, wpCs, wpP, wpIt, wpBl, bindT, biS, bmS, recS, tyS, truS, start1, List.map, List.length, List.replicate, List.append_nil, List.nil_append, List.cons_append, Nat.sub_self, Nat.reduceSub, Nat.reduceAdd, List.length_cons, List.length_nil, List.getElem?_cons_zero, List.getElem?_cons_succ, List.set_cons_zero, List.set_cons_succ, setAll, wipe1, Tg.slots, binS, subS, mulS, fdivS, modS, powS, cmpS, ltS, isS, isNS, asStrs, asBls, newLs, Bool.not_true, bk.b, h1, h2, fld_people, fld_entries]
  refine ⟨trivial, in_strs (l := ps) (by simp only [lsOf, bk.pl]) ?_⟩
  rw [decide_eq_false hp]
  refine ⟨trivial, inS_d (kvs := es) (by simp only [dcOf, bk.en]) ?_⟩
  rw [kget_isSome, decide_eq_false he]
  exact h
def spMustHold (CB : Addr) : Spec := fun vs F Q _ => ∃ b x pl en ps es, vs = [.ref b, .str x] ∧ BkC CB F b pl en ps es ∧ (x ∈ ps ∨ x ∈ es.map (·.1)) ∧ Q .non F
theorem w_must_hold {Γ : Amb} {CB : Addr} {fp : FldR Γ "people"} {fe : FldR Γ "entries"} {x1 : RaiR Γ "NoHolder"} (h1 : fp.C = CB) (h2 : fe.C = CB) :
    ∀ vs F Q E, spMustHold CB vs F Q E → wpB (fun C fs _ F => E C fs F) (c_Book_must_hold fp fe x1) (start1 n_Book_must_hold vs) F (fun _ F => Q .non F) Q := by
  rintro vs F Q E ⟨b, x, pl, en, ps, es, rfl, bk, hh, h⟩
  unfold c_Book_must_hold
  simp only [wpB, wpS, wpE, wpEs, wpT, wpTs, wpCs, wpP, wpIt, wpBl, bindT, biS, bmS, recS, tyS, truS, start1, List.map, List.length, List.replicate, List.append_nil, List.nil_append, List.cons_append, Nat.sub_self, Nat.reduceSub, Nat.reduceAdd, List.length_cons, List.length_nil, List.getElem?_cons_zero, List.getElem?_cons_succ, List.set_cons_zero, List.set_cons_succ, setAll, wipe1, Tg.slots, binS, subS, mulS, fdivS, modS, powS, cmpS, ltS, isS, isNS, asStrs, asBls, newLs, n_Book_must_hold, bk.b, h1, h2, fld_people, fld_entries]
  refine ⟨trivial, in_strs (l := ps) (by simp only [lsOf, bk.pl]) ?_⟩
  by_cases hp : x ∈ ps
  · rw [decide_eq_true hp]
    exact h
  · rw [decide_eq_false hp]
    refine ⟨trivial, inS_d (kvs := es) (by simp only [dcOf, bk.en]) ?_⟩
    rw [kget_isSome, decide_eq_true (hh.resolve_left hp)]
    exact h
def spEntryOf (CB CN : Addr) : Spec := fun vs F Q E => ∃ b x pl en ps es, vs = [.ref b, .str x] ∧ BkC CB F b pl en ps es ∧ ((∃ v, kget es x = some v ∧ Q v F) ∨ (kget es x = none ∧ E CN [] F))
theorem w_entry_of {Γ : Amb} {CB CN : Addr} {fe : FldR Γ "entries"} {x1 : RaiR Γ "NoHouse"} (h2 : fe.C = CB) (h3 : x1.C = CN) :
    ∀ vs F Q E, spEntryOf CB CN vs F Q E → wpB (fun C fs _ F => E C fs F) (c_Book_entry_of fe x1) (start1 n_Book_entry_of vs) F (fun _ F => Q .non F) Q := by
  rintro vs F Q E ⟨b, x, pl, en, ps, es, rfl, bk, hh⟩
  unfold c_Book_entry_of
  simp only [wpB, wpS, wpE, wpEs, wpT, wpTs, wpCs, wpP, wpIt, wpBl, bindT, biS, bmS, recS, tyS, truS, start1, List.map, List.length, List.replicate, List.append_nil, List.nil_append, List.cons_append, Nat.sub_self, Nat.reduceSub, Nat.reduceAdd, List.length_cons, List.length_nil, List.getElem?_cons_zero, List.getElem?_cons_succ, List.set_cons_zero, List.set_cons_succ, setAll, wipe1, Tg.slots, binS, subS, mulS, fdivS, modS, powS, cmpS, ltS, isS, isNS, asStrs, asBls, newLs, n_Book_entry_of, bk.b, h2, h3, fld_entries]
  refine ⟨trivial, inS_d (kvs := es) (by simp only [dcOf, bk.en]) ?_⟩
  rcases hh with ⟨v, hv, h⟩ | ⟨hv, h⟩
  · rw [hv]
    simp only [Option.isSome, Bool.not_true]
    simp only [bk.b, fld_entries, ixS, dcOf, bk.en, hv]
    exact ⟨trivial, h⟩
  · rw [hv]
    exact h
theorem eqS_i {i j : Int} {F : MH} {Q : Bool → Prop} (h : Q (decide (i = j))) : eqS (.int i) (.int j) F Q := eqS_int (by rw [show (i == j) = decide (i = j) from rfl]; exact h)
def spPerson (CB : Addr) : Spec := fun vs F Q _ => ∃ b x pl en ps es, vs = [.ref b, .str x] ∧ BkC CB F b pl en ps es ∧ Name x ∧ x ∉ ps ∧ x ∉ es.map (·.1) ∧ ps.length < 6 ∧ Q .non (mset F pl (.lst ((ps ++ [x]).map .str)))
theorem w_person {Γ : Amb} {CB : Addr} {fp : FldR Γ "people"} {g : GlR Γ "MOST_PERSONS"} {x1 : RaiR Γ "TooMany"} {t : MethR Γ "must_be_new"} (h1 : fp.C = CB) (hg : g.v = .int 6) (ht : t.sp = spMustNew CB) (hc : t.C = CB) :
    ∀ vs F Q E, spPerson CB vs F Q E → wpB (fun C fs _ F => E C fs F) (c_Book_person fp g x1 t) (start1 n_Book_person vs) F (fun _ F => Q .non F) Q := by
  rintro vs F Q E ⟨b, x, pl, en, ps, es, rfl, bk, hn, hp, he, hl, h⟩
  unfold c_Book_person
  simp only [wpB, wpS, wpE, wpEs, wpT, wpTs, wpCs, wpP, wpIt, wpBl, bindT, biS, bmS, recS, tyS, truS, start1, List.map, List.length, List.replicate, List.append_nil, List.nil_append, List.cons_append, Nat.sub_self, Nat.reduceSub, Nat.reduceAdd, List.length_cons, List.length_nil, List.getElem?_cons_zero, List.getElem?_cons_succ, List.set_cons_zero, List.set_cons_succ, setAll, wipe1, Tg.slots, binS, subS, mulS, fdivS, modS, powS, cmpS, ltS, isS, isNS, asStrs, asBls, newLs, n_Book_person, bk.b, h1, hg, ht, hc, fld_people]
  refine ⟨trivial, rfl, b, x, pl, en, ps, es, rfl, bk, hn, hp, he, ?_⟩
  simp only [wpB, wpS, wpE, wpEs, wpT, wpTs, wpCs, wpP, wpIt, wpBl, bindT, biS, bmS, recS, tyS, truS, start1, List.map, List.length, List.replicate, List.append_nil, List.nil_append, List.cons_append, Nat.sub_self, Nat.reduceSub, Nat.reduceAdd, List.length_cons, List.length_nil, List.getElem?_cons_zero, List.getElem?_cons_succ, List.set_cons_zero, List.set_cons_succ, setAll, wipe1, Tg.slots, binS, subS, mulS, fdivS, modS, powS, cmpS, ltS, isS, isNS, asStrs, asBls, newLs, bk.b, fld_people, lenS, lsOf, bk.pl]
  refine ⟨trivial, eqS_i ?_⟩
  rw [decide_eq_false (by rw [List.length_map]; omega)]
  simp only [wpB, wpS, wpE, wpEs, wpT, wpTs, wpCs, wpP, wpIt, wpBl, bindT, biS, bmS, recS, tyS, truS, start1, List.map, List.length, List.replicate, List.append_nil, List.nil_append, List.cons_append, Nat.sub_self, Nat.reduceSub, Nat.reduceAdd, List.length_cons, List.length_nil, List.getElem?_cons_zero, List.getElem?_cons_succ, List.set_cons_zero, List.set_cons_succ, setAll, wipe1, Tg.slots, binS, subS, mulS, fdivS, modS, powS, cmpS, ltS, isS, isNS, asStrs, asBls, newLs, bk.b, fld_people, bk.pl]
  refine ⟨trivial, ⟨pl, _, rfl, bk.pl⟩, by rw [List.length_map, sizeLine_eq]; omega, ?_⟩
  rw [List.map_append] at h
  exact h
def spHouse (CB CE : Addr) : Spec := fun vs F Q _ => ∃ b x o pl en ps es things mark loss, vs = [.ref b, .str x, .str o, things, mark, .int loss] ∧ BkC CB F b pl en ps es ∧ Name x ∧ x ∉ ps ∧ x ∉ es.map (·.1) ∧ (o ∈ ps ∨ o ∈ es.map (·.1)) ∧ 0 ≤ loss ∧ es.length < 8 ∧
  ∀ h e, F h = none → F e = none → e ≠ h → Q .non (mset (mset (mset F h (.dict [(o, frP (1, 1))])) e (.inst CE (entFs (.tup [things, mark, .int loss]) h))) en (.dict (es ++ [(x, .ref e)])))
theorem kput_new {l : List (Str × Val)} {k : Str} {v : Val} (h : k ∉ l.map (·.1)) : kput l k v = l ++ [(k, v)] := by
  unfold kput
  rw [if_neg]
  intro ha
  obtain ⟨x, hx, e⟩ := List.any_eq_true.mp ha
  simp only [decide_eq_true_eq] at e
  exact h (List.mem_map.mpr ⟨x, hx, e⟩)
theorem w_house {Γ : Amb} {CB CE : Addr} {fe : FldR Γ "entries"} {m : MkR Γ "Entry"} {g : GlR Γ "MOST_HOUSES"} {x1 : RaiR Γ "TooMany"} {r : CallR1 Γ "must_loss"} {t1 : MethR Γ "must_hold"} {t2 : MethR Γ "must_be_new"} (h1 : fe.C = CB) (hm : m.sp = spEInit CE) (hmc : m.C = CE) (hg : g.v = .int 8) (hr : r.sp = spLoss)
    (ht1 : t1.sp = spMustHold CB) (hc1 : t1.C = CB) (ht2 : t2.sp = spMustNew CB) (hc2 : t2.C = CB) : ∀ vs F Q E, spHouse CB CE vs F Q E → wpB (fun C fs _ F => E C fs F) (c_Book_house fe m g x1 r t1 t2) (start1 n_Book_house vs) F (fun _ F => Q .non F) Q := by
  rintro vs F Q E ⟨b, x, o, pl, en, ps, es, things, mark, loss, rfl, bk, hn, hp, he, ho, hl, hz, h⟩
  unfold c_Book_house
  simp only [wpB, wpS, wpE, wpEs, wpT, wpTs, wpCs, wpP, wpIt, wpBl, bindT, biS, bmS, recS, tyS, truS, start1, List.map, List.length, List.replicate, List.append_nil, List.nil_append, List.cons_append, Nat.sub_self, Nat.reduceSub, Nat.reduceAdd, List.length_cons, List.length_nil, List.getElem?_cons_zero, List.getElem?_cons_succ, List.set_cons_zero, List.set_cons_succ, setAll, wipe1, Tg.slots, binS, subS, mulS, fdivS, modS, powS, cmpS, ltS, isS, isNS, asStrs, asBls, newLs, n_Book_house, bk.b, h1, hm, hmc, hg, hr, ht1, hc1, ht2, hc2, fld_entries]
  refine ⟨trivial, rfl, b, x, pl, en, ps, es, rfl, bk, hn, hp, he, ?_⟩
  simp only [bk.b]
  refine ⟨trivial, rfl, b, o, pl, en, ps, es, rfl, bk, ho, ?_⟩
  refine ⟨loss, rfl, hl, ?_⟩
  simp only [bk.b, fld_entries, lenS, lsOf, bk.en]
  refine ⟨trivial, eqS_i ?_⟩
  rw [decide_eq_false (by omega)]
  refine ⟨by rw [sizeLine_eq]; decide, by rw [sizeLine_eq]; decide, fun d hd _ e he2 => ?_⟩
  have n1 : e ≠ d := fun z => by rw [z, mset_same] at he2; cases he2
  have he3 : F e = none := by rw [mset_ne n1] at he2; exact he2
  refine ⟨e, _, _, rfl, mset_same, rfl, ?_⟩
  have n2 : b ≠ d := fun z => by rw [← z, bk.b] at hd; cases hd
  have n3 : b ≠ e := fun z => by rw [← z, bk.b] at he3; cases he3
  have n4 : en ≠ d := fun z => by rw [← z, bk.en] at hd; cases hd
  have n5 : en ≠ e := fun z => by rw [← z, bk.en] at he3; cases he3
  simp only [mset_mset, mset_ne n3, mset_ne n2, bk.b, fld_entries, setS, mset_ne n5, mset_ne n4, bk.en]
  refine ⟨trivial, by rw [sizeLine_eq]; omega, ?_⟩
  rw [kput_new he]
  exact h d e hd he3 n1
def spHouses (CB : Addr) : Spec := fun vs F Q _ => ∃ b pl en ps es, vs = [.ref b] ∧ BkC CB F b pl en ps es ∧ es.length < 64 ∧ newLs true ((sortS (es.map (·.1))).map .str) F Q
theorem w_houses {Γ : Amb} {CB : Addr} {fe : FldR Γ "entries"} (h1 : fe.C = CB) : ∀ vs F Q E, spHouses CB vs F Q E → wpB (fun C fs _ F => E C fs F) (c_Book_houses fe) (start1 n_Book_houses vs) F (fun _ F => Q .non F) Q := by
  rintro vs F Q E ⟨b, pl, en, ps, es, rfl, bk, hl, h⟩
  unfold c_Book_houses
  simp only [wpB, wpS, wpE, wpEs, wpT, wpTs, wpCs, wpP, wpIt, wpBl, bindT, biS, bmS, recS, tyS, truS, start1, List.map, List.length, List.replicate, List.append_nil, List.nil_append, List.cons_append, Nat.sub_self, Nat.reduceSub, Nat.reduceAdd, List.length_cons, List.length_nil, List.getElem?_cons_zero, List.getElem?_cons_succ, List.set_cons_zero, List.set_cons_succ, setAll, wipe1, Tg.slots, binS, subS, mulS, fdivS, modS, powS, cmpS, ltS, isS, isNS, asStrs, asBls, newLs, n_Book_houses, bk.b, h1, fld_entries, sortedF, lsOf, bk.en, dcOf]
  exact ⟨trivial, hl, h⟩
end Bv

/-! Shares and sales. -/
namespace Bv
open PySem L2 PyProof.Rows
theorem eqS_fr {p q : Int × Int} {F : MH} {Q : Bool → Prop} (h : Q (decide (p = q))) : eqS (frP p) (frP q) F Q := by
  obtain ⟨a, b⟩ := p
  obtain ⟨c, d⟩ := q
  refine ⟨rfl, rfl, ?_⟩
  have e : PyData.eqv (toPD (rdF F (frP (a, b)))) (toPD (rdF F (frP (c, d)))) = decide ((a, b) = (c, d)) := by
    simp only [frP, rdF, toPD_tup, List.map_cons, List.map_nil, toPD, PyData.eqv, PyData.eqvAll, Bool.and_true, Prod.mk.injEq]
    by_cases h1 : a = c <;> by_cases h2 : b = d <;> simp [h1, h2]
  rw [e]
  exact h
abbrev Held := List (Str × (Int × Int))
def hv (l : Held) : List (Str × Val) := l.map fun x => (x.1, frP x.2)
def hget (l : Held) (k : Str) : Option (Int × Int) := (l.find? fun x => decide (x.1 = k)).map (·.2)
def hput (l : Held) (k : Str) (v : Int × Int) : Held := if (l.any fun x => decide (x.1 = k)) = true then l.map (fun x => if x.1 = k then (x.1, v) else x) else l ++ [(k, v)]
theorem hv_keys (l : Held) : (hv l).map (·.1) = l.map (·.1) := by unfold hv; rw [List.map_map]; rfl
theorem hv_get (l : Held) (k : Str) : kget (hv l) k = (hget l k).map frP := by
  unfold kget hget hv
  rw [List.find?_map]
  have : ((fun kv : Str × Val => decide (kv.1 = k)) ∘ fun x : Str × (Int × Int) => (x.1, frP x.2)) = fun x => decide (x.1 = k) := rfl
  rw [this]
  cases List.find? (fun x => decide (x.1 = k)) l <;> rfl
theorem hv_put (l : Held) (k : Str) (v : Int × Int) : kput (hv l) k (frP v) = hv (hput l k v) := by
  unfold kput hput
  have e : ((hv l).any fun kv => decide (kv.1 = k)) = l.any fun x => decide (x.1 = k) := by unfold hv; rw [List.any_map]; rfl
  rw [e]
  split
  · unfold hv
    rw [List.map_map, List.map_map]
    apply List.map_congr_left
    intro x _
    by_cases h : x.1 = k
    · simp [h]
    · simp [h]
  · unfold hv
    rw [List.map_append]
    rfl
theorem hget_put (l : Held) (k j : Str) (v : Int × Int) : hget (hput l k v) j = if j = k then some v else hget l j := by
  unfold hput
  split
  · rename_i h
    induction l with
    | nil => cases h
    | cons a l ih =>
      rw [List.map_cons]
      unfold hget at ih ⊢
      by_cases hj : j = k
      · subst hj
        rw [if_pos rfl]
        by_cases ha : a.1 = j
        · simp [ha]
        · rw [List.any_cons] at h
          simp only [ha, decide_false, Bool.false_or] at h
          have := ih h
          rw [if_pos rfl] at this
          rw [if_neg ha, List.find?_cons_of_neg (by simpa using ha)]
          exact this
      · rw [if_neg hj]
        by_cases ha : a.1 = k
        · rw [if_pos ha]
          have n1 : a.1 ≠ j := fun z => hj (z.symm.trans ha)
          rw [List.find?_cons_of_neg (by simpa using n1), List.find?_cons_of_neg (by simpa using n1)]
          by_cases h2 : (l.any fun x => decide (x.1 = k)) = true
          · have := ih h2
            rw [if_neg hj] at this
            exact this
          · have e : l.map (fun x => if x.1 = k then (x.1, v) else x) = l := by
              rw [List.map_congr_left (g := id)]
              · simp
              · intro x hx
                have : x.1 ≠ k := fun z => h2 (List.any_eq_true.mpr ⟨x, hx, by simp [z]⟩)
                simp [this]
            rw [e]
        · rw [if_neg ha]
          rw [List.any_cons] at h
          simp only [ha, decide_false, Bool.false_or] at h
          have := ih h
          rw [if_neg hj] at this
          by_cases h3 : a.1 = j
          · simp [h3]
          · rw [List.find?_cons_of_neg (by simpa using h3), List.find?_cons_of_neg (by simpa using h3)]
            exact this
  · rename_i h
    unfold hget
    rw [List.find?_append]
    by_cases hj : j = k
    · subst hj
      rw [if_pos rfl]
      have : l.find? (fun x => decide (x.1 = j)) = none := by
        rw [List.find?_eq_none]
        intro x hx e
        exact h (List.any_eq_true.mpr ⟨x, hx, e⟩)
      rw [this]
      simp
    · rw [if_neg hj]
      have : [(k, v)].find? (fun x => decide (x.1 = j)) = none := by simp [Ne.symm hj]
      rw [this]
      simp
theorem hput_keys (l : Held) (k : Str) (v : Int × Int) : (hput l k v).map (·.1) = if k ∈ l.map (·.1) then l.map (·.1) else l.map (·.1) ++ [k] := by
  unfold hput
  have e : ((l.any fun x => decide (x.1 = k)) = true) = (k ∈ l.map (·.1)) := by
    apply propext
    rw [List.any_eq_true, List.mem_map]
    constructor
    · rintro ⟨x, hx, h⟩
      exact ⟨x, hx, by simpa using h⟩
    · rintro ⟨x, hx, h⟩
      exact ⟨x, hx, by simpa using h⟩
  by_cases h : k ∈ l.map (·.1)
  · rw [if_pos (e ▸ h), if_pos h, List.map_map]
    apply List.map_congr_left
    intro x _
    simp only [Function.comp]
    split <;> rfl
  · rw [if_neg (e ▸ h), if_neg h, List.map_append]
    rfl
theorem hget_none {l : Held} {k : Str} : hget l k = none ↔ k ∉ l.map (·.1) := by
  have := kget_none (l := hv l) (k := k)
  rw [hv_keys, hv_get, Option.map_eq_none_iff] at this
  exact this
/-- a house's own cells -/
structure EnC (CE : Addr) (F : MH) (e h : Addr) (nums : Val) (held : Held) : Prop where
  e : F e = some (.inst CE (entFs nums h))
  h : F h = some (.dict (hv held))
theorem spE_len : True := trivial
/-- book.shares(house): the holders that have some, by names -/
def showS (held : Held) : List Str := (sortS (held.map (·.1))).filter fun k => decide (hget held k ≠ some (0, 1))
def spShares (CB CE CN : Addr) : Spec := fun vs F Q E => ∃ b x pl en ps es e h nums held, vs = [.ref b, .str x] ∧ BkC CB F b pl en ps es ∧ kget es x = some (.ref e) ∧ EnC CE F e h nums held ∧ held.length < 64 ∧
  newLs true ((showS held).map fun k => .tup [.str k, frP ((hget held k).getD (0, 0))]) F Q
theorem w_shares {Γ : Amb} {CB CE CN : Addr} {fh : FldR Γ "held"} {t : MethR Γ "entry_of"} (h1 : fh.C = CE) (ht : t.sp = spEntryOf CB CN) (hc : t.C = CB) :
    ∀ vs F Q E, spShares CB CE CN vs F Q E → wpB (fun C fs _ F => E C fs F) (c_Book_shares fh t) (start1 n_Book_shares vs) F (fun _ F => Q .non F) Q := by
  rintro vs F Q E ⟨b, x, pl, en, ps, es, e, h, nums, held, rfl, bk, hx, ec, hl, hq⟩
  unfold c_Book_shares
  simp only [wpB, wpS, wpE, wpEs, wpT, wpTs, wpCs, wpP, wpIt, wpBl, bindT, biS, bmS, recS, tyS, truS, start1, List.map, List.length, List.replicate, List.append_nil, List.nil_append, List.cons_append, Nat.sub_self, Nat.reduceSub, Nat.reduceAdd, List.length_cons, List.length_nil, List.getElem?_cons_zero, List.getElem?_cons_succ, List.set_cons_zero, List.set_cons_succ, setAll, wipe1, Tg.slots, binS, subS, fdivS, modS, powS, cmpS, ltS, isS, isNS, asStrs, asBls, newLs, n_Book_shares, bk.b, h1, ht, hc]
  refine ⟨trivial, rfl, b, x, pl, en, ps, es, rfl, bk, .inl ⟨_, hx, ?_⟩⟩
  simp only [ec.e, fld_held, sortedF, lsOf, ec.h, dcOf]
  have hl2 : (hv held).length = held.length := by unfold hv; rw [List.length_map]
  refine ⟨trivial, by omega, ?_⟩
  rw [hv_keys]
  have hz : (sortS (held.map (·.1))).length < 64 := by rw [sortS_length, List.length_map]; exact hl
  refine lcGo_inv (fun i acc F1 => acc = (((sortS (held.map (·.1))).take i).filter fun k => decide (hget held k ≠ some (0, 1))).map (fun k => .tup [.str k, frP ((hget held k).getD (0, 0))]) ∧ F1 = F) (by rw [List.length_map, sizeLine_eq]; omega) (fun _ _ _ h => rfl) ?_ ?_ ⟨rfl, rfl⟩
  · rintro i v acc F1 k hv' ⟨rfl, rfl⟩ hk hk2
    rw [List.getElem?_map] at hv'
    obtain ⟨z, hz, rfl⟩ := Option.map_eq_some_iff.mp hv'
    have hm : z ∈ held.map (·.1) := mem_sortS.mp (List.mem_of_getElem? hz)
    cases hg : hget held z with
    | none => exact absurd hm (hget_none.mp hg)
    | some p =>
      have hkg : kget (hv held) z = some (frP p) := by rw [hv_get, hg]; rfl
      have ht : (sortS (held.map (·.1))).take (i + 1) = (sortS (held.map (·.1))).take i ++ [z] := by
        rw [List.take_add_one, hz]; rfl
      simp only [ixS, dcOf, ec.h, hkg]
      refine ⟨by rw [sizeLine_eq]; decide, eqS_fr (q := (0, 1)) ?_⟩
      by_cases hp : p = (0, 1)
      · rw [decide_eq_true hp]
        refine hk2 _ ⟨?_, rfl⟩
        rw [ht, List.filter_append]
        have : [z].filter (fun k => decide (hget held k ≠ some (0, 1))) = [] := by simp [hg, hp]
        rw [this, List.append_nil]
      · rw [decide_eq_false hp]
        simp only [Bool.not_false, dcOf, ec.h, hkg]
        refine ⟨by rw [sizeLine_eq]; decide, hk _ _ ⟨?_, rfl⟩⟩
        rw [ht, List.filter_append]
        have : [z].filter (fun k => decide (hget held k ≠ some (0, 1))) = [z] := by simp [hg, hp]
        rw [this, List.map_append]
        simp [hg]
  · rintro acc F1 ⟨rfl, rfl⟩
    rw [List.length_map, List.take_length]
    exact hq
/-! ### a sale -/
/-- what a sale makes of what is held -/
def soldH (held : Held) (one other : Str) (p : Int × Int) : Held :=
  let r := hput held one (less ((hget held one).getD (0, 1)) p)
  hput r other (more ((hget r other).getD (0, 1)) p)
theorem sm_le {x : Int} {n : Nat} (h0 : 0 ≤ x) (h : x ≤ 2 ^ n) (hn : n < 9000) : Sm x := bits_ok h0 h hn
theorem Fr.sm {n : Nat} {p : Int × Int} (f : Fr n p) (hn : n ≤ 70) : SmP p := ⟨bits_ok f.nn f.sm1 (by omega), bits_ok (Int.le_of_lt f.pos) f.sm2 (by omega)⟩
theorem Pt.sm {n : Nat} {sh p : Int × Int} (h : Pt sh p) (f : Fr n sh) (hn : n ≤ 70) (hd : p.2 < 10 ^ 29) : SmP p := by
  have h2 : p.2 ≤ 2 ^ 97 := by
    have : (10 : Int) ^ 29 ≤ 2 ^ 97 := by decide
    omega
  refine ⟨bits_ok (n := n + 97) (Int.le_of_lt h.pos) ?_ (by omega), bits_ok (Int.le_of_lt h.dpos) h2 (by decide)⟩
  have h3 := h.val f
  have h4 : (2 : Int) ^ n * p.2 ≤ 2 ^ n * 2 ^ 97 := Int.mul_le_mul_of_nonneg_left h2 (Int.le_of_lt (two_pow_pos n))
  rw [← Int.pow_add] at h4
  exact Int.le_trans h3 h4
theorem prod_sm {n : Nat} {o p : Int × Int} (f : Fr n o) (h0 : 0 < p.2) (hn : n ≤ 70) (hd : p.2 < 10 ^ 29) : 0 < o.2 * p.2 ∧ Sm (o.2 * p.2) := by
  have hb : 0 < o.2 * p.2 := Int.mul_pos f.pos h0
  have h2 : p.2 ≤ 2 ^ 97 := by
    have : (10 : Int) ^ 29 ≤ 2 ^ 97 := by decide
    omega
  refine ⟨hb, bits_ok (n := 97 * n + 97) (Int.le_of_lt hb) ?_ (by omega)⟩
  have h3 : o.2 * p.2 ≤ 2 ^ (97 * n) * p.2 := Int.mul_le_mul_of_nonneg_right f.sm2 (Int.le_of_lt h0)
  have h4 : (2 : Int) ^ (97 * n) * p.2 ≤ 2 ^ (97 * n) * 2 ^ 97 := Int.mul_le_mul_of_nonneg_left h2 (Int.le_of_lt (two_pow_pos _))
  rw [← Int.pow_add] at h4
  exact Int.le_trans h3 h4
def spSale (CB CE : Addr) : Spec := fun vs F Q _ => ∃ b x one other p pl en ps es e h nums held n, vs = [.ref b, .str x, .str one, .str other, frP p] ∧ BkC CB F b pl en ps es ∧ kget es x = some (.ref e) ∧ EnC CE F e h nums held ∧
  (one ∈ ps ∨ one ∈ es.map (·.1)) ∧ (other ∈ ps ∨ other ∈ es.map (·.1)) ∧ Fr n ((hget held one).getD (0, 1)) ∧ Pt ((hget held one).getD (0, 1)) p ∧ p.2 < 10 ^ 29 ∧ Fr (n + 1) ((hget (hput held one (less ((hget held one).getD (0, 1)) p)) other).getD (0, 1)) ∧ n ≤ 60 ∧
  held.length < 1000 ∧ Q .non (mset F h (.dict (hv (soldH held one other p))))
theorem hput_len (l : Held) (k : Str) (v : Int × Int) : (hput l k v).length ≤ l.length + 1 := by
  unfold hput
  split <;> simp
theorem getD_fr {o : Option (Int × Int)} : (o.map frP).getD (frP (0, 1)) = frP (o.getD (0, 1)) := by
  cases o <;> rfl
theorem hv_len {l : Held} : (hv l).length = l.length := by unfold hv; rw [List.length_map]
theorem w_sale {Γ : Amb} {CB CE CN : Addr} {ra : CallR1 Γ "added"} {rm : CallR1 Γ "minus"} {rl : CallR1 Γ "is_less"} {x1 : RaiR Γ "NoShare"} {th : MethR Γ "must_hold"} {fh : FldR Γ "held"} {te : MethR Γ "entry_of"} (ha : ra.sp = spAdded) (hm : rm.sp = spMinus) (hl : rl.sp = spLess)
    (h1 : fh.C = CE) (ht : th.sp = spMustHold CB) (htc : th.C = CB) (hte : te.sp = spEntryOf CB CN) (htec : te.C = CB) : ∀ vs F Q E, spSale CB CE vs F Q E → wpB (fun C fs _ F => E C fs F) (c_Book_sale ra rm rl x1 th fh te) (start1 n_Book_sale vs) F (fun _ F => Q .non F) Q := by
  rintro vs F Q E ⟨b, x, one, other, p, pl, en, ps, es, e, h, nums, held, n, rfl, bk, hx, ec, ho1, ho2, f1, pt, hd, f2, hn, hlen, hq⟩
  unfold c_Book_sale
  simp only [wpB, wpS, wpE, wpEs, wpT, wpTs, wpCs, wpP, wpIt, wpBl, bindT, biS, bmS, recS, tyS, truS, start1, List.map, List.length, List.replicate, List.append_nil, List.nil_append, List.cons_append, Nat.sub_self, Nat.reduceSub, Nat.reduceAdd, List.length_cons, List.length_nil, List.getElem?_cons_zero, List.getElem?_cons_succ, List.set_cons_zero, List.set_cons_succ, setAll, wipe1, Tg.slots, binS, subS, fdivS, modS, powS, cmpS, ltS, isS, isNS, asStrs, asBls, newLs, n_Book_sale, bk.b, h1, ha, hm, hl, ht, htc, hte, htec]
  refine ⟨trivial, rfl, b, x, pl, en, ps, es, rfl, bk, .inl ⟨_, hx, ?_⟩⟩
  simp only [ec.e, fld_held, bk.b]
  refine ⟨trivial, trivial, rfl, b, one, pl, en, ps, es, rfl, bk, ho1, ?_⟩
  simp only [bk.b]
  refine ⟨trivial, rfl, b, other, pl, en, ps, es, rfl, bk, ho2, ?_⟩
  refine ⟨⟨h, hv held, rfl, by simp only [dcOf, ec.h]⟩, by rw [sizeLine_eq]; decide, ?_⟩
  simp only [dcOf, ec.h]
  rw [hv_get]
  have eg : (Option.map frP (hget held one)).getD (Val.tup [.int 0, .int 1]) = frP ((hget held one).getD (0, 1)) := getD_fr
  rw [eg]
  have s1 := f1.sm (by omega : n ≤ 70)
  have sp := pt.sm f1 (by omega) hd
  have s2 := f2.sm (by omega : n + 1 ≤ 70)
  obtain ⟨b1, b2⟩ := prod_sm f1 pt.dpos (by omega) hd
  obtain ⟨c1, c2⟩ := prod_sm f2 pt.dpos (by omega) hd
  have hpp := pt.pos
  have hle := pt.le
  refine ix0 ?_
  simp only
  rw [decide_eq_false (by omega)]
  refine ⟨_, _, rfl, s1, sp, ?_⟩
  simp only [wpB, wpS, wpE, wpEs, wpT, wpTs, wpCs, wpP, wpIt, wpBl, bindT, biS, bmS, recS, tyS, truS, start1, List.map, List.length, List.replicate, List.append_nil, List.nil_append, List.cons_append, Nat.sub_self, Nat.reduceSub, Nat.reduceAdd, List.length_cons, List.length_nil, List.getElem?_cons_zero, List.getElem?_cons_succ, List.set_cons_zero, List.set_cons_succ, setAll, wipe1, Tg.slots, binS, subS, fdivS, modS, powS, cmpS, ltS, isS, isNS, asStrs, asBls, newLs]
  rw [decide_eq_false (by omega)]
  simp only
  refine ⟨_, _, rfl, s1, sp, b1, b2, ?_⟩
  simp only [setS, ec.h]
  rw [hv_put]
  refine ⟨by rw [hv_len, sizeLine_eq]; omega, ⟨h, hv (hput held one (less ((hget held one).getD (0, 1)) p)), rfl, by simp only [dcOf, mset_same]⟩, by rw [sizeLine_eq]; decide, ?_⟩
  simp only [dcOf, mset_same]
  rw [hv_get]
  have eg2 : ∀ o : Option (Int × Int), (Option.map frP o).getD (Val.tup [.int 0, .int 1]) = frP (o.getD (0, 1)) := fun o => getD_fr
  rw [eg2]
  refine ⟨_, _, rfl, s2, sp, c1, c2, ?_⟩
  simp only [mset_same, mset_mset]
  rw [hv_put]
  have hl2 := hput_len held one (less ((hget held one).getD (0, 1)) p)
  exact ⟨by rw [hv_len, sizeLine_eq]; omega, hq⟩
end Bv

/-! The purse of a script, draws from it. -/
namespace Bv
open PySem L2 PyProof.Rows
theorem add_ls {a b : Val} {xs ys : List Val} {F : MH} {Q : Q1} (ha : lsOf F a = some xs) (hb : lsOf F b = some ys) (hl : xs.length + ys.length ≤ sizeLine) (q : Q (.lst (xs ++ ys)) F) : addS a b F Q := by
  cases a <;> cases b <;> first | (cases ha; done) | (cases hb; done) | (simp only [addS, ha, hb]; exact ⟨hl, q⟩)
def spTake : Spec := fun vs F Q _ => ∃ (p : Addr) (n : Int), vs = [.ref p, .int n] ∧ 0 < n ∧ Sm n ∧ Pur F p ∧ ∀ r a b : Int, 0 ≤ r → r < n → Q (.int r) (mset F p (.lst [.int a, .int b]))
theorem ix_p0 {F : MH} {p : Addr} {x y : Int} {Q : Q1} (e : F p = some (.lst [.int x, .int y])) (q : Q (.int x) F) : ixS (.ref p) (.int 0) F Q := by
  simp only [ixS, lsOf, e]; exact q
theorem ix_p1 {F : MH} {p : Addr} {x y : Int} {Q : Q1} (e : F p = some (.lst [.int x, .int y])) (q : Q (.int y) F) : ixS (.ref p) (.int 1) F Q := by
  simp only [ixS, lsOf, e]; exact q
theorem w_l_take {Γ : Amb} : ∀ vs F Q E, spTake vs F Q E → wpB (fun C fs _ F => E C fs F) (c_l_take (Γ := Γ)) (start1 n_l_take vs) F (fun _ F => Q .non F) Q := by
  rintro vs F Q E ⟨p, n, rfl, h0, hs, ⟨a, b, hp⟩, h⟩
  unfold c_l_take
  simp only [wpB, wpS, wpE, wpEs, wpT, wpTs, wpCs, wpP, wpIt, wpBl, bindT, biS, recS, truS, start1, List.map, List.length, List.replicate, List.append_nil, List.nil_append, List.cons_append, Nat.sub_self, Nat.reduceSub, Nat.reduceAdd, List.length_cons, List.length_nil, List.getElem?_cons_zero, List.getElem?_cons_succ, List.set_cons_zero, List.set_cons_succ, setAll, wipe1, Tg.slots, binS, subS, fdivS, modS, powS, cmpS, ltS, isS, isNS, asStrs, asBls, newLs, n_l_take]
  refine ix_p0 hp (eqS_int ?_)
  cases hz : (a == 0)
  · simp only [intS]
    refine ix_p0 hp ⟨by omega, ?_⟩
    refine ix_p0 hp ⟨Sm.div hs h0, ?_⟩
    simp only [setS, hp]
    exact h _ _ _ (Int.fmod_nonneg_of_pos _ h0) (Int.fmod_lt_of_pos _ h0)
  · simp only [intS]
    refine ix_p1 hp ⟨by omega, ?_⟩
    refine ix_p1 hp ⟨Sm.div hs h0, ?_⟩
    simp only [setS, hp]
    exact h _ _ _ (Int.fmod_nonneg_of_pos _ h0) (Int.fmod_lt_of_pos _ h0)
/-! ### fractions of the law -/
def spLow : Spec := fun vs F Q _ => ∃ t b : Int, vs = [.int t, .int b] ∧ 0 < b ∧ Sm b ∧ Q (frP (low t b)) F
def nzI (a b : Int) (F0 : MH) (m : Nat) (σ : St1) (F : MH) : Prop := ∃ x y : Int, σ = [some (.int x), some (.int y)] ∧ F = F0 ∧ 0 ≤ y ∧ m = y.toNat ∧ Int.gcd x y = Int.gcd a b
def spDivL : Spec := fun vs F Q _ => ∃ a b : Int, vs = [.int a, .int b] ∧ 0 < b ∧ Q (.int (Int.gcd a b)) F
theorem gcd_step' {x y : Int} (hy : 0 < y) : Int.gcd y (x.fmod y) = Int.gcd x y := by
  rw [Int.fmod_eq_emod_of_nonneg x (Int.le_of_lt hy), Int.gcd_comm x y, Int.emod_def]
  simp
theorem w_l_divisor {Γ : Amb} : ∀ vs F Q E, spDivL vs F Q E → wpB (fun C fs _ F => E C fs F) (c_l_divisor (Γ := Γ)) (start1 n_l_divisor vs) F (fun _ F => Q .non F) Q := by
  rintro vs F Q E ⟨a, b, rfl, hb, h⟩
  unfold c_l_divisor
  simp only [wpB, wpS, wpE, wpEs, wpT, wpTs, wpCs, wpP, wpIt, wpBl, bindT, biS, recS, truS, start1, List.map, List.length, List.replicate, List.append_nil, List.nil_append, List.cons_append, Nat.sub_self, Nat.reduceSub, Nat.reduceAdd, List.length_cons, List.length_nil, List.getElem?_cons_zero, List.getElem?_cons_succ, List.set_cons_zero, List.set_cons_succ, setAll, wipe1, Tg.slots, binS, subS, fdivS, modS, powS, cmpS, ltS, isS, isNS, asStrs, asBls, newLs, n_l_divisor]
  refine ⟨nzI a b F, ⟨_, _, _, rfl, rfl, by omega, rfl, rfl⟩, ?_⟩
  rintro m σ F1 ⟨x, y, rfl, rfl, hy, rfl, hg⟩
  simp only [wpB, wpS, wpE, wpEs, wpT, wpTs, wpCs, wpP, wpIt, wpBl, bindT, biS, recS, truS, start1, List.map, List.length, List.replicate, List.append_nil, List.nil_append, List.cons_append, Nat.sub_self, Nat.reduceSub, Nat.reduceAdd, List.length_cons, List.length_nil, List.getElem?_cons_zero, List.getElem?_cons_succ, List.set_cons_zero, List.set_cons_succ, setAll, wipe1, Tg.slots, binS, subS, fdivS, modS, powS, cmpS, ltS, isS, isNS, asStrs, asBls, newLs]
  refine eqS_i ?_
  by_cases hp : y = 0
  · subst hp
    simp only [decide_true, Bool.not_true, wpB, wpS, wpE, wpEs, wpT, wpTs, wpCs, wpP, wpIt, wpBl, bindT, biS, recS, truS, start1, List.map, List.length, List.replicate, List.append_nil, List.nil_append, List.cons_append, Nat.sub_self, Nat.reduceSub, Nat.reduceAdd, List.length_cons, List.length_nil, List.getElem?_cons_zero, List.getElem?_cons_succ, List.set_cons_zero, List.set_cons_succ, setAll, wipe1, Tg.slots, binS, subS, fdivS, modS, powS, cmpS, ltS, isS, isNS, asStrs, asBls, newLs]
    have e2 : (if x < 0 then -x else x) = (Int.gcd a b : Int) := by rw [← hg, Int.gcd_zero_right]; exact abs_val x
    rw [e2]
    exact h
  · rw [decide_eq_false hp]
    simp only [wpB, wpS, wpE, wpEs, wpT, wpTs, wpCs, wpP, wpIt, wpBl, bindT, biS, recS, truS, start1, List.map, List.length, List.replicate, List.append_nil, List.nil_append, List.cons_append, Nat.sub_self, Nat.reduceSub, Nat.reduceAdd, List.length_cons, List.length_nil, List.getElem?_cons_zero, List.getElem?_cons_succ, List.set_cons_zero, List.set_cons_succ, setAll, wipe1, Tg.slots, binS, subS, fdivS, modS, powS, cmpS, ltS, isS, isNS, asStrs, asBls, newLs, Bool.not_false]
    refine ⟨hp, (x.fmod y).toNat, ?_, y, x.fmod y, rfl, rfl, ?_, rfl, ?_⟩
    · have h1 := Int.fmod_lt_of_pos x (show 0 < y by omega)
      omega
    · exact Int.fmod_nonneg_of_pos x (by omega)
    · rw [gcd_step' (by omega)]; exact hg
theorem w_l_lowest {Γ : Amb} {r : CallR1 Γ "_law_divisor"} (hr : r.sp = spDivL) : ∀ vs F Q E, spLow vs F Q E → wpB (fun C fs _ F => E C fs F) (c_l_lowest r) (start1 n_l_lowest vs) F (fun _ F => Q .non F) Q := by
  rintro vs F Q E ⟨t, b, rfl, h0, hs, h⟩
  unfold c_l_lowest
  simp only [wpB, wpS, wpE, wpEs, wpT, wpTs, wpCs, wpP, wpIt, wpBl, bindT, biS, recS, truS, start1, List.map, List.length, List.replicate, List.append_nil, List.nil_append, List.cons_append, Nat.sub_self, Nat.reduceSub, Nat.reduceAdd, List.length_cons, List.length_nil, List.getElem?_cons_zero, List.getElem?_cons_succ, List.set_cons_zero, List.set_cons_succ, setAll, wipe1, Tg.slots, binS, subS, fdivS, modS, powS, cmpS, ltS, isS, isNS, asStrs, asBls, newLs, n_l_lowest, hr]
  refine ⟨t, b, rfl, h0, ?_⟩
  obtain ⟨g1, g2⟩ := gcd_le_right (t := t) h0
  have d : ∀ i, DivOk i (Int.gcd t b : Int) := fun i => Sm.div (hs.le (by omega)) g1
  refine ⟨d _, d _, by rw [sizeLine_eq]; decide, ?_⟩
  rw [Int.fdiv_eq_ediv_of_nonneg _ (Int.le_of_lt g1), Int.fdiv_eq_ediv_of_nonneg _ (Int.le_of_lt g1)]
  exact h
theorem w_l_plus {Γ : Amb} {r : CallR1 Γ "_law_lowest"} (hr : r.sp = spLow) : ∀ vs F Q E, spAdded vs F Q E → wpB (fun C fs _ F => E C fs F) (c_l_plus r) (start1 n_l_plus vs) F (fun _ F => Q .non F) Q := by
  rintro vs F Q E ⟨p, q, rfl, hp, hq, h0, h1, h⟩
  unfold c_l_plus
  simp only [wpB, wpS, wpE, wpEs, wpT, wpTs, wpCs, wpP, wpIt, wpBl, bindT, biS, recS, truS, start1, List.map, List.length, List.replicate, List.append_nil, List.nil_append, List.cons_append, Nat.sub_self, Nat.reduceSub, Nat.reduceAdd, List.length_cons, List.length_nil, List.getElem?_cons_zero, List.getElem?_cons_succ, List.set_cons_zero, List.set_cons_succ, setAll, wipe1, Tg.slots, binS, subS, fdivS, modS, powS, cmpS, ltS, isS, isNS, asStrs, asBls, newLs, n_l_plus, hr]
  refine ix0 (ix1 (mul_i (hp.a.mul hq.b) (ix0 (ix1 (mul_i (hq.a.mul hp.b) (add_int ?_))))))
  refine ix1 (ix1 (mul_i (hp.b.mul hq.b) ?_))
  unfold more at h
  exact ⟨_, _, rfl, h0, h1, h⟩
def spTimes : Spec := fun vs F Q _ => ∃ p q : Int × Int, vs = [frP p, frP q] ∧ SmP p ∧ SmP q ∧ 0 < p.2 * q.2 ∧ Sm (p.2 * q.2) ∧ Q (frP (low (p.1 * q.1) (p.2 * q.2))) F
theorem w_l_times {Γ : Amb} {r : CallR1 Γ "_law_lowest"} (hr : r.sp = spLow) : ∀ vs F Q E, spTimes vs F Q E → wpB (fun C fs _ F => E C fs F) (c_l_times r) (start1 n_l_times vs) F (fun _ F => Q .non F) Q := by
  rintro vs F Q E ⟨p, q, rfl, hp, hq, h0, h1, h⟩
  unfold c_l_times
  simp only [wpB, wpS, wpE, wpEs, wpT, wpTs, wpCs, wpP, wpIt, wpBl, bindT, biS, recS, truS, start1, List.map, List.length, List.replicate, List.append_nil, List.nil_append, List.cons_append, Nat.sub_self, Nat.reduceSub, Nat.reduceAdd, List.length_cons, List.length_nil, List.getElem?_cons_zero, List.getElem?_cons_succ, List.set_cons_zero, List.set_cons_succ, setAll, wipe1, Tg.slots, binS, subS, fdivS, modS, powS, cmpS, ltS, isS, isNS, asStrs, asBls, newLs, n_l_times, hr]
  refine ix0 (ix0 (mul_i (hp.a.mul hq.a) ?_))
  refine ix1 (ix1 (mul_i (hp.b.mul hq.b) ?_))
  exact ⟨_, _, rfl, h0, h1, h⟩
end Bv

/-! Names and parts drawn. -/
namespace Bv
open PySem L2 PyProof.Rows
def hdS (x : Str) : Option Nat := x.cps.toList.head?
/-- names unlike in the first -/
def Hd (l : List Str) : Prop := (l.map hdS).Nodup
theorem Hd.nodup {l : List Str} (h : Hd l) : l.Nodup := by
  unfold Hd at h
  rw [List.nodup_iff_pairwise_ne, List.pairwise_map] at h
  rw [List.nodup_iff_pairwise_ne]
  exact h.imp fun hne e => hne (by rw [e])
theorem Hd.inj {l : List Str} (h : Hd l) : ∀ {x y : Str}, x ∈ l → y ∈ l → hdS x = hdS y → x = y := by
  induction l with
  | nil => intro x y hx; cases hx
  | cons a l ih =>
    intro x y hx hy e
    unfold Hd at h
    rw [List.map_cons, List.nodup_cons] at h
    rcases List.mem_cons.mp hx with h1 | h1
    · rcases List.mem_cons.mp hy with h2 | h2
      · rw [h1, h2]
      · exact absurd (List.mem_map.mpr ⟨y, h2, by rw [← e, h1]⟩) h.1
    · rcases List.mem_cons.mp hy with h2 | h2
      · exact absurd (List.mem_map.mpr ⟨x, h1, by rw [e, h2]⟩) h.1
      · exact ih h.2 h1 h2 e
theorem ch_inj {f : Int} {k l : Nat} (hk : k < 14) (hl : l < 14) (e : ch (f + 7 * (k : Int)) = ch (f + 7 * (l : Int))) : k = l := by
  unfold ch at e
  rw [Int.fmod_eq_emod_of_nonneg _ (by decide), Int.fmod_eq_emod_of_nonneg _ (by decide)] at e
  omega
theorem heads_nodup (f : Int) : ((List.range 14).map fun (k : Nat) => some (ch (f + 7 * (k : Int)))).Nodup := by
  rw [List.nodup_iff_pairwise_ne, List.pairwise_map]
  refine (List.nodup_iff_pairwise_ne.mp List.nodup_range).imp_of_mem fun {k l} hk hl hne e => ?_
  rw [List.mem_range] at hk hl
  exact hne (ch_inj hk hl (by simpa using e))
def mkName (c : Nat) (t : List Nat) : Str := ⟨(c :: t).toArray⟩
theorem mkName_hd (c : Nat) (t : List Nat) : hdS (mkName c t) = some c := by simp [hdS, mkName]
theorem mkName_name {c : Nat} {t : List Nat} (hc : c ∈ abc.cps.toList) (ht : ∀ x ∈ t, x ∈ abc.cps.toList) (hl : t.length ≤ 7) : Name (mkName c t) := by
  refine ⟨?_, ?_, fun x hx => ?_⟩
  · show 0 < (c :: t).toArray.size
    simp
  · show (c :: t).toArray.size ≤ 8
    simp; omega
  · have hx : x ∈ c :: t := by simpa [mkName] using hx
    rcases List.mem_cons.mp hx with e | e
    · rw [e]; exact hc
    · exact ht x e
def spNames : Spec := fun vs F Q _ => ∃ (p : Addr), vs = [.ref p] ∧ Pur F p ∧ ∀ (names : List Str) F', names.length = 14 → Hd names → (∀ x ∈ names, Name x) → Pur F' p → Keep p F F' → Q (.lst (names.map .str)) F'
theorem abc_ix {F : MH} {r : Int} {Q : Q1} (h0 : 0 ≤ r) (h1 : r < 26) (q : Q (.str ⟨#[97 + r.toNat]⟩) F) : ixS (.str abc) (.int r) F Q := by
  have e := atI_get h0 (abc_get h0 h1)
  simp only [ixS, e]
  exact ⟨by rw [sizeLine_eq]; decide, q⟩
theorem w_l_names {Γ : Amb} {r : CallR1 Γ "_law_take"} (hr : r.sp = spTake) : ∀ vs F Q E, spNames vs F Q E → wpB (fun C fs _ F => E C fs F) (c_l_names r) (start1 n_l_names vs) F (fun _ F => Q .non F) Q := by
  rintro vs F Q E ⟨p, rfl, hp, h⟩
  unfold c_l_names
  simp only [wpB, wpS, wpE, wpEs, wpT, wpTs, wpCs, wpP, wpIt, wpBl, bindT, biS, recS, truS, start1, List.map, List.length, List.replicate, List.append_nil, List.nil_append, List.cons_append, Nat.sub_self, Nat.reduceSub, Nat.reduceAdd, List.length_cons, List.length_nil, List.getElem?_cons_zero, List.getElem?_cons_succ, List.set_cons_zero, List.set_cons_succ, setAll, wipe1, Tg.slots, binS, subS, fdivS, modS, powS, cmpS, ltS, isS, isNS, asStrs, asBls, newLs, n_l_names, hr]
  refine ⟨p, 26, rfl, by decide, .of_small (by decide) (by decide), hp, fun f a b f0 f1 => ?_⟩
  refine ⟨by rw [sizeLine_eq]; decide, fun q hq => ⟨by decide, by decide, ?_⟩⟩
  have hqp : q ≠ p := Pur.ne .set hq
  have hFq : F q = none := by rw [mset_ne hqp] at hq; exact hq
  refine forGo_inv (fun i σ F3 => ∃ (s4 s5 s6 : Option Val) (names : List Str), σ = [some (.ref p), some (.str abc), some (.int f), some (.ref q), s4, s5, s6, none] ∧ F3 q = some (.lst (names.map .str)) ∧ Pur F3 p ∧ Keep p F F3 ∧ (∀ x ∈ names, Name x) ∧ names.map hdS = (List.range i).map fun (k : Nat) => some (ch (f + 7 * (k : Int)))) (fun _ _ _ _ => trivial) ?_ ?_ ⟨none, none, none, [], rfl, mset_same, ?_, ?_, fun _ h => (nomatch h), rfl⟩
  · rintro i x σ F3 k hx ⟨s4, s5, s6, names, rfl, hq3, pu3, k3, nm, hd⟩ hk
    obtain ⟨rfl, hi⟩ := range_item0 hx
    have hi : i < 14 := hi
    simp only [wpB, wpS, wpE, wpEs, wpT, wpTs, wpCs, wpP, wpIt, wpBl, bindT, biS, recS, truS, start1, List.map, List.length, List.replicate, List.append_nil, List.nil_append, List.cons_append, Nat.sub_self, Nat.reduceSub, Nat.reduceAdd, List.length_cons, List.length_nil, List.getElem?_cons_zero, List.getElem?_cons_succ, List.set_cons_zero, List.set_cons_succ, setAll, wipe1, Tg.slots, binS, subS, fdivS, modS, powS, cmpS, ltS, isS, isNS, asStrs, asBls, newLs]
    refine ⟨p, 8, rfl, by decide, .of_small (by decide) (by decide), pu3, fun lg a b l0 l1 => ⟨⟨_, rfl⟩, by omega, by omega, ?_⟩⟩
    obtain ⟨L, rfl⟩ := Int.eq_ofNat_of_zero_le l0
    rw [Int.toNat_natCast]
    have hq4 : mset F3 p (.lst [.int a, .int b]) q = some (.lst (names.map .str)) := by rw [mset_ne hqp]; exact hq3
    have k4 : Keep p F (mset F3 p (.lst [.int a, .int b])) := k3.trans .set
    generalize hF4 : mset F3 p (.lst [.int a, .int b]) = F4 at *
    have pu4 : Pur F4 p := by rw [← hF4]; exact .set
    refine lcGo_inv (fun j acc F5 => ∃ cs : List Nat, acc = (cs.map fun c => (⟨#[c]⟩ : Str)).map .str ∧ cs.length = j ∧ (∀ c ∈ cs, c ∈ abc.cps.toList) ∧ F5 q = some (.lst (names.map .str)) ∧ Pur F5 p ∧ Keep p F F5) (by rw [rng_len, sizeLine_eq]; omega) (fun _ _ _ _ => trivial) ?_ ?_ ⟨[], rfl, rfl, fun _ h => (nomatch h), hq4, pu4, k4⟩
    · rintro j y acc F5 k2 hy ⟨cs, rfl, hcl, hca, hq5, pu5, k5⟩ hk2 _
      obtain ⟨rfl, hj⟩ := range_item0 hy
      try simp only [wpB, wpS, wpE, wpEs, wpT, wpTs, wpCs, wpP, wpIt, wpBl, bindT, biS, recS, truS, start1, List.map, List.length, List.replicate, List.append_nil, List.nil_append, List.cons_append, Nat.sub_self, Nat.reduceSub, Nat.reduceAdd, List.length_cons, List.length_nil, List.getElem?_cons_zero, List.getElem?_cons_succ, List.set_cons_zero, List.set_cons_succ, setAll, wipe1, Tg.slots, binS, subS, fdivS, modS, powS, cmpS, ltS, isS, isNS, asStrs, asBls, newLs]
      refine ⟨p, 26, rfl, by decide, .of_small (by decide) (by decide), pu5, fun v a b v0 v1 => abc_ix v0 v1 ?_⟩
      refine hk2 _ _ ⟨cs ++ [97 + v.toNat], ?_, by rw [List.length_append, hcl]; rfl, fun c hc => ?_, by rw [mset_ne hqp]; exact hq5, .set, k5.trans .set⟩
      · rw [List.map_append, List.map_append]; rfl
      · rcases List.mem_append.mp hc with e | e
        · exact hca c e
        · rw [List.mem_singleton.mp e]; exact abc_mem (by omega)
    · rintro acc F5 ⟨cs, rfl, hcl, hca, hq5, pu5, k5⟩
      rw [rng_len] at hcl
      simp only [bmS, lsOf, asStrs_map]
      refine ⟨?_, ⟨q, _, rfl, hq5⟩, mul_i (small_mulL (by decide) (by decide)) (add_int ⟨by decide, ?_⟩)⟩
      · rw [sum_ones]
        simp only [List.length_map]
        have : (Str.ofString "").length = 0 := rfl
        rw [this]
        omega
      · have r1 := Int.fmod_nonneg_of_pos (f + 7 * (i : Int)) (b := 26) (by decide)
        have r2 := Int.fmod_lt_of_pos (f + 7 * (i : Int)) (b := 26) (by decide)
        refine abc_ix r1 r2 ?_
        have e1 : (Str.ofString "" : Str) = Str.empty := rfl
        rw [e1, join_chars]
        refine ⟨?_, ?_⟩
        · show 1 + cs.toArray.size ≤ sizeLine
          rw [sizeLine_eq]; simp; omega
        · simp only [hq5]
          have e2 : (⟨#[97 + ((f + 7 * (i : Int)).fmod 26).toNat]⟩ : Str) ++ (⟨cs.toArray⟩ : Str) = mkName (ch (f + 7 * (i : Int))) cs := by
            show (⟨_⟩ : Str) = ⟨_⟩
            congr 1
            show #[97 + ((f + 7 * (i : Int)).fmod 26).toNat] ++ cs.toArray = _
            simp [ch]
          rw [e2]
          have hnl : names.length = i := by
            have := congrArg List.length hd
            simpa using this
          refine ⟨by rw [List.length_map, sizeLine_eq]; omega, hk _ _ ⟨_, _, _, names ++ [mkName (ch (f + 7 * (i : Int))) cs], rfl, ?_, ?_, ?_, fun x hx => ?_, ?_⟩⟩
          · rw [mset_same, List.map_append]; rfl
          · obtain ⟨x, y, e⟩ := pu5
            exact ⟨x, y, by rw [mset_ne (Ne.symm hqp)]; exact e⟩
          · intro z c hz e
            have : z ≠ q := fun w => by rw [w, hFq] at e; cases e
            rw [mset_ne this]
            exact k5 z c hz e
          · rcases List.mem_append.mp hx with e | e
            · exact nm x e
            · rw [List.mem_singleton.mp e]; exact mkName_name (ch_mem _) hca (by omega)
          · rw [List.map_append, hd, range_succ_map]
            simp only [List.map_cons, List.map_nil, mkName_hd]
  · rintro σ F3 ⟨s4, s5, s6, names, rfl, hq3, pu3, k3, nm, hd⟩
    have hd : names.map hdS = (List.range 14).map fun (k : Nat) => some (ch (f + 7 * (k : Int))) := hd
    simp only [wpB, wpS, wpE, wpEs, wpT, wpTs, wpCs, wpP, wpIt, wpBl, bindT, biS, recS, truS, start1, List.map, List.length, List.replicate, List.append_nil, List.nil_append, List.cons_append, Nat.sub_self, Nat.reduceSub, Nat.reduceAdd, List.length_cons, List.length_nil, List.getElem?_cons_zero, List.getElem?_cons_succ, List.set_cons_zero, List.set_cons_succ, setAll, wipe1, Tg.slots, binS, subS, fdivS, modS, powS, cmpS, ltS, isS, isNS, asStrs, asBls, newLs, hq3]
    refine h names _ ?_ (by unfold Hd; rw [hd]; exact heads_nodup f) nm ?_ ?_
    · have := congrArg List.length hd
      simpa using this
    · obtain ⟨x, y, e⟩ := pu3
      exact ⟨x, y, by rw [mdel_ne (Ne.symm hqp)]; exact e⟩
    · intro z c hz e
      have : z ≠ q := fun w => by rw [w, hFq] at e; cases e
      rw [mdel_ne this]
      exact k3 z c hz e
  · obtain ⟨x, y, e⟩ := (Pur.set : Pur (mset F p (.lst [.int a, .int b])) p)
    exact ⟨x, y, by rw [mset_ne (Ne.symm hqp)]; exact e⟩
  · intro z c hz e
    have : z ≠ q := fun w => by rw [w, hFq] at e; cases e
    rw [mset_ne this, mset_ne hz]
    exact e
/-! ### a part -/
theorem ix_ints {l : List Int} {r : Int} {F : MH} {Q : Q1} (h0 : 0 ≤ r) (h1 : r < l.length) (q : ∀ z ∈ l, Q (.int z) F) : ixS (.lst (l.map .int)) (.int r) F Q := by
  obtain ⟨c, hc, hg⟩ := int_get h0 h1
  exact ix_list rfl h0 hg (q c hc)
structure Ptn (p : Int × Int) : Prop where
  pos : 0 < p.1
  dpos : 0 < p.2
  le : p.1 ≤ p.2
  den : p.2 ≤ 10 ^ 9
end Bv

/-! Book and model, as they stand while a book is built. -/
namespace Bv
open PySem L2 PyProof.Rows
/-- a text whose signs are signs -/
def VS (x : Str) : Prop := x.cps.all (· < 0x110000) = true
theorem Name.vs {x : Str} (h : Name x) : VS x := by
  unfold VS
  rw [← Array.all_toList, List.all_eq_true]
  intro c hc
  have h1 := h.ok c hc
  have h2 : ∀ c ∈ abc.cps.toList, c < 0x110000 := by decide +kernel
  exact decide_eq_true (h2 c h1)
theorem eqvAll_strs : ∀ (l m : List Str), PyData.eqvAll ((l.map Val.str).map toPD) ((m.map Val.str).map toPD) = decide (l = m)
  | [], [] => by simp [PyData.eqvAll]
  | [], _ :: _ => by simp [PyData.eqvAll]
  | _ :: _, [] => by simp [PyData.eqvAll]
  | a :: l, b :: m => by
    have := eqvAll_strs l m
    simp only [List.map_cons, PyData.eqvAll, toPD, PyData.eqv] at this ⊢
    rw [this]
    by_cases h1 : a = b <;> by_cases h2 : l = m <;> simp [h1, h2]
theorem eqS_strs {a b : Val} {l m : List Str} {F : MH} {Q : Bool → Prop} (h1 : rdF F a = .lst (l.map .str)) (h2 : rdF F b = .lst (m.map .str)) (v1 : ∀ x ∈ l, VS x) (v2 : ∀ x ∈ m, VS x) (h : Q (decide (l = m))) : eqS a b F Q := by
  have ok : ∀ (l : List Str), (∀ x ∈ l, VS x) → okD 60 (.lst (l.map .str)) = true := fun l v => by
    simp only [okD]
    rw [List.all_map, List.all_eq_true]
    intro x hx
    show okD 59 (.str x) = true
    have := v x hx
    unfold VS at this
    simpa [okD] using this
  refine ⟨by rw [h1]; exact ok l v1, by rw [h2]; exact ok m v2, ?_⟩
  rw [h1, h2, toPD_lst, toPD_lst]
  have e : PyData.eqv (.list ((l.map Val.str).map toPD)) (.list ((m.map Val.str).map toPD)) = decide (l = m) := by
    simp only [PyData.eqv]
    exact eqvAll_strs l m
  rw [e]
  exact h
def Ext (F F' : MH) : Prop := ∀ a c, F a = some c → F' a = some c
theorem Ext.new {F F' : MH} {p : Addr} {c : Cell} (e : Ext F F') (h : F p = none) : Ext F (mset F' p c) := fun a d q => by
  have : a ≠ p := fun z => by rw [z, h] at q; cases q
  rw [mset_ne this]
  exact e a d q
theorem Ext.none {F F' : MH} (e : Ext F F') {p : Addr} (h : F' p = Option.none) : F p = Option.none := by
  cases q : F p with
  | none => rfl
  | some c => rw [e p c q] at h; cases h
theorem nodup_len : ∀ {l m : List Str}, l.Nodup → (∀ x ∈ l, x ∈ m) → l.length ≤ m.length
  | [], _, _, _ => Nat.zero_le _
  | a :: l, m, nd, h => by
    rw [List.nodup_cons] at nd
    have ha := h a List.mem_cons_self
    have := nodup_len (m := m.erase a) nd.2 fun x hx => (List.mem_erase_of_ne (fun z => nd.1 (by rw [← z]; exact hx))).mpr (h x (List.mem_cons_of_mem _ hx))
    rw [List.length_erase_of_mem ha] at this
    have hp : 0 < m.length := List.length_pos_of_mem ha
    rw [List.length_cons]
    omega
theorem map_inj {α β : Type} {f : α → β} : ∀ {l : List α}, (l.map f).Nodup → ∀ {x y : α}, x ∈ l → y ∈ l → f x = f y → x = y
  | [], _, _, _, h, _, _ => nomatch h
  | a :: l, nd, x, y, hx, hy, e => by
    rw [List.map_cons, List.nodup_cons] at nd
    rcases List.mem_cons.mp hx with h1 | h1
    · rcases List.mem_cons.mp hy with h2 | h2
      · rw [h1, h2]
      · exact absurd (List.mem_map.mpr ⟨y, h2, by rw [← e, h1]⟩) nd.1
    · rcases List.mem_cons.mp hy with h2 | h2
      · exact absurd (List.mem_map.mpr ⟨x, h1, by rw [e, h2]⟩) nd.1
      · exact map_inj nd.2 h1 h2 e
theorem hput_nodup {l : Held} {k : Str} {v : Int × Int} (h : (l.map (·.1)).Nodup) : ((hput l k v).map (·.1)).Nodup := by
  rw [hput_keys]
  split
  · exact h
  · rename_i hk
    rw [List.nodup_append]
    exact ⟨h, by simp, fun a ha b hb e => hk (by rw [← List.mem_singleton.mp hb, ← e]; exact ha)⟩
theorem hput_mem {l : Held} {k z : Str} {v : Int × Int} (h : z ∈ (hput l k v).map (·.1)) : z ∈ l.map (·.1) ∨ z = k := by
  rw [hput_keys] at h
  split at h
  · exact .inl h
  · rcases List.mem_append.mp h with q | q
    · exact .inl q
    · exact .inr (List.mem_singleton.mp q)
theorem sort_keys {m : Bool} {a : Addr} {kvs : List (Str × Val)} {F : MH} {Q : Q1} (e : F a = some (.dict kvs)) (hl : kvs.length < 64) (q : newLs m ((sortS (kvs.map (·.1))).map .str) F Q) : sortedF m (.ref a) F Q := by
  unfold sortedF
  simp only [lsOf, e, dcOf]
  exact ⟨hl, q⟩
theorem ix_dc {m : Addr} {kvs : List (Str × Val)} {k : Str} {v : Val} {F : MH} {Q : Q1} (e : dcOf F m = some kvs) (h : kget kvs k = some v) (q : Q v F) : ixS (.ref m) (.str k) F Q := by
  simp only [ixS, e, h]; exact q
theorem dc_of {F : MH} {m : Addr} {kvs : List (Str × Val)} (e : F m = some (.dict kvs)) : dcOf F m = some kvs := by simp only [dcOf, e]
theorem bm_dpop {F : MH} {p : Addr} {kvs : List (Str × Val)} {k : Str} {y : Val} {Q : Q1} (e : F p = some (.dict kvs)) (h : kget kvs k = some y) (q : Q y (mset F p (.dict (kdrop kvs k)))) : bmS .dpop (.ref p) [.str k] F Q := by
  simp only [bmS, e, h]; exact q
theorem bm_get {F : MH} {p : Addr} {kvs : List (Str × Val)} {k : Str} {d : Val} {Q : Q1} (e : dcOf F p = some kvs) (q : Q ((kget kvs k).getD d) F) : bmS .get (.ref p) [.str k, d] F Q := by
  simp only [bmS, e]; exact q
theorem set_d {F : MH} {p : Addr} {kvs : List (Str × Val)} {k : Str} {v : Val} {Q : MH → Prop} (e : F p = some (.dict kvs)) (hl : kvs.length < sizeLine) (q : Q (mset F p (.dict (kput kvs k v)))) : setS (.ref p) (.str k) v F Q := by
  simp only [setS, e]; exact ⟨hl, q⟩
theorem cut_take {α : Type} (xs : List α) {k : Nat} (h : k ≤ xs.length) : cut xs none (some (k : Int)) = xs.take k := by
  unfold cut
  rw [HT.sIx_none, HT.sIx_nat, Nat.min_eq_left h]
  simp
/-! ### fractions as numbers -/
def rt (p : Int × Int) : Rat := (p.1 : Rat) / (p.2 : Rat)
theorem cast_pos {x : Int} (h : 0 < x) : (0 : Rat) < (x : Rat) := by exact_mod_cast h
theorem rt_low {t b : Int} (hb : 0 < b) : rt (low t b) = (t : Rat) / (b : Rat) := by
  obtain ⟨g, hg, e1, e2⟩ := low_eq (t := t) hb
  generalize hq : low t b = q at *
  have hy : 0 < q.2 := Int.pos_of_mul_pos_left (by rw [← e2]; exact hb) hg
  have h1 := cast_pos hg
  have h2 := cast_pos hy
  have e3 : (t : Rat) = (q.1 : Rat) * (g : Rat) := by rw [e1, Rat.intCast_mul]
  have e4 : (b : Rat) = (q.2 : Rat) * (g : Rat) := by rw [e2, Rat.intCast_mul]
  unfold rt
  rw [e3, e4]
  grind
theorem rt_more {p q : Int × Int} (h1 : 0 < p.2) (h2 : 0 < q.2) : rt (more p q) = rt p + rt q := by
  unfold more
  rw [rt_low (Int.mul_pos h1 h2)]
  have c1 := cast_pos h1
  have c2 := cast_pos h2
  rw [Rat.intCast_add, Rat.intCast_mul, Rat.intCast_mul, Rat.intCast_mul]
  unfold rt
  grind
theorem rt_lt {p q : Int × Int} (h1 : 0 < p.2) (h2 : 0 < q.2) : p.1 * q.2 < q.1 * p.2 ↔ rt p < rt q := by
  have c1 := cast_pos h1
  have c2 := cast_pos h2
  have e : p.1 * q.2 < q.1 * p.2 ↔ (p.1 : Rat) * (q.2 : Rat) < (q.1 : Rat) * (p.2 : Rat) := by
    rw [← Rat.intCast_mul, ← Rat.intCast_mul]
    exact Rat.intCast_lt_intCast.symm
  rw [e]
  unfold rt
  rw [Rat.div_lt_iff c1]
  have : (q.1 : Rat) / (q.2 : Rat) * (p.2 : Rat) = (q.1 : Rat) * (p.2 : Rat) / (q.2 : Rat) := by grind
  rw [this, Rat.lt_div_iff c2]
theorem rt_zero : rt (0, 1) = 0 := by
  unfold rt
  simp [Rat.div_def]
theorem rt_less {p q : Int × Int} (h1 : 0 < p.2) (h2 : 0 < q.2) : rt (less p q) = rt p - rt q := by
  unfold less
  rw [rt_low (Int.mul_pos h1 h2)]
  have c1 := cast_pos h1
  have c2 := cast_pos h2
  rw [Rat.intCast_sub, Rat.intCast_mul, Rat.intCast_mul, Rat.intCast_mul]
  unfold rt
  grind
theorem rt_one : rt (1, 1) = 1 := by
  unfold rt
  show (1 : Rat) / 1 = 1
  grind
theorem coprime_dvd {a b c : Int} (h : a ∣ b * c) (g : Int.gcd b a = 1) : a ∣ c := by
  rw [← Int.natAbs_dvd_natAbs, Int.natAbs_mul] at h
  rw [← Int.natAbs_dvd_natAbs]
  refine Nat.Coprime.dvd_of_dvd_mul_left (m := b.natAbs) ?_ h
  rw [Nat.coprime_comm]
  exact g
theorem low_coprime {t b : Int} (hb : 0 < b) : Int.gcd (low t b).1 (low t b).2 = 1 := Int.gcd_ediv_gcd_ediv_gcd (Int.gcd_pos_of_ne_zero_right t (by omega))
theorem low_dvd {t b k L : Int} (hb : 0 < b) (h : t * L = k * b) : (low t b).2 ∣ L := by
  obtain ⟨g, hg, e1, e2⟩ := low_eq (t := t) hb
  have hc : Int.gcd (low t b).1 (low t b).2 = 1 := Int.gcd_ediv_gcd_ediv_gcd (Int.gcd_pos_of_ne_zero_right t (by omega))
  generalize low t b = q at *
  refine coprime_dvd (b := q.1) ⟨k, ?_⟩ hc
  have : (q.1 * L) * g = (q.2 * k) * g := by
    have e3 : t * L = q.1 * L * g := by rw [e1]; grind
    have e4 : k * b = q.2 * k * g := by rw [e2]; grind
    rw [← e3, ← e4, h]
  exact Int.eq_of_mul_eq_mul_right (by omega) this
theorem more_dvd {p q : Int × Int} {L : Int} (h1 : 0 < p.2) (h2 : 0 < q.2) (d1 : p.2 ∣ L) (d2 : q.2 ∣ L) : (more p q).2 ∣ L := by
  obtain ⟨x, rfl⟩ := d1
  obtain ⟨y, hy⟩ := d2
  refine low_dvd (k := p.1 * x + q.1 * y) (Int.mul_pos h1 h2) ?_
  rw [Int.add_mul, Int.add_mul]
  have e1 : p.1 * q.2 * (p.2 * x) = p.1 * x * (p.2 * q.2) := by grind
  have e2 : q.1 * p.2 * (p.2 * x) = q.1 * y * (p.2 * q.2) := by rw [hy]; grind
  rw [e1, e2]
theorem less_dvd {p q : Int × Int} {L : Int} (h1 : 0 < p.2) (h2 : 0 < q.2) (d1 : p.2 ∣ L) (d2 : q.2 ∣ L) : (less p q).2 ∣ L := by
  obtain ⟨x, rfl⟩ := d1
  obtain ⟨y, hy⟩ := d2
  refine low_dvd (k := p.1 * x - q.1 * y) (Int.mul_pos h1 h2) ?_
  rw [Int.sub_mul, Int.sub_mul]
  have e1 : p.1 * q.2 * (p.2 * x) = p.1 * x * (p.2 * q.2) := by grind
  have e2 : q.1 * p.2 * (p.2 * x) = q.1 * y * (p.2 * q.2) := by rw [hy]; grind
  rw [e1, e2]
/-- all that is held -/
def sumT (l : Held) : Rat := (l.map fun x => rt x.2).sum
theorem sumT_cons (a : Str × (Int × Int)) (l : Held) : sumT (a :: l) = rt a.2 + sumT l := by
  unfold sumT
  rw [List.map_cons, List.sum_cons]
theorem sumT_put : ∀ {l : Held} {k : Str} {w : Int × Int}, (l.map (·.1)).Nodup → sumT (hput l k w) = sumT l - rt ((hget l k).getD (0, 1)) + rt w
  | [], k, w, _ => by
    show sumT [(k, w)] = sumT [] - rt (0, 1) + rt w
    rw [sumT_cons, rt_zero]
    grind
  | a :: l, k, w, nd => by
    rw [List.map_cons, List.nodup_cons] at nd
    have ih := sumT_put (k := k) (w := w) nd.2
    by_cases ha : a.1 = k
    · have e1 : hput (a :: l) k w = (a.1, w) :: l := by
        unfold hput
        rw [if_pos (by simp [ha]), List.map_cons, if_pos ha]
        congr 1
        rw [List.map_congr_left (g := id)]
        · simp
        · intro x hx
          have : x.1 ≠ k := fun z => nd.1 (List.mem_map.mpr ⟨x, hx, by rw [z, ha]⟩)
          simp [this]
      have e2 : hget (a :: l) k = some a.2 := by
        unfold hget
        rw [List.find?_cons_of_pos (by simp [ha])]
        rfl
      rw [e1, e2, sumT_cons, sumT_cons]
      simp only [Option.getD_some]
      grind
    · have e2 : hget (a :: l) k = hget l k := by
        unfold hget
        rw [List.find?_cons_of_neg (by simp [ha])]
      have e1 : hput (a :: l) k w = a :: hput l k w := by
        unfold hput
        have e3 : ((a :: l).any fun x => decide (x.1 = k)) = l.any fun x => decide (x.1 = k) := by
          rw [List.any_cons]; simp [ha]
        rw [e3]
        split
        · rw [List.map_cons, if_neg ha]
        · rfl
      rw [e1, e2, sumT_cons, sumT_cons, ih]
      grind
/-! ### houses, as told -/
structure Hb where
  nm : Str
  e : Addr
  h : Addr
  nums : Val
  held : Held
  g : Addr
def entB (hs : List Hb) : List (Str × Val) := hs.map fun x => (x.nm, .ref x.e)
def modB (hs : List Hb) : List (Str × Val) := hs.map fun x => (x.nm, .ref x.g)
theorem entB_keys (hs : List Hb) : (entB hs).map (·.1) = hs.map (·.nm) := by unfold entB; rw [List.map_map]; rfl
theorem modB_keys (hs : List Hb) : (modB hs).map (·.1) = hs.map (·.nm) := by unfold modB; rw [List.map_map]; rfl
theorem entB_len (hs : List Hb) : (entB hs).length = hs.length := by unfold entB; rw [List.length_map]
theorem modB_len (hs : List Hb) : (modB hs).length = hs.length := by unfold modB; rw [List.length_map]
theorem mem_hb {hs : List Hb} {y : Str} (h : y ∈ hs.map (·.nm)) : ∃ x ∈ hs, x.nm = y := by
  obtain ⟨x, hx, e⟩ := List.mem_map.mp h
  exact ⟨x, hx, e⟩
/-- what is held of a house, so many sales behind it -/
structure RecB (un : List Str) (i : Nat) (held : Held) : Prop where
  hn : (held.map (·.1)).Nodup
  hu : ∀ z ∈ held.map (·.1), z ∈ un
  fr : ∀ z v, hget held z = some v → Fr (2 * i) v
  pos : ∃ z v, hget held z = some v ∧ 0 < v.1
  len : held.length ≤ i + 1
  tot : sumT held = 1
  dv : ∃ L : Int, 0 < L ∧ L ≤ (10 ^ 29) ^ i ∧ ∀ z v, hget held z = some v → v.2 ∣ L
  lw : ∀ z v, hget held z = some v → Int.gcd v.1 v.2 = 1
theorem RecB.mono {un : List Str} {i j : Nat} {held : Held} (h : RecB un i held) (hij : i ≤ j) : RecB un j held := { h with fr := fun z v e => (h.fr z v e).mono (by omega), len := (by have := h.len; omega), dv := (by
  obtain ⟨L, h0, h1, h2⟩ := h.dv
  refine ⟨L, h0, Int.le_trans h1 ?_, h2⟩
  obtain ⟨k, rfl⟩ := Nat.exists_eq_add_of_le hij
  rw [Int.pow_add]
  have e1 := den_pos i
  have e2 := den_pos k
  have e3 : ((10 : Int) ^ 29) ^ i * 1 ≤ (10 ^ 29) ^ i * (10 ^ 29) ^ k := Int.mul_le_mul_of_nonneg_left (by omega) (Int.le_of_lt e1)
  omega) }
theorem RecB.new {un : List Str} {i : Nat} {o : Str} (ho : o ∈ un) : RecB un i [(o, (1, 1))] := by
  have hg : ∀ z, hget [(o, ((1 : Int), (1 : Int)))] z = if o = z then some (1, 1) else none := fun z => by
    unfold hget
    by_cases h : o = z <;> simp [h]
  refine ⟨by simp, fun z hz => ?_, fun z v e => ?_, ⟨o, (1, 1), by rw [hg, if_pos rfl], by decide⟩, by simp, by rw [sumT_cons, rt_one]; unfold sumT; rw [List.map_nil, List.sum_nil]; grind, ⟨1, by decide, Int.add_one_le_of_lt (den_pos i), fun z v e => ?_⟩, fun z v e => ?_⟩
  · have : z = o := by simpa using hz
    rw [this]; exact ho
  · rw [hg] at e
    split at e
    · cases e; exact Fr.one.mono (Nat.zero_le _)
    · cases e
  · rw [hg] at e
    split at e
    · cases e; exact Int.dvd_refl 1
    · cases e
  · rw [hg] at e
    split at e
    · cases e; rfl
    · cases e
theorem RecB.frD {un : List Str} {i : Nat} {held : Held} (h : RecB un i held) (z : Str) : Fr (2 * i) ((hget held z).getD (0, 1)) := by
  cases e : hget held z with
  | none => exact Fr.zero.mono (Nat.zero_le _)
  | some v => exact h.fr z v e
theorem RecB.frD1 {un : List Str} {i : Nat} {held : Held} (h : RecB un i held) {one : Str} {p : Int × Int} (pt : Pt ((hget held one).getD (0, 1)) p) (hd : p.2 < 10 ^ 29) (z : Str) : Fr (2 * i + 1) ((hget (hput held one (less ((hget held one).getD (0, 1)) p)) z).getD (0, 1)) := by
  rw [hget_put]
  by_cases hz : z = one
  · rw [if_pos hz]
    exact (h.frD one).less pt hd
  · rw [if_neg hz]
    exact (h.frD z).up
theorem hput_len_old {l : Held} {k : Str} {v : Int × Int} (h : k ∈ l.map (·.1)) : (hput l k v).length = l.length := by
  have := congrArg List.length (hput_keys l k v)
  rw [if_pos h, List.length_map, List.length_map] at this
  exact this
theorem RecB.sold {un : List Str} {i : Nat} {held : Held} (h : RecB un i held) {one other : Str} {v p : Int × Int} (hv1 : hget held one = some v) (pt : Pt v p) (hd : p.2 < 10 ^ 29) (ho : one ∈ un) (ho2 : other ∈ un) : RecB un (i + 1) (soldH held one other p) := by
  have hD : (hget held one).getD (0, 1) = v := by rw [hv1]; rfl
  have f1 := h.frD1 (one := one) (p := p) (by rw [hD]; exact pt) hd
  rw [hD] at f1
  have fv := h.fr one v hv1
  obtain ⟨m1, m2⟩ := fv.more pt hd (f1 other) (Nat.le_succ _)
  have hm : one ∈ held.map (·.1) := by
    by_cases q : one ∈ held.map (·.1)
    · exact q
    · rw [hget_none.mpr q] at hv1; cases hv1
  have l1 : (hput held one (less v p)).length = held.length := hput_len_old hm
  have t1 := sumT_put (k := one) (w := less v p) h.hn
  rw [hD, h.tot, rt_less fv.pos pt.dpos] at t1
  unfold soldH
  simp only [hD]
  have hk1 : ∀ z ∈ (hput held one (less v p)).map (·.1), z ∈ un := fun z hz => by
    rcases hput_mem hz with q | q
    · exact h.hu z q
    · rw [q]; exact ho
  have hn1 : ((hput held one (less v p)).map (·.1)).Nodup := hput_nodup h.hn
  have t2 := sumT_put (k := other) (w := more ((hget (hput held one (less v p)) other).getD (0, 1)) p) hn1
  rw [rt_more (f1 other).pos pt.dpos] at t2
  obtain ⟨L, h0, hL, hd2⟩ := h.dv
  have hdv1 : ∀ z, ((hget (hput held one (less v p)) z).getD (0, 1)).2 ∣ L * p.2 := fun z => by
    rw [hget_put]
    by_cases hz : z = one
    · rw [if_pos hz]
      exact less_dvd fv.pos pt.dpos (Int.dvd_mul_of_dvd_left (hd2 one v hv1)) (Int.dvd_mul_left _ _)
    · rw [if_neg hz]
      cases e : hget held z with
      | none => exact Int.one_dvd _
      | some w => exact Int.dvd_mul_of_dvd_left (hd2 z w e)
  have ho1d := hdv1 other
  have hlw1 : ∀ z w, hget (hput held one (less v p)) z = some w → Int.gcd w.1 w.2 = 1 := fun z w e => by
    rw [hget_put] at e
    by_cases hz : z = one
    · rw [if_pos hz] at e
      cases e
      exact low_coprime (Int.mul_pos fv.pos pt.dpos)
    · rw [if_neg hz] at e
      exact h.lw z w e
  have ho1 := (f1 other).pos
  generalize (hget (hput held one (less v p)) other).getD (0, 1) = o1 at *
  generalize hput held one (less v p) = held1 at *
  refine ⟨hput_nodup hn1, fun z hz => ?_, fun z w e => ?_, ⟨other, more o1 p, by rw [hget_put, if_pos rfl], m2⟩, ?_, by rw [t2, t1]; grind, ?_, fun z w e => ?_⟩
  · rcases hput_mem hz with q | q
    · exact hk1 z q
    · rw [q]; exact ho2
  · rw [hget_put] at e
    by_cases hz : z = other
    · rw [if_pos hz] at e
      cases e
      exact m1
    · rw [if_neg hz] at e
      have := f1 z
      rw [e] at this
      exact Fr.up this
  · have := hput_len held1 other (more o1 p)
    have := h.len
    omega
  · have hL' : 0 < L * p.2 := Int.mul_pos h0 pt.dpos
    refine ⟨L * p.2, hL', ?_, fun z w e => ?_⟩
    · rw [Int.pow_succ]
      have e1 : L * p.2 ≤ (10 ^ 29) ^ i * p.2 := Int.mul_le_mul_of_nonneg_right hL (Int.le_of_lt pt.dpos)
      have e2 : ((10 : Int) ^ 29) ^ i * p.2 ≤ (10 ^ 29) ^ i * 10 ^ 29 := Int.mul_le_mul_of_nonneg_left (by omega) (Int.le_of_lt (den_pos i))
      omega
    · rw [hget_put] at e
      by_cases hz : z = other
      · rw [if_pos hz] at e
        cases e
        exact more_dvd ho1 pt.dpos ho1d (Int.dvd_mul_left _ _)
      · rw [if_neg hz] at e
        have := hdv1 z
        rw [e] at this
        exact this
  · rw [hget_put] at e
    by_cases hz : z = other
    · rw [if_pos hz] at e
      cases e
      exact low_coprime (Int.mul_pos ho1 pt.dpos)
    · rw [if_neg hz] at e
      exact hlw1 z w e
/-- things, mark, loss -/
def Num3 (v : Val) : Prop := ∃ a b c : Int, v = .tup [.int a, .int b, .int c]
structure Wb (CB CE : Addr) (un : List Str) (F : MH) (p b pl en m : Addr) (ps : List Str) (hs : List Hb) : Prop where
  c : BkC CB F b pl en ps (entB hs)
  ent : ∀ x ∈ hs, EnC CE F x.e x.h x.nums x.held
  md : F m = some (.dict (modB hs))
  sh : ∀ x ∈ hs, F x.g = some (.dict (hv x.held))
  pur : Pur F p
  nd : (hs.map (·.nm)).Nodup
  len : hs.length ≤ 8
  rc : ∀ x ∈ hs, RecB un 5 x.held
  ul : un.length ≤ 14
  nu : ∀ x ∈ hs, x.nm ∈ un
  n3 : ∀ x ∈ hs, Num3 x.nums
  ad : (en :: m :: (hs.map (·.h) ++ hs.map (·.g))).Nodup
section
variable {CB CE : Addr} {un : List Str} {F F' : MH} {p b pl en m : Addr} {ps : List Str} {hs : List Hb}
theorem Wb.draw (w : Wb CB CE un F p b pl en m ps hs) (h1 : Pur F' p) (h2 : Keep p F F') : Wb CB CE un F' p b pl en m ps hs := by
  obtain ⟨i, j, hp⟩ := w.pur
  have k : ∀ {a c}, F a = some c → c ≠ .lst [.int i, .int j] → F' a = some c := fun {a c} e hc => h2 a c (fun z => hc (by rw [z, hp] at e; cases e; rfl)) e
  have ci : ∀ C fs, Cell.inst C fs ≠ .lst [.int i, .int j] := fun C fs z => nomatch z
  have cd : ∀ kvs, Cell.dict kvs ≠ .lst [.int i, .int j] := fun kvs z => nomatch z
  refine { w with c := ⟨k w.c.b (ci _ _), k w.c.pl (fun z => ?_), k w.c.en (cd _)⟩, ent := fun x hx => ⟨k (w.ent x hx).e (ci _ _), k (w.ent x hx).h (cd _)⟩, md := k w.md (cd _), sh := fun x hx => k (w.sh x hx) (cd _), pur := h1 }
  cases ps with
  | nil => cases z
  | cons a l => cases z
/-- a house's shares changed -/
def chgB (k : Str) (held : Held) (y : Hb) : Hb := if y.nm = k then { y with held := held } else y
theorem chgB_nm (k : Str) (held : Held) (y : Hb) : (chgB k held y).nm = y.nm := by unfold chgB; split <;> rfl
theorem chgB_e (k : Str) (held : Held) (y : Hb) : (chgB k held y).e = y.e := by unfold chgB; split <;> rfl
theorem chgB_h (k : Str) (held : Held) (y : Hb) : (chgB k held y).h = y.h := by unfold chgB; split <;> rfl
theorem chgB_g (k : Str) (held : Held) (y : Hb) : (chgB k held y).g = y.g := by unfold chgB; split <;> rfl
theorem chgB_nums (k : Str) (held : Held) (y : Hb) : (chgB k held y).nums = y.nums := by unfold chgB; split <;> rfl
theorem chgB_map {α : Type} (k : Str) (held : Held) (f : Hb → α) (h : ∀ y, f (chgB k held y) = f y) (hs : List Hb) : (hs.map (chgB k held)).map f = hs.map f := by
  rw [List.map_map]
  apply List.map_congr_left
  intro y _
  exact h y
theorem Wb.sold (w : Wb CB CE un F p b pl en m ps hs) {x : Hb} (hx : x ∈ hs) {held : Held} (hr : RecB un 5 held) :
    Wb CB CE un (mset (mset F x.h (.dict (hv held))) x.g (.dict (hv held))) p b pl en m ps (hs.map (chgB x.nm held)) := by
  have ad := w.ad
  rw [List.nodup_cons, List.nodup_cons, List.nodup_append] at ad
  obtain ⟨a1, a2, a3, a4, a5⟩ := ad
  have hmem : ∀ {y}, y ∈ hs → y.h ∈ hs.map (·.h) := fun hy => List.mem_map.mpr ⟨_, hy, rfl⟩
  have gmem : ∀ {y}, y ∈ hs → y.g ∈ hs.map (·.g) := fun hy => List.mem_map.mpr ⟨_, hy, rfl⟩
  have hg : x.h ≠ x.g := a5 _ (hmem hx) _ (gmem hx)
  have k : ∀ {a c}, F a = some c → a ≠ x.h → a ≠ x.g → mset (mset F x.h (.dict (hv held))) x.g (.dict (hv held)) a = some c := fun {a c} e h1 h2 => by rw [mset_ne h2, mset_ne h1]; exact e
  have ki : ∀ {a C fs}, F a = some (.inst C fs) → mset (mset F x.h (.dict (hv held))) x.g (.dict (hv held)) a = some (.inst C fs) := fun {a C fs} e =>
    k e (fun z => by rw [z, (w.ent x hx).h] at e; cases e) (fun z => by rw [z, w.sh x hx] at e; cases e)
  have kl : ∀ {a vs}, F a = some (.lst vs) → mset (mset F x.h (.dict (hv held))) x.g (.dict (hv held)) a = some (.lst vs) := fun {a vs} e =>
    k e (fun z => by rw [z, (w.ent x hx).h] at e; cases e) (fun z => by rw [z, w.sh x hx] at e; cases e)
  have en1 : en ≠ x.h := fun z => a1 (List.mem_cons_of_mem _ (List.mem_append_left _ (by rw [z]; exact hmem hx)))
  have en2 : en ≠ x.g := fun z => a1 (List.mem_cons_of_mem _ (List.mem_append_right _ (by rw [z]; exact gmem hx)))
  have m1 : m ≠ x.h := fun z => a2 (List.mem_append_left _ (by rw [z]; exact hmem hx))
  have m2 : m ≠ x.g := fun z => a2 (List.mem_append_right _ (by rw [z]; exact gmem hx))
  have eD : entB (hs.map (chgB x.nm held)) = entB hs := by
    unfold entB
    exact chgB_map _ _ (fun y : Hb => (y.nm, Val.ref y.e)) (fun y => by rw [chgB_nm, chgB_e]) hs
  have mD : modB (hs.map (chgB x.nm held)) = modB hs := by
    unfold modB
    exact chgB_map _ _ (fun y : Hb => (y.nm, Val.ref y.g)) (fun y => by rw [chgB_nm, chgB_g]) hs
  obtain ⟨i, j, hp⟩ := w.pur
  refine ⟨?_, fun y hy => ?_, ?_, fun y hy => ?_, ⟨i, j, kl hp⟩, ?_, by rw [List.length_map]; exact w.len, fun y hy => ?_, w.ul, fun y hy => ?_, fun y hy => ?_, ?_⟩
  · rw [eD]
    exact ⟨ki w.c.b, kl w.c.pl, k w.c.en en1 en2⟩
  · obtain ⟨z, hz, rfl⟩ := List.mem_map.mp hy
    refine ⟨?_, ?_⟩
    · rw [chgB_e, chgB_h, chgB_nums]
      exact ki (w.ent z hz).e
    · rw [chgB_h]
      by_cases e : z.nm = x.nm
      · have e2 := map_inj w.nd hz hx e
        subst e2
        unfold chgB
        rw [if_pos rfl, mset_ne hg, mset_same]
      · unfold chgB
        rw [if_neg e]
        refine k (w.ent z hz).h (fun q => e (by rw [map_inj a3 hz hx q])) (a5 _ (hmem hz) _ (gmem hx))
  · rw [mD]
    exact k w.md m1 m2
  · obtain ⟨z, hz, rfl⟩ := List.mem_map.mp hy
    rw [chgB_g]
    by_cases e : z.nm = x.nm
    · have e2 := map_inj w.nd hz hx e
      subst e2
      unfold chgB
      rw [if_pos rfl, mset_same]
    · unfold chgB
      rw [if_neg e]
      exact k (w.sh z hz) (fun q => a5 _ (hmem hx) _ (gmem hz) q.symm) (fun q => e (by rw [map_inj a4 hz hx q]))
  · rw [chgB_map _ _ (·.nm) (chgB_nm _ _)]
    exact w.nd
  · obtain ⟨z, hz, rfl⟩ := List.mem_map.mp hy
    unfold chgB
    split
    · exact hr
    · exact w.rc z hz
  · obtain ⟨z, hz, rfl⟩ := List.mem_map.mp hy
    rw [chgB_nm]
    exact w.nu z hz
  · obtain ⟨z, hz, rfl⟩ := List.mem_map.mp hy
    rw [chgB_nums]
    exact w.n3 z hz
  · rw [chgB_map _ _ (·.h) (chgB_h _ _), chgB_map _ _ (·.g) (chgB_g _ _)]
    exact w.ad
theorem pl_neB (w : Wb CB CE un F p b pl en m ps hs) : p ≠ pl := fun z => by
  obtain ⟨i, j, hp⟩ := w.pur
  have := w.c.pl
  rw [← z, hp] at this
  cases ps with
  | nil => cases this
  | cons a l => cases this
theorem Wb.person (w : Wb CB CE un F p b pl en m ps hs) (x : Str) : Wb CB CE un (mset F pl (.lst ((ps ++ [x]).map .str))) p b pl en m (ps ++ [x]) hs := by
  have hpl := w.c.pl
  have ki : ∀ {a c}, F a = some c → (∀ vs, c ≠ .lst vs) → mset F pl (.lst ((ps ++ [x]).map .str)) a = some c := fun {a c} e h => by
    rw [mset_ne (fun z => by rw [z, hpl] at e; cases e; exact h _ rfl)]
    exact e
  obtain ⟨i, j, hp⟩ := w.pur
  refine { w with c := ⟨ki w.c.b (fun _ z => nomatch z), mset_same, ki w.c.en (fun _ z => nomatch z)⟩, ent := fun y hy => ⟨ki (w.ent y hy).e (fun _ z => nomatch z), ki (w.ent y hy).h (fun _ z => nomatch z)⟩, md := ki w.md (fun _ z => nomatch z), sh := fun y hy => ki (w.sh y hy) (fun _ z => nomatch z), pur := ⟨i, j, ?_⟩ }
  rw [mset_ne (pl_neB w)]
  exact hp
theorem Wb.house (w : Wb CB CE un F p b pl en m ps hs) {x o : Str} {h e g : Addr} {nums : Val} (hx : x ∉ hs.map (·.nm)) (hxu : x ∈ un) (ho : o ∈ un) (hl : hs.length < 8) (hn3 : Num3 nums) (h1 : F h = none) (h2 : F e = none) (h3 : e ≠ h)
    (h4 : mset (mset (mset F h (.dict (hv [(o, (1, 1))]))) e (.inst CE (entFs nums h))) en (.dict (entB hs ++ [(x, .ref e)])) g = none) :
    Wb CB CE un (mset (mset (mset (mset (mset F h (.dict (hv [(o, (1, 1))]))) e (.inst CE (entFs nums h))) en (.dict (entB hs ++ [(x, .ref e)]))) g (.dict (hv [(o, (1, 1))]))) m (.dict (modB hs ++ [(x, .ref g)]))) p b pl en m ps
      (hs ++ [⟨x, e, h, nums, [(o, (1, 1))], g⟩]) := by
  have ge : g ≠ en := fun z => by rw [z, mset_same] at h4; cases h4
  rw [mset_ne ge] at h4
  have gee : g ≠ e := fun z => by rw [z, mset_same] at h4; cases h4
  rw [mset_ne gee] at h4
  have gh : g ≠ h := fun z => by rw [z, mset_same] at h4; cases h4
  rw [mset_ne gh] at h4
  have ne_of : ∀ {a c z}, F a = some c → F z = none → a ≠ z := fun {a c z} q r e => by rw [e, r] at q; cases q
  have ad := w.ad
  have enm : en ≠ m := fun z => by rw [List.nodup_cons] at ad; exact ad.1 (by rw [z]; exact List.mem_cons_self)
  have k : ∀ {a c}, F a = some c → a ≠ en → a ≠ m → mset (mset (mset (mset (mset F h (.dict (hv [(o, (1, 1))]))) e (.inst CE (entFs nums h))) en (.dict (entB hs ++ [(x, .ref e)]))) g (.dict (hv [(o, (1, 1))]))) m (.dict (modB hs ++ [(x, .ref g)])) a = some c := fun {a c} q n1 n2 => by
    rw [mset_ne n2, mset_ne (ne_of q h4), mset_ne n1, mset_ne (ne_of q h2), mset_ne (ne_of q h1)]
    exact q
  have ki : ∀ {a C fs}, F a = some (.inst C fs) → a ≠ en ∧ a ≠ m := fun {a C fs} q => ⟨fun z => (by rw [z, w.c.en] at q; cases q), fun z => (by rw [z, w.md] at q; cases q)⟩
  have kl : ∀ {a vs}, F a = some (.lst vs) → a ≠ en ∧ a ≠ m := fun {a vs} q => ⟨fun z => (by rw [z, w.c.en] at q; cases q), fun z => (by rw [z, w.md] at q; cases q)⟩
  have ad2 := ad
  rw [List.nodup_cons, List.nodup_cons, List.nodup_append] at ad2
  obtain ⟨d1, d2, d3, d4, d5⟩ := ad2
  have hen : ∀ y ∈ hs, y.h ≠ en ∧ y.h ≠ m ∧ y.g ≠ en ∧ y.g ≠ m := fun y hy => by
    have m1 : y.h ∈ hs.map (·.h) := List.mem_map.mpr ⟨y, hy, rfl⟩
    have m2 : y.g ∈ hs.map (·.g) := List.mem_map.mpr ⟨y, hy, rfl⟩
    exact ⟨fun z => d1 (by rw [← z]; exact List.mem_cons_of_mem _ (List.mem_append_left _ m1)), fun z => d2 (by rw [← z]; exact List.mem_append_left _ m1), fun z => d1 (by rw [← z]; exact List.mem_cons_of_mem _ (List.mem_append_right _ m2)), fun z => d2 (by rw [← z]; exact List.mem_append_right _ m2)⟩
  have he : en ≠ h := ne_of w.c.en h1
  have hm : m ≠ h := ne_of w.md h1
  have ee : en ≠ e := ne_of w.c.en h2
  have em : m ≠ e := ne_of w.md h2
  have gm : m ≠ g := ne_of w.md h4
  obtain ⟨i, j, hp⟩ := w.pur
  refine ⟨⟨k w.c.b (ki w.c.b).1 (ki w.c.b).2, k w.c.pl (kl w.c.pl).1 (kl w.c.pl).2, ?_⟩, fun y hy => ?_, ?_, fun y hy => ?_, ⟨i, j, k hp (kl hp).1 (kl hp).2⟩, ?_, by rw [List.length_append]; simp only [List.length_cons, List.length_nil]; omega, fun y hy => ?_, w.ul, fun y hy => ?_, fun y hy => ?_, ?_⟩
  · rw [mset_ne enm, mset_ne (Ne.symm ge), mset_same]
    unfold entB
    rw [List.map_append]
    rfl
  · rcases List.mem_append.mp hy with q | q
    · obtain ⟨n1, n2, _, _⟩ := hen y q
      exact ⟨k (w.ent y q).e (ki (w.ent y q).e).1 (ki (w.ent y q).e).2, k (w.ent y q).h n1 n2⟩
    · rw [List.mem_singleton.mp q]
      refine ⟨?_, ?_⟩
      · show mset _ m _ e = _
        rw [mset_ne (Ne.symm em), mset_ne (Ne.symm gee), mset_ne (Ne.symm ee), mset_same]
      · show mset _ m _ h = _
        rw [mset_ne (Ne.symm hm), mset_ne (Ne.symm gh), mset_ne (Ne.symm he), mset_ne (Ne.symm h3), mset_same]
  · rw [mset_same]
    unfold modB
    rw [List.map_append]
    rfl
  · rcases List.mem_append.mp hy with q | q
    · obtain ⟨_, _, n1, n2⟩ := hen y q
      exact k (w.sh y q) n1 n2
    · rw [List.mem_singleton.mp q]
      show mset _ m _ g = _
      rw [mset_ne (Ne.symm gm), mset_same]
  · rw [List.map_append, List.nodup_append]
    refine ⟨w.nd, by simp, fun a ha c hc z => hx ?_⟩
    have : c = x := by simpa using hc
    rw [← this, ← z]
    exact ha
  · rcases List.mem_append.mp hy with q | q
    · exact w.rc y q
    · rw [List.mem_singleton.mp q]
      exact RecB.new ho
  · rcases List.mem_append.mp hy with q | q
    · exact w.nu y q
    · rw [List.mem_singleton.mp q]
      exact hxu
  · rcases List.mem_append.mp hy with q | q
    · exact w.n3 y q
    · rw [List.mem_singleton.mp q]
      exact hn3
  · rw [List.map_append, List.map_append]
    have nh : ∀ y ∈ hs, y.h ≠ h ∧ y.h ≠ g ∧ y.g ≠ h ∧ y.g ≠ g := fun y hy => ⟨ne_of (w.ent y hy).h h1, ne_of (w.ent y hy).h h4, ne_of (w.sh y hy) h1, ne_of (w.sh y hy) h4⟩
    have eg : en ≠ g := ne_of w.c.en h4
    rw [List.nodup_cons, List.nodup_cons, List.nodup_append, List.nodup_append, List.nodup_append]
    refine ⟨fun q => ?_, fun q => ?_, ⟨d3, by simp, fun a ha c hc z => ?_⟩, ⟨d4, by simp, fun a ha c hc z => ?_⟩, fun a ha c hc z => ?_⟩
    · rcases List.mem_cons.mp q with q | q
      · exact enm q
      · rcases List.mem_append.mp q with q | q
        · rcases List.mem_append.mp q with q | q
          · exact d1 (List.mem_cons_of_mem _ (List.mem_append_left _ q))
          · exact he (by simpa using q)
        · rcases List.mem_append.mp q with q | q
          · exact d1 (List.mem_cons_of_mem _ (List.mem_append_right _ q))
          · exact eg (by simpa using q)
    · rcases List.mem_append.mp q with q | q
      · rcases List.mem_append.mp q with q | q
        · exact d2 (List.mem_append_left _ q)
        · exact hm (by simpa using q)
      · rcases List.mem_append.mp q with q | q
        · exact d2 (List.mem_append_right _ q)
        · exact gm (by simpa using q)
    · obtain ⟨y, hy, rfl⟩ := List.mem_map.mp ha
      have : c = h := by simpa using hc
      exact (nh y hy).1 (z.trans this)
    · obtain ⟨y, hy, rfl⟩ := List.mem_map.mp ha
      have : c = g := by simpa using hc
      exact (nh y hy).2.2.2 (z.trans this)
    · rcases List.mem_append.mp ha with q | q
      · rcases List.mem_append.mp hc with r | r
        · exact d5 a q c r z
        · obtain ⟨y, hy, rfl⟩ := List.mem_map.mp q
          have : c = g := by simpa using r
          exact (nh y hy).2.1 (z.trans this)
      · have e1 : a = h := by simpa using q
        rcases List.mem_append.mp hc with r | r
        · obtain ⟨y, hy, rfl⟩ := List.mem_map.mp r
          exact (nh y hy).2.2.1 (z.symm.trans e1)
        · have e2 : c = g := by simpa using r
          exact gh (e2.symm.trans (z.symm.trans e1))
end
end Bv

/-! A book is built: the def. -/
namespace Bv
open PySem L2 PyProof.Rows
theorem pickB {l : List Str} {p : Addr} {F : MH} {Q : Q1} {E : X1} (hl : l ≠ []) (h60 : l.length ≤ 64) (hp : Pur F p) (h : ∀ z ∈ l, ∀ F', Pur F' p → Keep p F F' → Q (.str z) F') :
    lenS (.lst (l.map .str)) F fun x F1 => spTake [.ref p, x] F1 (fun y F2 => ixS (.lst (l.map .str)) y F2 Q) E := by
  simp only [lenS, lsOf]
  have h0 : 0 < l.length := List.length_pos_iff.mpr hl
  rw [List.length_map]
  refine ⟨p, _, rfl, by omega, .of_small (by omega) (by omega), hp, fun r a b r0 r1 => ?_⟩
  have hlt : r.toNat < l.length := by omega
  refine ix_list rfl r0 (v := .str l[r.toNat]) (by rw [List.getElem?_map, List.getElem?_eq_getElem hlt]; rfl) ?_
  exact h _ (List.getElem_mem _) _ .set .set
theorem len_ls {v : Val} {vs : List Val} {F : MH} {Q : Q1} (e : lsOf F v = some vs) (q : Q (.int vs.length) F) : lenS v F Q := by
  cases v with
  | lst ws => cases e; simp only [lenS, lsOf]; exact q
  | ref p => simp only [lenS, e]; exact q
  | _ => cases e
theorem cut_mid {α : Type} (xs : List α) {a b : Nat} (h : a ≤ b) (hb : b ≤ xs.length) : cut xs (some (a : Int)) (some (b : Int)) = (xs.drop a).take (b - a) := by
  unfold cut
  rw [HT.sIx_nat, HT.sIx_nat, Nat.min_eq_left hb, Nat.min_eq_left (by omega)]
theorem more_neg (v s : Int × Int) : more v (-s.1, s.2) = less v s := by
  unfold more less
  congr 1
  simp only
  grind
theorem sort_strs {m : Bool} {v : Val} {l : List Str} {F : MH} {Q : Q1} (e : lsOf F v = some (l.map .str)) (hl : l.length < 64) (q : newLs m ((sortS l).map .str) F Q) : sortedF m v F Q := by
  unfold sortedF
  simp only [e, asStrs_map]
  exact ⟨hl, q⟩
/-- what a book built is -/
structure Made (CB CE : Addr) (F : MH) (p b pl en m : Addr) (ps : List Str) (hs : List Hb) : Prop where
  w : Wb CB CE (ps ++ hs.map (·.nm)) F p b pl en m ps hs
  hd : Hd (ps ++ hs.map (·.nm))
  nm : ∀ z ∈ ps ++ hs.map (·.nm), Name z
  p1 : 0 < ps.length
  p6 : ps.length ≤ 6
def spBuilt (CB CE : Addr) : Spec := fun vs F Q _ => ∃ p : Addr, vs = [.ref p] ∧ Pur F p ∧
  ∀ (F' : MH) (b pl en m : Addr) (ps : List Str) (hs : List Hb), Made CB CE F' p b pl en m ps hs → Q (.lst [.ref b, .lst ((sortS ps).map .str), .ref m]) F'
end Bv

set_option pp.maxSteps 600
/-! Family A: a cell's purse; is this text a name. -/
namespace Bv
open PySem L2 PyProof.Rows
theorem eqS_str {a b : Str} {F : MH} {Q : Bool → Prop} (h1 : VS a) (h2 : VS b) (h : Q (decide (a = b))) : eqS (.str a) (.str b) F Q := by
  refine ⟨h1, h2, ?_⟩
  have e : PyData.eqv (toPD (rdF F (.str a))) (toPD (rdF F (.str b))) = decide (a = b) := by
    simp only [rdF, toPD, PyData.eqv]
    by_cases q : a = b <;> simp [q]
  rw [e]
  exact h
open TL in
theorem vs_iff {x : Str} : VS x ↔ ∀ c ∈ tl x, c < 0x110000 := by
  unfold VS
  rw [← Array.all_toList, List.all_eq_true]
  constructor
  · intro h c hc
    exact of_decide_eq_true (h c hc)
  · intro h c hc
    exact decide_eq_true (h c hc)
open TL in
theorem vs_of (s : String) : VS (Str.ofString s) := by
  rw [vs_iff, tl_ofString]
  intro c hc
  obtain ⟨d, _, rfl⟩ := List.mem_map.mp hc
  have := d.valid
  unfold UInt32.isValidChar Nat.isValidChar at this
  show d.val.toNat < _
  omega
/-! ### a cell's purse -/
def spCell : Spec := fun vs F Q _ => ∃ c : Int, vs = [.int c] ∧ ∀ p a b, F p = none → Q (.ref p) (mset F p (.lst [.int a, .int b]))
theorem w_l_purse {Γ : Amb} : ∀ vs F Q E, spCell vs F Q E → wpB (fun C fs _ F => E C fs F) (c_l_purse (Γ := Γ)) (start1 n_l_purse vs) F (fun _ F => Q .non F) Q := by
  rintro vs F Q E ⟨c, rfl, h⟩
  unfold c_l_purse
  simp only [wpB, wpS, wpE, wpEs, wpT, wpTs, wpCs, wpP, wpIt, wpBl, bindT, biS, recS, truS, start1, List.map, List.length, List.replicate, List.append_nil, List.nil_append, List.cons_append, Nat.sub_self, Nat.reduceSub, Nat.reduceAdd, List.length_cons, List.length_nil, List.getElem?_cons_zero, List.getElem?_cons_succ, List.set_cons_zero, List.set_cons_succ, setAll, wipe1, Tg.slots, binS, subS, fdivS, modS, powS, cmpS, ltS, isS, isNS, asStrs, asBls, newLs, n_l_purse]
  refine ⟨by decide, by decide, by decide, ?_⟩
  have r1 : 0 ≤ c.fmod 2147483647 := Int.fmod_nonneg_of_pos _ (by decide)
  have r2 : c.fmod 2147483647 < 2147483647 := Int.fmod_lt_of_pos _ (by decide)
  refine forGo_inv (fun i σ F1 => ∃ (n f : Int) (k : Option Val), σ = [some (.int c), some (.int n), some (.int f), k] ∧ -(2 ^ 64) < n ∧ n < 2 ^ 64 ∧ F1 = F) (fun i σ F h => trivial) ?_ ?_ ⟨c.fmod 2147483647, 1, none, rfl, by omega, by omega, rfl⟩
  · rintro i x σ F1 k hx ⟨n, f, kk, rfl, n1, n2, rfl⟩ hk
    obtain ⟨rfl, hj1⟩ := range_item0 hx
    have hj1 : i < 24 := hj1
    simp only [wpB, wpS, wpE, wpEs, wpT, wpTs, wpCs, wpP, wpIt, wpBl, bindT, biS, recS, truS, start1, List.map, List.length, List.replicate, List.append_nil, List.nil_append, List.cons_append, Nat.sub_self, Nat.reduceSub, Nat.reduceAdd, List.length_cons, List.length_nil, List.getElem?_cons_zero, List.getElem?_cons_succ, List.set_cons_zero, List.set_cons_succ, setAll, wipe1, Tg.slots, binS, subS, fdivS, modS, powS, cmpS, ltS, isS, isNS, asStrs, asBls, newLs]
    refine mul_i (small_mul n1 n2) (mul_i (small_mulL (by decide) (by decide)) (mul_i (small_mul (by omega) (by omega)) (add_int (add_int (add_int ⟨by decide, ?_⟩)))))
    generalize hr : ((n * n + 48271 * (i : Int) * (i : Int) + (i : Int) + 3).fmod 2147483629) = m
    have r1 : 0 ≤ m := by rw [← hr]; exact Int.fmod_nonneg_of_pos _ (by decide)
    have r2 : m < 2147483629 := by rw [← hr]; exact Int.fmod_lt_of_pos _ (by decide)
    refine mul_i (small_mul (by decide) (by decide)) (mul_i (small_mul (by omega) (by omega)) ⟨by decide, add_int ?_⟩)
    exact hk _ _ ⟨_, _, _, rfl, by omega, by omega, rfl⟩
  · rintro σ F1 ⟨n, f, kk, rfl, n1, n2, rfl⟩
    simp only [wpB, wpS, wpE, wpEs, wpT, wpTs, wpCs, wpP, wpIt, wpBl, bindT, biS, recS, truS, start1, List.map, List.length, List.replicate, List.append_nil, List.nil_append, List.cons_append, Nat.sub_self, Nat.reduceSub, Nat.reduceAdd, List.length_cons, List.length_nil, List.getElem?_cons_zero, List.getElem?_cons_succ, List.set_cons_zero, List.set_cons_succ, setAll, wipe1, Tg.slots, binS, subS, fdivS, modS, powS, cmpS, ltS, isS, isNS, asStrs, asBls, newLs, CPow]
    refine ⟨by decide, ?_⟩
    generalize hB : decide ((_ : Int) ≤ _) = B
    cases B
    rotate_left
    · simp only [wpB, wpS, wpE, wpEs, wpT, wpTs, wpCs, wpP, wpIt, wpBl, bindT, biS, recS, truS, start1, List.map, List.length, List.replicate, List.append_nil, List.nil_append, List.cons_append, Nat.sub_self, Nat.reduceSub, Nat.reduceAdd, List.length_cons, List.length_nil, List.getElem?_cons_zero, List.getElem?_cons_succ, List.set_cons_zero, List.set_cons_succ, setAll, wipe1, Tg.slots, binS, subS, fdivS, modS, powS, cmpS, ltS, isS, isNS, asStrs, asBls, newLs, CPow]
      exact ⟨by decide, by rw [sizeLine_eq]; decide, fun p hp => h p _ _ hp⟩
    · simp only [wpB, wpS, wpE, wpEs, wpT, wpTs, wpCs, wpP, wpIt, wpBl, bindT, biS, recS, truS, start1, List.map, List.length, List.replicate, List.append_nil, List.nil_append, List.cons_append, Nat.sub_self, Nat.reduceSub, Nat.reduceAdd, List.length_cons, List.length_nil, List.getElem?_cons_zero, List.getElem?_cons_succ, List.set_cons_zero, List.set_cons_succ, setAll, wipe1, Tg.slots, binS, subS, fdivS, modS, powS, cmpS, ltS, isS, isNS, asStrs, asBls, newLs]
      exact ⟨by rw [sizeLine_eq]; decide, fun p hp => h p _ _ hp⟩
/-! ### names -/
def nameB (x : Str) : Bool := decide (0 < x.length) && (decide (x.length ≤ 8) && x.cps.toList.all fun c => decide (c ∈ abc.cps.toList))
theorem nameB_iff {x : Str} : nameB x = true ↔ Name x := by
  unfold nameB
  rw [Bool.and_eq_true, Bool.and_eq_true, decide_eq_true_iff, decide_eq_true_iff, List.all_eq_true]
  constructor
  · rintro ⟨h1, h2, h3⟩
    exact ⟨h1, h2, fun c hc => of_decide_eq_true (h3 c hc)⟩
  · rintro ⟨h1, h2, h3⟩
    exact ⟨h1, h2, fun c hc => decide_eq_true (h3 c hc)⟩
/-- a text that may be asked of -/
structure Tx (x : Str) : Prop where
  vs : VS x
  le : x.length ≤ 1000
theorem Name.tx {x : Str} (h : Name x) : Tx x := ⟨h.vs, by have := h.le; omega⟩
def spIsNameX : Spec := fun vs F Q _ => ∃ x, vs = [.str x] ∧ Tx x ∧ Q (.bl (nameB x)) F
theorem w_is_nameX {Γ : Amb} {g : GlR Γ "LETTERS"} (hg : g.v = .str abc) : ∀ vs F Q E, spIsNameX vs F Q E → wpB (fun C fs _ F => E C fs F) (c_is_name g) (start1 n_is_name vs) F (fun _ F => Q .non F) Q := by
  rintro vs F Q E ⟨x, rfl, tx, h⟩
  unfold c_is_name
  simp only [wpB, wpS, wpE, wpEs, wpT, wpTs, wpCs, wpP, wpIt, wpBl, bindT, biS, bmS, recS, tyS, truS, start1, List.map, List.length, List.replicate, List.append_nil, List.nil_append, List.cons_append, Nat.sub_self, Nat.reduceSub, Nat.reduceAdd, List.length_cons, List.length_nil, List.getElem?_cons_zero, List.getElem?_cons_succ, List.set_cons_zero, List.set_cons_succ, setAll, wipe1, Tg.slots, binS, subS, mulS, fdivS, modS, powS, cmpS, ltS, isS, isNS, asStrs, asBls, newLs, n_is_name, hg, lenS]
  have hl := tx.le
  have hz : x.length ≤ sizeLine := by rw [sizeLine_eq]; omega
  refine ⟨hz, ?_⟩
  unfold nameB at h
  by_cases h1 : 0 < x.length
  · rw [decide_eq_true (by omega : (0 : Int) < (x.length : Int))]
    simp only
    rw [decide_eq_true h1, Bool.true_and] at h
    by_cases h2 : x.length ≤ 8
    · rw [decide_eq_true (by omega : (x.length : Int) ≤ 8)]
      rw [decide_eq_true h2, Bool.true_and] at h
      simp only
      refine lcGo_inv (fun i acc F1 => acc = ((x.cps.toList.take i).map fun c => decide (c ∈ abc.cps.toList)).map .bl ∧ F1 = F) ?_ (fun _ _ _ _ => trivial) ?_ ?_ ⟨rfl, rfl⟩
      · unfold charsOf
        rw [List.length_map, Array.length_toList]
        exact hz
      · rintro i v acc F1 k hx ⟨rfl, rfl⟩ hk
        unfold charsOf at hx
        rw [List.getElem?_map] at hx
        obtain ⟨c, hc, rfl⟩ := Option.map_eq_some_iff.mp hx
        refine fun _ => ⟨c, rfl, hk _ _ ⟨?_, rfl⟩⟩
        rw [List.take_add_one, hc, List.map_append, List.map_append]
        rfl
      · rintro acc F1 ⟨rfl, rfl⟩
        simp only [wpB, wpS, wpE, wpEs, wpT, wpTs, wpCs, wpP, wpIt, wpBl, bindT, biS, bmS, recS, tyS, truS, start1, List.map, List.length, List.replicate, List.append_nil, List.nil_append, List.cons_append, Nat.sub_self, Nat.reduceSub, Nat.reduceAdd, List.length_cons, List.length_nil, List.getElem?_cons_zero, List.getElem?_cons_succ, List.set_cons_zero, List.set_cons_succ, setAll, wipe1, Tg.slots, binS, subS, mulS, fdivS, modS, powS, cmpS, ltS, isS, isNS, asStrs, asBls, newLs, boolsF, lsOf, asBls_map]
        have e : (charsOf x).length = x.cps.toList.length := by unfold charsOf; rw [List.length_map]
        rw [e, List.take_length, List.all_map]
        exact h
    · rw [decide_eq_false (by omega : ¬ (x.length : Int) ≤ 8)]
      rw [decide_eq_false h2, Bool.false_and] at h
      simp only
      exact h
  · rw [decide_eq_false (by omega : ¬ (0 : Int) < (x.length : Int))]
    rw [decide_eq_false h1, Bool.false_and] at h
    simp only
    exact h
theorem w_l_is_name {Γ : Amb} : ∀ vs F Q E, spIsNameX vs F Q E → wpB (fun C fs _ F => E C fs F) (c_l_is_name (Γ := Γ)) (start1 n_l_is_name vs) F (fun _ F => Q .non F) Q := by
  rintro vs F Q E ⟨x, rfl, tx, h⟩
  unfold c_l_is_name
  simp only [wpB, wpS, wpE, wpEs, wpT, wpTs, wpCs, wpP, wpIt, wpBl, bindT, biS, recS, start1, List.map, List.length, List.replicate, List.append_nil, List.nil_append, List.cons_append, Nat.sub_self, Nat.reduceSub, Nat.reduceAdd, List.length_cons, List.length_nil, List.getElem?_cons_zero, List.getElem?_cons_succ, List.set_cons_zero, List.set_cons_succ, setAll, wipe1, Tg.slots, binS, subS, fdivS, modS, powS, cmpS, ltS, isS, isNS, asStrs, asBls, newLs, n_l_is_name, lenS]
  have hl := tx.le
  have hz : x.length ≤ sizeLine := by rw [sizeLine_eq]; omega
  have hlc : (charsOf x).length = x.cps.toList.length := by unfold charsOf; rw [List.length_map]
  refine lcGo_inv (fun i acc F1 => F1 = F ∧ acc = (((x.cps.toList.take i).filter fun c => !decide (c ∈ abc.cps.toList)).map fun c => (⟨#[c]⟩ : Str)).map .str) ?_ (fun _ _ _ _ => trivial) ?_ ?_ ⟨rfl, rfl⟩
  · rw [hlc, Array.length_toList]; exact hz
  · rintro i v acc F1 k hx ⟨rfl, rfl⟩ hk hk2
    unfold charsOf at hx
    rw [List.getElem?_map] at hx
    obtain ⟨c, hc, rfl⟩ := Option.map_eq_some_iff.mp hx
    try simp only [wpB, wpS, wpE, wpEs, wpT, wpTs, wpCs, wpP, wpIt, wpBl, bindT, biS, recS, start1, List.map, List.length, List.replicate, List.append_nil, List.nil_append, List.cons_append, Nat.sub_self, Nat.reduceSub, Nat.reduceAdd, List.length_cons, List.length_nil, List.getElem?_cons_zero, List.getElem?_cons_succ, List.set_cons_zero, List.set_cons_succ, setAll, wipe1, Tg.slots, binS, subS, fdivS, modS, powS, cmpS, ltS, isS, isNS, asStrs, asBls, newLs]
    refine ⟨c, rfl, ?_⟩
    have e9 : (Str.ofString "abcdefghijklmnopqrstuvwxyz") = abc := rfl
    rw [e9]
    by_cases hm : c ∈ abc.cps.toList
    · rw [decide_eq_true hm]
      simp only [Bool.not_true]
      refine hk2 _ ⟨rfl, ?_⟩
      rw [List.take_add_one, hc, List.filter_append]
      have : (some c).toList.filter (fun c => !decide (c ∈ abc.cps.toList)) = [] := by simp only [Option.toList, List.filter, decide_eq_true hm, Bool.not_true]
      rw [this, List.append_nil]
    · rw [decide_eq_false hm]
      simp only [Bool.not_false]
      refine hk _ _ ⟨rfl, ?_⟩
      rw [List.take_add_one, hc, List.filter_append]
      have : (some c).toList.filter (fun c => !decide (c ∈ abc.cps.toList)) = [c] := by simp only [Option.toList, List.filter, decide_eq_false hm, Bool.not_false]
      rw [this, List.map_append, List.map_append]
      rfl
  · rintro acc F1 ⟨rfl, rfl⟩
    rw [hlc, List.take_length]
    try simp only [wpB, wpS, wpE, wpEs, wpT, wpTs, wpCs, wpP, wpIt, wpBl, bindT, biS, recS, start1, List.map, List.length, List.replicate, List.append_nil, List.nil_append, List.cons_append, Nat.sub_self, Nat.reduceSub, Nat.reduceAdd, List.length_cons, List.length_nil, List.getElem?_cons_zero, List.getElem?_cons_succ, List.set_cons_zero, List.set_cons_succ, setAll, wipe1, Tg.slots, binS, subS, fdivS, modS, powS, cmpS, ltS, isS, isNS, asStrs, asBls, newLs]
    refine eqS_str tx.vs (vs_of "") ?_
    have e1 : (x = (Str.ofString "")) ↔ ¬ 0 < x.length := by
      constructor
      · rintro rfl; decide
      · intro h0
        have h1 : x.length = 0 := by omega
        refine TL.ext_tl ?_
        rw [(TL.len0_tl x).mp h1]
        rfl
    unfold nameB at h
    by_cases h1 : 0 < x.length
    · rw [decide_eq_false (fun z => e1.mp z h1)]
      rw [decide_eq_true h1, Bool.true_and] at h
      simp only [Bool.not_false, wpB, wpS, wpE, wpEs, wpT, wpTs, wpCs, wpP, wpIt, wpBl, bindT, biS, recS, start1, List.map, List.length, List.replicate, List.append_nil, List.nil_append, List.cons_append, Nat.sub_self, Nat.reduceSub, Nat.reduceAdd, List.length_cons, List.length_nil, List.getElem?_cons_zero, List.getElem?_cons_succ, List.set_cons_zero, List.set_cons_succ, setAll, wipe1, Tg.slots, binS, subS, fdivS, modS, powS, cmpS, ltS, isS, isNS, asStrs, asBls, newLs, lenS]
      refine ⟨hz, ?_⟩
      by_cases h2 : x.length ≤ 8
      · rw [decide_eq_true (by omega : (x.length : Int) < 9)]
        rw [decide_eq_true h2, Bool.true_and] at h
        simp only []
        refine ⟨by rw [sizeLine_eq]; decide, eqS_strs (l := (x.cps.toList.filter fun c => !decide (c ∈ abc.cps.toList)).map fun c => (⟨#[c]⟩ : Str)) (m := []) rfl rfl (fun y hy => ?_) (fun _ h => nomatch h) ?_⟩
        · obtain ⟨c, hc, rfl⟩ := List.mem_map.mp hy
          have hc2 := vs_iff.mp tx.vs c (List.mem_filter.mp hc).1
          rw [vs_iff]
          intro d hd
          have : d = c := by simpa [TL.tl] using hd
          rw [this]
          exact hc2
        · have e3 : decide (((x.cps.toList.filter fun c => !decide (c ∈ abc.cps.toList)).map fun c => (⟨#[c]⟩ : Str)) = []) = x.cps.toList.all fun c => decide (c ∈ abc.cps.toList) := by
            rw [Bool.eq_iff_iff, decide_eq_true_iff, List.map_eq_nil_iff, List.filter_eq_nil_iff, List.all_eq_true]
            constructor
            · intro q c hc
              have := q c hc
              simpa using this
            · intro q c hc
              have := q c hc
              simpa using this
          rw [e3]
          exact h
      · rw [decide_eq_false (by omega : ¬ (x.length : Int) < 9)]
        rw [decide_eq_false h2, Bool.false_and] at h
        simp only []
        exact h
    · rw [decide_eq_true (e1.mpr h1)]
      rw [decide_eq_false h1, Bool.false_and] at h
      simp only [Bool.not_true]
      exact h
end Bv

set_option pp.maxSteps 600
/-! Family A: the book's methods, with their refusals. -/
namespace Bv
open PySem L2 PyProof.Rows
def outc (X : Nat → Addr) (o : Option Nat) (E : X1) (F : MH) (q : Prop) : Prop := match o with
  | some r => E (X r) [] F
  | none => q
def thenO : Option Nat → Option Nat → Option Nat
  | some r, _ => some r
  | none, o => o
def ifO (c : Prop) [Decidable c] (r : Nat) : Option Nat := if c then some r else none
theorem ifO_t {c : Prop} [Decidable c] {r : Nat} (h : c) : ifO c r = some r := if_pos h
theorem ifO_f {c : Prop} [Decidable c] {r : Nat} (h : ¬ c) : ifO c r = none := if_neg h
def refNew (ps ks : List Str) (x : Str) : Option Nat := thenO (ifO (nameB x = false) 0) (ifO (x ∈ ps ∨ x ∈ ks) 1)
def refHold (ps ks : List Str) (x : Str) : Option Nat := ifO (¬ (x ∈ ps ∨ x ∈ ks)) 3
def refLoss (n : Int) : Option Nat := ifO (n < 0) 5
def spMustNewX (X : Nat → Addr) (CB : Addr) : Spec := fun vs F Q E => ∃ b x pl en ps es, vs = [.ref b, .str x] ∧ BkC CB F b pl en ps es ∧ Tx x ∧ outc X (refNew ps (es.map (·.1)) x) E F (Q .non F)
theorem w_must_be_newX {Γ : Amb} {X : Nat → Addr} {CB : Addr} {fp : FldR Γ "people"} {fe : FldR Γ "entries"} {x1 : RaiR Γ "Twice"} {r : CallR1 Γ "is_name"} {x2 : RaiR Γ "NoName"} (h1 : fp.C = CB) (h2 : fe.C = CB) (hx1 : x1.C = X 1) (hr : r.sp = spIsNameX) (hx2 : x2.C = X 0) :
    ∀ vs F Q E, spMustNewX X CB vs F Q E → wpB (fun C fs _ F => E C fs F) (c_Book_must_be_new fp fe x1 r x2) (start1 n_Book_must_be_new vs) F (fun _ F => Q .non F) Q := by
  rintro vs F Q E ⟨b, x, pl, en, ps, es, rfl, bk, tx, h⟩
  unfold c_Book_must_be_new
  simp only [wpB, wpS, wpE, wpEs, wpT, wpTs, wpCs, wpP, wpIt, wpBl, bindT, biS, bmS, recS, tyS, truS, start1, List.map, List.length, List.replicate, List.append_nil, List.nil_append, List.cons_append, Nat.sub_self, Nat.reduceSub, Nat.reduceAdd, List.length_cons, List.length_nil, List.getElem?_cons_zero, List.getElem?_cons_succ, List.set_cons_zero, List.set_cons_succ, setAll, wipe1, Tg.slots, binS, subS, mulS, fdivS, modS, powS, cmpS, ltS, isS, isNS, asStrs, asBls, newLs, n_Book_must_be_new, hr, bk.b, h1, h2, hx1, hx2, fld_people, fld_entries]
  refine ⟨x, rfl, tx, ?_⟩
  unfold refNew at h
  cases hn : nameB x with
  | false =>
    rw [ifO_t hn] at h
    simp only [wpB, wpS, wpE, wpEs, wpT, wpTs, wpCs, wpP, wpIt, wpBl, bindT, biS, bmS, recS, tyS, truS, start1, List.map, List.length, List.replicate, List.append_nil, List.nil_append, List.cons_append, Nat.sub_self, Nat.reduceSub, Nat.reduceAdd, List.length_cons, List.length_nil, List.getElem?_cons_zero, List.getElem?_cons_succ, List.set_cons_zero, List.set_cons_succ, setAll, wipe1, Tg.slots, binS, subS, mulS, fdivS, modS, powS, cmpS, ltS, isS, isNS, asStrs, asBls, newLs, Bool.not_false]
    exact h
  | true =>
    rw [ifO_f (by rw [hn]; decide)] at h
    simp only [wpB, wpS, wpE, wpEs, wpT, wpTs, wpCs, wpP, wpIt, wpBl, bindT, biS, bmS, recS, tyS, truS, start1, List.map, List.length, List.replicate, List.append_nil, List.nil_append, List.cons_append, Nat.sub_self, Nat.reduceSub, Nat.reduceAdd, List.length_cons, List.length_nil, List.getElem?_cons_zero, List.getElem?_cons_succ, List.set_cons_zero, List.set_cons_succ, setAll, wipe1, Tg.slots, binS, subS, mulS, fdivS, modS, powS, cmpS, ltS, isS, isNS, asStrs, asBls, newLs, Bool.not_true, bk.b, h1, h2, hx1, fld_people, fld_entries]
    refine ⟨trivial, in_strs (l := ps) (by simp only [lsOf, bk.pl]) ?_⟩
    by_cases hp : x ∈ ps
    · rw [decide_eq_true hp]
      rw [ifO_t (.inl hp)] at h
      exact h
    · rw [decide_eq_false hp]
      refine ⟨trivial, inS_d (kvs := es) (by simp only [dcOf, bk.en]) ?_⟩
      rw [kget_isSome]
      by_cases he : x ∈ es.map (·.1)
      · rw [decide_eq_true he]
        rw [ifO_t (.inr he)] at h
        exact h
      · rw [decide_eq_false he]
        rw [ifO_f (by rintro (q | q); exact hp q; exact he q)] at h
        exact h
def spMustHoldX (X : Nat → Addr) (CB : Addr) : Spec := fun vs F Q E => ∃ b x pl en ps es, vs = [.ref b, .str x] ∧ BkC CB F b pl en ps es ∧ outc X (refHold ps (es.map (·.1)) x) E F (Q .non F)
theorem w_must_holdX {Γ : Amb} {X : Nat → Addr} {CB : Addr} {fp : FldR Γ "people"} {fe : FldR Γ "entries"} {x1 : RaiR Γ "NoHolder"} (h1 : fp.C = CB) (h2 : fe.C = CB) (hx : x1.C = X 3) :
    ∀ vs F Q E, spMustHoldX X CB vs F Q E → wpB (fun C fs _ F => E C fs F) (c_Book_must_hold fp fe x1) (start1 n_Book_must_hold vs) F (fun _ F => Q .non F) Q := by
  rintro vs F Q E ⟨b, x, pl, en, ps, es, rfl, bk, h⟩
  unfold c_Book_must_hold
  simp only [wpB, wpS, wpE, wpEs, wpT, wpTs, wpCs, wpP, wpIt, wpBl, bindT, biS, bmS, recS, tyS, truS, start1, List.map, List.length, List.replicate, List.append_nil, List.nil_append, List.cons_append, Nat.sub_self, Nat.reduceSub, Nat.reduceAdd, List.length_cons, List.length_nil, List.getElem?_cons_zero, List.getElem?_cons_succ, List.set_cons_zero, List.set_cons_succ, setAll, wipe1, Tg.slots, binS, subS, mulS, fdivS, modS, powS, cmpS, ltS, isS, isNS, asStrs, asBls, newLs, n_Book_must_hold, bk.b, h1, h2, hx, fld_people, fld_entries]
  refine ⟨trivial, in_strs (l := ps) (by simp only [lsOf, bk.pl]) ?_⟩
  unfold refHold at h
  by_cases hp : x ∈ ps
  · rw [decide_eq_true hp]
    rw [ifO_f (fun q => q (.inl hp))] at h
    exact h
  · rw [decide_eq_false hp]
    refine ⟨trivial, inS_d (kvs := es) (by simp only [dcOf, bk.en]) ?_⟩
    rw [kget_isSome]
    by_cases he : x ∈ es.map (·.1)
    · rw [decide_eq_true he]
      rw [ifO_f (fun q => q (.inr he))] at h
      exact h
    · rw [decide_eq_false he]
      rw [ifO_t (by rintro (q | q); exact hp q; exact he q)] at h
      exact h
def spLossX (X : Nat → Addr) : Spec := fun vs F Q E => ∃ x : Int, vs = [.int x] ∧ outc X (refLoss x) E F (Q .non F)
theorem w_must_lossX {Γ : Amb} {X : Nat → Addr} {x : RaiR Γ "NoLoss"} (hx : x.C = X 5) : ∀ vs F Q E, spLossX X vs F Q E → wpB (fun C fs _ F => E C fs F) (c_must_loss x) (start1 n_must_loss vs) F (fun _ F => Q .non F) Q := by
  rintro vs F Q E ⟨n, rfl, h⟩
  unfold c_must_loss
  simp only [wpB, wpS, wpE, wpEs, wpT, wpTs, wpCs, wpP, wpIt, wpBl, bindT, biS, bmS, recS, tyS, truS, start1, List.map, List.length, List.replicate, List.append_nil, List.nil_append, List.cons_append, Nat.sub_self, Nat.reduceSub, Nat.reduceAdd, List.length_cons, List.length_nil, List.getElem?_cons_zero, List.getElem?_cons_succ, List.set_cons_zero, List.set_cons_succ, setAll, wipe1, Tg.slots, binS, subS, mulS, fdivS, modS, powS, cmpS, ltS, isS, isNS, asStrs, asBls, newLs, n_must_loss, hx]
  unfold refLoss at h
  by_cases hn : n < 0
  · rw [decide_eq_true hn]
    rw [ifO_t hn] at h
    exact h
  · rw [decide_eq_false hn]
    rw [ifO_f hn] at h
    exact h
def refPerson (ps ks : List Str) (x : Str) : Option Nat := thenO (refNew ps ks x) (ifO (ps.length = 6) 2)
def spPersonX (X : Nat → Addr) (CB : Addr) : Spec := fun vs F Q E => ∃ b x pl en ps es, vs = [.ref b, .str x] ∧ BkC CB F b pl en ps es ∧ Tx x ∧ ps.length ≤ 6 ∧ outc X (refPerson ps (es.map (·.1)) x) E F (Q .non (mset F pl (.lst ((ps ++ [x]).map .str))))
theorem w_personX {Γ : Amb} {X : Nat → Addr} {CB : Addr} {fp : FldR Γ "people"} {g : GlR Γ "MOST_PERSONS"} {x1 : RaiR Γ "TooMany"} {t : MethR Γ "must_be_new"} (h1 : fp.C = CB) (hg : g.v = .int 6) (hx : x1.C = X 2) (ht : t.sp = spMustNewX X CB) (hc : t.C = CB) :
    ∀ vs F Q E, spPersonX X CB vs F Q E → wpB (fun C fs _ F => E C fs F) (c_Book_person fp g x1 t) (start1 n_Book_person vs) F (fun _ F => Q .non F) Q := by
  rintro vs F Q E ⟨b, x, pl, en, ps, es, rfl, bk, tx, hl, h⟩
  unfold c_Book_person
  simp only [wpB, wpS, wpE, wpEs, wpT, wpTs, wpCs, wpP, wpIt, wpBl, bindT, biS, recS, truS, start1, List.map, List.length, List.replicate, List.append_nil, List.nil_append, List.cons_append, Nat.sub_self, Nat.reduceSub, Nat.reduceAdd, List.length_cons, List.length_nil, List.getElem?_cons_zero, List.getElem?_cons_succ, List.set_cons_zero, List.set_cons_succ, setAll, wipe1, Tg.slots, binS, subS, fdivS, modS, powS, cmpS, ltS, isS, isNS, asStrs, asBls, newLs, n_Book_person, bk.b, h1, hg, hx, ht, hc, fld_people]
  refine ⟨trivial, rfl, b, x, pl, en, ps, es, rfl, bk, tx, ?_⟩
  unfold refPerson at h
  cases hr : refNew ps (es.map (·.1)) x with
  | some r => rw [hr] at h; exact h
  | none =>
    rw [hr] at h
    simp only [outc, wpB, wpS, wpE, wpEs, wpT, wpTs, wpCs, wpP, wpIt, wpBl, bindT, biS, recS, truS, start1, List.map, List.length, List.replicate, List.append_nil, List.nil_append, List.cons_append, Nat.sub_self, Nat.reduceSub, Nat.reduceAdd, List.length_cons, List.length_nil, List.getElem?_cons_zero, List.getElem?_cons_succ, List.set_cons_zero, List.set_cons_succ, setAll, wipe1, Tg.slots, binS, subS, fdivS, modS, powS, cmpS, ltS, isS, isNS, asStrs, asBls, newLs, bk.b, fld_people, lenS, lsOf, bk.pl]
    refine ⟨trivial, eqS_i ?_⟩
    rw [List.length_map]
    by_cases h6 : ps.length = 6
    · rw [decide_eq_true (by omega)]
      have h : outc X (ifO (ps.length = 6) 2) E F _ := h
      rw [ifO_t h6] at h
      exact h
    · rw [decide_eq_false (by omega)]
      have h : outc X (ifO (ps.length = 6) 2) E F _ := h
      rw [ifO_f h6] at h
      simp only [wpB, wpS, wpE, wpEs, wpT, wpTs, wpCs, wpP, wpIt, wpBl, bindT, biS, recS, truS, start1, List.map, List.length, List.replicate, List.append_nil, List.nil_append, List.cons_append, Nat.sub_self, Nat.reduceSub, Nat.reduceAdd, List.length_cons, List.length_nil, List.getElem?_cons_zero, List.getElem?_cons_succ, List.set_cons_zero, List.set_cons_succ, setAll, wipe1, Tg.slots, binS, subS, fdivS, modS, powS, cmpS, ltS, isS, isNS, asStrs, asBls, newLs, bk.b, fld_people, bk.pl]
      refine ⟨trivial, ⟨pl, _, rfl, bk.pl⟩, ?_⟩
      simp only [bmS, bk.pl]
      refine ⟨by rw [List.length_map, sizeLine_eq]; omega, ?_⟩
      have h : Q .non (mset F pl (.lst ((ps ++ [x]).map .str))) := h
      rw [List.map_append] at h
      exact h
def refHouse (ps ks : List Str) (x o : Str) (l : Int) : Option Nat := thenO (refNew ps ks x) (thenO (refHold ps ks o) (thenO (refLoss l) (ifO (ks.length = 8) 2)))
def spHouseX (X : Nat → Addr) (CB CE : Addr) : Spec := fun vs F Q E => ∃ b x o pl en ps es things mark loss, vs = [.ref b, .str x, .str o, .int things, .int mark, .int loss] ∧ BkC CB F b pl en ps es ∧ Tx x ∧ es.length ≤ 8 ∧
  outc X (refHouse ps (es.map (·.1)) x o loss) E F (∀ h e, F h = none → F e = none → e ≠ h → Q .non (mset (mset (mset F h (.dict [(o, frP (1, 1))])) e (.inst CE (entFs (.tup [.int things, .int mark, .int loss]) h))) en (.dict (es ++ [(x, .ref e)]))))
theorem refNew_none {ps ks : List Str} {x : Str} (h : refNew ps ks x = none) : nameB x = true ∧ x ∉ ps ∧ x ∉ ks := by
  unfold refNew at h
  cases hn : nameB x with
  | false => rw [ifO_t hn] at h; cases h
  | true =>
    rw [ifO_f (by rw [hn]; decide)] at h
    have h : ifO (x ∈ ps ∨ x ∈ ks) 1 = none := h
    by_cases q : x ∈ ps ∨ x ∈ ks
    · rw [ifO_t q] at h; cases h
    · exact ⟨rfl, fun z => q (.inl z), fun z => q (.inr z)⟩
theorem w_houseX {Γ : Amb} {X : Nat → Addr} {CB CE : Addr} {fe : FldR Γ "entries"} {m : MkR Γ "Entry"} {g : GlR Γ "MOST_HOUSES"} {x1 : RaiR Γ "TooMany"} {r : CallR1 Γ "must_loss"} {t1 : MethR Γ "must_hold"} {t2 : MethR Γ "must_be_new"} (h1 : fe.C = CB) (hm : m.sp = spEInit CE) (hmc : m.C = CE) (hg : g.v = .int 8) (hx : x1.C = X 2) (hr : r.sp = spLossX X)
    (ht1 : t1.sp = spMustHoldX X CB) (hc1 : t1.C = CB) (ht2 : t2.sp = spMustNewX X CB) (hc2 : t2.C = CB) : ∀ vs F Q E, spHouseX X CB CE vs F Q E → wpB (fun C fs _ F => E C fs F) (c_Book_house fe m g x1 r t1 t2) (start1 n_Book_house vs) F (fun _ F => Q .non F) Q := by
  rintro vs F Q E ⟨b, x, o, pl, en, ps, es, things, mark, loss, rfl, bk, tx, hz, h⟩
  unfold c_Book_house
  simp only [wpB, wpS, wpE, wpEs, wpT, wpTs, wpCs, wpP, wpIt, wpBl, bindT, biS, recS, truS, start1, List.map, List.length, List.replicate, List.append_nil, List.nil_append, List.cons_append, Nat.sub_self, Nat.reduceSub, Nat.reduceAdd, List.length_cons, List.length_nil, List.getElem?_cons_zero, List.getElem?_cons_succ, List.set_cons_zero, List.set_cons_succ, setAll, wipe1, Tg.slots, binS, subS, fdivS, modS, powS, cmpS, ltS, isS, isNS, asStrs, asBls, newLs, n_Book_house, bk.b, h1, hm, hmc, hg, hx, hr, ht1, hc1, ht2, hc2, fld_entries]
  refine ⟨trivial, rfl, b, x, pl, en, ps, es, rfl, bk, tx, ?_⟩
  unfold refHouse at h
  cases hrn : refNew ps (es.map (·.1)) x with
  | some r => rw [hrn] at h; exact h
  | none =>
  rw [hrn] at h
  obtain ⟨_, _, he⟩ := refNew_none hrn
  simp only [outc, bk.b]
  refine ⟨trivial, rfl, b, o, pl, en, ps, es, rfl, bk, ?_⟩
  cases hrh : refHold ps (es.map (·.1)) o with
  | some r => rw [hrh] at h; exact h
  | none =>
  rw [hrh] at h
  simp only [outc]
  refine ⟨loss, rfl, ?_⟩
  cases hrl : refLoss loss with
  | some r => rw [hrl] at h; exact h
  | none =>
  rw [hrl] at h
  have h : outc X (ifO ((es.map (·.1)).length = 8) 2) E F _ := h
  rw [List.length_map] at h
  simp only [outc, bk.b, fld_entries, lenS, lsOf, bk.en]
  refine ⟨trivial, eqS_i ?_⟩
  by_cases h8 : es.length = 8
  · rw [decide_eq_true (by omega)]
    rw [ifO_t h8] at h
    exact h
  · rw [decide_eq_false (by omega)]
    rw [ifO_f h8] at h
    simp only [wpB, wpS, wpE, wpEs, wpT, wpTs, wpCs, wpP, wpIt, wpBl, bindT, biS, recS, truS, start1, List.map, List.length, List.replicate, List.append_nil, List.nil_append, List.cons_append, Nat.sub_self, Nat.reduceSub, Nat.reduceAdd, List.length_cons, List.length_nil, List.getElem?_cons_zero, List.getElem?_cons_succ, List.set_cons_zero, List.set_cons_succ, setAll, wipe1, Tg.slots, binS, subS, fdivS, modS, powS, cmpS, ltS, isS, isNS, asStrs, asBls, newLs]
    refine ⟨by rw [sizeLine_eq]; decide, by rw [sizeLine_eq]; decide, fun d hd _ e he2 => ?_⟩
    have n1 : e ≠ d := fun z => by rw [z, mset_same] at he2; cases he2
    have he3 : F e = none := by rw [mset_ne n1] at he2; exact he2
    refine ⟨e, _, _, rfl, mset_same, rfl, ?_⟩
    have n2 : b ≠ d := fun z => by rw [← z, bk.b] at hd; cases hd
    have n3 : b ≠ e := fun z => by rw [← z, bk.b] at he3; cases he3
    have n4 : en ≠ d := fun z => by rw [← z, bk.en] at hd; cases hd
    have n5 : en ≠ e := fun z => by rw [← z, bk.en] at he3; cases he3
    simp only [mset_mset, mset_ne n3, mset_ne n2, bk.b, fld_entries, setS, mset_ne n5, mset_ne n4, bk.en]
    refine ⟨trivial, by rw [sizeLine_eq]; omega, ?_⟩
    rw [kput_new he]
    exact h d e hd he3 n1
end Bv

set_option pp.maxSteps 600
/-! Family A: sales, numbers, with their refusals. -/
namespace Bv
open PySem L2 PyProof.Rows
theorem fld_numbers {n : Val} {h : Addr} : (entFs n h).lookup ("numbers" : Str) = some n := rfl
theorem add_tup {xs ys : List Val} {F : MH} {Q : Q1} (hl : xs.length + ys.length ≤ sizeLine) (q : Q (.tup (xs ++ ys)) F) : addS (.tup xs) (.tup ys) F Q := ⟨hl, q⟩
/-- a number put down: a new triple -/
def putN (ws : List Val) (k : Nat) (n : Val) : List Val := ws.take k ++ [n] ++ ws.drop (k + 1)
theorem cut_to {α : Type} (xs : List α) {k : Nat} (h : k ≤ xs.length) : cut xs none (some (k : Int)) = xs.take k := cut_take xs h
theorem cut_from {α : Type} (xs : List α) {k : Nat} (h : k ≤ xs.length) : cut xs (some (k : Int)) none = xs.drop k := by
  unfold cut
  rw [HT.sIx_none, HT.sIx_nat, Nat.min_eq_left h, List.take_of_length_le]
  rw [List.length_drop]
  exact Nat.le_refl _
def refSale (ps ks : List Str) (held : Held) (one other : Str) (p : Int × Int) : Option Nat :=
  thenO (refHold ps ks one) (thenO (refHold ps ks other) (ifO (p.1 ≤ 0 ∨ ((hget held one).getD (0, 1)).1 * p.2 < p.1 * ((hget held one).getD (0, 1)).2) 6))
/-- products that may be made -/
structure PrP (p q : Int × Int) : Prop where
  a : SmP p
  b : 0 < p.2 * q.2
  c : Sm (p.2 * q.2)
def spSaleX (X : Nat → Addr) (CB CE : Addr) : Spec := fun vs F Q E => ∃ b x one other p pl en ps es, vs = [.ref b, .str x, .str one, .str other, frP p] ∧ BkC CB F b pl en ps es ∧ SmP p ∧
  ((kget es x = none ∧ E (X 4) [] F) ∨ ∃ e h nums held, kget es x = some (.ref e) ∧ EnC CE F e h nums held ∧ held.length < 1000 ∧ PrP ((hget held one).getD (0, 1)) p ∧
    (refSale ps (es.map (·.1)) held one other p = none → PrP ((hget (hput held one (less ((hget held one).getD (0, 1)) p)) other).getD (0, 1)) p) ∧
    outc X (refSale ps (es.map (·.1)) held one other p) E F (Q .non (mset F h (.dict (hv (soldH held one other p))))))
theorem w_saleX {Γ : Amb} {X : Nat → Addr} {CB CE : Addr} {ra : CallR1 Γ "added"} {rm : CallR1 Γ "minus"} {rl : CallR1 Γ "is_less"} {x1 : RaiR Γ "NoShare"} {th : MethR Γ "must_hold"} {fh : FldR Γ "held"} {te : MethR Γ "entry_of"} (ha : ra.sp = spAdded) (hm : rm.sp = spMinus) (hl : rl.sp = spLess) (hx1 : x1.C = X 6)
    (h1 : fh.C = CE) (ht : th.sp = spMustHoldX X CB) (htc : th.C = CB) (hte : te.sp = spEntryOf CB (X 4)) (htec : te.C = CB) : ∀ vs F Q E, spSaleX X CB CE vs F Q E → wpB (fun C fs _ F => E C fs F) (c_Book_sale ra rm rl x1 th fh te) (start1 n_Book_sale vs) F (fun _ F => Q .non F) Q := by
  rintro vs F Q E ⟨b, x, one, other, p, pl, en, ps, es, rfl, bk, sp, hh⟩
  unfold c_Book_sale
  simp only [wpB, wpS, wpE, wpEs, wpT, wpTs, wpCs, wpP, wpIt, wpBl, bindT, biS, bmS, recS, tyS, truS, start1, List.map, List.length, List.replicate, List.append_nil, List.nil_append, List.cons_append, Nat.sub_self, Nat.reduceSub, Nat.reduceAdd, List.length_cons, List.length_nil, List.getElem?_cons_zero, List.getElem?_cons_succ, List.set_cons_zero, List.set_cons_succ, setAll, wipe1, Tg.slots, binS, subS, fdivS, modS, powS, cmpS, ltS, isS, isNS, asStrs, asBls, newLs, n_Book_sale, bk.b, h1, ha, hm, hl, ht, htc, hte, htec, hx1]
  refine ⟨trivial, rfl, b, x, pl, en, ps, es, rfl, bk, ?_⟩
  rcases hh with ⟨hn, hE⟩ | ⟨e, h, nums, held, hx, ec, hlen, pr1, pr2, hq⟩
  · exact .inr ⟨hn, hE⟩
  refine .inl ⟨_, hx, ?_⟩
  simp only [ec.e, fld_held, bk.b]
  refine ⟨trivial, trivial, rfl, b, one, pl, en, ps, es, rfl, bk, ?_⟩
  unfold refSale at hq pr2
  cases hr1 : refHold ps (es.map (·.1)) one with
  | some r => rw [hr1] at hq; exact hq
  | none =>
  rw [hr1] at hq pr2
  simp only [outc, bk.b]
  refine ⟨trivial, rfl, b, other, pl, en, ps, es, rfl, bk, ?_⟩
  cases hr2 : refHold ps (es.map (·.1)) other with
  | some r => rw [hr2] at hq; exact hq
  | none =>
  rw [hr2] at hq pr2
  simp only [outc]
  refine ⟨⟨h, hv held, rfl, by simp only [dcOf, ec.h]⟩, by rw [sizeLine_eq]; decide, ?_⟩
  simp only [dcOf, ec.h]
  rw [hv_get]
  have eg : (Option.map frP (hget held one)).getD (Val.tup [.int 0, .int 1]) = frP ((hget held one).getD (0, 1)) := getD_fr
  rw [eg]
  generalize hhas : (hget held one).getD (0, 1) = has at *
  have hq : outc X (ifO (p.1 ≤ 0 ∨ has.1 * p.2 < p.1 * has.2) 6) E F _ := hq
  have pr2 : ifO (p.1 ≤ 0 ∨ has.1 * p.2 < p.1 * has.2) 6 = none → _ := pr2
  refine ix0 ?_
  simp only
  by_cases h0 : p.1 ≤ 0
  · rw [decide_eq_true h0]
    rw [ifO_t (.inl h0)] at hq
    exact hq
  rw [decide_eq_false h0]
  refine ⟨_, _, rfl, pr1.a, sp, ?_⟩
  simp only [wpB, wpS, wpE, wpEs, wpT, wpTs, wpCs, wpP, wpIt, wpBl, bindT, biS, bmS, recS, tyS, truS, start1, List.map, List.length, List.replicate, List.append_nil, List.nil_append, List.cons_append, Nat.sub_self, Nat.reduceSub, Nat.reduceAdd, List.length_cons, List.length_nil, List.getElem?_cons_zero, List.getElem?_cons_succ, List.set_cons_zero, List.set_cons_succ, setAll, wipe1, Tg.slots, binS, subS, fdivS, modS, powS, cmpS, ltS, isS, isNS, asStrs, asBls, newLs]
  by_cases h2 : has.1 * p.2 < p.1 * has.2
  · rw [decide_eq_true h2]
    rw [ifO_t (.inr h2)] at hq
    exact hq
  rw [decide_eq_false h2]
  have hno : ¬ (p.1 ≤ 0 ∨ has.1 * p.2 < p.1 * has.2) := by rintro (q | q); exact h0 q; exact h2 q
  have pr2 := pr2 (ifO_f hno)
  rw [ifO_f hno] at hq
  simp only
  refine ⟨_, _, rfl, pr1.a, sp, pr1.b, pr1.c, ?_⟩
  simp only [setS, ec.h]
  rw [hv_put]
  refine ⟨by rw [hv_len, sizeLine_eq]; omega, ⟨h, hv (hput held one (less has p)), rfl, by simp only [dcOf, mset_same]⟩, by rw [sizeLine_eq]; decide, ?_⟩
  simp only [dcOf, mset_same]
  rw [hv_get]
  have eg2 : ∀ o : Option (Int × Int), (Option.map frP o).getD (Val.tup [.int 0, .int 1]) = frP (o.getD (0, 1)) := fun o => getD_fr
  rw [eg2]
  refine ⟨_, _, rfl, pr2.a, sp, pr2.b, pr2.c, ?_⟩
  simp only [mset_same, mset_mset]
  rw [hv_put]
  have hl2 := hput_len held one (less has p)
  refine ⟨by rw [hv_len, sizeLine_eq]; omega, ?_⟩
  have hq : Q .non (mset F h (.dict (hv (soldH held one other p)))) := hq
  unfold soldH at hq
  simp only [hhas] at hq
  exact hq
def spPutNX (X : Nat → Addr) (CB CE : Addr) : Spec := fun vs F Q E => ∃ b x pl en ps es n, ∃ k : Nat, vs = [.ref b, .str x, .int k, .int n] ∧ BkC CB F b pl en ps es ∧ k < 3 ∧
  ((kget es x = none ∧ E (X 4) [] F) ∨ ∃ e h ws held, kget es x = some (.ref e) ∧ EnC CE F e h (.tup ws) held ∧ ws.length = 3 ∧ Q .non (mset F e (.inst CE (entFs (.tup (putN ws k (.int n))) h))))
theorem w_put_numberX {Γ : Amb} {X : Nat → Addr} {CB CE : Addr} {fn : FldR Γ "numbers"} {t : MethR Γ "entry_of"} (h1 : fn.C = CE) (ht : t.sp = spEntryOf CB (X 4)) (hc : t.C = CB) : ∀ vs F Q E, spPutNX X CB CE vs F Q E → wpB (fun C fs _ F => E C fs F) (c_Book_put_number fn t) (start1 n_Book_put_number vs) F (fun _ F => Q .non F) Q := by
  rintro vs F Q E ⟨b, x, pl, en, ps, es, n, k, rfl, bk, hk, hh⟩
  unfold c_Book_put_number
  simp only [wpB, wpS, wpE, wpEs, wpT, wpTs, wpCs, wpP, wpIt, wpBl, bindT, biS, recS, truS, start1, List.map, List.length, List.replicate, List.append_nil, List.nil_append, List.cons_append, Nat.sub_self, Nat.reduceSub, Nat.reduceAdd, List.length_cons, List.length_nil, List.getElem?_cons_zero, List.getElem?_cons_succ, List.set_cons_zero, List.set_cons_succ, setAll, wipe1, Tg.slots, binS, subS, fdivS, modS, powS, cmpS, ltS, isS, isNS, asStrs, asBls, newLs, n_Book_put_number, bk.b, h1, ht, hc]
  refine ⟨trivial, rfl, b, x, pl, en, ps, es, rfl, bk, ?_⟩
  rcases hh with ⟨hn, hE⟩ | ⟨e, h, ws, held, hx, ec, hl, hq⟩
  · exact .inr ⟨hn, hE⟩
  refine .inl ⟨_, hx, ?_⟩
  simp only [ec.e, fld_numbers]
  refine ⟨trivial, ?_⟩
  rw [show slS (.tup ws) none (some (k : Int)) F = fun Q => Q (.tup (cut ws none (some (k : Int)))) F from rfl]
  simp only
  rw [cut_to ws (by omega)]
  refine ⟨by rw [sizeLine_eq]; decide, add_tup (by rw [List.length_take, sizeLine_eq]; simp; omega) ?_⟩
  simp only [ec.e, fld_numbers]
  refine ⟨trivial, add_int ?_⟩
  rw [show ((k : Int) + 1) = ((k + 1 : Nat) : Int) by omega]
  simp only
  rw [show slS (.tup ws) (some ((k + 1 : Nat) : Int)) none F = fun Q => Q (.tup (cut ws (some ((k + 1 : Nat) : Int)) none)) F from rfl]
  simp only
  rw [cut_from ws (by omega)]
  refine add_tup (by rw [List.length_append, List.length_take, List.length_drop, sizeLine_eq]; simp; omega) ?_
  simp only [ec.e]
  exact ⟨trivial, by show 2 < 1000; decide, hq⟩
def refNum (k : Nat) (n : Int) : Option Nat := ifO (k = 2 ∧ n < 0) 5
def spThingX (k : Nat) (X : Nat → Addr) (CB CE : Addr) : Spec := fun vs F Q E => ∃ b x pl en ps es n, vs = [.ref b, .str x, .int n] ∧ BkC CB F b pl en ps es ∧
  ((kget es x = none ∧ E (X 4) [] F) ∨ ∃ e h ws held, kget es x = some (.ref e) ∧ EnC CE F e h (.tup ws) held ∧ ws.length = 3 ∧ outc X (refNum k n) E F (Q .non (mset F e (.inst CE (entFs (.tup (putN ws k (.int n))) h)))))
theorem refNum_0 {n : Int} : refNum 0 n = none := ifO_f (fun h => absurd h.1 (by decide))
theorem refNum_1 {n : Int} : refNum 1 n = none := ifO_f (fun h => absurd h.1 (by decide))
theorem refNum_2 {n : Int} : refNum 2 n = refLoss n := by
  unfold refNum refLoss
  by_cases h : n < 0
  · rw [ifO_t ⟨rfl, h⟩, ifO_t h]
  · rw [ifO_f (fun q => h q.2), ifO_f h]
theorem w_thingsX {Γ : Amb} {X : Nat → Addr} {CB CE : Addr} {t : MethR Γ "put_number"} (ht : t.sp = spPutNX X CB CE) (hc : t.C = CB) : ∀ vs F Q E, spThingX 0 X CB CE vs F Q E → wpB (fun C fs _ F => E C fs F) (c_Book_things t) (start1 n_Book_things vs) F (fun _ F => Q .non F) Q := by
  rintro vs F Q E ⟨b, x, pl, en, ps, es, n, rfl, bk, hh⟩
  unfold c_Book_things
  simp only [wpB, wpS, wpE, wpEs, wpT, wpTs, wpCs, wpP, wpIt, wpBl, bindT, biS, recS, truS, start1, List.map, List.length, List.replicate, List.append_nil, List.nil_append, List.cons_append, Nat.sub_self, Nat.reduceSub, Nat.reduceAdd, List.length_cons, List.length_nil, List.getElem?_cons_zero, List.getElem?_cons_succ, List.set_cons_zero, List.set_cons_succ, setAll, wipe1, Tg.slots, binS, subS, fdivS, modS, powS, cmpS, ltS, isS, isNS, asStrs, asBls, newLs, n_Book_things, bk.b, ht, hc]
  refine ⟨trivial, rfl, b, x, pl, en, ps, es, n, 0, rfl, bk, by decide, ?_⟩
  rcases hh with hh | ⟨e, h, ws, held, hx, ec, hl, hq⟩
  · exact .inl hh
  · rw [refNum_0] at hq
    exact .inr ⟨e, h, ws, held, hx, ec, hl, hq⟩
theorem w_markX {Γ : Amb} {X : Nat → Addr} {CB CE : Addr} {t : MethR Γ "put_number"} (ht : t.sp = spPutNX X CB CE) (hc : t.C = CB) : ∀ vs F Q E, spThingX 1 X CB CE vs F Q E → wpB (fun C fs _ F => E C fs F) (c_Book_mark t) (start1 n_Book_mark vs) F (fun _ F => Q .non F) Q := by
  rintro vs F Q E ⟨b, x, pl, en, ps, es, n, rfl, bk, hh⟩
  unfold c_Book_mark
  simp only [wpB, wpS, wpE, wpEs, wpT, wpTs, wpCs, wpP, wpIt, wpBl, bindT, biS, recS, truS, start1, List.map, List.length, List.replicate, List.append_nil, List.nil_append, List.cons_append, Nat.sub_self, Nat.reduceSub, Nat.reduceAdd, List.length_cons, List.length_nil, List.getElem?_cons_zero, List.getElem?_cons_succ, List.set_cons_zero, List.set_cons_succ, setAll, wipe1, Tg.slots, binS, subS, fdivS, modS, powS, cmpS, ltS, isS, isNS, asStrs, asBls, newLs, n_Book_mark, bk.b, ht, hc]
  refine ⟨trivial, rfl, b, x, pl, en, ps, es, n, 1, rfl, bk, by decide, ?_⟩
  rcases hh with hh | ⟨e, h, ws, held, hx, ec, hl, hq⟩
  · exact .inl hh
  · rw [refNum_1] at hq
    exact .inr ⟨e, h, ws, held, hx, ec, hl, hq⟩
theorem w_lossX {Γ : Amb} {X : Nat → Addr} {CB CE : Addr} {t : MethR Γ "put_number"} {r : CallR1 Γ "must_loss"} {te : MethR Γ "entry_of"} (ht : t.sp = spPutNX X CB CE) (hc : t.C = CB) (hr : r.sp = spLossX X) (hte : te.sp = spEntryOf CB (X 4)) (htec : te.C = CB) : ∀ vs F Q E, spThingX 2 X CB CE vs F Q E → wpB (fun C fs _ F => E C fs F) (c_Book_loss t r te) (start1 n_Book_loss vs) F (fun _ F => Q .non F) Q := by
  rintro vs F Q E ⟨b, x, pl, en, ps, es, n, rfl, bk, hh⟩
  unfold c_Book_loss
  simp only [wpB, wpS, wpE, wpEs, wpT, wpTs, wpCs, wpP, wpIt, wpBl, bindT, biS, recS, truS, start1, List.map, List.length, List.replicate, List.append_nil, List.nil_append, List.cons_append, Nat.sub_self, Nat.reduceSub, Nat.reduceAdd, List.length_cons, List.length_nil, List.getElem?_cons_zero, List.getElem?_cons_succ, List.set_cons_zero, List.set_cons_succ, setAll, wipe1, Tg.slots, binS, subS, fdivS, modS, powS, cmpS, ltS, isS, isNS, asStrs, asBls, newLs, n_Book_loss, bk.b, ht, hc, hr, hte, htec]
  refine ⟨trivial, rfl, b, x, pl, en, ps, es, rfl, bk, ?_⟩
  rcases hh with hh | ⟨e, h, ws, held, hx, ec, hl, hq⟩
  · exact .inr hh
  refine .inl ⟨_, hx, n, rfl, ?_⟩
  rw [refNum_2] at hq
  cases hrl : refLoss n with
  | some r => rw [hrl] at hq; exact hq
  | none =>
  rw [hrl] at hq
  simp only [outc, bk.b]
  exact ⟨trivial, rfl, b, x, pl, en, ps, es, n, 2, rfl, bk, by decide, .inr ⟨e, h, ws, held, hx, ec, hl, hq⟩⟩
end Bv

set_option pp.maxSteps 600
/-! Family A: deeds; what is refused. -/
namespace Bv
open PySem L2 PyProof.Rows
abbrev N3 := Int × Int × Int
def numV (n : N3) : Val := .tup [.int n.1, .int n.2.1, .int n.2.2]
def putN3 (n : N3) (k : Nat) (v : Int) : N3 := match k with
  | 0 => (v, n.2.1, n.2.2)
  | 1 => (n.1, v, n.2.2)
  | _ => (n.1, n.2.1, v)
structure Ha where
  nm : Str
  e : Addr
  h : Addr
  g : Addr
  gh : Addr
  n : N3
  held : Held
/-- a book beside the law's own lists of it -/
structure BM where
  b : Addr
  pl : Addr
  en : Addr
  pm : Addr
  em : Addr
  ps : List Str
  hs : List Ha
def entA (hs : List Ha) : List (Str × Val) := hs.map fun x => (x.nm, .ref x.e)
def modA (hs : List Ha) : List (Str × Val) := hs.map fun x => (x.nm, .ref x.g)
def BM.ns (m : BM) : List Str := m.hs.map (·.nm)
theorem entA_keys (hs : List Ha) : (entA hs).map (·.1) = hs.map (·.nm) := by unfold entA; rw [List.map_map]; rfl
theorem modA_keys (hs : List Ha) : (modA hs).map (·.1) = hs.map (·.nm) := by unfold modA; rw [List.map_map]; rfl
theorem entA_len (hs : List Ha) : (entA hs).length = hs.length := by unfold entA; rw [List.length_map]
theorem modA_len (hs : List Ha) : (modA hs).length = hs.length := by unfold modA; rw [List.length_map]
def hofL (hs : List Ha) (h : Str) : Option Ha := hs.find? fun x => decide (x.nm = h)
def hof (m : BM) (h : Str) : Option Ha := hofL m.hs h
theorem entA_get (hs : List Ha) (h : Str) : kget (entA hs) h = (hofL hs h).map fun x => .ref x.e := by
  unfold kget hofL entA
  rw [List.find?_map]
  have : ((fun kv : Str × Val => decide (kv.1 = h)) ∘ fun x : Ha => (x.nm, Val.ref x.e)) = fun x => decide (x.nm = h) := rfl
  rw [this]
  cases List.find? (fun x : Ha => decide (x.nm = h)) hs <;> rfl
theorem modA_get (hs : List Ha) (h : Str) : kget (modA hs) h = (hofL hs h).map fun x => .ref x.g := by
  unfold kget hofL modA
  rw [List.find?_map]
  have : ((fun kv : Str × Val => decide (kv.1 = h)) ∘ fun x : Ha => (x.nm, Val.ref x.g)) = fun x => decide (x.nm = h) := rfl
  rw [this]
  cases List.find? (fun x : Ha => decide (x.nm = h)) hs <;> rfl
theorem hof_mem {hs : List Ha} {h : Str} {x : Ha} (e : hofL hs h = some x) : x ∈ hs ∧ x.nm = h :=
  ⟨List.mem_of_find?_eq_some e, by
    have h1 : decide (x.nm = h) = true := List.find?_some (p := fun x : Ha => decide (x.nm = h)) e
    exact of_decide_eq_true h1⟩
theorem hof_of {hs : List Ha} (nd : (hs.map (·.nm)).Nodup) {x : Ha} (hx : x ∈ hs) : hofL hs x.nm = some x := by
  cases e : hofL hs x.nm with
  | none => exact absurd (by simp) (List.find?_eq_none.mp e x hx)
  | some y =>
    obtain ⟨h1, h2⟩ := hof_mem e
    rw [map_inj nd h1 hx h2]
theorem hof_none {hs : List Ha} {h : Str} (e : hofL hs h = none) : h ∉ hs.map (·.nm) := fun z => by
  obtain ⟨x, hx, hn⟩ := List.mem_map.mp z
  exact List.find?_eq_none.mp e x hx (by simp [hn])
inductive Deed where
  | person (n : Str)
  | house (n o : Str) (t k l : Int)
  | sale (h o r : Str) (s : Int × Int)
  | num (k : Nat) (h : Str) (n : Int)
def numK : Nat → Str
  | 0 => "things"
  | 1 => "mark"
  | _ => "loss"
def deedV : Deed → Val
  | .person n => .tup [.str "person", .str n]
  | .house n o t k l => .tup [.str "house", .str n, .str o, .int t, .int k, .int l]
  | .sale h o r s => .tup [.str "sale", .str h, .str o, .str r, frP s]
  | .num k h n => .tup [.str (numK k), .str h, .int n]
/-- the book -/
structure BkS (CB CE : Addr) (F : MH) (m : BM) : Prop where
  c : BkC CB F m.b m.pl m.en m.ps (entA m.hs)
  ent : ∀ x ∈ m.hs, EnC CE F x.e x.h (numV x.n) x.held
/-- the law's lists -/
structure MdS (F : MH) (m : BM) : Prop where
  pmc : F m.pm = some (.lst (m.ps.map .str))
  emc : dcOf F m.em = some (modA m.hs)
  gc : ∀ x ∈ m.hs, F x.g = some (.lst [.int x.n.1, .int x.n.2.1, .int x.n.2.2, .ref x.gh])
  ghc : ∀ x ∈ m.hs, F x.gh = some (.dict (hv x.held))
def BM.v (m : BM) : Val := .lst [.ref m.pm, .ref m.em]
def refu (m : BM) : Deed → Option Nat
  | .person n => refPerson m.ps m.ns n
  | .house n o _ _ l => refHouse m.ps m.ns n o l
  | .sale h o r s => match hof m h with
    | none => some 4
    | some x => refSale m.ps m.ns x.held o r s
  | .num k h n => match hof m h with
    | none => some 4
    | some _ => refNum k n
theorem refu_s0 {m : BM} {hn o r : Str} {s : Int × Int} (h : hof m hn = none) : refu m (.sale hn o r s) = some 4 := by
  show (match hof m hn with | none => some 4 | some x => refSale m.ps m.ns x.held o r s) = _
  rw [h]
theorem refu_s1 {m : BM} {hn o r : Str} {s : Int × Int} {x : Ha} (h : hof m hn = some x) : refu m (.sale hn o r s) = refSale m.ps m.ns x.held o r s := by
  show (match hof m hn with | none => some 4 | some x => refSale m.ps m.ns x.held o r s) = _
  rw [h]
theorem refu_n0 {m : BM} {k : Nat} {hn : Str} {n : Int} (h : hof m hn = none) : refu m (.num k hn n) = some 4 := by
  show (match hof m hn with | none => some 4 | some _ => refNum k n) = _
  rw [h]
theorem refu_n1 {m : BM} {k : Nat} {hn : Str} {n : Int} {x : Ha} (h : hof m hn = some x) : refu m (.num k hn n) = refNum k n := by
  show (match hof m hn with | none => some 4 | some _ => refNum k n) = _
  rw [h]
/-- what a deed wants that it be asked at all -/
def Can (m : BM) : Deed → Prop
  | .person n => Tx n ∧ m.ps.length ≤ 6
  | .house n o _ _ _ => Tx n ∧ m.hs.length ≤ 8
  | .sale h o r s => SmP s ∧ ∀ x, hof m h = some x → x.held.length < 1000 ∧ PrP ((hget x.held o).getD (0, 1)) s ∧ (refSale m.ps m.ns x.held o r s = none → PrP ((hget (hput x.held o (less ((hget x.held o).getD (0, 1)) s)) r).getD (0, 1)) s)
  | .num k h _ => k < 3
/-- the book behind a deed -/
def bookD (CE : Addr) (F : MH) (m : BM) (d : Deed) (q : MH → Prop) : Prop := match d with
  | .person n => q (mset F m.pl (.lst ((m.ps ++ [n]).map .str)))
  | .house n o t k l => ∀ h e, F h = none → F e = none → e ≠ h → q (mset (mset (mset F h (.dict [(o, frP (1, 1))])) e (.inst CE (entFs (.tup [.int t, .int k, .int l]) h))) m.en (.dict (entA m.hs ++ [(n, .ref e)])))
  | .sale hn o r s => ∀ x, hof m hn = some x → q (mset F x.h (.dict (hv (soldH x.held o r s))))
  | .num k hn v => ∀ x, hof m hn = some x → q (mset F x.e (.inst CE (entFs (numV (putN3 x.n k v)) x.h)))
theorem putN_numV (n : N3) {k : Nat} (hk : k < 3) (v : Int) : Val.tup (putN [.int n.1, .int n.2.1, .int n.2.2] k (.int v)) = numV (putN3 n k v) := by
  have : k = 0 ∨ k = 1 ∨ k = 2 := by omega
  rcases this with rfl | rfl | rfl <;> rfl
def spDeedX (X : Nat → Addr) (CB CE : Addr) : Spec := fun vs F Q E => ∃ m d, vs = [.ref m.b, deedV d] ∧ BkS CB CE F m ∧ Can m d ∧ outc X (refu m d) E F (bookD CE F m d fun F' => Q .non F')
theorem w_l_deed {Γ : Amb} {X : Nat → Addr} {CB CE : Addr} {tl : MethR Γ "loss"} {tm : MethR Γ "mark"} {tt : MethR Γ "things"} {ts : MethR Γ "sale"} {th : MethR Γ "house"} {tp : MethR Γ "person"} (h1 : tl.sp = spThingX 2 X CB CE) (h1c : tl.C = CB) (h2 : tm.sp = spThingX 1 X CB CE) (h2c : tm.C = CB) (h3 : tt.sp = spThingX 0 X CB CE) (h3c : tt.C = CB)
    (h4 : ts.sp = spSaleX X CB CE) (h4c : ts.C = CB) (h5 : th.sp = spHouseX X CB CE) (h5c : th.C = CB) (h6 : tp.sp = spPersonX X CB) (h6c : tp.C = CB) :
    ∀ vs F Q E, spDeedX X CB CE vs F Q E → wpB (fun C fs _ F => E C fs F) (c_l_deed tl tm tt ts th tp) (start1 n_l_deed vs) F (fun _ F => Q .non F) Q := by
  rintro vs F Q E ⟨m, d, rfl, bk, can, h⟩
  unfold c_l_deed
  have vp := vs_of "person"
  have vh := vs_of "house"
  have vsl := vs_of "sale"
  have vt := vs_of "things"
  have vm := vs_of "mark"
  have vl := vs_of "loss"
  simp only [wpB, wpS, wpE, wpEs, wpT, wpTs, wpCs, wpP, wpIt, wpBl, bindT, biS, recS, start1, List.map, List.length, List.replicate, List.append_nil, List.nil_append, List.cons_append, Nat.sub_self, Nat.reduceSub, Nat.reduceAdd, List.length_cons, List.length_nil, List.getElem?_cons_zero, List.getElem?_cons_succ, List.set_cons_zero, List.set_cons_succ, setAll, wipe1, Tg.slots, binS, subS, fdivS, modS, powS, cmpS, ltS, isS, isNS, asStrs, asBls, newLs, n_l_deed, bk.c.b, h1, h1c, h2, h2c, h3, h3c, h4, h4c, h5, h5c, h6, h6c]
  have f0 : ∀ (a : Str) (vs : List Val) (Q : Q1), Q (.str a) F → ixS (.tup (.str a :: vs)) (.int 0) F Q := fun a vs Q q => ix_tup (by decide) rfl q
  cases d with
  | person n =>
    refine f0 _ _ _ (eqS_str vp vp ?_)
    rw [decide_eq_true rfl]
    simp only [wpB, wpS, wpE, wpEs, wpT, wpTs, wpCs, wpP, wpIt, wpBl, bindT, biS, recS, start1, List.map, List.length, List.replicate, List.append_nil, List.nil_append, List.cons_append, Nat.sub_self, Nat.reduceSub, Nat.reduceAdd, List.length_cons, List.length_nil, List.getElem?_cons_zero, List.getElem?_cons_succ, List.set_cons_zero, List.set_cons_succ, setAll, wipe1, Tg.slots, binS, subS, fdivS, modS, powS, cmpS, ltS, isS, isNS, asStrs, asBls, newLs, bk.c.b]
    refine ⟨trivial, rfl, ix_tup (by decide) rfl ⟨m.b, n, m.pl, m.en, m.ps, entA m.hs, rfl, bk.c, can.1, can.2, ?_⟩⟩
    rw [entA_keys]
    exact h
  | house n o t k l =>
    refine f0 _ _ _ (eqS_str vh vp ?_)
    rw [decide_eq_false (by decide)]
    refine f0 _ _ _ (eqS_str vh vh ?_)
    rw [decide_eq_true rfl]
    simp only [wpB, wpS, wpE, wpEs, wpT, wpTs, wpCs, wpP, wpIt, wpBl, bindT, biS, recS, start1, List.map, List.length, List.replicate, List.append_nil, List.nil_append, List.cons_append, Nat.sub_self, Nat.reduceSub, Nat.reduceAdd, List.length_cons, List.length_nil, List.getElem?_cons_zero, List.getElem?_cons_succ, List.set_cons_zero, List.set_cons_succ, setAll, wipe1, Tg.slots, binS, subS, fdivS, modS, powS, cmpS, ltS, isS, isNS, asStrs, asBls, newLs, bk.c.b]
    refine ⟨trivial, rfl, ix_tup (by decide) rfl (ix_tup (by decide) rfl (ix_tup (by decide) rfl (ix_tup (by decide) rfl (ix_tup (by decide) rfl ⟨m.b, n, o, m.pl, m.en, m.ps, entA m.hs, t, k, l, rfl, bk.c, can.1, by rw [entA_len]; exact can.2, ?_⟩))))⟩
    rw [entA_keys]
    exact h
  | sale hn o r s =>
    refine f0 _ _ _ (eqS_str vsl vp ?_)
    rw [decide_eq_false (by decide)]
    refine f0 _ _ _ (eqS_str vsl vh ?_)
    rw [decide_eq_false (by decide)]
    refine f0 _ _ _ (eqS_str vsl vsl ?_)
    rw [decide_eq_true rfl]
    simp only [wpB, wpS, wpE, wpEs, wpT, wpTs, wpCs, wpP, wpIt, wpBl, bindT, biS, recS, start1, List.map, List.length, List.replicate, List.append_nil, List.nil_append, List.cons_append, Nat.sub_self, Nat.reduceSub, Nat.reduceAdd, List.length_cons, List.length_nil, List.getElem?_cons_zero, List.getElem?_cons_succ, List.set_cons_zero, List.set_cons_succ, setAll, wipe1, Tg.slots, binS, subS, fdivS, modS, powS, cmpS, ltS, isS, isNS, asStrs, asBls, newLs, bk.c.b]
    refine ⟨trivial, rfl, ix_tup (by decide) rfl (ix_tup (by decide) rfl (ix_tup (by decide) rfl (ix_tup (by decide) rfl ⟨m.b, hn, o, r, s, m.pl, m.en, m.ps, entA m.hs, rfl, bk.c, can.1, ?_⟩)))⟩
    have ke := entA_get m.hs hn
    cases hh : hof m hn with
    | none =>
      rw [refu_s0 hh] at h
      have hh : hofL m.hs hn = none := hh
      rw [hh] at ke
      exact .inl ⟨ke, h⟩
    | some x =>
      obtain ⟨a1, a2, a3⟩ := can.2 x hh
      rw [refu_s1 hh] at h
      have hh' : hofL m.hs hn = some x := hh
      rw [hh'] at ke
      refine .inr ⟨x.e, x.h, numV x.n, x.held, ke, bk.ent x (hof_mem hh').1, a1, a2, ?_, ?_⟩
      · rw [entA_keys]; exact a3
      · rw [entA_keys]
        have h : outc X (refSale m.ps m.ns x.held o r s) E F (bookD CE F m (.sale hn o r s) fun F' => Q .non F') := h
        show outc X (refSale m.ps m.ns x.held o r s) E F _
        cases hr : refSale m.ps m.ns x.held o r s with
        | some q => rw [hr] at h; exact h
        | none => rw [hr] at h; exact h x hh
  | num k hn v =>
    have hk : k < 3 := can
    have hk3 : k = 0 ∨ k = 1 ∨ k = 2 := by omega
    have ke := entA_get m.hs hn
    have fin : ∀ (E' : X1), (∀ C fs F, E C fs F → E' C fs F) → (kget (entA m.hs) hn = none ∧ E' (X 4) [] F) ∨ ∃ e h ws held, kget (entA m.hs) hn = some (.ref e) ∧ EnC CE F e h (.tup ws) held ∧ ws.length = 3 ∧ outc X (refNum k v) E' F (Q .non (mset F e (.inst CE (entFs (.tup (putN ws k (.int v))) h)))) := fun E' hE => by
      cases hh : hof m hn with
      | none =>
        rw [refu_n0 hh] at h
        have hh : hofL m.hs hn = none := hh
        rw [hh] at ke
        exact .inl ⟨ke, hE _ _ _ h⟩
      | some x =>
        rw [refu_n1 hh] at h
        have hh' : hofL m.hs hn = some x := hh
        rw [hh'] at ke
        refine .inr ⟨x.e, x.h, [.int x.n.1, .int x.n.2.1, .int x.n.2.2], x.held, ke, bk.ent x (hof_mem hh').1, rfl, ?_⟩
        have h : outc X (refNum k v) E F (bookD CE F m (.num k hn v) fun F' => Q .non F') := h
        rw [putN_numV x.n hk v]
        cases hr : refNum k v with
        | some q => rw [hr] at h; exact hE _ _ _ h
        | none => rw [hr] at h; exact h x hh
    rcases hk3 with rfl | rfl | rfl
    · refine f0 _ _ _ (eqS_str vt vp ?_)
      rw [decide_eq_false (by decide)]
      refine f0 _ _ _ (eqS_str vt vh ?_)
      rw [decide_eq_false (by decide)]
      refine f0 _ _ _ (eqS_str vt vsl ?_)
      rw [decide_eq_false (by decide)]
      refine f0 _ _ _ (eqS_str vt vt ?_)
      rw [decide_eq_true (show numK 0 = Str.ofString "things" from rfl)]
      simp only [wpB, wpS, wpE, wpEs, wpT, wpTs, wpCs, wpP, wpIt, wpBl, bindT, biS, recS, start1, List.map, List.length, List.replicate, List.append_nil, List.nil_append, List.cons_append, Nat.sub_self, Nat.reduceSub, Nat.reduceAdd, List.length_cons, List.length_nil, List.getElem?_cons_zero, List.getElem?_cons_succ, List.set_cons_zero, List.set_cons_succ, setAll, wipe1, Tg.slots, binS, subS, fdivS, modS, powS, cmpS, ltS, isS, isNS, asStrs, asBls, newLs, bk.c.b]
      exact ⟨trivial, rfl, ix_tup (by decide) rfl (ix_tup (by decide) rfl ⟨m.b, hn, m.pl, m.en, m.ps, entA m.hs, v, rfl, bk.c, fin _ (fun _ _ _ h => h)⟩)⟩
    · refine f0 _ _ _ (eqS_str vm vp ?_)
      rw [decide_eq_false (by decide)]
      refine f0 _ _ _ (eqS_str vm vh ?_)
      rw [decide_eq_false (by decide)]
      refine f0 _ _ _ (eqS_str vm vsl ?_)
      rw [decide_eq_false (by decide)]
      refine f0 _ _ _ (eqS_str vm vt ?_)
      rw [decide_eq_false (by decide)]
      refine f0 _ _ _ (eqS_str vm vm ?_)
      rw [decide_eq_true (show numK 1 = Str.ofString "mark" from rfl)]
      simp only [wpB, wpS, wpE, wpEs, wpT, wpTs, wpCs, wpP, wpIt, wpBl, bindT, biS, recS, start1, List.map, List.length, List.replicate, List.append_nil, List.nil_append, List.cons_append, Nat.sub_self, Nat.reduceSub, Nat.reduceAdd, List.length_cons, List.length_nil, List.getElem?_cons_zero, List.getElem?_cons_succ, List.set_cons_zero, List.set_cons_succ, setAll, wipe1, Tg.slots, binS, subS, fdivS, modS, powS, cmpS, ltS, isS, isNS, asStrs, asBls, newLs, bk.c.b]
      exact ⟨trivial, rfl, ix_tup (by decide) rfl (ix_tup (by decide) rfl ⟨m.b, hn, m.pl, m.en, m.ps, entA m.hs, v, rfl, bk.c, fin _ (fun _ _ _ h => h)⟩)⟩
    · refine f0 _ _ _ (eqS_str vl vp ?_)
      rw [decide_eq_false (by decide)]
      refine f0 _ _ _ (eqS_str vl vh ?_)
      rw [decide_eq_false (by decide)]
      refine f0 _ _ _ (eqS_str vl vsl ?_)
      rw [decide_eq_false (by decide)]
      refine f0 _ _ _ (eqS_str vl vt ?_)
      rw [decide_eq_false (by decide)]
      refine f0 _ _ _ (eqS_str vl vm ?_)
      rw [decide_eq_false (by decide)]
      simp only [wpB, wpS, wpE, wpEs, wpT, wpTs, wpCs, wpP, wpIt, wpBl, bindT, biS, recS, start1, List.map, List.length, List.replicate, List.append_nil, List.nil_append, List.cons_append, Nat.sub_self, Nat.reduceSub, Nat.reduceAdd, List.length_cons, List.length_nil, List.getElem?_cons_zero, List.getElem?_cons_succ, List.set_cons_zero, List.set_cons_succ, setAll, wipe1, Tg.slots, binS, subS, fdivS, modS, powS, cmpS, ltS, isS, isNS, asStrs, asBls, newLs, bk.c.b]
      exact ⟨trivial, rfl, ix_tup (by decide) rfl (ix_tup (by decide) rfl ⟨m.b, hn, m.pl, m.en, m.ps, entA m.hs, v, rfl, bk.c, fin _ (fun _ _ _ h => h)⟩)⟩
/-! ### a deed tried -/
def spDid (X : Nat → Addr) (CB CE : Addr) : Spec := fun vs F Q _ => ∃ m d, vs = [.ref m.b, deedV d] ∧ BkS CB CE F m ∧ Can m d ∧ (match refu m d with
  | some r => ∀ p, F p = none → Q (.lst [.int 0, .ref p]) (mset F p (.exn (X r) []))
  | none => bookD CE F m d fun F' => Q (.lst [.non, .non]) F')
theorem bookD_mono {CE : Addr} {F : MH} {m : BM} {d : Deed} {q q' : MH → Prop} (h : bookD CE F m d q) (hq : ∀ F, q F → q' F) : bookD CE F m d q' := by
  cases d with
  | person n => exact hq _ h
  | house n o t k l => exact fun a b h1 h2 h3 => hq _ (h a b h1 h2 h3)
  | sale hn o r s => exact fun x hx => hq _ (h x hx)
  | num k hn v => exact fun x hx => hq _ (h x hx)
theorem w_l_did {Γ : Amb} {X : Nat → Addr} {CB CE : Addr} {eO : ExR Γ "OwnError"} {rd : CallR1 Γ "_law_deed"} (ho : ∀ r, eO.ans (X r) = some true) (h1 : rd.sp = spDeedX X CB CE) :
    ∀ vs F Q E, spDid X CB CE vs F Q E → wpB (fun C fs _ F => E C fs F) (c_l_did eO rd) (start1 n_l_did vs) F (fun _ F => Q .non F) Q := by
  rintro vs F Q E ⟨m, d, rfl, bk, can, h⟩
  unfold c_l_did
  simp only [wpB, wpS, wpE, wpEs, wpT, wpTs, wpCs, wpP, wpIt, wpBl, bindT, biS, recS, start1, List.map, List.length, List.replicate, List.append_nil, List.nil_append, List.cons_append, Nat.sub_self, Nat.reduceSub, Nat.reduceAdd, List.length_cons, List.length_nil, List.getElem?_cons_zero, List.getElem?_cons_succ, List.set_cons_zero, List.set_cons_succ, setAll, wipe1, Tg.slots, binS, subS, fdivS, modS, powS, cmpS, ltS, isS, isNS, asStrs, asBls, newLs, n_l_did, h1]
  refine ⟨m, d, rfl, bk, can, ?_⟩
  cases hr : refu m d with
  | some r =>
    rw [hr] at h
    simp only [outc, ho]
    intro p hp
    exact ⟨by rw [sizeLine_eq]; decide, h p hp⟩
  | none =>
    rw [hr] at h
    exact bookD_mono h fun F' q => ⟨by rw [sizeLine_eq]; decide, q⟩
end Bv

set_option pp.maxSteps 600
/-! Family A: which refusal; what is due; the law's lists changed. -/
namespace Bv
open PySem L2 PyProof.Rows
def resV (o : Option Nat) : Val := .lst (o.toList.map fun (r : Nat) => Val.int (r : Int))
theorem mul_lst {r : Nat} {c : Bool} {F : MH} {Q : Q1} (q : Q (resV (if c = true then some r else none)) F) : mulS (.lst [.int (r : Int)]) (.int (if c = true then 1 else 0)) F Q := by
  cases c with
  | true => exact ⟨by decide, by decide, by rw [sizeLine_eq]; show (1 : Nat) ≤ _; decide, q⟩
  | false => exact ⟨by decide, by decide, by rw [sizeLine_eq]; show (0 : Nat) ≤ _; decide, q⟩
theorem ifO_dec {c : Prop} [Decidable c] {r : Nat} : (if decide c = true then some r else none) = ifO c r := by
  unfold ifO
  by_cases h : c <;> simp [h]
def spWhichX (X : Nat → Addr) : Spec := fun vs F Q _ => ∃ p r, vs = [.ref p] ∧ r < 7 ∧ F p = some (.exn (X r) []) ∧ Q (.lst [.int (r : Int)]) F
theorem w_l_whichX {Γ : Amb} {X : Nat → Addr} {iV : IsR Γ "ValueError"} {iO : IsR Γ "OwnError"} {iT : IsR Γ "NoText"} {iW : IsR Γ "Whole"} {iN : IsR Γ "NoHouse"} {iL : IsR Γ "NoLoss"} {iS : IsR Γ "NoShare"} {iA : IsR Γ "NoName"} {iD : IsR Γ "Twice"} {iM : IsR Γ "TooMany"} {iH : IsR Γ "NoHolder"}
    (hx : ∀ r, r < 7 → ExcC Γ.K (X r)) (eV : ∀ r, r < 7 → iV.ans (.ref (X r)) = some true) (eO : ∀ r, r < 7 → iO.ans (.ref (X r)) = some true)
    (e0 : ∀ r, r < 7 → iA.ans (.ref (X r)) = some (decide (r = 0))) (e1 : ∀ r, r < 7 → iD.ans (.ref (X r)) = some (decide (r = 1))) (e2 : ∀ r, r < 7 → iM.ans (.ref (X r)) = some (decide (r = 2))) (e3 : ∀ r, r < 7 → iH.ans (.ref (X r)) = some (decide (r = 3)))
    (e4 : ∀ r, r < 7 → iN.ans (.ref (X r)) = some (decide (r = 4))) (e5 : ∀ r, r < 7 → iL.ans (.ref (X r)) = some (decide (r = 5))) (e6 : ∀ r, r < 7 → iS.ans (.ref (X r)) = some (decide (r = 6))) (e7 : ∀ r, r < 7 → iT.ans (.ref (X r)) = some (decide (r = 7))) (e8 : ∀ r, r < 7 → iW.ans (.ref (X r)) = some (decide (r = 8))) :
    ∀ vs F Q E, spWhichX X vs F Q E → wpB (fun C fs _ F => E C fs F) (c_l_which iV iO iT iW iN iL iS iA iD iM iH) (start1 n_l_which vs) F (fun _ F => Q .non F) Q := by
  rintro vs F Q E ⟨p, r, rfl, hr, hp, hq⟩
  unfold c_l_which
  have ty : ∀ Q : Value → Prop, Q (.ref (X r)) → tyS Γ.K (.ref p) F Q := fun Q q => by
    simp only [tyS, hp]
    exact ⟨hx r hr, trivial, q⟩
  simp only [wpB, wpS, wpE, wpEs, wpT, wpTs, wpCs, wpP, wpIt, wpBl, bindT, biS, recS, truS, start1, List.map, List.length, List.replicate, List.append_nil, List.nil_append, List.cons_append, Nat.sub_self, Nat.reduceSub, Nat.reduceAdd, List.length_cons, List.length_nil, List.getElem?_cons_zero, List.getElem?_cons_succ, List.set_cons_zero, List.set_cons_succ, setAll, wipe1, Tg.slots, binS, subS, fdivS, modS, powS, cmpS, ltS, isS, isNS, asStrs, asBls, newLs, n_l_which]
  refine ty _ ?_
  rw [e0 r hr]
  refine ty _ ?_
  rw [e1 r hr]
  refine ty _ ?_
  rw [e2 r hr]
  refine ty _ ?_
  rw [e3 r hr]
  refine ⟨by rw [sizeLine_eq]; decide, ?_⟩
  refine ty _ ?_
  rw [e4 r hr]
  refine ty _ ?_
  rw [e5 r hr]
  refine ty _ ?_
  rw [e6 r hr]
  refine ⟨by rw [sizeLine_eq]; decide, add_ls rfl rfl (by rw [sizeLine_eq]; simp) ?_⟩
  refine ty _ ?_
  rw [e7 r hr]
  refine ty _ ?_
  rw [e8 r hr]
  refine ⟨by rw [sizeLine_eq]; decide, add_ls rfl rfl (by rw [sizeLine_eq]; simp) ?_⟩
  refine ty _ ?_
  rw [eV r hr]
  simp only [truS, Bool.not_true]
  refine ty _ ?_
  rw [eO r hr]
  simp only [truS, Bool.not_true, wpB, wpS, wpE, wpEs, wpT, wpTs, wpCs, wpP, wpIt, wpBl, bindT, biS, recS, truS, start1, List.map, List.length, List.replicate, List.append_nil, List.nil_append, List.cons_append, Nat.sub_self, Nat.reduceSub, Nat.reduceAdd, List.length_cons, List.length_nil, List.getElem?_cons_zero, List.getElem?_cons_succ, List.set_cons_zero, List.set_cons_succ, setAll, wipe1, Tg.slots, binS, subS, fdivS, modS, powS, cmpS, ltS, isS, isNS, asStrs, asBls, newLs]
  refine ⟨by decide, by decide, ?_⟩
  have L9 : ∀ i : Nat, i < 9 → ([Val.bl (decide (r = 0)), .bl (decide (r = 1)), .bl (decide (r = 2)), .bl (decide (r = 3))] ++ [.bl (decide (r = 4)), .bl (decide (r = 5)), .bl (decide (r = 6))] ++ [.bl (decide (r = 7)), .bl (decide (r = 8))])[i]? = some (.bl (decide (r = i))) := fun i hi => by
    have : i = 0 ∨ i = 1 ∨ i = 2 ∨ i = 3 ∨ i = 4 ∨ i = 5 ∨ i = 6 ∨ i = 7 ∨ i = 8 := by omega
    rcases this with rfl | rfl | rfl | rfl | rfl | rfl | rfl | rfl | rfl <;> rfl
  refine lcGo_inv (fun i acc F1 => F1 = F ∧ acc = (((List.range i).filter fun k => decide (r = k)).map fun (k : Nat) => Val.int (k : Int))) (by rw [rng_len, sizeLine_eq]; decide) (fun _ _ _ _ => trivial) ?_ ?_ ⟨rfl, rfl⟩
  · rintro i w acc F1 k hw ⟨rfl, rfl⟩ hk hk2
    obtain ⟨rfl, hi⟩ := range_item0 hw
    have hi : i < 9 := hi
    try simp only [wpB, wpS, wpE, wpEs, wpT, wpTs, wpCs, wpP, wpIt, wpBl, bindT, biS, recS, truS, start1, List.map, List.length, List.replicate, List.append_nil, List.nil_append, List.cons_append, Nat.sub_self, Nat.reduceSub, Nat.reduceAdd, List.length_cons, List.length_nil, List.getElem?_cons_zero, List.getElem?_cons_succ, List.set_cons_zero, List.set_cons_succ, setAll, wipe1, Tg.slots, binS, subS, fdivS, modS, powS, cmpS, ltS, isS, isNS, asStrs, asBls, newLs]
    refine ix_list rfl (by omega) (v := .bl (decide (r = i))) (by rw [Int.toNat_natCast]; exact L9 i hi) ?_
    by_cases hg : r = i
    · rw [decide_eq_true hg]
      refine hk _ _ ⟨rfl, ?_⟩
      rw [List.range_succ, List.filter_append, List.map_append]
      simp only [List.filter_cons, decide_eq_true hg, if_true, List.filter_nil, List.map_cons, List.map_nil]
    · rw [decide_eq_false hg]
      refine hk2 _ ⟨rfl, ?_⟩
      rw [List.range_succ, List.filter_append, List.map_append]
      simp only [List.filter_cons, decide_eq_false hg, List.filter_nil, List.map_nil, List.append_nil]
      simp
  · rintro acc F1 ⟨rfl, rfl⟩
    have : ((List.range (rngV 0 (Int.toNat 9)).length).filter fun k => decide (r = k)).map (fun (k : Nat) => Val.int (k : Int)) = [.int (r : Int)] := by
      rw [rng_len]
      have h7 : r = 0 ∨ r = 1 ∨ r = 2 ∨ r = 3 ∨ r = 4 ∨ r = 5 ∨ r = 6 := by omega
      rcases h7 with rfl | rfl | rfl | rfl | rfl | rfl | rfl <;> rfl
    rw [this]
    exact hq
/-- the law's way to its lists -/
theorem ul_model {m : BM} {F : MH} : lsOf F m.v = some [.ref m.pm, .ref m.em] := rfl
def CanR (m : BM) : Deed → Prop
  | .person n => Tx n
  | .house n o _ _ _ => Tx n
  | .sale h o r s => SmP s ∧ ∀ x, hof m h = some x → SmP ((hget x.held o).getD (0, 1))
  | .num k h _ => k < 3
def spRefusal : Spec := fun vs F Q _ => ∃ m d, vs = [m.v, deedV d] ∧ MdS F m ∧ F m.em = some (.dict (modA m.hs)) ∧ CanR m d ∧ Q (resV (refu m d)) F
theorem in_ps {F : MH} {m : BM} (md : MdS F m) {x : Str} {R : Bool → Prop} (h : R (decide (x ∈ m.ps))) : inS (.str x) (.ref m.pm) F R := in_strs (l := m.ps) (by simp only [lsOf, md.pmc]) h
theorem in_es {F : MH} {m : BM} (md : MdS F m) {x : Str} {R : Bool → Prop} (h : R (decide (x ∈ m.ns))) : inS (.str x) (.ref m.em) F R := inS_d (kvs := modA m.hs) md.emc (by rw [kget_isSome, modA_keys]; exact h)
theorem len_ps {F : MH} {m : BM} (md : MdS F m) {Q : Q1} (h : Q (.int (m.ps.length : Nat)) F) : lenS (.ref m.pm) F Q := len_ls (vs := m.ps.map .str) (by simp only [lsOf, md.pmc]) (by rw [List.length_map]; exact h)
theorem w_l_refusal {Γ : Amb} {rl : CallR1 Γ "_law_lesser"} {rn : CallR1 Γ "_law_is_name"} (h1 : rl.sp = spLess) (h2 : rn.sp = spIsNameX) : ∀ vs F Q E, spRefusal vs F Q E → wpB (fun C fs _ F => E C fs F) (c_l_refusal rl rn) (start1 n_l_refusal vs) F (fun _ F => Q .non F) Q := by
  rintro vs F Q E ⟨m, d, rfl, md, hem, can, h⟩
  unfold c_l_refusal
  have vp := vs_of "person"
  have vh := vs_of "house"
  have vsl := vs_of "sale"
  have vt := vs_of "things"
  have vm := vs_of "mark"
  have vl := vs_of "loss"
  simp only [wpB, wpS, wpE, wpEs, wpT, wpTs, wpCs, wpP, wpIt, wpBl, bindT, biS, recS, start1, List.map, List.length, List.replicate, List.append_nil, List.nil_append, List.cons_append, Nat.sub_self, Nat.reduceSub, Nat.reduceAdd, List.length_cons, List.length_nil, List.getElem?_cons_zero, List.getElem?_cons_succ, List.set_cons_zero, List.set_cons_succ, setAll, wipe1, Tg.slots, binS, subS, fdivS, modS, powS, cmpS, ltS, isS, isNS, asStrs, asBls, newLs, n_l_refusal, h1, h2, ul_model]
  refine ⟨trivial, ?_⟩
  have f0 : ∀ (a : Str) (vs : List Val) (Q : Q1), Q (.str a) F → ixS (.tup (.str a :: vs)) (.int 0) F Q := fun a vs Q q => ix_tup (by decide) rfl q
  have int_bl : ∀ (c : Bool) (Q : Q1), Q (.int (if c = true then 1 else 0)) F → intS (.bl c) F Q := fun c Q q => q
  cases d with
  | person n =>
    have can : Tx n := can
    refine f0 _ _ _ (eqS_str vp vp ?_)
    rw [decide_eq_true rfl]
    simp only [wpB, wpS, wpE, wpEs, wpT, wpTs, wpCs, wpP, wpIt, wpBl, bindT, biS, recS, start1, List.map, List.length, List.replicate, List.append_nil, List.nil_append, List.cons_append, Nat.sub_self, Nat.reduceSub, Nat.reduceAdd, List.length_cons, List.length_nil, List.getElem?_cons_zero, List.getElem?_cons_succ, List.set_cons_zero, List.set_cons_succ, setAll, wipe1, Tg.slots, binS, subS, fdivS, modS, powS, cmpS, ltS, isS, isNS, asStrs, asBls, newLs]
    refine ix_tup (by decide) rfl ⟨n, rfl, can, ?_⟩
    have h : Q (resV (refPerson m.ps m.ns n)) F := h
    unfold refPerson refNew at h
    cases hn : nameB n with
    | false =>
      rw [ifO_t hn] at h
      simp only [truS, Bool.not_false, wpB, wpS, wpE, wpEs, wpT, wpTs, wpCs, wpP, wpIt, wpBl, bindT, biS, recS, start1, List.map, List.length, List.replicate, List.append_nil, List.nil_append, List.cons_append, Nat.sub_self, Nat.reduceSub, Nat.reduceAdd, List.length_cons, List.length_nil, List.getElem?_cons_zero, List.getElem?_cons_succ, List.set_cons_zero, List.set_cons_succ, setAll, wipe1, Tg.slots, binS, subS, fdivS, modS, powS, cmpS, ltS, isS, isNS, asStrs, asBls, newLs]
      exact ⟨by rw [sizeLine_eq]; decide, h⟩
    | true =>
    rw [ifO_f (by rw [hn]; decide)] at h
    simp only [truS, Bool.not_true, wpB, wpS, wpE, wpEs, wpT, wpTs, wpCs, wpP, wpIt, wpBl, bindT, biS, recS, start1, List.map, List.length, List.replicate, List.append_nil, List.nil_append, List.cons_append, Nat.sub_self, Nat.reduceSub, Nat.reduceAdd, List.length_cons, List.length_nil, List.getElem?_cons_zero, List.getElem?_cons_succ, List.set_cons_zero, List.set_cons_succ, setAll, wipe1, Tg.slots, binS, subS, fdivS, modS, powS, cmpS, ltS, isS, isNS, asStrs, asBls, newLs]
    refine ix_tup (by decide) rfl (in_ps md ?_)
    by_cases hp : n ∈ m.ps
    · rw [decide_eq_true hp]
      rw [ifO_t (.inl hp)] at h
      simp only [wpB, wpS, wpE, wpEs, wpT, wpTs, wpCs, wpP, wpIt, wpBl, bindT, biS, recS, start1, List.map, List.length, List.replicate, List.append_nil, List.nil_append, List.cons_append, Nat.sub_self, Nat.reduceSub, Nat.reduceAdd, List.length_cons, List.length_nil, List.getElem?_cons_zero, List.getElem?_cons_succ, List.set_cons_zero, List.set_cons_succ, setAll, wipe1, Tg.slots, binS, subS, fdivS, modS, powS, cmpS, ltS, isS, isNS, asStrs, asBls, newLs]
      exact ⟨by rw [sizeLine_eq]; decide, h⟩
    rw [decide_eq_false hp]
    refine ix_tup (by decide) rfl (in_es md ?_)
    by_cases he : n ∈ m.ns
    · rw [decide_eq_true he]
      rw [ifO_t (.inr he)] at h
      simp only [wpB, wpS, wpE, wpEs, wpT, wpTs, wpCs, wpP, wpIt, wpBl, bindT, biS, recS, start1, List.map, List.length, List.replicate, List.append_nil, List.nil_append, List.cons_append, Nat.sub_self, Nat.reduceSub, Nat.reduceAdd, List.length_cons, List.length_nil, List.getElem?_cons_zero, List.getElem?_cons_succ, List.set_cons_zero, List.set_cons_succ, setAll, wipe1, Tg.slots, binS, subS, fdivS, modS, powS, cmpS, ltS, isS, isNS, asStrs, asBls, newLs]
      exact ⟨by rw [sizeLine_eq]; decide, h⟩
    rw [decide_eq_false he]
    rw [ifO_f (by rintro (q | q); exact hp q; exact he q)] at h
    have h : Q (resV (ifO (m.ps.length = 6) 2)) F := h
    simp only [wpB, wpS, wpE, wpEs, wpT, wpTs, wpCs, wpP, wpIt, wpBl, bindT, biS, recS, start1, List.map, List.length, List.replicate, List.append_nil, List.nil_append, List.cons_append, Nat.sub_self, Nat.reduceSub, Nat.reduceAdd, List.length_cons, List.length_nil, List.getElem?_cons_zero, List.getElem?_cons_succ, List.set_cons_zero, List.set_cons_succ, setAll, wipe1, Tg.slots, binS, subS, fdivS, modS, powS, cmpS, ltS, isS, isNS, asStrs, asBls, newLs]
    refine f0 _ _ _ (eqS_str vp vp ?_)
    rw [decide_eq_true rfl]
    simp only [wpB, wpS, wpE, wpEs, wpT, wpTs, wpCs, wpP, wpIt, wpBl, bindT, biS, recS, start1, List.map, List.length, List.replicate, List.append_nil, List.nil_append, List.cons_append, Nat.sub_self, Nat.reduceSub, Nat.reduceAdd, List.length_cons, List.length_nil, List.getElem?_cons_zero, List.getElem?_cons_succ, List.set_cons_zero, List.set_cons_succ, setAll, wipe1, Tg.slots, binS, subS, fdivS, modS, powS, cmpS, ltS, isS, isNS, asStrs, asBls, newLs]
    refine ⟨by rw [sizeLine_eq]; decide, len_ps md (eqS_i (int_bl _ _ (mul_lst (r := 2) ?_)))⟩
    have e6 : decide ((m.ps.length : Int) = 6) = decide (m.ps.length = 6) := by
      by_cases q : m.ps.length = 6
      · rw [decide_eq_true q, decide_eq_true (by omega)]
      · rw [decide_eq_false q, decide_eq_false (by omega)]
    rw [e6, ifO_dec]
    exact h
  | house n o t k l =>
    have can : Tx n := can
    refine f0 _ _ _ (eqS_str vh vp ?_)
    rw [decide_eq_false (by decide)]
    refine f0 _ _ _ (eqS_str vh vh ?_)
    rw [decide_eq_true rfl]
    simp only [wpB, wpS, wpE, wpEs, wpT, wpTs, wpCs, wpP, wpIt, wpBl, bindT, biS, recS, start1, List.map, List.length, List.replicate, List.append_nil, List.nil_append, List.cons_append, Nat.sub_self, Nat.reduceSub, Nat.reduceAdd, List.length_cons, List.length_nil, List.getElem?_cons_zero, List.getElem?_cons_succ, List.set_cons_zero, List.set_cons_succ, setAll, wipe1, Tg.slots, binS, subS, fdivS, modS, powS, cmpS, ltS, isS, isNS, asStrs, asBls, newLs]
    refine ix_tup (by decide) rfl ⟨n, rfl, can, ?_⟩
    have h : Q (resV (refHouse m.ps m.ns n o l)) F := h
    unfold refHouse refNew at h
    cases hn : nameB n with
    | false =>
      rw [ifO_t hn] at h
      simp only [truS, Bool.not_false, wpB, wpS, wpE, wpEs, wpT, wpTs, wpCs, wpP, wpIt, wpBl, bindT, biS, recS, start1, List.map, List.length, List.replicate, List.append_nil, List.nil_append, List.cons_append, Nat.sub_self, Nat.reduceSub, Nat.reduceAdd, List.length_cons, List.length_nil, List.getElem?_cons_zero, List.getElem?_cons_succ, List.set_cons_zero, List.set_cons_succ, setAll, wipe1, Tg.slots, binS, subS, fdivS, modS, powS, cmpS, ltS, isS, isNS, asStrs, asBls, newLs]
      exact ⟨by rw [sizeLine_eq]; decide, h⟩
    | true =>
    rw [ifO_f (by rw [hn]; decide)] at h
    simp only [truS, Bool.not_true, wpB, wpS, wpE, wpEs, wpT, wpTs, wpCs, wpP, wpIt, wpBl, bindT, biS, recS, start1, List.map, List.length, List.replicate, List.append_nil, List.nil_append, List.cons_append, Nat.sub_self, Nat.reduceSub, Nat.reduceAdd, List.length_cons, List.length_nil, List.getElem?_cons_zero, List.getElem?_cons_succ, List.set_cons_zero, List.set_cons_succ, setAll, wipe1, Tg.slots, binS, subS, fdivS, modS, powS, cmpS, ltS, isS, isNS, asStrs, asBls, newLs]
    refine ix_tup (by decide) rfl (in_ps md ?_)
    by_cases hp : n ∈ m.ps
    · rw [decide_eq_true hp]
      rw [ifO_t (.inl hp)] at h
      simp only [wpB, wpS, wpE, wpEs, wpT, wpTs, wpCs, wpP, wpIt, wpBl, bindT, biS, recS, start1, List.map, List.length, List.replicate, List.append_nil, List.nil_append, List.cons_append, Nat.sub_self, Nat.reduceSub, Nat.reduceAdd, List.length_cons, List.length_nil, List.getElem?_cons_zero, List.getElem?_cons_succ, List.set_cons_zero, List.set_cons_succ, setAll, wipe1, Tg.slots, binS, subS, fdivS, modS, powS, cmpS, ltS, isS, isNS, asStrs, asBls, newLs]
      exact ⟨by rw [sizeLine_eq]; decide, h⟩
    rw [decide_eq_false hp]
    refine ix_tup (by decide) rfl (in_es md ?_)
    by_cases he : n ∈ m.ns
    · rw [decide_eq_true he]
      rw [ifO_t (.inr he)] at h
      simp only [wpB, wpS, wpE, wpEs, wpT, wpTs, wpCs, wpP, wpIt, wpBl, bindT, biS, recS, start1, List.map, List.length, List.replicate, List.append_nil, List.nil_append, List.cons_append, Nat.sub_self, Nat.reduceSub, Nat.reduceAdd, List.length_cons, List.length_nil, List.getElem?_cons_zero, List.getElem?_cons_succ, List.set_cons_zero, List.set_cons_succ, setAll, wipe1, Tg.slots, binS, subS, fdivS, modS, powS, cmpS, ltS, isS, isNS, asStrs, asBls, newLs]
      exact ⟨by rw [sizeLine_eq]; decide, h⟩
    rw [decide_eq_false he]
    rw [ifO_f (by rintro (q | q); exact hp q; exact he q)] at h
    have h : Q (resV (thenO (refHold m.ps m.ns o) (thenO (refLoss l) (ifO (m.ns.length = 8) 2)))) F := h
    simp only [wpB, wpS, wpE, wpEs, wpT, wpTs, wpCs, wpP, wpIt, wpBl, bindT, biS, recS, start1, List.map, List.length, List.replicate, List.append_nil, List.nil_append, List.cons_append, Nat.sub_self, Nat.reduceSub, Nat.reduceAdd, List.length_cons, List.length_nil, List.getElem?_cons_zero, List.getElem?_cons_succ, List.set_cons_zero, List.set_cons_succ, setAll, wipe1, Tg.slots, binS, subS, fdivS, modS, powS, cmpS, ltS, isS, isNS, asStrs, asBls, newLs]
    refine f0 _ _ _ (eqS_str vh vp ?_)
    rw [decide_eq_false (by decide)]
    simp only [wpB, wpS, wpE, wpEs, wpT, wpTs, wpCs, wpP, wpIt, wpBl, bindT, biS, recS, start1, List.map, List.length, List.replicate, List.append_nil, List.nil_append, List.cons_append, Nat.sub_self, Nat.reduceSub, Nat.reduceAdd, List.length_cons, List.length_nil, List.getElem?_cons_zero, List.getElem?_cons_succ, List.set_cons_zero, List.set_cons_succ, setAll, wipe1, Tg.slots, binS, subS, fdivS, modS, powS, cmpS, ltS, isS, isNS, asStrs, asBls, newLs]
    refine ix_tup (by decide) rfl (in_ps md ?_)
    unfold refHold at h
    by_cases hop : o ∈ m.ps
    · rw [decide_eq_true hop]
      rw [ifO_f (fun z => z (.inl hop))] at h
      have h : Q (resV (thenO (refLoss l) (ifO (m.ns.length = 8) 2))) F := h
      simp only [Bool.not_true]
      refine ix_tup (by decide) rfl ?_
      simp only []
      unfold refLoss at h
      by_cases hl : l < 0
      · rw [decide_eq_true hl]
        rw [ifO_t hl] at h
        exact ⟨by rw [sizeLine_eq]; decide, h⟩
      · rw [decide_eq_false hl]
        rw [ifO_f hl] at h
        have h : Q (resV (ifO (m.ns.length = 8) 2)) F := h
        refine ⟨by rw [sizeLine_eq]; decide, ?_⟩
        simp only [lenS, lsOf, hem]
        refine eqS_i (int_bl _ _ (mul_lst (r := 2) ?_))
        have e8 : decide (((modA m.hs).length : Int) = 8) = decide (m.ns.length = 8) := by
          have e9 : (modA m.hs).length = m.ns.length := by rw [modA_len]; unfold BM.ns; rw [List.length_map]
          rw [e9]
          by_cases q : m.ns.length = 8
          · rw [decide_eq_true q, decide_eq_true (by omega)]
          · rw [decide_eq_false q, decide_eq_false (by omega)]
        rw [e8, ifO_dec]
        exact h
    · rw [decide_eq_false hop]
      simp only [Bool.not_false]
      refine ix_tup (by decide) rfl (in_es md ?_)
      by_cases hoe : o ∈ m.ns
      · rw [decide_eq_true hoe]
        rw [ifO_f (fun z => z (.inr hoe))] at h
        have h : Q (resV (thenO (refLoss l) (ifO (m.ns.length = 8) 2))) F := h
        simp only [Bool.not_true]
        refine ix_tup (by decide) rfl ?_
        simp only []
        unfold refLoss at h
        by_cases hl : l < 0
        · rw [decide_eq_true hl]
          rw [ifO_t hl] at h
          exact ⟨by rw [sizeLine_eq]; decide, h⟩
        · rw [decide_eq_false hl]
          rw [ifO_f hl] at h
          have h : Q (resV (ifO (m.ns.length = 8) 2)) F := h
          refine ⟨by rw [sizeLine_eq]; decide, ?_⟩
          simp only [lenS, lsOf, hem]
          refine eqS_i (int_bl _ _ (mul_lst (r := 2) ?_))
          have e8 : decide (((modA m.hs).length : Int) = 8) = decide (m.ns.length = 8) := by
            have e9 : (modA m.hs).length = m.ns.length := by rw [modA_len]; unfold BM.ns; rw [List.length_map]
            rw [e9]
            by_cases q : m.ns.length = 8
            · rw [decide_eq_true q, decide_eq_true (by omega)]
            · rw [decide_eq_false q, decide_eq_false (by omega)]
          rw [e8, ifO_dec]
          exact h
      · rw [decide_eq_false hoe]
        rw [ifO_t (by rintro (q | q); exact hop q; exact hoe q)] at h
        simp only [Bool.not_false]
        exact ⟨by rw [sizeLine_eq]; decide, h⟩
  | sale hn o r s =>
    obtain ⟨sms, can⟩ := (show SmP s ∧ ∀ x, hof m hn = some x → SmP ((hget x.held o).getD (0, 1)) from can)
    refine f0 _ _ _ (eqS_str vsl vp ?_)
    rw [decide_eq_false (by decide)]
    refine f0 _ _ _ (eqS_str vsl vh ?_)
    rw [decide_eq_false (by decide)]
    simp only [wpB, wpS, wpE, wpEs, wpT, wpTs, wpCs, wpP, wpIt, wpBl, bindT, biS, recS, start1, List.map, List.length, List.replicate, List.append_nil, List.nil_append, List.cons_append, Nat.sub_self, Nat.reduceSub, Nat.reduceAdd, List.length_cons, List.length_nil, List.getElem?_cons_zero, List.getElem?_cons_succ, List.set_cons_zero, List.set_cons_succ, setAll, wipe1, Tg.slots, binS, subS, fdivS, modS, powS, cmpS, ltS, isS, isNS, asStrs, asBls, newLs]
    refine ix_tup (by decide) rfl (in_es md ?_)
    cases hh : hof m hn with
    | none =>
      have hno : hn ∉ m.ns := hof_none hh
      rw [refu_s0 hh] at h
      rw [decide_eq_false hno]
      simp only [Bool.not_false]
      exact ⟨by rw [sizeLine_eq]; decide, h⟩
    | some x =>
    have hh' : hofL m.hs hn = some x := hh
    obtain ⟨hxm, hxn⟩ := hof_mem hh'
    have hyes : hn ∈ m.ns := List.mem_map.mpr ⟨x, hxm, hxn⟩
    have smx := can x hh
    rw [refu_s1 hh] at h
    rw [decide_eq_true hyes]
    simp only [Bool.not_true]
    refine f0 _ _ _ (eqS_str vsl vsl ?_)
    rw [decide_eq_true rfl]
    simp only []
    have esl : slS (deedV (.sale hn o r s)) (some 2) (some 4) F = fun Q => Q (.tup [.str o, .str r]) F := rfl
    rw [esl]
    simp only []
    have hg1 : ∀ Q : Q1, Q (.ref x.g) F → ixS (.ref m.em) (.str hn) F Q := fun Q q => ix_dc md.emc (by rw [modA_get, hh']; rfl) q
    have hg3 : ∀ Q : Q1, Q (.ref x.gh) F → ixS (.ref x.g) (.int 3) F Q := fun Q q => ix_list (vs := [.int x.n.1, .int x.n.2.1, .int x.n.2.2, .ref x.gh]) (by simp only [lsOf, md.gc x hxm]) (by decide) rfl q
    have known : ∀ (z : Str) (Q1 Q2 : MH → Prop), (if z ∈ m.ps ∨ z ∈ m.ns then Q2 F else Q1 F) → inS (.str z) (.ref m.pm) F fun k_1 => match BoolOp.And, !k_1 with
        | BoolOp.And, true => inS (.str z) (.ref m.em) F fun k_2 => match !k_2 with
          | true => Q1 F
          | false => Q2 F
        | BoolOp.And, false => Q2 F
        | BoolOp.Or, true => Q1 F
        | BoolOp.Or, false => inS (.str z) (.ref m.em) F fun k_2 => match !k_2 with
          | true => Q1 F
          | false => Q2 F := fun z Q1 Q2 q => by
      refine in_ps md ?_
      by_cases h1 : z ∈ m.ps
      · rw [decide_eq_true h1]
        rw [if_pos (.inl h1)] at q
        exact q
      · rw [decide_eq_false h1]
        simp only [Bool.not_false]
        refine in_es md ?_
        by_cases h2 : z ∈ m.ns
        · rw [decide_eq_true h2]
          rw [if_pos (.inr h2)] at q
          exact q
        · rw [decide_eq_false h2]
          rw [if_neg (by rintro (a | a); exact h1 a; exact h2 a)] at q
          exact q
    have kdec : ∀ z : Str, z ∈ m.ps ∨ z ∈ m.ns ↔ refHold m.ps m.ns z = none := fun z => by
      unfold refHold
      by_cases q : z ∈ m.ps ∨ z ∈ m.ns
      · rw [ifO_f (fun w => w q)]; exact ⟨fun _ => rfl, fun _ => q⟩
      · rw [ifO_t q]; exact ⟨fun w => absurd w q, fun w => nomatch w⟩
    refine lcGo_inv (fun i acc F1 => F1 = F ∧ acc = ((([o, r] : List Str).take i).filter fun z => decide (¬ (z ∈ m.ps ∨ z ∈ m.ns))).map .str) (by rw [sizeLine_eq]; show 2 ≤ _; decide) (fun _ _ _ _ => trivial) ?_ ?_ ⟨rfl, rfl⟩
    · rintro i w acc F1 k hw ⟨rfl, rfl⟩ hk hk2
      have hw : (([o, r] : List Str).map Val.str)[i]? = some w := hw
      rw [List.getElem?_map] at hw
      obtain ⟨z, hz, rfl⟩ := Option.map_eq_some_iff.mp hw
      have htk : ([o, r] : List Str).take (i + 1) = ([o, r] : List Str).take i ++ [z] := by rw [List.take_add_one, hz]; rfl
      refine known z (fun F => k (some (.str z)) F) (fun F => k none F) ?_
      by_cases q : z ∈ m.ps ∨ z ∈ m.ns
      · rw [if_pos q]
        refine hk2 _ ⟨rfl, ?_⟩
        rw [htk, List.filter_append]
        have : [z].filter (fun z => decide (¬ (z ∈ m.ps ∨ z ∈ m.ns))) = [] := by simp only [List.filter, decide_eq_false (fun w : ¬ (z ∈ m.ps ∨ z ∈ m.ns) => w q)]
        rw [this, List.append_nil]
      · rw [if_neg q]
        refine hk _ _ ⟨rfl, ?_⟩
        rw [htk, List.filter_append]
        have : [z].filter (fun z => decide (¬ (z ∈ m.ps ∨ z ∈ m.ns))) = [z] := by simp only [List.filter, decide_eq_true q]
        rw [this, List.map_append]
        rfl
    · rintro acc F1 ⟨rfl, rfl⟩
      have e0 : ([o, r] : List Str).take ([Val.str o, Val.str r] : List Val).length = [o, r] := rfl
      rw [e0]
      simp only [lenS, lsOf, List.length_map]
      have hgd : ∀ Q : Q1, Q (frP ((hget x.held o).getD (0, 1))) F1 → bmS .get (.ref x.gh) [.str o, .tup [.int 0, .int 1]] F1 Q := fun Q q => by
        refine bm_get (dc_of (md.ghc x hxm)) ?_
        rw [hv_get]
        have eg : (Option.map frP (hget x.held o)).getD (Val.tup [.int 0, .int 1]) = frP ((hget x.held o).getD (0, 1)) := getD_fr
        rw [eg]
        exact q
      unfold refSale at h
      by_cases q1 : o ∈ m.ps ∨ o ∈ m.ns
      · have r1 := (kdec o).mp q1
        rw [r1] at h
        by_cases q2 : r ∈ m.ps ∨ r ∈ m.ns
        · have r2 := (kdec r).mp q2
          rw [r2] at h
          have e1 : (([o, r] : List Str).filter fun z => decide (¬ (z ∈ m.ps ∨ z ∈ m.ns))) = [] := by
            simp only [List.filter, decide_eq_false (fun w : ¬ (o ∈ m.ps ∨ o ∈ m.ns) => w q1), decide_eq_false (fun w : ¬ (r ∈ m.ps ∨ r ∈ m.ns) => w q2)]
          rw [e1]
          have h : Q (resV (ifO (s.1 ≤ 0 ∨ ((hget x.held o).getD (0, 1)).1 * s.2 < s.1 * ((hget x.held o).getD (0, 1)).2) 6)) F1 := h
          rw [decide_eq_false (by decide)]
          simp only []
          refine ix_tup (by decide) rfl (hg1 _ (hg3 _ ⟨⟨x.gh, _, rfl, dc_of (md.ghc x hxm)⟩, ix_tup (by decide) rfl ⟨by rw [sizeLine_eq]; decide, hgd _ ⟨by rw [sizeLine_eq]; decide, ix_tup (by decide) rfl (ix0 ?_)⟩⟩⟩))
          simp only []
          by_cases h0 : s.1 ≤ 0
          · rw [decide_eq_true h0]
            rw [ifO_t (.inl h0)] at h
            simp only []
            exact int_bl true _ (mul_lst (r := 6) (c := true) h)
          · rw [decide_eq_false h0]
            simp only []
            refine ix_tup (by decide) rfl ⟨_, _, rfl, smx, sms, int_bl _ _ (mul_lst (r := 6) ?_)⟩
            rw [ifO_dec]
            have e6 : ifO (s.1 ≤ 0 ∨ ((hget x.held o).getD (0, 1)).1 * s.2 < s.1 * ((hget x.held o).getD (0, 1)).2) 6 = ifO (((hget x.held o).getD (0, 1)).1 * s.2 < s.1 * ((hget x.held o).getD (0, 1)).2) 6 := by
              by_cases hl : ((hget x.held o).getD (0, 1)).1 * s.2 < s.1 * ((hget x.held o).getD (0, 1)).2
              · rw [ifO_t (.inr hl), ifO_t hl]
              · rw [ifO_f (by rintro (a | a); exact h0 a; exact hl a), ifO_f hl]
            rw [e6] at h
            exact h
        · have r2 : refHold m.ps m.ns r = some 3 := ifO_t q2
          rw [r2] at h
          have e1 : (([o, r] : List Str).filter fun z => decide (¬ (z ∈ m.ps ∨ z ∈ m.ns))) = [r] := by
            simp only [List.filter, decide_eq_false (fun w : ¬ (o ∈ m.ps ∨ o ∈ m.ns) => w q1), decide_eq_true q2]
          rw [e1, decide_eq_true (by show (0 : Int) < ((1 : Nat) : Int); decide)]
          exact ⟨by rw [sizeLine_eq]; decide, h⟩
      · have r1 : refHold m.ps m.ns o = some 3 := ifO_t q1
        rw [r1] at h
        have e1 : 0 < (([o, r] : List Str).filter fun z => decide (¬ (z ∈ m.ps ∨ z ∈ m.ns))).length := by
          simp only [List.filter, decide_eq_true q1, List.length_cons]
          omega
        rw [decide_eq_true (by omega)]
        exact ⟨by rw [sizeLine_eq]; decide, h⟩
  | num k hn v =>
    have hk : k < 3 := can
    have hk3 : k = 0 ∨ k = 1 ∨ k = 2 := by omega
    have vk : VS (numK k) := by
      rcases hk3 with rfl | rfl | rfl
      · exact vt
      · exact vm
      · exact vl
    have d1 : ¬ numK k = Str.ofString "person" := by rcases hk3 with rfl | rfl | rfl <;> decide
    have d2 : ¬ numK k = Str.ofString "house" := by rcases hk3 with rfl | rfl | rfl <;> decide
    have d3 : ¬ numK k = Str.ofString "sale" := by rcases hk3 with rfl | rfl | rfl <;> decide
    have d4 : decide (numK k = Str.ofString "loss") = decide (k = 2) := by rcases hk3 with rfl | rfl | rfl <;> decide
    refine f0 _ _ _ (eqS_str vk vp ?_)
    rw [decide_eq_false d1]
    refine f0 _ _ _ (eqS_str vk vh ?_)
    rw [decide_eq_false d2]
    simp only [wpB, wpS, wpE, wpEs, wpT, wpTs, wpCs, wpP, wpIt, wpBl, bindT, biS, recS, start1, List.map, List.length, List.replicate, List.append_nil, List.nil_append, List.cons_append, Nat.sub_self, Nat.reduceSub, Nat.reduceAdd, List.length_cons, List.length_nil, List.getElem?_cons_zero, List.getElem?_cons_succ, List.set_cons_zero, List.set_cons_succ, setAll, wipe1, Tg.slots, binS, subS, fdivS, modS, powS, cmpS, ltS, isS, isNS, asStrs, asBls, newLs]
    refine ix_tup (by decide) rfl (in_es md ?_)
    cases hh : hof m hn with
    | none =>
      have hno : hn ∉ m.ns := hof_none hh
      rw [refu_n0 hh] at h
      rw [decide_eq_false hno]
      simp only [Bool.not_false]
      exact ⟨by rw [sizeLine_eq]; decide, h⟩
    | some x =>
    have hh' : hofL m.hs hn = some x := hh
    obtain ⟨hxm, hxn⟩ := hof_mem hh'
    have hyes : hn ∈ m.ns := List.mem_map.mpr ⟨x, hxm, hxn⟩
    rw [refu_n1 hh] at h
    rw [decide_eq_true hyes]
    simp only [Bool.not_true]
    refine f0 _ _ _ (eqS_str vk vsl ?_)
    rw [decide_eq_false d3]
    simp only []
    refine ⟨by rw [sizeLine_eq]; decide, f0 _ _ _ (eqS_str vk vl ?_)⟩
    rw [d4]
    unfold refNum at h
    by_cases hk2 : k = 2
    · rw [decide_eq_true hk2]
      simp only []
      refine ix_tup (by decide) rfl ?_
      simp only []
      refine int_bl _ _ (mul_lst (r := 5) ?_)
      rw [ifO_dec]
      have e5 : ifO (k = 2 ∧ v < 0) 5 = ifO (v < 0) 5 := by
        by_cases q : v < 0
        · rw [ifO_t ⟨hk2, q⟩, ifO_t q]
        · rw [ifO_f (fun a => q a.2), ifO_f q]
      rw [e5] at h
      exact h
    · rw [decide_eq_false hk2]
      simp only []
      rw [ifO_f (fun a => hk2 a.1)] at h
      exact int_bl false _ (mul_lst (r := 5) (c := false) h)
end Bv

set_option pp.maxSteps 600
/-! Family A: the law's lists changed. -/
namespace Bv
open PySem L2 PyProof.Rows
theorem findF_strs {o : Str} : ∀ {l : List Str}, o ∈ l → ∃ j, findF (.str o) (l.map .str) = some j ∧ l[j]? = some o
  | [], h => by cases h
  | a :: l, h => by
    by_cases e : a = o
    · subst e
      refine ⟨0, ?_, rfl⟩
      show (if eqF (.str a) (.str a) then some 0 else _) = _
      rw [if_pos (by simp [eqF])]
    · have h2 : o ∈ l := by
        rcases List.mem_cons.mp h with h | h
        · exact absurd h.symm e
        · exact h
      obtain ⟨j, h3, h4⟩ := findF_strs h2
      refine ⟨j + 1, ?_, h4⟩
      show (if eqF (.str a) (.str o) then some 0 else (findF (.str o) (l.map .str)).map (· + 1)) = _
      rw [if_neg (by simp [eqF, e]), h3]
      rfl
theorem bm_index {v : Val} {l : List Str} {o : Str} {F : MH} {Q : Q1} (e : lsOf F v = some (l.map .str)) (ho : o ∈ l) (q : ∀ j : Nat, l[j]? = some o → Q (.int j) F) : bmS .index v [.str o] F Q := by
  obtain ⟨j, h1, h2⟩ := findF_strs ho
  unfold bmS
  simp only [e, h1]
  exact ⟨rfl, flat_strs l, q j h2⟩
theorem bm_append {p : Addr} {vs : List Val} {a : Val} {F : MH} {Q : Q1} (e : F p = some (.lst vs)) (hl : vs.length < sizeLine) (q : Q .non (mset F p (.lst (vs ++ [a])))) : bmS .append (.ref p) [a] F Q := by
  simp only [bmS, e]
  exact ⟨hl, q⟩
/-- the law's lists behind a deed -/
def modelD (F : MH) (m : BM) (d : Deed) (q : MH → Prop) : Prop := match d with
  | .person n => q (mset F m.pm (.lst ((m.ps ++ [n]).map .str)))
  | .house n o t k l => ∀ gh g, F gh = none → F g = none → g ≠ gh → q (mset (mset (mset F gh (.dict [(o, frP (1, 1))])) g (.lst [.int t, .int k, .int l, .ref gh])) m.em (.dict (modA m.hs ++ [(n, .ref g)])))
  | .sale hn o r s => ∀ x, hof m hn = some x → q (mset F x.gh (.dict (hv (soldH x.held o r s))))
  | .num k hn v => ∀ x, hof m hn = some x → q (mset F x.g (.lst [.int (putN3 x.n k v).1, .int (putN3 x.n k v).2.1, .int (putN3 x.n k v).2.2, .ref x.gh]))
theorem sm_neg {x : Int} (h : Sm x) : Sm (-x) := by
  unfold Sm at h ⊢
  rw [Int.natAbs_neg]
  exact h
theorem refu_house_new {m : BM} {n o : Str} {t k l : Int} (h : refu m (.house n o t k l) = none) : n ∉ m.ns := by
  have h : refHouse m.ps m.ns n o l = none := h
  unfold refHouse at h
  cases hr : refNew m.ps m.ns n with
  | some r => rw [hr] at h; cases h
  | none => exact (refNew_none hr).2.2
/-- what a sale that isn't refused knows -/
theorem refSale_none {ps ks : List Str} {held : Held} {o r : Str} {s : Int × Int} (h : refSale ps ks held o r s = none) : (o ∈ ps ∨ o ∈ ks) ∧ (r ∈ ps ∨ r ∈ ks) ∧ 0 < s.1 ∧ s.1 * ((hget held o).getD (0, 1)).2 ≤ ((hget held o).getD (0, 1)).1 * s.2 := by
  unfold refSale refHold at h
  by_cases q1 : o ∈ ps ∨ o ∈ ks
  · rw [ifO_f (fun w => w q1)] at h
    by_cases q2 : r ∈ ps ∨ r ∈ ks
    · rw [ifO_f (fun w => w q2)] at h
      have h : ifO (s.1 ≤ 0 ∨ ((hget held o).getD (0, 1)).1 * s.2 < s.1 * ((hget held o).getD (0, 1)).2) 6 = none := h
      by_cases q3 : s.1 ≤ 0 ∨ ((hget held o).getD (0, 1)).1 * s.2 < s.1 * ((hget held o).getD (0, 1)).2
      · rw [ifO_t q3] at h; cases h
      · refine ⟨q1, q2, ?_, ?_⟩
        · have : ¬ s.1 ≤ 0 := fun z => q3 (.inl z)
          omega
        · have : ¬ ((hget held o).getD (0, 1)).1 * s.2 < s.1 * ((hget held o).getD (0, 1)).2 := fun z => q3 (.inr z)
          omega
    · rw [ifO_t q2] at h; cases h
  · rw [ifO_t q1] at h; cases h
theorem refSale_has {ps ks : List Str} {held : Held} {o r : Str} {s : Int × Int} (h : refSale ps ks held o r s = none) : ∃ v, hget held o = some v := by
  obtain ⟨_, _, h1, h2⟩ := refSale_none h
  cases e : hget held o with
  | some v => exact ⟨v, rfl⟩
  | none =>
    rw [e] at h2
    have h2 : s.1 * 1 ≤ 0 * s.2 := h2
    omega
def spChanged : Spec := fun vs F Q _ => ∃ m d, vs = [m.v, deedV d] ∧ MdS F m ∧ F m.em = some (.dict (modA m.hs)) ∧ Can m d ∧ m.hs.length ≤ 8 ∧ refu m d = none ∧ modelD F m d fun F' => Q .non F'
theorem w_l_changed {Γ : Amb} {rp : CallR1 Γ "_law_plus"} (h1 : rp.sp = spAdded) : ∀ vs F Q E, spChanged vs F Q E → wpB (fun C fs _ F => E C fs F) (c_l_changed rp) (start1 n_l_changed vs) F (fun _ F => Q .non F) Q := by
  rintro vs F Q E ⟨m, d, rfl, md, hem, can, h8, hr, h⟩
  unfold c_l_changed
  have vp := vs_of "person"
  have vh := vs_of "house"
  have vsl := vs_of "sale"
  have vt := vs_of "things"
  have vm := vs_of "mark"
  have vl := vs_of "loss"
  simp only [wpB, wpS, wpE, wpEs, wpT, wpTs, wpCs, wpP, wpIt, wpBl, bindT, biS, recS, start1, List.map, List.length, List.replicate, List.append_nil, List.nil_append, List.cons_append, Nat.sub_self, Nat.reduceSub, Nat.reduceAdd, List.length_cons, List.length_nil, List.getElem?_cons_zero, List.getElem?_cons_succ, List.set_cons_zero, List.set_cons_succ, setAll, wipe1, Tg.slots, binS, subS, fdivS, modS, powS, cmpS, ltS, isS, isNS, asStrs, asBls, newLs, n_l_changed, h1, ul_model]
  refine ⟨trivial, ?_⟩
  have f0 : ∀ (a : Str) (vs : List Val) (Q : Q1), Q (.str a) F → ixS (.tup (.str a :: vs)) (.int 0) F Q := fun a vs Q q => ix_tup (by decide) rfl q
  cases d with
  | person n =>
    refine f0 _ _ _ (eqS_str vp vp ?_)
    rw [decide_eq_true rfl]
    simp only [wpB, wpS, wpE, wpEs, wpT, wpTs, wpCs, wpP, wpIt, wpBl, bindT, biS, recS, start1, List.map, List.length, List.replicate, List.append_nil, List.nil_append, List.cons_append, Nat.sub_self, Nat.reduceSub, Nat.reduceAdd, List.length_cons, List.length_nil, List.getElem?_cons_zero, List.getElem?_cons_succ, List.set_cons_zero, List.set_cons_succ, setAll, wipe1, Tg.slots, binS, subS, fdivS, modS, powS, cmpS, ltS, isS, isNS, asStrs, asBls, newLs]
    have h : Q .non (mset F m.pm (.lst ((m.ps ++ [n]).map .str))) := h
    rw [List.map_append] at h
    have h6 : m.ps.length ≤ 6 := can.2
    exact ⟨⟨m.pm, _, rfl, md.pmc⟩, ix_tup (by decide) rfl (bm_append md.pmc (by rw [List.length_map, sizeLine_eq]; omega) h)⟩
  | house n o t k l =>
    refine f0 _ _ _ (eqS_str vh vp ?_)
    rw [decide_eq_false (by decide)]
    refine f0 _ _ _ (eqS_str vh vh ?_)
    rw [decide_eq_true rfl]
    simp only [wpB, wpS, wpE, wpEs, wpT, wpTs, wpCs, wpP, wpIt, wpBl, bindT, biS, recS, start1, List.map, List.length, List.replicate, List.append_nil, List.nil_append, List.cons_append, Nat.sub_self, Nat.reduceSub, Nat.reduceAdd, List.length_cons, List.length_nil, List.getElem?_cons_zero, List.getElem?_cons_succ, List.set_cons_zero, List.set_cons_succ, setAll, wipe1, Tg.slots, binS, subS, fdivS, modS, powS, cmpS, ltS, isS, isNS, asStrs, asBls, newLs]
    refine ix_tup (by decide) rfl (ix_tup (by decide) rfl (ix_tup (by decide) rfl (ix_tup (by decide) rfl ?_)))
    refine ⟨by rw [sizeLine_eq]; decide, fun gh hgh _ => ⟨by rw [sizeLine_eq]; decide, fun g hg => ix_tup (by decide) rfl ?_⟩⟩
    have n1 : g ≠ gh := fun z => by rw [z, mset_same] at hg; cases hg
    have hg1 : F g = none := by rw [mset_ne n1] at hg; exact hg
    have n2 : m.em ≠ g := fun z => by rw [← z, hem] at hg1; cases hg1
    have n3 : m.em ≠ gh := fun z => by rw [← z, hem] at hgh; cases hgh
    refine set_d (kvs := modA m.hs) (by rw [mset_ne n2, mset_ne n3]; exact hem) (by rw [modA_len, sizeLine_eq]; omega) ?_
    rw [kput_new (by rw [modA_keys]; exact refu_house_new hr)]
    exact h gh g hgh hg1 n1
  | sale hn o r s =>
    refine f0 _ _ _ (eqS_str vsl vp ?_)
    rw [decide_eq_false (by decide)]
    refine f0 _ _ _ (eqS_str vsl vh ?_)
    rw [decide_eq_false (by decide)]
    refine f0 _ _ _ (eqS_str vsl vsl ?_)
    rw [decide_eq_true rfl]
    simp only [wpB, wpS, wpE, wpEs, wpT, wpTs, wpCs, wpP, wpIt, wpBl, bindT, biS, recS, start1, List.map, List.length, List.replicate, List.append_nil, List.nil_append, List.cons_append, Nat.sub_self, Nat.reduceSub, Nat.reduceAdd, List.length_cons, List.length_nil, List.getElem?_cons_zero, List.getElem?_cons_succ, List.set_cons_zero, List.set_cons_succ, setAll, wipe1, Tg.slots, binS, subS, fdivS, modS, powS, cmpS, ltS, isS, isNS, asStrs, asBls, newLs]
    cases hh : hof m hn with
    | none => rw [refu_s0 hh] at hr; cases hr
    | some x =>
    rw [refu_s1 hh] at hr
    have hh' : hofL m.hs hn = some x := hh
    obtain ⟨hxm, hxn⟩ := hof_mem hh'
    obtain ⟨v, hv1⟩ := refSale_has hr
    obtain ⟨a1, a2, a3⟩ := can.2 x hh
    have a3 := a3 hr
    have sms := can.1
    rw [hv1] at a2 a3
    have h : Q .non (mset F x.gh (.dict (hv (soldH x.held o r s)))) := h x hh
    unfold soldH at h
    simp only [hv1, Option.getD_some] at h a2 a3
    refine ix_tup (by decide) rfl (ix_dc md.emc (by rw [modA_get, hh']; rfl) (ix_list (vs := [.int x.n.1, .int x.n.2.1, .int x.n.2.2, .ref x.gh]) (by simp only [lsOf, md.gc x hxm]) (by decide) rfl ?_))
    refine ix_tup (by decide) rfl ?_
    simp only [frP, wpB, wpS, wpE, wpEs, wpT, wpTs, wpCs, wpP, wpIt, wpBl, bindT, biS, recS, start1, List.map, List.length, List.replicate, List.append_nil, List.nil_append, List.cons_append, Nat.sub_self, Nat.reduceSub, Nat.reduceAdd, List.length_cons, List.length_nil, List.getElem?_cons_zero, List.getElem?_cons_succ, List.set_cons_zero, List.set_cons_succ, setAll, wipe1, Tg.slots, binS, subS, fdivS, modS, powS, cmpS, ltS, isS, isNS, asStrs, asBls, newLs]
    refine ⟨trivial, ix_tup (by decide) rfl (ix_dc (dc_of (md.ghc x hxm)) (v := frP v) (by rw [hv_get, hv1]; rfl) ?_)⟩
    refine ⟨by rw [sizeLine_eq]; decide, v, (-s.1, s.2), rfl, a2.a, ⟨sm_neg sms.a, sms.b⟩, a2.b, a2.c, ?_⟩
    rw [more_neg]
    refine ix_tup (by decide) rfl (set_d (md.ghc x hxm) (by rw [hv_len, sizeLine_eq]; omega) ?_)
    rw [hv_put]
    refine ⟨⟨x.gh, _, rfl, dc_of mset_same⟩, ix_tup (by decide) rfl ⟨by rw [sizeLine_eq]; decide, bm_get (dc_of mset_same) ?_⟩⟩
    rw [hv_get]
    have eg2 : ∀ o : Option (Int × Int), (Option.map frP o).getD (Val.tup [.int 0, .int 1]) = frP (o.getD (0, 1)) := fun o => getD_fr
    rw [eg2]
    refine ix_tup (by decide) rfl ⟨_, _, rfl, a3.a, sms, a3.b, a3.c, ?_⟩
    refine ix_tup (by decide) rfl (set_d mset_same (by rw [hv_len, sizeLine_eq]; have := hput_len x.held o (less v s); omega) ?_)
    rw [hv_put, mset_mset]
    exact h
  | num k hn v =>
    have hk : k < 3 := can
    have hk3 : k = 0 ∨ k = 1 ∨ k = 2 := by omega
    have vk : VS (numK k) := by
      rcases hk3 with rfl | rfl | rfl
      · exact vt
      · exact vm
      · exact vl
    have d1 : ¬ numK k = Str.ofString "person" := by rcases hk3 with rfl | rfl | rfl <;> decide
    have d2 : ¬ numK k = Str.ofString "house" := by rcases hk3 with rfl | rfl | rfl <;> decide
    have d3 : ¬ numK k = Str.ofString "sale" := by rcases hk3 with rfl | rfl | rfl <;> decide
    refine f0 _ _ _ (eqS_str vk vp ?_)
    rw [decide_eq_false d1]
    refine f0 _ _ _ (eqS_str vk vh ?_)
    rw [decide_eq_false d2]
    refine f0 _ _ _ (eqS_str vk vsl ?_)
    rw [decide_eq_false d3]
    simp only [wpB, wpS, wpE, wpEs, wpT, wpTs, wpCs, wpP, wpIt, wpBl, bindT, biS, recS, start1, List.map, List.length, List.replicate, List.append_nil, List.nil_append, List.cons_append, Nat.sub_self, Nat.reduceSub, Nat.reduceAdd, List.length_cons, List.length_nil, List.getElem?_cons_zero, List.getElem?_cons_succ, List.set_cons_zero, List.set_cons_succ, setAll, wipe1, Tg.slots, binS, subS, fdivS, modS, powS, cmpS, ltS, isS, isNS, asStrs, asBls, newLs]
    cases hh : hof m hn with
    | none => rw [refu_n0 hh] at hr; cases hr
    | some x =>
    have hh' : hofL m.hs hn = some x := hh
    obtain ⟨hxm, hxn⟩ := hof_mem hh'
    have h : Q .non (mset F x.g (.lst [.int (putN3 x.n k v).1, .int (putN3 x.n k v).2.1, .int (putN3 x.n k v).2.2, .ref x.gh])) := h x hh
    refine ix_tup (by decide) rfl (ix_tup (by decide) rfl (ix_dc md.emc (by rw [modA_get, hh']; rfl) ⟨by rw [sizeLine_eq]; decide, ⟨_, rfl⟩, f0 _ _ _ ?_⟩))
    refine bm_index (l := ["things", "mark", "loss"]) rfl (by rcases hk3 with rfl | rfl | rfl <;> decide) fun j hj => ?_
    have hjk : j = k := by
      match j, hj with
      | 0, hj => rcases hk3 with rfl | rfl | rfl <;> first | rfl | (exact absurd hj (by decide))
      | 1, hj => rcases hk3 with rfl | rfl | rfl <;> first | rfl | (exact absurd hj (by decide))
      | 2, hj => rcases hk3 with rfl | rfl | rfl <;> first | rfl | (exact absurd hj (by decide))
      | j + 3, hj => cases hj
    subst hjk
    simp only [setS, md.gc x hxm]
    rcases hk3 with rfl | rfl | rfl <;> exact h
end Bv

set_option pp.maxSteps 600
/-! Family A: what is held, in figures. -/
namespace Bv
open PySem L2 PyProof.Rows
/-- a fraction from 0 on whose bottom divides L -/
structure Dn (L : Int) (p : Int × Int) : Prop where
  nn : 0 ≤ p.1
  pos : 0 < p.2
  dv : p.2 ∣ L
theorem sm_of_le {x : Int} (h0 : 0 ≤ x) (h : x ≤ 2 ^ 4400) : Sm x := bits_ok (n := 4400) h0 h (by decide)
theorem Dn.le {L : Int} {p : Int × Int} (h : Dn L p) (h0 : 0 < L) : p.2 ≤ L := Int.le_of_dvd h0 h.dv
theorem Dn.sm {L : Int} {p : Int × Int} (h : Dn L p) (h0 : 0 < L) (hL : L ≤ 2 ^ 4400) (h1 : rt p ≤ 1) : SmP p := by
  have h2 := h.le h0
  have h3 : p.1 ≤ p.2 := by
    have h4 := rt_lt (p := (1, 1)) (q := p) (by decide) h.pos
    rw [rt_one] at h4
    have h5 : ¬ (1 : Int) * p.2 < p.1 * 1 := fun z => by
      have := h4.mp z
      grind
    omega
  exact ⟨sm_of_le h.nn (by omega), sm_of_le (Int.le_of_lt h.pos) (by omega)⟩
theorem Dn.prod {L : Int} {p q : Int × Int} (h : Dn L p) (h2 : Dn L q) (h0 : 0 < L) (hL : L ≤ 2 ^ 4400) : 0 < p.2 * q.2 ∧ Sm (p.2 * q.2) := by
  have a1 := h.le h0
  have a2 := h2.le h0
  have hp : 0 < p.2 * q.2 := Int.mul_pos h.pos h2.pos
  refine ⟨hp, bits_ok (n := 8800) (Int.le_of_lt hp) ?_ (by decide)⟩
  have e1 : p.2 * q.2 ≤ L * q.2 := Int.mul_le_mul_of_nonneg_right a1 (Int.le_of_lt h2.pos)
  have e2 : L * q.2 ≤ L * L := Int.mul_le_mul_of_nonneg_left a2 (Int.le_of_lt h0)
  have e3 : L * L ≤ 2 ^ 4400 * L := Int.mul_le_mul_of_nonneg_right hL (Int.le_of_lt h0)
  have e4 : (2 : Int) ^ 4400 * L ≤ 2 ^ 4400 * 2 ^ 4400 := Int.mul_le_mul_of_nonneg_left hL (Int.pow_nonneg (by decide))
  have e5 : (2 : Int) ^ 4400 * 2 ^ 4400 = 2 ^ 8800 := by rw [← Int.pow_add]
  omega
theorem rt_nonneg' {p : Int × Int} (h1 : 0 ≤ p.1) (h2 : 0 < p.2) : 0 ≤ rt p := by
  have h := rt_lt (p := p) (q := (0, 1)) h2 (by decide)
  rw [rt_zero] at h
  have : ¬ p.1 * 1 < 0 * p.2 := by omega
  grind
theorem Dn.more {L : Int} {p q : Int × Int} (h : Dn L p) (h2 : Dn L q) : Dn L (more p q) := by
  have hp : 0 < p.2 * q.2 := Int.mul_pos h.pos h2.pos
  obtain ⟨g, hg, e1, e2⟩ := low_eq (t := p.1 * q.2 + q.1 * p.2) hp
  have n1 : 0 ≤ p.1 * q.2 := Int.mul_nonneg h.nn (Int.le_of_lt h2.pos)
  have n2 : 0 ≤ q.1 * p.2 := Int.mul_nonneg h2.nn (Int.le_of_lt h.pos)
  refine ⟨?_, ?_, more_dvd h.pos h2.pos h.dv h2.dv⟩
  · have : (0 : Int) ≤ (low (p.1 * q.2 + q.1 * p.2) (p.2 * q.2)).1 := by
      refine Int.nonneg_of_mul_nonneg_left (b := g) ?_ hg
      rw [← e1]; omega
    exact this
  · have : (0 : Int) < (low (p.1 * q.2 + q.1 * p.2) (p.2 * q.2)).2 := Int.pos_of_mul_pos_left (by rw [← e2]; exact hp) hg
    exact this
theorem sum_nonneg {l : List Rat} (h : ∀ x ∈ l, 0 ≤ x) : 0 ≤ l.sum := by
  induction l with
  | nil => rw [List.sum_nil]; grind
  | cons a l ih =>
    rw [List.sum_cons]
    have h1 := h a List.mem_cons_self
    have h2 := ih fun x hx => h x (List.mem_cons_of_mem _ hx)
    grind
theorem Dn.mono {L K : Int} {p : Int × Int} (h : Dn L p) (hk : L ∣ K) : Dn K p := ⟨h.nn, h.pos, Int.dvd_trans h.dv hk⟩
theorem Dn.less {L : Int} {p q : Int × Int} (h : Dn L p) (h2 : Dn L q) (hle : q.1 * p.2 ≤ p.1 * q.2) : Dn L (less p q) := by
  have hp : 0 < p.2 * q.2 := Int.mul_pos h.pos h2.pos
  obtain ⟨g, hg, e1, e2⟩ := low_eq (t := p.1 * q.2 - q.1 * p.2) hp
  refine ⟨?_, ?_, less_dvd h.pos h2.pos h.dv h2.dv⟩
  · have : (0 : Int) ≤ (low (p.1 * q.2 - q.1 * p.2) (p.2 * q.2)).1 := by
      refine Int.nonneg_of_mul_nonneg_left (b := g) ?_ hg
      rw [← e1]; omega
    exact this
  · have : (0 : Int) < (low (p.1 * q.2 - q.1 * p.2) (p.2 * q.2)).2 := Int.pos_of_mul_pos_left (by rw [← e2]; exact hp) hg
    exact this
/-- a share that is asked for -/
structure Shr (s : Int × Int) : Prop where
  pos : 0 < s.2
  le : s.2 ≤ 10 ^ 29
  a1 : -(10 ^ 30) ≤ s.1
  a2 : s.1 ≤ 10 ^ 30
theorem e29 : (10 : Int) ^ 29 ≤ 2 ^ 97 := by decide
theorem Shr.sm {s : Int × Int} (h : Shr s) : SmP s := by
  refine ⟨?_, ?_⟩
  · have h1 := h.a1
    have h2 := h.a2
    have e : (2 : Nat) ^ 128 ≤ 2 ^ 9000 := Nat.pow_le_pow_right (by decide) (by decide)
    have e2 : (10 : Nat) ^ 30 < 2 ^ 128 := by decide
    have : s.1.natAbs ≤ 10 ^ 30 := by omega
    exact Nat.lt_of_le_of_lt this (Nat.lt_of_lt_of_le e2 e)
  · have h1 := h.le
    have h2 := h.pos
    have := e29
    exact bits_ok (n := 97) (by omega) (by omega) (by decide)
/-- what is held of a house, so many sales behind it -/
structure RecA (un : List Str) (i : Nat) (held : Held) : Prop where
  hn : (held.map (·.1)).Nodup
  hu : ∀ z ∈ held.map (·.1), z ∈ un
  len : held.length ≤ i + 1
  dn : ∃ L : Int, 0 < L ∧ L ≤ (10 ^ 29) ^ i ∧ ∀ z v, hget held z = some v → Dn L v
  tot : sumT held = 1
  lw : ∀ z v, hget held z = some v → Int.gcd v.1 v.2 = 1
theorem RecA.mono {un un' : List Str} {i j : Nat} {held : Held} (h : RecA un i held) (hu : ∀ z ∈ un, z ∈ un') (hij : i ≤ j) : RecA un' j held := by
  obtain ⟨L, h0, h1, h2⟩ := h.dn
  refine ⟨h.hn, fun z hz => hu z (h.hu z hz), by have := h.len; omega, ⟨L, h0, Int.le_trans h1 ?_, h2⟩, h.tot, h.lw⟩
  obtain ⟨k, rfl⟩ := Nat.exists_eq_add_of_le hij
  rw [Int.pow_add]
  have e1 := den_pos i
  have e2 := den_pos k
  have e3 : ((10 : Int) ^ 29) ^ i * 1 ≤ (10 ^ 29) ^ i * (10 ^ 29) ^ k := Int.mul_le_mul_of_nonneg_left (by omega) (Int.le_of_lt e1)
  omega
theorem hget_one {o z : Str} {w v : Int × Int} (e : hget [(o, w)] z = some v) : z = o ∧ v = w := by
  unfold hget at e
  by_cases h : o = z
  · simp [h] at e
    exact ⟨h.symm, e.symm⟩
  · simp [h] at e
theorem RecA.new {un : List Str} {i : Nat} {o : Str} (ho : o ∈ un) : RecA un i [(o, (1, 1))] := by
  refine ⟨by simp, fun z hz => ?_, by simp, ⟨1, by decide, Int.add_one_le_of_lt (den_pos i), fun z v e => ?_⟩, by rw [sumT_cons, rt_one]; unfold sumT; rw [List.map_nil, List.sum_nil]; grind, fun z v e => ?_⟩
  · have : z = o := by simpa using hz
    rw [this]; exact ho
  · rw [(hget_one e).2]
    exact ⟨by decide, by decide, Int.dvd_refl 1⟩
  · rw [(hget_one e).2]
    rfl
theorem sumT_nonneg {held : Held} (h : ∀ x ∈ held, 0 ≤ rt x.2) : 0 ≤ sumT held := by
  unfold sumT
  refine sum_nonneg fun x hx => ?_
  obtain ⟨y, hy, rfl⟩ := List.mem_map.mp hx
  exact h y hy
theorem hget_mem {held : Held} (hn : (held.map (·.1)).Nodup) {x : Str × (Int × Int)} (hx : x ∈ held) : hget held x.1 = some x.2 := by
  unfold hget
  cases e : held.find? (fun y => decide (y.1 = x.1)) with
  | none => exact absurd (by simp) (List.find?_eq_none.mp e x hx)
  | some y =>
    have h1 := List.mem_of_find?_eq_some e
    have h2 : decide (y.1 = x.1) = true := List.find?_some (p := fun y : Str × (Int × Int) => decide (y.1 = x.1)) e
    rw [map_inj hn h1 hx (of_decide_eq_true h2)]
    rfl
theorem mem_of_hget {held : Held} {z : Str} {v : Int × Int} (e : hget held z = some v) : (z, v) ∈ held := by
  unfold hget at e
  obtain ⟨y, hy, rfl⟩ := Option.map_eq_some_iff.mp e
  have h2 : decide (y.1 = z) = true := List.find?_some (p := fun y : Str × (Int × Int) => decide (y.1 = z)) hy
  have h3 := of_decide_eq_true h2
  subst h3
  exact List.mem_of_find?_eq_some hy
theorem RecA.nn {un : List Str} {i : Nat} {held : Held} (h : RecA un i held) : ∀ x ∈ held, 0 ≤ rt x.2 := fun x hx => by
  obtain ⟨L, _, _, h2⟩ := h.dn
  have d := h2 x.1 x.2 (hget_mem h.hn hx)
  exact rt_nonneg' d.nn d.pos
theorem hput_get_mem {held : Held} {k : Str} {w : Int × Int} {x : Str × (Int × Int)} (hx : x ∈ hput held k w) : x.2 = w ∨ x ∈ held := by
  unfold hput at hx
  split at hx
  · obtain ⟨y, hy, rfl⟩ := List.mem_map.mp hx
    by_cases e : y.1 = k
    · rw [if_pos e]; exact .inl rfl
    · rw [if_neg e]; exact .inr hy
  · rcases List.mem_append.mp hx with h | h
    · exact .inr h
    · rw [List.mem_singleton.mp h]; exact .inl rfl
theorem RecA.le1 {un : List Str} {i : Nat} {held : Held} (h : RecA un i held) {z : Str} {v : Int × Int} (e : hget held z = some v) : rt v ≤ 1 := by
  have h1 := sumT_put (k := z) (w := (0, 1)) h.hn
  rw [e, h.tot, rt_zero] at h1
  simp only [Option.getD_some] at h1
  have h2 : 0 ≤ sumT (hput held z (0, 1)) := sumT_nonneg fun x hx => by
    rcases hput_get_mem hx with q | q
    · rw [q, rt_zero]; grind
    · exact h.nn x q
  grind
theorem pow_bits (i : Nat) {L : Int} (h : L ≤ (10 ^ 29) ^ i) : L ≤ 2 ^ (97 * i) := Int.le_trans h (den_bits i)
theorem pow_mono {i : Nat} (h : i ≤ 45) {L : Int} (hL : L ≤ (10 ^ 29) ^ i) : L ≤ 2 ^ 4400 := by
  have h1 := pow_bits i hL
  have h2 : (2 : Nat) ^ (97 * i) ≤ 2 ^ 4400 := Nat.pow_le_pow_right (by decide) (by omega)
  have h3 : (2 : Int) ^ (97 * i) ≤ 2 ^ 4400 := by exact_mod_cast h2
  omega
theorem dn01 {L : Int} : Dn L (0, 1) := ⟨by decide, by decide, Int.one_dvd _⟩
theorem RecA.dnD {un : List Str} {i : Nat} {held : Held} (h : RecA un i held) : ∃ L : Int, 0 < L ∧ L ≤ (10 ^ 29) ^ i ∧ ∀ z, Dn L ((hget held z).getD (0, 1)) := by
  obtain ⟨L, h0, h1, h2⟩ := h.dn
  refine ⟨L, h0, h1, fun z => ?_⟩
  cases e : hget held z with
  | none => exact dn01
  | some v => exact h2 z v e
theorem RecA.le1D {un : List Str} {i : Nat} {held : Held} (h : RecA un i held) (z : Str) : rt ((hget held z).getD (0, 1)) ≤ 1 := by
  cases e : hget held z with
  | none => show rt (0, 1) ≤ 1; rw [rt_zero]; grind
  | some v => exact h.le1 e
theorem prP_of {L : Int} {p s : Int × Int} (d : Dn L p) (h0 : 0 < L) (hL : L ≤ 2 ^ 4400) (h1 : rt p ≤ 1) (hs : Shr s) : PrP p s := by
  have h2 := d.le h0
  have hp : 0 < p.2 * s.2 := Int.mul_pos d.pos hs.pos
  refine ⟨d.sm h0 hL h1, hp, bits_ok (n := 4400 + 97) (Int.le_of_lt hp) ?_ (by decide)⟩
  rw [Int.pow_add]
  have e1 : p.2 * s.2 ≤ 2 ^ 4400 * s.2 := Int.mul_le_mul_of_nonneg_right (by omega) (Int.le_of_lt hs.pos)
  have e2 : (2 : Int) ^ 4400 * s.2 ≤ 2 ^ 4400 * 2 ^ 97 := Int.mul_le_mul_of_nonneg_left (by have := hs.le; have := e29; omega) (Int.pow_nonneg (by decide))
  omega
theorem RecA.pr1 {un : List Str} {i : Nat} {held : Held} (h : RecA un i held) (hi : i ≤ 44) {s : Int × Int} (hs : Shr s) (z : Str) : PrP ((hget held z).getD (0, 1)) s := by
  obtain ⟨L, h0, h1, h2⟩ := h.dnD
  exact prP_of (h2 z) h0 (pow_mono (by omega) h1) (h.le1D z) hs
/-- behind the first half of a sale -/
theorem RecA.half {un : List Str} {i : Nat} {held : Held} (h : RecA un i held) {o : Str} {s : Int × Int} (hs : Shr s) (h1 : 0 < s.1) (h2 : s.1 * ((hget held o).getD (0, 1)).2 ≤ ((hget held o).getD (0, 1)).1 * s.2) :
    ∃ L : Int, 0 < L ∧ L ≤ (10 ^ 29) ^ (i + 1) ∧ Dn L s ∧ ∀ z, Dn L ((hget (hput held o (less ((hget held o).getD (0, 1)) s)) z).getD (0, 1)) ∧ rt ((hget (hput held o (less ((hget held o).getD (0, 1)) s)) z).getD (0, 1)) ≤ 1 := by
  obtain ⟨L, l0, l1, l2⟩ := h.dnD
  have hL : 0 < L * s.2 := Int.mul_pos l0 hs.pos
  have ds : Dn (L * s.2) s := ⟨Int.le_of_lt h1, hs.pos, Int.dvd_mul_left _ _⟩
  have dm : ∀ z, Dn (L * s.2) ((hget held z).getD (0, 1)) := fun z => (l2 z).mono (Int.dvd_mul_right _ _)
  refine ⟨L * s.2, hL, ?_, ds, fun z => ?_⟩
  · rw [Int.pow_succ]
    have e1 : L * s.2 ≤ (10 ^ 29) ^ i * s.2 := Int.mul_le_mul_of_nonneg_right l1 (Int.le_of_lt hs.pos)
    have e2 : ((10 : Int) ^ 29) ^ i * s.2 ≤ (10 ^ 29) ^ i * 10 ^ 29 := Int.mul_le_mul_of_nonneg_left hs.le (Int.le_of_lt (den_pos i))
    omega
  · rw [hget_put]
    by_cases hz : z = o
    · rw [if_pos hz]
      refine ⟨(dm o).less ds h2, ?_⟩
      show rt (less _ _) ≤ 1
      rw [rt_less (l2 o).pos hs.pos]
      have h3 := h.le1D o
      have h4 := rt_nonneg' (Int.le_of_lt h1) hs.pos
      grind
    · rw [if_neg hz]
      exact ⟨dm z, h.le1D z⟩
theorem RecA.pr2 {un : List Str} {i : Nat} {held : Held} (h : RecA un i held) (hi : i ≤ 44) {o r : Str} {s : Int × Int} (hs : Shr s) (h1 : 0 < s.1) (h2 : s.1 * ((hget held o).getD (0, 1)).2 ≤ ((hget held o).getD (0, 1)).1 * s.2) : PrP ((hget (hput held o (less ((hget held o).getD (0, 1)) s)) r).getD (0, 1)) s := by
  obtain ⟨L, l0, l1, _, l2⟩ := h.half hs h1 h2
  exact prP_of (l2 r).1 l0 (pow_mono (by omega) l1) (l2 r).2 hs
theorem RecA.sold {un : List Str} {i : Nat} {held : Held} (h : RecA un i held) {o r : Str} {s : Int × Int} (hs : Shr s) (ho : o ∈ un) (hr : r ∈ un) (h1 : 0 < s.1) (h2 : s.1 * ((hget held o).getD (0, 1)).2 ≤ ((hget held o).getD (0, 1)).1 * s.2) (hm : o ∈ held.map (·.1)) : RecA un (i + 1) (soldH held o r s) := by
  obtain ⟨L, l0, l1, ds, l2⟩ := h.half hs h1 h2
  obtain ⟨L0, _, _, d0⟩ := h.dnD
  have t1 := sumT_put (k := o) (w := less ((hget held o).getD (0, 1)) s) h.hn
  rw [h.tot, rt_less (d0 o).pos hs.pos] at t1
  have len1 : (hput held o (less ((hget held o).getD (0, 1)) s)).length = held.length := hput_len_old hm
  have hn1 : ((hput held o (less ((hget held o).getD (0, 1)) s)).map (·.1)).Nodup := hput_nodup h.hn
  have t2 := sumT_put (k := r) (w := more ((hget (hput held o (less ((hget held o).getD (0, 1)) s)) r).getD (0, 1)) s) hn1
  rw [rt_more (l2 r).1.pos hs.pos] at t2
  have hk1 : ∀ z ∈ (hput held o (less ((hget held o).getD (0, 1)) s)).map (·.1), z ∈ un := fun z hz => by
    rcases hput_mem hz with q | q
    · exact h.hu z q
    · rw [q]; exact ho
  have hlw1 : ∀ z w, hget (hput held o (less ((hget held o).getD (0, 1)) s)) z = some w → Int.gcd w.1 w.2 = 1 := fun z w e => by
    rw [hget_put] at e
    by_cases hz : z = o
    · rw [if_pos hz] at e
      cases e
      exact low_coprime (Int.mul_pos (d0 o).pos hs.pos)
    · rw [if_neg hz] at e
      exact h.lw z w e
  unfold soldH
  simp only
  generalize hh1 : hput held o (less ((hget held o).getD (0, 1)) s) = held1 at *
  have dr := (l2 r).1
  generalize ho1 : (hget held1 r).getD (0, 1) = o1 at *
  refine ⟨hput_nodup hn1, fun z hz => ?_, ?_, ⟨L, l0, l1, fun z w e => ?_⟩, by rw [t2, t1]; grind, fun z w e => ?_⟩
  · rcases hput_mem hz with q | q
    · exact hk1 z q
    · rw [q]; exact hr
  · have := hput_len held1 r (more o1 s)
    have := h.len
    omega
  · rw [hget_put] at e
    by_cases hz : z = r
    · rw [if_pos hz] at e
      cases e
      exact dr.more ds
    · rw [if_neg hz] at e
      have := (l2 z).1
      rw [e] at this
      exact this
  · rw [hget_put] at e
    by_cases hz : z = r
    · rw [if_pos hz] at e
      cases e
      exact low_coprime (Int.mul_pos dr.pos hs.pos)
    · rw [if_neg hz] at e
      exact hlw1 z w e
end Bv

set_option pp.maxSteps 600
/-! Family A: the book beside the law's lists; a deed keeps them. -/
namespace Bv
open PySem L2 PyProof.Rows
structure OkS (m : BM) (i : Nat) : Prop where
  nd : (m.ps ++ m.ns).Nodup
  p6 : m.ps.length ≤ 6
  h8 : m.hs.length ≤ 8
  nm : ∀ z ∈ m.ps ++ m.ns, Name z
  rc : ∀ x ∈ m.hs, RecA (m.ps ++ m.ns) i x.held
/-- addresses apart -/
structure AdS (m : BM) : Prop where
  ad : (m.en :: m.em :: (m.hs.map (·.h) ++ m.hs.map (·.gh))).Nodup
  al : (m.pl :: m.pm :: m.hs.map (·.g)).Nodup
structure St (CB CE : Addr) (F : MH) (m : BM) (i : Nat) : Prop where
  bk : BkS CB CE F m
  md : MdS F m
  em : F m.em = some (.dict (modA m.hs))
  ok : OkS m i
  ad : AdS m
def BM.adr (m : BM) (a : Addr) : Prop := a = m.b ∨ a = m.pl ∨ a = m.en ∨ a = m.pm ∨ a = m.em ∨ ∃ x ∈ m.hs, a = x.e ∨ a = x.h ∨ a = x.g ∨ a = x.gh
structure Frm (F F' : MH) (m m' : BM) : Prop where
  keep : ∀ a c, F a = some c → ¬ m.adr a → F' a = some c
  sub : ∀ a, m'.adr a → m.adr a ∨ F a = none
  b : m'.b = m.b
  v : m'.v = m.v
  ns : ∃ l, m'.ns = m.ns ++ l
  ps : ∃ l, m'.ps = m.ps ++ l
def DOk : Deed → Prop
  | .person n => Tx n
  | .house n o _ _ _ => Tx n
  | .sale h o r s => Shr s
  | .num k h _ => k < 3
theorem OkS.can {m : BM} {i : Nat} (h : OkS m i) (hi : i ≤ 44) {d : Deed} (hd : DOk d) : Can m d := by
  cases d with
  | person n => exact ⟨hd, h.p6⟩
  | house n o t k l => exact ⟨hd, h.h8⟩
  | sale hn o r s =>
    have hd : Shr s := hd
    refine ⟨hd.sm, fun x hx => ?_⟩
    have rc := h.rc x (hof_mem hx).1
    refine ⟨by have := rc.len; omega, rc.pr1 hi hd o, fun hr => ?_⟩
    obtain ⟨_, _, h1, h2⟩ := refSale_none hr
    exact rc.pr2 hi hd h1 h2
  | num k hn v => exact hd
theorem OkS.canR {m : BM} {i : Nat} (h : OkS m i) (hi : i ≤ 44) {d : Deed} (hd : DOk d) : CanR m d := by
  cases d with
  | person n => exact hd
  | house n o t k l => exact hd
  | sale hn o r s =>
    have hd : Shr s := hd
    exact ⟨hd.sm, fun x hx => ((h.rc x (hof_mem hx).1).pr1 hi hd o).a⟩
  | num k hn v => exact hd
theorem OkS.nds {m : BM} {i : Nat} (h : OkS m i) : m.ps.Nodup ∧ m.ns.Nodup := by
  have := List.nodup_append.mp h.nd
  exact ⟨this.1, this.2.1⟩
theorem OkS.mono {m : BM} {i j : Nat} (h : OkS m i) (hij : i ≤ j) : OkS m j := { h with rc := fun x hx => (h.rc x hx).mono (fun _ z => z) hij }
/-! ### a change at one house -/
def chgA (k : Str) (f : Ha → Ha) (y : Ha) : Ha := if y.nm = k then f y else y
theorem chgA_f {α : Type} (k : Str) (f : Ha → Ha) (g : Ha → α) (hg : ∀ y, g (f y) = g y) (y : Ha) : g (chgA k f y) = g y := by
  unfold chgA; split
  · exact hg y
  · rfl
theorem chgA_map {α : Type} (k : Str) (f : Ha → Ha) (g : Ha → α) (hg : ∀ y, g (f y) = g y) (hs : List Ha) : (hs.map (chgA k f)).map g = hs.map g := by
  rw [List.map_map]
  apply List.map_congr_left
  intro y _
  exact chgA_f k f g hg y
theorem chgA_mem {k : Str} {f : Ha → Ha} {hs : List Ha} {y : Ha} (h : y ∈ hs.map (chgA k f)) : ∃ x ∈ hs, y = chgA k f x := by
  obtain ⟨x, hx, e⟩ := List.mem_map.mp h
  exact ⟨x, hx, e.symm⟩
/-- a cell of another kind is elsewhere -/
theorem ne_cell {F : MH} {a b : Addr} {c d : Cell} (h : F a = some c) (hb : F b = some d) (hne : c ≠ d) : a ≠ b := fun z => by
  rw [z, hb] at h
  cases h
  exact hne rfl
theorem ne_free {F : MH} {a b : Addr} {c : Cell} (h : F a = some c) (hb : F b = none) : a ≠ b := fun z => by
  rw [z, hb] at h
  cases h
theorem book_ne_ent {CB CE : Addr} {F : MH} {b pl en e h : Addr} {ps : List Str} {es : List (Str × Val)} {nums : Val} {held : Held} (bk : BkC CB F b pl en ps es) (ec : EnC CE F e h nums held) : b ≠ e := fun z => by
  have h1 := bk.b
  rw [z, ec.e] at h1
  have h2 : entFs nums h = bookFs pl en := by injection h1 with h1; injection h1
  have h3 := congrArg (fun l : List (Str × Val) => (l.head?.map (·.1))) h2
  exact absurd h3 (by show ¬ (some ("numbers" : Str) = some ("people" : Str)); decide)
theorem BkS.e_inj {CB CE : Addr} {F : MH} {m : BM} (bk : BkS CB CE F m) (ad : AdS m) {x y : Ha} (hx : x ∈ m.hs) (hy : y ∈ m.hs) (e : x.e = y.e) : x = y := by
  have h1 := (bk.ent x hx).e
  rw [e, (bk.ent y hy).e] at h1
  have h2 : entFs (numV y.n) y.h = entFs (numV x.n) x.h := by injection h1 with h1; injection h1
  have h3 : y.h = x.h := by
    have := congrArg (fun l : List (Str × Val) => l.lookup ("held" : Str)) h2
    rw [fld_held, fld_held] at this
    injection this with this
    injection this
  have ad := ad.ad
  rw [List.nodup_cons, List.nodup_cons, List.nodup_append] at ad
  exact map_inj ad.2.2.1 hx hy h3.symm
structure AdP (m : BM) : Prop where
  enem : m.en ≠ m.em
  enh : ∀ x ∈ m.hs, x.h ≠ m.en
  engh : ∀ x ∈ m.hs, x.gh ≠ m.en
  emh : ∀ x ∈ m.hs, x.h ≠ m.em
  emgh : ∀ x ∈ m.hs, x.gh ≠ m.em
  hgh : ∀ x ∈ m.hs, ∀ y ∈ m.hs, x.h ≠ y.gh
  hh : ∀ x ∈ m.hs, ∀ y ∈ m.hs, x.h = y.h → x = y
  gg : ∀ x ∈ m.hs, ∀ y ∈ m.hs, x.g = y.g → x = y
  ghgh : ∀ x ∈ m.hs, ∀ y ∈ m.hs, x.gh = y.gh → x = y
  plpm : m.pl ≠ m.pm
  plg : ∀ x ∈ m.hs, x.g ≠ m.pl
  pmg : ∀ x ∈ m.hs, x.g ≠ m.pm
theorem AdS.p {m : BM} (h : AdS m) : AdP m := by
  have ad := h.ad
  have al := h.al
  rw [List.nodup_cons, List.nodup_cons, List.nodup_append] at ad
  rw [List.nodup_cons, List.nodup_cons] at al
  obtain ⟨a1, a2, a3, a4, a5⟩ := ad
  obtain ⟨b1, b2, b3⟩ := al
  refine ⟨fun z => a1 (by rw [z]; exact List.mem_cons_self), fun x hx z => a1 ?_, fun x hx z => a1 ?_, fun x hx z => a2 ?_, fun x hx z => a2 ?_, fun x hx y hy z => a5 _ (List.mem_map.mpr ⟨x, hx, rfl⟩) _ (List.mem_map.mpr ⟨y, hy, rfl⟩) z,
    fun x hx y hy z => map_inj a3 hx hy z, fun x hx y hy z => map_inj b3 hx hy z, fun x hx y hy z => map_inj a4 hx hy z, fun z => b1 (by rw [z]; exact List.mem_cons_self), fun x hx z => b1 ?_, fun x hx z => b2 ?_⟩
  · rw [← z]; exact List.mem_cons_of_mem _ (List.mem_append_left _ (List.mem_map.mpr ⟨x, hx, rfl⟩))
  · rw [← z]; exact List.mem_cons_of_mem _ (List.mem_append_right _ (List.mem_map.mpr ⟨x, hx, rfl⟩))
  · rw [← z]; exact List.mem_append_left _ (List.mem_map.mpr ⟨x, hx, rfl⟩)
  · rw [← z]; exact List.mem_append_right _ (List.mem_map.mpr ⟨x, hx, rfl⟩)
  · rw [← z]; exact List.mem_cons_of_mem _ (List.mem_map.mpr ⟨x, hx, rfl⟩)
  · rw [← z]; exact List.mem_map.mpr ⟨x, hx, rfl⟩
section
variable {CB CE : Addr} {F F' : MH} {m : BM} {i : Nat}
/-- all but some cells kept -/
theorem BkS.kept (h : BkS CB CE F m) (kb : F' m.b = F m.b) (kp : F' m.pl = F m.pl) (ke : F' m.en = F m.en) (kx : ∀ x ∈ m.hs, F' x.e = F x.e ∧ F' x.h = F x.h) : BkS CB CE F' m :=
  ⟨⟨by rw [kb]; exact h.c.b, by rw [kp]; exact h.c.pl, by rw [ke]; exact h.c.en⟩, fun x hx => ⟨by rw [(kx x hx).1]; exact (h.ent x hx).e, by rw [(kx x hx).2]; exact (h.ent x hx).h⟩⟩
theorem BkS.has (h : BkS CB CE F m) {a : Addr} (ha : a = m.b ∨ a = m.pl ∨ a = m.en ∨ ∃ x ∈ m.hs, a = x.e ∨ a = x.h) : ∃ c, F a = some c := by
  rcases ha with rfl | rfl | rfl | ⟨x, hx, rfl | rfl⟩
  · exact ⟨_, h.c.b⟩
  · exact ⟨_, h.c.pl⟩
  · exact ⟨_, h.c.en⟩
  · exact ⟨_, (h.ent x hx).e⟩
  · exact ⟨_, (h.ent x hx).h⟩
theorem St.has (h : St CB CE F m i) {a : Addr} (ha : m.adr a) : ∃ c, F a = some c := by
  rcases ha with rfl | rfl | rfl | rfl | rfl | ⟨x, hx, rfl | rfl | rfl | rfl⟩
  · exact ⟨_, h.bk.c.b⟩
  · exact ⟨_, h.bk.c.pl⟩
  · exact ⟨_, h.bk.c.en⟩
  · exact ⟨_, h.md.pmc⟩
  · exact ⟨_, h.em⟩
  · exact ⟨_, (h.bk.ent x hx).e⟩
  · exact ⟨_, (h.bk.ent x hx).h⟩
  · exact ⟨_, h.md.gc x hx⟩
  · exact ⟨_, h.md.ghc x hx⟩
theorem St.kept (h : St CB CE F m i) (k : ∀ a c, m.adr a → F a = some c → F' a = some c) : St CB CE F' m i := by
  have ax : ∀ x ∈ m.hs, ∀ a, a = x.e ∨ a = x.h ∨ a = x.g ∨ a = x.gh → m.adr a := fun x hx a ha => .inr (.inr (.inr (.inr (.inr ⟨x, hx, ha⟩))))
  have hem : F' m.em = some (.dict (modA m.hs)) := k _ _ (.inr (.inr (.inr (.inr (.inl rfl))))) h.em
  refine ⟨⟨⟨k _ _ (.inl rfl) h.bk.c.b, k _ _ (.inr (.inl rfl)) h.bk.c.pl, k _ _ (.inr (.inr (.inl rfl))) h.bk.c.en⟩, fun x hx => ⟨k _ _ (ax x hx _ (.inl rfl)) (h.bk.ent x hx).e, k _ _ (ax x hx _ (.inr (.inl rfl))) (h.bk.ent x hx).h⟩⟩,
    ⟨k _ _ (.inr (.inr (.inr (.inl rfl)))) h.md.pmc, dc_of hem, fun x hx => k _ _ (ax x hx _ (.inr (.inr (.inl rfl)))) (h.md.gc x hx), fun x hx => k _ _ (ax x hx _ (.inr (.inr (.inr rfl)))) (h.md.ghc x hx)⟩, hem, h.ok, h.ad⟩
theorem St.ext (h : St CB CE F m i) (e : Ext F F') : St CB CE F' m i := h.kept fun a c _ q => e a c q
theorem St.more (h : St CB CE F m i) {j : Nat} (hij : i ≤ j) : St CB CE F m j := { h with ok := h.ok.mono hij }
theorem Frm.refl (e : Ext F F') : Frm F F' m m := ⟨fun a c h _ => e a c h, fun a h => .inl h, rfl, rfl, ⟨[], by rw [List.append_nil]⟩, ⟨[], by rw [List.append_nil]⟩⟩
/-- a person more -/
theorem St.person (st : St CB CE F m i) {n : Str} (hr : refu m (.person n) = none) :
    MdS (mset F m.pl (.lst ((m.ps ++ [n]).map .str))) m ∧ (mset F m.pl (.lst ((m.ps ++ [n]).map .str))) m.em = some (.dict (modA m.hs)) ∧
    (∃ m', (m'.ps = m.ps ++ [n] ∧ m'.ns = m.ns) ∧ St CB CE (mset (mset F m.pl (.lst ((m.ps ++ [n]).map .str))) m.pm (.lst ((m.ps ++ [n]).map .str))) m' (i + 1) ∧ Frm F (mset (mset F m.pl (.lst ((m.ps ++ [n]).map .str))) m.pm (.lst ((m.ps ++ [n]).map .str))) m m') := by
  have ap := st.ad.p
  have bk := st.bk
  have md := st.md
  have hr : refPerson m.ps m.ns n = none := hr
  have npl : ∀ {a c}, F a = some c → c ≠ .lst (m.ps.map .str) → a ≠ m.pl := fun {a c} h hc => ne_cell h bk.c.pl hc
  have npm : ∀ {a c}, F a = some c → c ≠ .lst (m.ps.map .str) → a ≠ m.pm := fun {a c} h hc => ne_cell h md.pmc hc
  have gne : ∀ x ∈ m.hs, x.g ≠ m.pl ∧ x.g ≠ m.pm := fun x hx => ⟨ap.plg x hx, ap.pmg x hx⟩
  have hemp : m.em ≠ m.pl := npl st.em (fun z => nomatch z)
  refine ⟨⟨?_, ?_, fun x hx => ?_, fun x hx => ?_⟩, ?_, ⟨m.b, m.pl, m.en, m.pm, m.em, m.ps ++ [n], m.hs⟩, ⟨rfl, rfl⟩, ?_, ?_⟩
  · rw [mset_ne (Ne.symm ap.plpm)]; exact md.pmc
  · exact dc_of (by rw [mset_ne hemp]; exact st.em)
  · rw [mset_ne (gne x hx).1]; exact md.gc x hx
  · rw [mset_ne (npl (md.ghc x hx) (fun z => nomatch z))]; exact md.ghc x hx
  · rw [mset_ne hemp]; exact st.em
  · generalize hL : Cell.lst ((m.ps ++ [n]).map Val.str) = L
    have k2 : ∀ {a c}, F a = some c → a ≠ m.pl → a ≠ m.pm → mset (mset F m.pl L) m.pm L a = some c := fun {a c} h h1 h2 => by rw [mset_ne h2, mset_ne h1]; exact h
    have kc : ∀ {a c}, F a = some c → c ≠ .lst (m.ps.map .str) → mset (mset F m.pl L) m.pm L a = some c := fun {a c} h hc => k2 h (npl h hc) (npm h hc)
    have hem := kc st.em (fun z => nomatch z)
    unfold refPerson at hr
    cases hn : refNew m.ps m.ns n with
    | some r => rw [hn] at hr; cases hr
    | none =>
    rw [hn] at hr
    have hr : ifO (m.ps.length = 6) 2 = none := hr
    have h6 : m.ps.length ≠ 6 := fun z => by rw [ifO_t z] at hr; cases hr
    obtain ⟨n1, n2, n3⟩ := refNew_none hn
    have hmm : ∀ z, z ∈ (m.ps ++ [n]) ++ m.ns → z ∈ m.ps ++ m.ns ∨ z = n := fun z hz => by
      rcases List.mem_append.mp hz with q | q
      · rcases List.mem_append.mp q with q | q
        · exact .inl (List.mem_append_left _ q)
        · exact .inr (List.mem_singleton.mp q)
      · exact .inl (List.mem_append_right _ q)
    refine ⟨⟨⟨kc bk.c.b (fun z => nomatch z), ?_, kc bk.c.en (fun z => nomatch z)⟩, fun x hx => ⟨kc (bk.ent x hx).e (fun z => nomatch z), kc (bk.ent x hx).h (fun z => nomatch z)⟩⟩, ⟨?_, dc_of hem, fun x hx => k2 (md.gc x hx) (gne x hx).1 (gne x hx).2, fun x hx => kc (md.ghc x hx) (fun z => nomatch z)⟩, hem, ⟨?_, ?_, st.ok.h8, fun z hz => ?_, fun x hx => ?_⟩, ⟨st.ad.ad, st.ad.al⟩⟩
    · show mset (mset F m.pl L) m.pm L m.pl = _
      rw [mset_ne ap.plpm, mset_same, hL]
    · show mset (mset F m.pl L) m.pm L m.pm = _
      rw [mset_same, hL]
    · show ((m.ps ++ [n]) ++ m.ns).Nodup
      have nd := st.ok.nd
      rw [List.append_assoc, List.nodup_append] at *
      refine ⟨nd.1, ?_, fun a ha c hc => ?_⟩
      · show (n :: m.ns).Nodup
        exact List.nodup_cons.mpr ⟨n3, nd.2.1⟩
      · rcases List.mem_cons.mp hc with q | q
        · rintro rfl; rw [q] at ha; exact n2 ha
        · exact nd.2.2 a ha c q
    · show (m.ps ++ [n]).length ≤ 6
      have := st.ok.p6
      rw [List.length_append]
      show m.ps.length + 1 ≤ 6
      omega
    · rcases hmm z hz with q | q
      · exact st.ok.nm z q
      · rw [q]; exact nameB_iff.mp n1
    · refine (st.ok.rc x hx).mono (fun z hz => ?_) (Nat.le_succ _)
      show z ∈ (m.ps ++ [n]) ++ m.ns
      rcases List.mem_append.mp hz with q | q
      · exact List.mem_append_left _ (List.mem_append_left _ q)
      · exact List.mem_append_right _ q
  · refine ⟨fun a c h ha => ?_, fun a h => .inl h, rfl, rfl, ⟨[], by rw [List.append_nil]; rfl⟩, ⟨[n], rfl⟩⟩
    rw [mset_ne (fun z => ha (.inr (.inr (.inr (.inl z))))), mset_ne (fun z => ha (.inr (.inl z)))]
    exact h
end
end Bv

set_option pp.maxSteps 600
/-! Family A: a house more; a sale; a number. -/
namespace Bv
open PySem L2 PyProof.Rows
section
variable {CB CE : Addr} {F F' : MH} {m : BM} {i : Nat}
theorem St.house (st : St CB CE F m i) {n o : Str} {t k l : Int} (hr : refu m (.house n o t k l) = none) {h e gh g : Addr} (hh : F h = none) (he : F e = none) (heh : e ≠ h) {F1 : MH} (hF1 : F1 = mset (mset (mset F h (.dict [(o, frP (1, 1))])) e (.inst CE (entFs (.tup [.int t, .int k, .int l]) h))) m.en (.dict (entA m.hs ++ [(n, .ref e)]))) (hgh : F1 gh = none) (hg : F1 g = none) (hggh : g ≠ gh) {F2 : MH} (hF2 : F2 = mset (mset (mset F1 gh (.dict [(o, frP (1, 1))])) g (.lst [.int t, .int k, .int l, .ref gh])) m.em (.dict (modA m.hs ++ [(n, .ref g)]))) :
    ∃ m', (m'.ns = m.ns ++ [n] ∧ m'.ps = m.ps) ∧ St CB CE F2 m' (i + 1) ∧ Frm F F2 m m' := by
  have ap := st.ad.p
  have bk := st.bk
  have md := st.md
  have hr : refHouse m.ps m.ns n o l = none := hr
  unfold refHouse at hr
  cases hn : refNew m.ps m.ns n with
  | some r => rw [hn] at hr; cases hr
  | none =>
  rw [hn] at hr
  cases ho : refHold m.ps m.ns o with
  | some r => rw [ho] at hr; cases hr
  | none =>
  rw [ho] at hr
  cases hl : refLoss l with
  | some r => rw [hl] at hr; cases hr
  | none =>
  rw [hl] at hr
  have hr : ifO (m.ns.length = 8) 2 = none := hr
  have h8 : m.ns.length ≠ 8 := fun z => by rw [ifO_t z] at hr; cases hr
  have h8' : m.hs.length ≤ 7 := by
    have : m.ns.length = m.hs.length := by unfold BM.ns; rw [List.length_map]
    have := st.ok.h8
    omega
  obtain ⟨n1, n2, n3⟩ := refNew_none hn
  have hoh : o ∈ m.ps ∨ o ∈ m.ns := by
    unfold refHold at ho
    by_cases q : o ∈ m.ps ∨ o ∈ m.ns
    · exact q
    · rw [ifO_t q] at ho; cases ho
  have enh : m.en ≠ h := ne_free bk.c.en hh
  have ene : m.en ≠ e := ne_free bk.c.en he
  have f1en : F1 m.en = some (.dict (entA m.hs ++ [(n, .ref e)])) := by rw [hF1, mset_same]
  have f1e : F1 e = some (.inst CE (entFs (.tup [.int t, .int k, .int l]) h)) := by rw [hF1, mset_ne (Ne.symm ene), mset_same]
  have f1h : F1 h = some (.dict [(o, frP (1, 1))]) := by rw [hF1, mset_ne (Ne.symm enh), mset_ne (Ne.symm heh), mset_same]
  have f1k : ∀ {a c}, F a = some c → a ≠ m.en → F1 a = some c := fun {a c} q q2 => by rw [hF1, mset_ne q2, mset_ne (ne_free q he), mset_ne (ne_free q hh)]; exact q
  have f1n : ∀ {a}, F1 a = none → F a = none := fun {a} q => by
    cases z : F a with
    | none => rfl
    | some c =>
      by_cases q2 : a = m.en
      · rw [q2, f1en] at q; cases q
      · rw [f1k z q2] at q; cases q
  have emen := ap.enem
  have f1em : F1 m.em = some (.dict (modA m.hs)) := f1k st.em (Ne.symm emen)
  have f2em : F2 m.em = some (.dict (modA m.hs ++ [(n, .ref g)])) := by rw [hF2, mset_same]
  have f2k1 : ∀ {a c}, F1 a = some c → a ≠ m.em → F2 a = some c := fun {a c} q q2 => by rw [hF2, mset_ne q2, mset_ne (ne_free q hg), mset_ne (ne_free q hgh)]; exact q
  have f2k : ∀ {a c}, F a = some c → a ≠ m.en → a ≠ m.em → F2 a = some c := fun {a c} q q2 q3 => f2k1 (f1k q q2) q3
  have emg : m.em ≠ g := ne_free f1em hg
  have emgh : m.em ≠ gh := ne_free f1em hgh
  have f2g : F2 g = some (.lst [.int t, .int k, .int l, .ref gh]) := by rw [hF2, mset_ne (Ne.symm emg), mset_same]
  have f2gh : F2 gh = some (.dict [(o, frP (1, 1))]) := by rw [hF2, mset_ne (Ne.symm emgh), mset_ne (Ne.symm hggh), mset_same]
  have emh : h ≠ m.em := (ne_free st.em hh).symm
  have eme : e ≠ m.em := (ne_free st.em he).symm
  have f2h := f2k1 f1h emh
  have f2e := f2k1 f1e eme
  have f2en := f2k1 f1en emen
  have kd : ∀ {a c}, F a = some c → (∀ kvs, c ≠ .dict kvs) → F2 a = some c := fun {a c} q hc => f2k q (ne_cell q bk.c.en (hc _)) (ne_cell q st.em (hc _))
  have hgF := f1n hg
  have hghF := f1n hgh
  refine ⟨⟨m.b, m.pl, m.en, m.pm, m.em, m.ps, m.hs ++ [⟨n, e, h, g, gh, (t, k, l), [(o, (1, 1))]⟩]⟩, ⟨by show (m.hs ++ [(⟨n, e, h, g, gh, (t, k, l), [(o, (1, 1))]⟩ : Ha)]).map (fun y : Ha => y.nm) = _; rw [List.map_append]; rfl, rfl⟩, ⟨⟨⟨kd bk.c.b (fun _ z => nomatch z), kd bk.c.pl (fun _ z => nomatch z), ?_⟩, fun x hx => ?_⟩, ⟨kd md.pmc (fun _ z => nomatch z), ?_, fun x hx => ?_, fun x hx => ?_⟩, ?_, ⟨?_, st.ok.p6, ?_, ?_, fun x hx => ?_⟩, ⟨?_, ?_⟩⟩, ⟨fun a c q ha => ?_, fun a ha => ?_, rfl, rfl, ⟨[n], ?_⟩, ⟨[], by rw [List.append_nil]⟩⟩⟩
  · rw [f2en]; unfold entA; rw [List.map_append]; rfl
  · rcases List.mem_append.mp hx with hx | hx
    · exact ⟨kd (bk.ent x hx).e (fun _ z => nomatch z), f2k (bk.ent x hx).h (ap.enh x hx) (ap.emh x hx)⟩
    · rw [List.mem_singleton.mp hx]
      exact ⟨f2e, f2h⟩
  · refine dc_of ?_
    rw [f2em]; unfold modA; rw [List.map_append]; rfl
  · rcases List.mem_append.mp hx with hx | hx
    · exact kd (md.gc x hx) (fun _ z => nomatch z)
    · rw [List.mem_singleton.mp hx]
      exact f2g
  · rcases List.mem_append.mp hx with hx | hx
    · exact f2k (md.ghc x hx) (ap.engh x hx) (ap.emgh x hx)
    · rw [List.mem_singleton.mp hx]
      exact f2gh
  · show F2 m.em = some (.dict (modA (m.hs ++ _)))
    rw [f2em]; unfold modA; rw [List.map_append]; rfl
  · show (m.ps ++ (m.hs ++ [_]).map (fun y : Ha => y.nm)).Nodup
    rw [List.map_append, ← List.append_assoc, List.nodup_append]
    refine ⟨st.ok.nd, by simp, fun a ha b hb => ?_⟩
    have hb : b = n := by simpa using hb
    rw [hb]
    rintro rfl
    rcases List.mem_append.mp ha with q | q
    · exact n2 q
    · exact n3 q
  · show (m.hs ++ [_]).length ≤ 8
    rw [List.length_append]
    show m.hs.length + 1 ≤ 8
    omega
  · intro z hz
    have hz : z ∈ m.ps ++ (m.hs ++ [(⟨n, e, h, g, gh, (t, k, l), [(o, (1, 1))]⟩ : Ha)]).map (fun y : Ha => y.nm) := hz
    rw [List.map_append, ← List.append_assoc] at hz
    rcases List.mem_append.mp hz with q | q
    · exact st.ok.nm z q
    · have : z = n := by simpa using q
      rw [this]; exact nameB_iff.mp n1
  · show RecA (m.ps ++ (m.hs ++ [_]).map (fun y : Ha => y.nm)) (i + 1) x.held
    rw [List.map_append, ← List.append_assoc]
    rcases List.mem_append.mp hx with hx | hx
    · exact (st.ok.rc x hx).mono (fun z hz => List.mem_append_left _ hz) (Nat.le_succ _)
    · rw [List.mem_singleton.mp hx]
      refine RecA.new ?_
      rcases hoh with q | q
      · exact List.mem_append_left _ (List.mem_append_left _ q)
      · exact List.mem_append_left _ (List.mem_append_right _ q)
  · show (m.en :: m.em :: ((m.hs ++ [_]).map (fun y : Ha => y.h) ++ (m.hs ++ [_]).map (fun y : Ha => y.gh))).Nodup
    rw [List.map_append, List.map_append]
    have hp : (m.en :: m.em :: ((m.hs.map (·.h) ++ [h]) ++ (m.hs.map (·.gh) ++ [gh]))).Perm (m.en :: m.em :: ((m.hs.map (·.h) ++ m.hs.map (·.gh)) ++ [h, gh])) := by
      refine List.Perm.cons _ (List.Perm.cons _ ?_)
      rw [List.append_assoc, List.append_assoc]
      refine List.Perm.append_left _ ?_
      show (h :: (m.hs.map (·.gh) ++ [gh])).Perm (m.hs.map (·.gh) ++ (h :: [gh]))
      exact List.perm_middle.symm
    refine hp.nodup_iff.mpr ?_
    show ((m.en :: m.em :: (m.hs.map (·.h) ++ m.hs.map (·.gh))) ++ [h, gh]).Nodup
    rw [List.nodup_append]
    have nothere : ∀ a ∈ (m.en :: m.em :: (m.hs.map (·.h) ++ m.hs.map (·.gh))), ∃ c, F a = some c := fun a ha => by
      rcases List.mem_cons.mp ha with rfl | ha
      · exact ⟨_, bk.c.en⟩
      · rcases List.mem_cons.mp ha with rfl | ha
        · exact ⟨_, st.em⟩
        · rcases List.mem_append.mp ha with ha | ha
          · obtain ⟨x, hx, rfl⟩ := List.mem_map.mp ha
            exact ⟨_, (bk.ent x hx).h⟩
          · obtain ⟨x, hx, rfl⟩ := List.mem_map.mp ha
            exact ⟨_, md.ghc x hx⟩
    refine ⟨st.ad.ad, ?_, fun a ha b hb => ?_⟩
    · have : h ≠ gh := ne_free f1h hgh
      simp [this]
    · obtain ⟨c, hc⟩ := nothere a ha
      have hb : b = h ∨ b = gh := by simpa using hb
      rcases hb with rfl | rfl
      · exact ne_free hc hh
      · exact ne_free hc hghF
  · show (m.pl :: m.pm :: (m.hs ++ [_]).map (fun y : Ha => y.g)).Nodup
    rw [List.map_append]
    have e1 : (m.pl :: m.pm :: (m.hs.map (·.g) ++ [g])) = (m.pl :: m.pm :: m.hs.map (·.g)) ++ [g] := rfl
    show (m.pl :: m.pm :: (m.hs.map (·.g) ++ [g])).Nodup
    rw [e1, List.nodup_append]
    refine ⟨st.ad.al, by simp, fun a ha b hb => ?_⟩
    have hb : b = g := by simpa using hb
    rw [hb]
    rcases List.mem_cons.mp ha with rfl | ha
    · exact ne_free bk.c.pl hgF
    · rcases List.mem_cons.mp ha with rfl | ha
      · exact ne_free md.pmc hgF
      · obtain ⟨x, hx, rfl⟩ := List.mem_map.mp ha
        exact ne_free (md.gc x hx) hgF
  · exact f2k q (fun z => ha (.inr (.inr (.inl z)))) (fun z => ha (.inr (.inr (.inr (.inr (.inl z))))))
  · rcases ha with q | q | q | q | q | ⟨x, hx, q⟩
    · exact .inl (.inl q)
    · exact .inl (.inr (.inl q))
    · exact .inl (.inr (.inr (.inl q)))
    · exact .inl (.inr (.inr (.inr (.inl q))))
    · exact .inl (.inr (.inr (.inr (.inr (.inl q)))))
    · rcases List.mem_append.mp hx with hx | hx
      · exact .inl (.inr (.inr (.inr (.inr (.inr ⟨x, hx, q⟩)))))
      · rw [List.mem_singleton.mp hx] at q
        rcases q with rfl | rfl | rfl | rfl
        · exact .inr he
        · exact .inr hh
        · exact .inr hgF
        · exact .inr hghF
  · show (m.hs ++ [_]).map (fun y : Ha => y.nm) = _
    rw [List.map_append]
    rfl
/-- a change at one house that keeps its name and addresses -/
theorem Frm.chg {k : Str} {f : Ha → Ha} (hf : ∀ y, (f y).nm = y.nm ∧ (f y).e = y.e ∧ (f y).h = y.h ∧ (f y).g = y.g ∧ (f y).gh = y.gh) (hk : ∀ a c, F a = some c → ¬ m.adr a → F' a = some c) : Frm F F' m { m with hs := m.hs.map (chgA k f) } := by
  refine ⟨hk, fun a ha => .inl ?_, rfl, rfl, ⟨[], ?_⟩, ⟨[], by rw [List.append_nil]⟩⟩
  · rcases ha with q | q | q | q | q | ⟨x, hx, q⟩
    · exact .inl q
    · exact .inr (.inl q)
    · exact .inr (.inr (.inl q))
    · exact .inr (.inr (.inr (.inl q)))
    · exact .inr (.inr (.inr (.inr (.inl q))))
    · obtain ⟨y, hy, rfl⟩ := chgA_mem hx
      rw [chgA_f k f (·.e) (fun y => (hf y).2.1), chgA_f k f (·.h) (fun y => (hf y).2.2.1), chgA_f k f (·.g) (fun y => (hf y).2.2.2.1), chgA_f k f (·.gh) (fun y => (hf y).2.2.2.2)] at q
      exact .inr (.inr (.inr (.inr (.inr ⟨y, hy, q⟩))))
  · rw [List.append_nil]
    exact chgA_map k f (·.nm) (fun y => (hf y).1) m.hs
theorem AdS.chg (h : AdS m) {k : Str} {f : Ha → Ha} (hf : ∀ y, (f y).nm = y.nm ∧ (f y).e = y.e ∧ (f y).h = y.h ∧ (f y).g = y.g ∧ (f y).gh = y.gh) : AdS { m with hs := m.hs.map (chgA k f) } := by
  constructor
  · show (m.en :: m.em :: ((m.hs.map (chgA k f)).map (·.h) ++ (m.hs.map (chgA k f)).map (·.gh))).Nodup
    rw [chgA_map k f (·.h) (fun y => (hf y).2.2.1), chgA_map k f (·.gh) (fun y => (hf y).2.2.2.2)]
    exact h.ad
  · show (m.pl :: m.pm :: (m.hs.map (chgA k f)).map (·.g)).Nodup
    rw [chgA_map k f (·.g) (fun y => (hf y).2.2.2.1)]
    exact h.al
theorem chg_ns {k : Str} {f : Ha → Ha} (hf : ∀ y, (f y).nm = y.nm) : BM.ns { m with hs := m.hs.map (chgA k f) } = m.ns := chgA_map k f (·.nm) hf m.hs
theorem chg_ent {k : Str} {f : Ha → Ha} (hf : ∀ y, (f y).nm = y.nm ∧ (f y).e = y.e) : entA (m.hs.map (chgA k f)) = entA m.hs := chgA_map k f (fun x => (x.nm, Val.ref x.e)) (fun y => by rw [(hf y).1, (hf y).2]) m.hs
theorem chg_mod {k : Str} {f : Ha → Ha} (hf : ∀ y, (f y).nm = y.nm ∧ (f y).g = y.g) : modA (m.hs.map (chgA k f)) = modA m.hs := chgA_map k f (fun x => (x.nm, Val.ref x.g)) (fun y => by rw [(hf y).1, (hf y).2]) m.hs
theorem St.sale (st : St CB CE F m i) {hn o r : Str} {s : Int × Int} (hs : Shr s) {x : Ha} (hh : hof m hn = some x) (hr : refu m (.sale hn o r s) = none) :
    ∃ m', St CB CE (mset (mset F x.h (.dict (hv (soldH x.held o r s)))) x.gh (.dict (hv (soldH x.held o r s)))) m' (i + 1) ∧ Frm F (mset (mset F x.h (.dict (hv (soldH x.held o r s)))) x.gh (.dict (hv (soldH x.held o r s)))) m m' := by
  have ap := st.ad.p
  have bk := st.bk
  have md := st.md
  have hh' : hofL m.hs hn = some x := hh
  obtain ⟨hxm, rfl⟩ := hof_mem hh'
  rw [refu_s1 hh] at hr
  obtain ⟨q1, q2, q3, q4⟩ := refSale_none hr
  obtain ⟨v, hv1⟩ := refSale_has hr
  have rc := st.ok.rc x hxm
  have hom : o ∈ x.held.map (·.1) := by
    by_cases q : o ∈ x.held.map (·.1)
    · exact q
    · rw [hget_none.mpr q] at hv1; cases hv1
  have inU : ∀ z, z ∈ m.ps ∨ z ∈ m.ns → z ∈ m.ps ++ m.ns := fun z q => List.mem_append.mpr q
  have rc2 := rc.sold hs (inU o q1) (inU r q2) q3 q4 hom
  generalize soldH x.held o r s = H at *
  have hf : ∀ y : Ha, ({ y with held := H } : Ha).nm = y.nm ∧ ({ y with held := H } : Ha).e = y.e ∧ ({ y with held := H } : Ha).h = y.h ∧ ({ y with held := H } : Ha).g = y.g ∧ ({ y with held := H } : Ha).gh = y.gh := fun y => ⟨rfl, rfl, rfl, rfl, rfl⟩
  have k2 : ∀ {a c}, F a = some c → a ≠ x.h → a ≠ x.gh → mset (mset F x.h (.dict (hv H))) x.gh (.dict (hv H)) a = some c := fun {a c} h h1 h2 => by rw [mset_ne h2, mset_ne h1]; exact h
  have kd : ∀ {a c}, F a = some c → (∀ kvs, c ≠ .dict kvs) → mset (mset F x.h (.dict (hv H))) x.gh (.dict (hv H)) a = some c := fun {a c} h hc => k2 h (ne_cell h (bk.ent x hxm).h (hc _)) (ne_cell h (md.ghc x hxm) (hc _))
  have hhgh : x.h ≠ x.gh := ap.hgh x hxm x hxm
  have fh : mset (mset F x.h (.dict (hv H))) x.gh (.dict (hv H)) x.h = some (.dict (hv H)) := by rw [mset_ne hhgh, mset_same]
  have fgh : mset (mset F x.h (.dict (hv H))) x.gh (.dict (hv H)) x.gh = some (.dict (hv H)) := mset_same
  have hem := k2 st.em (ap.emh x hxm).symm (ap.emgh x hxm).symm
  have hen := k2 bk.c.en (ap.enh x hxm).symm (ap.engh x hxm).symm
  have hadr : m.adr x.h ∧ m.adr x.gh := ⟨.inr (.inr (.inr (.inr (.inr ⟨x, hxm, .inr (.inl rfl)⟩)))), .inr (.inr (.inr (.inr (.inr ⟨x, hxm, .inr (.inr (.inr rfl))⟩))))⟩
  have keep : ∀ a c, F a = some c → ¬ m.adr a → mset (mset F x.h (.dict (hv H))) x.gh (.dict (hv H)) a = some c := fun a c h ha => k2 h (fun z => ha (z ▸ hadr.1)) (fun z => ha (z ▸ hadr.2))
  generalize mset (mset F x.h (.dict (hv H))) x.gh (.dict (hv H)) = F2 at *
  have hnd := st.ok.nds.2
  have yx : ∀ y ∈ m.hs, y.nm = x.nm → y = x := fun y hy e => map_inj hnd hy hxm e
  refine ⟨{ m with hs := m.hs.map (chgA x.nm fun y => { y with held := H }) }, ⟨⟨⟨kd bk.c.b (fun _ z => nomatch z), kd bk.c.pl (fun _ z => nomatch z), ?_⟩, fun y0 hy0 => ?_⟩, ⟨kd md.pmc (fun _ z => nomatch z), ?_, fun y0 hy0 => ?_, fun y0 hy0 => ?_⟩, ?_, ⟨?_, st.ok.p6, ?_, ?_, fun y0 hy0 => ?_⟩, st.ad.chg hf⟩, Frm.chg hf keep⟩
  · show F2 m.en = some (.dict (entA (m.hs.map _)))
    rw [chg_ent (fun y => ⟨(hf y).1, (hf y).2.1⟩)]
    exact hen
  · obtain ⟨y, hy, rfl⟩ := chgA_mem hy0
    unfold chgA
    split
    · rename_i e
      rw [yx y hy e]
      exact ⟨kd (bk.ent x hxm).e (fun _ z => nomatch z), fh⟩
    · rename_i e
      exact ⟨kd (bk.ent y hy).e (fun _ z => nomatch z), k2 (bk.ent y hy).h (fun z => e (by rw [ap.hh y hy x hxm z])) (ap.hgh y hy x hxm)⟩
  · show dcOf F2 m.em = some (modA (m.hs.map _))
    rw [chg_mod (fun y => ⟨(hf y).1, (hf y).2.2.2.1⟩)]
    exact dc_of hem
  · obtain ⟨y, hy, rfl⟩ := chgA_mem hy0
    have e1 := chgA_f x.nm (fun y => { y with held := H }) (·.g) (fun _ => rfl) y
    have e2 := chgA_f x.nm (fun y => { y with held := H }) (·.gh) (fun _ => rfl) y
    have e3 := chgA_f x.nm (fun y => { y with held := H }) (·.n) (fun _ => rfl) y
    rw [e1, e2, e3]
    exact kd (md.gc y hy) (fun _ z => nomatch z)
  · obtain ⟨y, hy, rfl⟩ := chgA_mem hy0
    unfold chgA
    split
    · rename_i e
      rw [yx y hy e]
      exact fgh
    · rename_i e
      exact k2 (md.ghc y hy) (fun z => ap.hgh x hxm y hy z.symm) (fun z => e (by rw [ap.ghgh y hy x hxm z]))
  · show F2 m.em = some (.dict (modA (m.hs.map _)))
    rw [chg_mod (fun y => ⟨(hf y).1, (hf y).2.2.2.1⟩)]
    exact hem
  · rw [chg_ns (f := fun y : Ha => { y with held := H }) (fun _ => rfl)]
    exact st.ok.nd
  · show (m.hs.map _).length ≤ 8
    rw [List.length_map]
    exact st.ok.h8
  · rw [chg_ns (f := fun y : Ha => { y with held := H }) (fun _ => rfl)]
    exact st.ok.nm
  · rw [chg_ns (f := fun y : Ha => { y with held := H }) (fun _ => rfl)]
    obtain ⟨y, hy, rfl⟩ := chgA_mem hy0
    unfold chgA
    split
    · exact rc2
    · exact (st.ok.rc y hy).mono (fun _ z => z) (Nat.le_succ _)
theorem St.num (st : St CB CE F m i) {hn : Str} {k : Nat} {v : Int} {x : Ha} (hh : hof m hn = some x) :
    ∃ m', St CB CE (mset (mset F x.e (.inst CE (entFs (numV (putN3 x.n k v)) x.h))) x.g (.lst [.int (putN3 x.n k v).1, .int (putN3 x.n k v).2.1, .int (putN3 x.n k v).2.2, .ref x.gh])) m' (i + 1) ∧ Frm F (mset (mset F x.e (.inst CE (entFs (numV (putN3 x.n k v)) x.h))) x.g (.lst [.int (putN3 x.n k v).1, .int (putN3 x.n k v).2.1, .int (putN3 x.n k v).2.2, .ref x.gh])) m m' := by
  have ap := st.ad.p
  have bk := st.bk
  have md := st.md
  have hh' : hofL m.hs hn = some x := hh
  obtain ⟨hxm, rfl⟩ := hof_mem hh'
  generalize putN3 x.n k v = N at *
  have hf : ∀ y : Ha, ({ y with n := N } : Ha).nm = y.nm ∧ ({ y with n := N } : Ha).e = y.e ∧ ({ y with n := N } : Ha).h = y.h ∧ ({ y with n := N } : Ha).g = y.g ∧ ({ y with n := N } : Ha).gh = y.gh := fun y => ⟨rfl, rfl, rfl, rfl, rfl⟩
  have bne : m.b ≠ x.e := book_ne_ent bk.c (bk.ent x hxm)
  have xe : F x.e = _ := (bk.ent x hxm).e
  have xg : F x.g = _ := md.gc x hxm
  have eg : x.e ≠ x.g := ne_cell xe xg (fun z => nomatch z)
  have k2 : ∀ {a c}, F a = some c → a ≠ x.e → a ≠ x.g → mset (mset F x.e (.inst CE (entFs (numV N) x.h))) x.g (.lst [.int N.1, .int N.2.1, .int N.2.2, .ref x.gh]) a = some c := fun {a c} h h1 h2 => by rw [mset_ne h2, mset_ne h1]; exact h
  have kd : ∀ {a kvs}, F a = some (.dict kvs) → mset (mset F x.e (.inst CE (entFs (numV N) x.h))) x.g (.lst [.int N.1, .int N.2.1, .int N.2.2, .ref x.gh]) a = some (.dict kvs) := fun {a c} h => k2 h (ne_cell h xe (fun z => nomatch z)) (ne_cell h xg (fun z => nomatch z))
  have fe : mset (mset F x.e (.inst CE (entFs (numV N) x.h))) x.g (.lst [.int N.1, .int N.2.1, .int N.2.2, .ref x.gh]) x.e = some (.inst CE (entFs (numV N) x.h)) := by rw [mset_ne eg, mset_same]
  have fg : mset (mset F x.e (.inst CE (entFs (numV N) x.h))) x.g (.lst [.int N.1, .int N.2.1, .int N.2.2, .ref x.gh]) x.g = some (.lst [.int N.1, .int N.2.1, .int N.2.2, .ref x.gh]) := mset_same
  have hadr : m.adr x.e ∧ m.adr x.g := ⟨.inr (.inr (.inr (.inr (.inr ⟨x, hxm, .inl rfl⟩)))), .inr (.inr (.inr (.inr (.inr ⟨x, hxm, .inr (.inr (.inl rfl))⟩))))⟩
  have keep : ∀ a c, F a = some c → ¬ m.adr a → mset (mset F x.e (.inst CE (entFs (numV N) x.h))) x.g (.lst [.int N.1, .int N.2.1, .int N.2.2, .ref x.gh]) a = some c := fun a c h ha => k2 h (fun z => ha (z ▸ hadr.1)) (fun z => ha (z ▸ hadr.2))
  have hb := k2 bk.c.b bne (ne_cell bk.c.b xg (fun z => nomatch z))
  have hpl := k2 bk.c.pl (ne_cell bk.c.pl xe (fun z => nomatch z)) (ap.plg x hxm).symm
  have hpm := k2 md.pmc (ne_cell md.pmc xe (fun z => nomatch z)) (ap.pmg x hxm).symm
  have hem := kd st.em
  have hen := kd bk.c.en
  have oe : ∀ y ∈ m.hs, y.nm ≠ x.nm → mset (mset F x.e (.inst CE (entFs (numV N) x.h))) x.g (.lst [.int N.1, .int N.2.1, .int N.2.2, .ref x.gh]) y.e = some (.inst CE (entFs (numV y.n) y.h)) := fun y hy e => k2 (bk.ent y hy).e (fun z => e (by rw [bk.e_inj st.ad hy hxm z])) (ne_cell (bk.ent y hy).e xg (fun z => nomatch z))
  have og : ∀ y ∈ m.hs, y.nm ≠ x.nm → mset (mset F x.e (.inst CE (entFs (numV N) x.h))) x.g (.lst [.int N.1, .int N.2.1, .int N.2.2, .ref x.gh]) y.g = some (.lst [.int y.n.1, .int y.n.2.1, .int y.n.2.2, .ref y.gh]) := fun y hy e => k2 (md.gc y hy) (ne_cell (md.gc y hy) xe (fun z => nomatch z)) (fun z => e (by rw [ap.gg y hy x hxm z]))
  have oh : ∀ y ∈ m.hs, mset (mset F x.e (.inst CE (entFs (numV N) x.h))) x.g (.lst [.int N.1, .int N.2.1, .int N.2.2, .ref x.gh]) y.h = some (.dict (hv y.held)) := fun y hy => kd (bk.ent y hy).h
  have ogh : ∀ y ∈ m.hs, mset (mset F x.e (.inst CE (entFs (numV N) x.h))) x.g (.lst [.int N.1, .int N.2.1, .int N.2.2, .ref x.gh]) y.gh = some (.dict (hv y.held)) := fun y hy => kd (md.ghc y hy)
  generalize mset (mset F x.e (.inst CE (entFs (numV N) x.h))) x.g (.lst [.int N.1, .int N.2.1, .int N.2.2, .ref x.gh]) = F2 at *
  have hnd := st.ok.nds.2
  have yx : ∀ y ∈ m.hs, y.nm = x.nm → y = x := fun y hy e => map_inj hnd hy hxm e
  refine ⟨{ m with hs := m.hs.map (chgA x.nm fun y => { y with n := N }) }, ⟨⟨⟨hb, hpl, ?_⟩, fun y0 hy0 => ?_⟩, ⟨hpm, ?_, fun y0 hy0 => ?_, fun y0 hy0 => ?_⟩, ?_, ⟨?_, st.ok.p6, ?_, ?_, fun y0 hy0 => ?_⟩, st.ad.chg hf⟩, Frm.chg hf keep⟩
  · show F2 m.en = some (.dict (entA (m.hs.map _)))
    rw [chg_ent (fun y => ⟨(hf y).1, (hf y).2.1⟩)]
    exact hen
  · obtain ⟨y, hy, rfl⟩ := chgA_mem hy0
    unfold chgA
    split
    · rename_i e
      rw [yx y hy e]
      exact ⟨fe, oh x hxm⟩
    · rename_i e
      exact ⟨oe y hy e, oh y hy⟩
  · show dcOf F2 m.em = some (modA (m.hs.map _))
    rw [chg_mod (fun y => ⟨(hf y).1, (hf y).2.2.2.1⟩)]
    exact dc_of hem
  · obtain ⟨y, hy, rfl⟩ := chgA_mem hy0
    unfold chgA
    split
    · rename_i e
      rw [yx y hy e]
      exact fg
    · rename_i e
      exact og y hy e
  · obtain ⟨y, hy, rfl⟩ := chgA_mem hy0
    have e2 := chgA_f x.nm (fun y => { y with n := N }) (·.gh) (fun _ => rfl) y
    have e3 := chgA_f x.nm (fun y => { y with n := N }) (·.held) (fun _ => rfl) y
    rw [e2, e3]
    exact ogh y hy
  · show F2 m.em = some (.dict (modA (m.hs.map _)))
    rw [chg_mod (fun y => ⟨(hf y).1, (hf y).2.2.2.1⟩)]
    exact hem
  · rw [chg_ns (f := fun y : Ha => { y with n := N }) (fun _ => rfl)]
    exact st.ok.nd
  · show (m.hs.map _).length ≤ 8
    rw [List.length_map]
    exact st.ok.h8
  · rw [chg_ns (f := fun y : Ha => { y with n := N }) (fun _ => rfl)]
    exact st.ok.nm
  · rw [chg_ns (f := fun y : Ha => { y with n := N }) (fun _ => rfl)]
    obtain ⟨y, hy, rfl⟩ := chgA_mem hy0
    have e3 := chgA_f x.nm (fun y => { y with n := N }) (·.held) (fun _ => rfl) y
    rw [e3]
    exact (st.ok.rc y hy).mono (fun _ z => z) (Nat.le_succ _)
end
end Bv

set_option pp.maxSteps 600
/-! Family A: done; the same; told. -/
namespace Bv
open PySem L2 PyProof.Rows
theorem okD_str {n : Nat} {x : Str} (h : VS x) : okD n (.str x) = true := by
  unfold VS at h
  cases n <;> simpa [okD] using h
theorem tyS_ls {K : PySem.W.Frag} {F : MH} {a : Val} {vs : List Val} {Q : Value → Prop} (h : lsOf F a = some vs) (q : Q (.type "list")) : tyS K a F Q := by
  cases a with
  | lst ws => exact q
  | ref p =>
    cases c : F p with
    | none => simp only [lsOf, c] at h; cases h
    | some d =>
      simp only [lsOf, c] at h
      cases d <;> first | (cases h; done) | (simp only [tyS, c]; exact q)
  | _ => cases h
theorem eqS_bl {a b : Bool} {F : MH} {Q : Bool → Prop} (h : Q (a == b)) : eqS (.bl a) (.bl b) F Q := ⟨rfl, rfl, by
  have : PyData.eqv (toPD (rdF F (.bl a))) (toPD (rdF F (.bl b))) = (a == b) := by cases a <;> cases b <;> simp [rdF, toPD, PyData.eqv]
  rw [this]
  exact h⟩

theorem eqvAll_ints : ∀ (l m : List Int), PyData.eqvAll ((l.map Val.int).map toPD) ((m.map Val.int).map toPD) = decide (l = m)
  | [], [] => by simp [PyData.eqvAll]
  | [], _ :: _ => by simp [PyData.eqvAll]
  | _ :: _, [] => by simp [PyData.eqvAll]
  | a :: l, b :: m => by
    have := eqvAll_ints l m
    simp only [List.map_cons, PyData.eqvAll, toPD, PyData.eqv] at this ⊢
    rw [this]
    by_cases h1 : a = b <;> by_cases h2 : l = m <;> simp [h1, h2]
theorem eqS_ints {l m : List Int} {F : MH} {Q : Bool → Prop} (h : Q (decide (l = m))) : eqS (.lst (l.map .int)) (.lst (m.map .int)) F Q := by
  have rd : ∀ l : List Int, rdF F (.lst (l.map .int)) = .lst (l.map .int) := fun l => by
    simp only [rdF]
  have ok : ∀ (l : List Int), okD 60 (.lst (l.map .int)) = true := fun l => by
    simp only [okD]
    rw [List.all_map, List.all_eq_true]
    intro x hx
    rfl
  refine ⟨by rw [rd]; exact ok l, by rw [rd]; exact ok m, ?_⟩
  rw [rd, rd, toPD_lst, toPD_lst]
  have e : PyData.eqv (.list ((l.map Val.int).map toPD)) (.list ((m.map Val.int).map toPD)) = decide (l = m) := by
    simp only [PyData.eqv]
    exact eqvAll_ints l m
  rw [e]
  exact h
section
variable {CB CE : Addr} {F F' : MH} {m : BM} {i : Nat}
/-- what is put in is there -/
def Put : Deed → BM → BM → Prop
  | .person n, m, m' => m'.ps = m.ps ++ [n] ∧ m'.ns = m.ns
  | .house n _ _ _ _, m, m' => m'.ns = m.ns ++ [n] ∧ m'.ps = m.ps
  | _, _, _ => True
theorem St.step (st : St CB CE F m i) {d : Deed} (hd : DOk d) (hr : refu m d = none) {q : MH → Prop} (hq : ∀ F' m', St CB CE F' m' (i + 1) → Frm F F' m m' → Put d m m' → q F') : bookD CE F m d fun F1 => MdS F1 m ∧ F1 m.em = some (.dict (modA m.hs)) ∧ modelD F1 m d q := by
  have ap := st.ad.p
  have bk := st.bk
  have md := st.md
  cases d with
  | person n =>
    obtain ⟨h1, h2, m', h0, h3, h4⟩ := st.person hr
    exact ⟨h1, h2, hq _ _ h3 h4 h0⟩
  | house n o t k l =>
    intro h e hh he heh
    have enh : m.en ≠ h := ne_free bk.c.en hh
    have kk : ∀ {a c}, F a = some c → a ≠ m.en → mset (mset (mset F h (.dict [(o, frP (1, 1))])) e (.inst CE (entFs (.tup [.int t, .int k, .int l]) h))) m.en (.dict (entA m.hs ++ [(n, .ref e)])) a = some c := fun {a c} q q2 => by rw [mset_ne q2, mset_ne (ne_free q he), mset_ne (ne_free q hh)]; exact q
    have kem := kk st.em (Ne.symm ap.enem)
    refine ⟨⟨kk md.pmc (ne_cell md.pmc bk.c.en (fun z => nomatch z)), dc_of kem, fun x hx => kk (md.gc x hx) (ne_cell (md.gc x hx) bk.c.en (fun z => nomatch z)), fun x hx => kk (md.ghc x hx) (ap.engh x hx)⟩, kem, fun gh g hgh hg hgg => ?_⟩
    obtain ⟨m', h0, h3, h4⟩ := st.house hr hh he heh rfl hgh hg hgg rfl
    exact hq _ _ h3 h4 h0
  | sale hn o r s =>
    intro x hx
    have hx' : hofL m.hs hn = some x := hx
    have hxm := (hof_mem hx').1
    have kk : ∀ {a c u}, F a = some c → a ≠ x.h → mset F x.h u a = some c := fun {a c u} q q2 => by rw [mset_ne q2]; exact q
    have kem : mset F x.h (.dict (hv (soldH x.held o r s))) m.em = _ := kk st.em (ap.emh x hxm).symm
    refine ⟨⟨kk md.pmc (ne_cell md.pmc (bk.ent x hxm).h (fun z => nomatch z)), dc_of kem, fun y hy => kk (md.gc y hy) (ne_cell (md.gc y hy) (bk.ent x hxm).h (fun z => nomatch z)), fun y hy => kk (md.ghc y hy) (fun z => ap.hgh x hxm y hy z.symm)⟩, kem, fun y hy => ?_⟩
    have hyx : y = x := by rw [hx] at hy; cases hy; rfl
    subst hyx
    obtain ⟨m', h3, h4⟩ := st.sale hd hx hr
    exact hq _ _ h3 h4 trivial
  | num k hn v =>
    intro x hx
    have hx' : hofL m.hs hn = some x := hx
    have hxm := (hof_mem hx').1
    have xe := (bk.ent x hxm).e
    have kk : ∀ {a c u}, F a = some c → a ≠ x.e → mset F x.e u a = some c := fun {a c u} q q2 => by rw [mset_ne q2]; exact q
    have kem : mset F x.e (.inst CE (entFs (numV (putN3 x.n k v)) x.h)) m.em = _ := kk st.em (ne_cell st.em xe (fun z => nomatch z))
    refine ⟨⟨kk md.pmc (ne_cell md.pmc xe (fun z => nomatch z)), dc_of kem, fun y hy => kk (md.gc y hy) (ne_cell (md.gc y hy) xe (fun z => nomatch z)), fun y hy => kk (md.ghc y hy) (ne_cell (md.ghc y hy) xe (fun z => nomatch z))⟩, kem, fun y hy => ?_⟩
    have hyx : y = x := by rw [hx] at hy; cases hy; rfl
    subst hyx
    obtain ⟨m', h3, h4⟩ := st.num (k := k) (v := v) hx
    exact hq _ _ h3 h4 trivial
end
theorem ifO_lt {c : Prop} [Decidable c] {r q : Nat} (h : ifO c r = some q) (hr : r < 7) : q < 7 := by
  by_cases hc : c
  · rw [ifO_t hc] at h; cases h; exact hr
  · rw [ifO_f hc] at h; cases h
theorem thenO_lt {a b : Option Nat} {q : Nat} (h : thenO a b = some q) (ha : ∀ q, a = some q → q < 7) (hb : ∀ q, b = some q → q < 7) : q < 7 := by
  cases a with
  | none => exact hb q h
  | some r => exact ha q h
theorem refu_lt {m : BM} {d : Deed} {q : Nat} (h : refu m d = some q) : q < 7 := by
  have rn : ∀ {ps ks x q}, refNew ps ks x = some q → q < 7 := fun h => thenO_lt h (fun _ h => ifO_lt h (by decide)) (fun _ h => ifO_lt h (by decide))
  cases d with
  | person n => exact thenO_lt h (fun _ h => rn h) (fun _ h => ifO_lt h (by decide))
  | house n o t k l => exact thenO_lt h (fun _ h => rn h) (fun _ h => thenO_lt h (fun _ h => ifO_lt h (by decide)) (fun _ h => thenO_lt h (fun _ h => ifO_lt h (by decide)) (fun _ h => ifO_lt h (by decide))))
  | sale hn o r s =>
    cases hh : hof m hn with
    | none => rw [refu_s0 hh] at h; cases h; decide
    | some x =>
      rw [refu_s1 hh] at h
      exact thenO_lt h (fun _ h => ifO_lt h (by decide)) (fun _ h => thenO_lt h (fun _ h => ifO_lt h (by decide)) (fun _ h => ifO_lt h (by decide)))
  | num k hn v =>
    cases hh : hof m hn with
    | none => rw [refu_n0 hh] at h; cases h; decide
    | some x =>
      rw [refu_n1 hh] at h
      exact ifO_lt h (by decide)
theorem ext_new {F : MH} {q : Addr} {c : Cell} (h : F q = none) : Ext F (mset F q c) := Ext.new (fun _ _ e => e) h
def spDone (CB CE : Addr) : Spec := fun vs F Q _ => ∃ m d i, vs = [.ref m.b, m.v, deedV d] ∧ St CB CE F m i ∧ i ≤ 44 ∧ DOk d ∧ ∀ F' m', St CB CE F' m' (i + 1) → Frm F F' m m' → (refu m d = none → Put d m m') → Q (.bl true) F'
theorem w_l_done {Γ : Amb} {X : Nat → Addr} {CB CE : Addr} {rc : CallR1 Γ "_law_changed"} {rw_ : CallR1 Γ "_law_which"} {rd : CallR1 Γ "_law_did"} {rr : CallR1 Γ "_law_refusal"} (h1 : rc.sp = spChanged) (h2 : rw_.sp = spWhichX X) (h3 : rd.sp = spDid X CB CE) (h4 : rr.sp = spRefusal) :
    ∀ vs F Q E, spDone CB CE vs F Q E → wpB (fun C fs _ F => E C fs F) (c_l_done rc rw_ rd rr) (start1 n_l_done vs) F (fun _ F => Q .non F) Q := by
  rintro vs F Q E ⟨m, d, i, rfl, st, hi, hd, hq⟩
  unfold c_l_done
  simp only [wpB, wpS, wpE, wpEs, wpT, wpTs, wpCs, wpP, wpIt, wpBl, bindT, biS, recS, start1, List.map, List.length, List.replicate, List.append_nil, List.nil_append, List.cons_append, Nat.sub_self, Nat.reduceSub, Nat.reduceAdd, List.length_cons, List.length_nil, List.getElem?_cons_zero, List.getElem?_cons_succ, List.set_cons_zero, List.set_cons_succ, setAll, wipe1, Tg.slots, binS, subS, fdivS, modS, powS, cmpS, ltS, isS, isNS, asStrs, asBls, newLs, n_l_done, h1, h2, h3, h4]
  refine ⟨m, d, rfl, st.md, st.em, st.ok.canR hi hd, m, d, rfl, st.bk, st.ok.can hi hd, ?_⟩
  have e0 : ∀ o : Option Nat, resV o = .lst ((o.toList.map fun (r : Nat) => (r : Int)).map .int) := fun o => by unfold resV; rw [List.map_map]; rfl
  have en : Val.lst [] = .lst (([] : List Int).map .int) := rfl
  cases hr : refu m d with
  | some r =>
    simp only []
    intro p hp
    rw [show ∀ F, lsOf F (.lst [.int 0, .ref p]) = some [.int 0, .ref p] from fun _ => rfl]
    simp only [wpB, wpS, wpE, wpEs, wpT, wpTs, wpCs, wpP, wpIt, wpBl, bindT, biS, recS, start1, List.map, List.length, List.replicate, List.append_nil, List.nil_append, List.cons_append, Nat.sub_self, Nat.reduceSub, Nat.reduceAdd, List.length_cons, List.length_nil, List.getElem?_cons_zero, List.getElem?_cons_succ, List.set_cons_zero, List.set_cons_succ, setAll, wipe1, Tg.slots, binS, subS, fdivS, modS, powS, cmpS, ltS, isS, isNS, asStrs, asBls, newLs]
    refine ⟨trivial, by rw [sizeLine_eq]; decide, ?_⟩
    rw [e0, en]
    refine eqS_ints ?_
    rw [decide_eq_false (fun z => nomatch z)]
    simp only [Bool.not_false, wpB, wpS, wpE, wpEs, wpT, wpTs, wpCs, wpP, wpIt, wpBl, bindT, biS, recS, start1, List.map, List.length, List.replicate, List.append_nil, List.nil_append, List.cons_append, Nat.sub_self, Nat.reduceSub, Nat.reduceAdd, List.length_cons, List.length_nil, List.getElem?_cons_zero, List.getElem?_cons_succ, List.set_cons_zero, List.set_cons_succ, setAll, wipe1, Tg.slots, binS, subS, fdivS, modS, powS, cmpS, ltS, isS, isNS, asStrs, asBls, newLs]
    refine ⟨p, r, rfl, refu_lt hr, mset_same, ?_⟩
    have e1 : Val.lst [Val.int (r : Int)] = .lst (([(r : Int)] : List Int).map .int) := rfl
    rw [e1]
    refine eqS_ints ?_
    rw [decide_eq_true (show ([(r : Int)] : List Int) = (some r).toList.map (fun (r : Nat) => (r : Int)) from rfl)]
    have ex : Ext F (mset F p (.exn (X r) [])) := ext_new hp
    exact hq _ m ((st.ext ex).more (Nat.le_succ _)) (Frm.refl ex) (fun z => by rw [hr] at z; cases z)
  | none =>
    simp only []
    refine bookD_mono (st.step hd hr fun F' m' a b c => hq F' m' a b fun _ => c) fun F1 hF1 => ?_
    obtain ⟨md1, em1, h⟩ := hF1
    rw [show ∀ F, lsOf F (.lst [.non, .non]) = some [.non, .non] from fun _ => rfl]
    simp only [wpB, wpS, wpE, wpEs, wpT, wpTs, wpCs, wpP, wpIt, wpBl, bindT, biS, recS, start1, List.map, List.length, List.replicate, List.append_nil, List.nil_append, List.cons_append, Nat.sub_self, Nat.reduceSub, Nat.reduceAdd, List.length_cons, List.length_nil, List.getElem?_cons_zero, List.getElem?_cons_succ, List.set_cons_zero, List.set_cons_succ, setAll, wipe1, Tg.slots, binS, subS, fdivS, modS, powS, cmpS, ltS, isS, isNS, asStrs, asBls, newLs]
    refine ⟨trivial, by rw [sizeLine_eq]; decide, ?_⟩
    rw [e0, en]
    refine eqS_ints ?_
    rw [decide_eq_true (show (none : Option Nat).toList.map (fun (r : Nat) => (r : Int)) = [] from rfl)]
    simp only [Bool.not_true, wpB, wpS, wpE, wpEs, wpT, wpTs, wpCs, wpP, wpIt, wpBl, bindT, biS, recS, start1, List.map, List.length, List.replicate, List.append_nil, List.nil_append, List.cons_append, Nat.sub_self, Nat.reduceSub, Nat.reduceAdd, List.length_cons, List.length_nil, List.getElem?_cons_zero, List.getElem?_cons_succ, List.set_cons_zero, List.set_cons_succ, setAll, wipe1, Tg.slots, binS, subS, fdivS, modS, powS, cmpS, ltS, isS, isNS, asStrs, asBls, newLs]
    refine ⟨m, d, rfl, md1, em1, st.ok.can hi hd, st.ok.h8, hr, ?_⟩
    have mono : ∀ {q q' : MH → Prop}, modelD F1 m d q → (∀ F, q F → q' F) → modelD F1 m d q' := fun {q q'} h hqq => by
      cases d with
      | person n => exact hqq _ h
      | house n o t k l => exact fun a b h1 h2 h3 => hqq _ (h a b h1 h2 h3)
      | sale hn o r s => exact fun x hx => hqq _ (h x hx)
      | num k hn v => exact fun x hx => hqq _ (h x hx)
    exact mono h fun F2 q => q
/-! ### the same -/
inductive SameV (F : MH) : Nat → Val → Val → Prop
  | str {n : Nat} {x : Str} : VS x → SameV F n (.str x) (.str x)
  | int {n : Nat} {i : Int} : SameV F n (.int i) (.int i)
  | lst {n : Nat} {a b : Val} {xs ys : List Val} : lsOf F a = some xs → lsOf F b = some ys → xs.length = ys.length → xs.length ≤ 1000 → (∀ (i : Nat) (x y : Val), xs[i]? = some x → ys[i]? = some y → SameV F n x y) → SameV F (n + 1) a b
  | tup {n : Nat} {xs ys : List Val} : xs.length = ys.length → xs.length ≤ 1000 → (∀ (i : Nat) (x y : Val), xs[i]? = some x → ys[i]? = some y → SameV F n x y) → SameV F (n + 1) (.tup xs) (.tup ys)
theorem SameV.strs {F : MH} {a b : Val} {l : List Str} {n : Nat} (ha : lsOf F a = some (l.map .str)) (hb : lsOf F b = some (l.map .str)) (hv : ∀ z ∈ l, VS z) (hl : l.length ≤ 1000) : SameV F (n + 1) a b := by
  refine .lst ha hb rfl (by rw [List.length_map]; exact hl) fun i x y h1 h2 => ?_
  rw [h1] at h2
  cases h2
  rw [List.getElem?_map] at h1
  obtain ⟨z, hz, rfl⟩ := Option.map_eq_some_iff.mp h1
  exact .str (hv z (List.mem_of_getElem? hz))
def spNo : Spec := fun _ _ _ _ => False
def spWhole : Spec := fun vs F Q _ => ∃ i : Int, vs = [.int i] ∧ Q (.bl true) F
theorem w_l_whole {Γ : Amb} {iI : IsR Γ "int"} {iB : IsR Γ "bool"} (h1 : iI.ans (.type "int") = some true) (h2 : iB.ans (.type "int") = some false) : ∀ vs F Q E, spWhole vs F Q E → wpB (fun C fs _ F => E C fs F) (c_l_whole iI iB) (start1 n_l_whole vs) F (fun _ F => Q .non F) Q := by
  rintro vs F Q E ⟨i, rfl, hq⟩
  unfold c_l_whole
  simp only [wpB, wpS, wpE, wpEs, wpT, wpTs, wpCs, wpP, wpIt, wpBl, bindT, biS, recS, start1, List.map, List.length, List.replicate, List.append_nil, List.nil_append, List.cons_append, Nat.sub_self, Nat.reduceSub, Nat.reduceAdd, List.length_cons, List.length_nil, List.getElem?_cons_zero, List.getElem?_cons_succ, List.set_cons_zero, List.set_cons_succ, setAll, wipe1, Tg.slots, binS, subS, fdivS, modS, powS, cmpS, ltS, isS, isNS, asStrs, asBls, newLs, n_l_whole, tyS]
  rw [h1]
  simp only [wpB, wpS, wpE, wpEs, wpT, wpTs, wpCs, wpP, wpIt, wpBl, bindT, biS, recS, start1, List.map, List.length, List.replicate, List.append_nil, List.nil_append, List.cons_append, Nat.sub_self, Nat.reduceSub, Nat.reduceAdd, List.length_cons, List.length_nil, List.getElem?_cons_zero, List.getElem?_cons_succ, List.set_cons_zero, List.set_cons_succ, setAll, wipe1, Tg.slots, binS, subS, fdivS, modS, powS, cmpS, ltS, isS, isNS, asStrs, asBls, newLs, tyS, h2, Bool.not_false]
  exact hq
def spSame (n : Nat) : Spec := fun vs F Q _ => ∃ a b, vs = [a, b] ∧ SameV F n a b ∧ Q (.bl true) F
theorem w_l_same {Γ : Amb} (n : Nat) {rw_ : CallR1 Γ "_law_whole"} {iS : IsR Γ "str"} {iT : IsR Γ "tuple"} {iL : IsR Γ "list"} {rs : CallR1 Γ "_law_same"} (h0 : rw_.sp = spWhole) (h1 : iS.ans (.type "str") = some true) (h2 : iT.ans (.type "str") = some false) (h3 : iL.ans (.type "str") = some false) (h4 : iT.ans (.type "list") = some false) (h5 : iL.ans (.type "list") = some true)
    (h6 : iT.ans (.type "tuple") = some true) (h7 : iL.ans (.type "tuple") = some false) (h8 : iS.ans (.type "int") = some false) (h9 : iT.ans (.type "int") = some false) (h10 : iL.ans (.type "int") = some false) (hr : n = 0 ∨ ∃ k, n = k + 1 ∧ rs.sp = spSame k) :
    ∀ vs F Q E, spSame n vs F Q E → wpB (fun C fs _ F => E C fs F) (c_l_same rw_ iS iT iL rs) (start1 n_l_same vs) F (fun _ F => Q .non F) Q := by
  rintro vs F Q E ⟨a, b, rfl, hs, hq⟩
  unfold c_l_same
  cases hs with
  | @str _ x hv =>
    simp only [wpB, wpS, wpE, wpEs, wpT, wpTs, wpCs, wpP, wpIt, wpBl, bindT, biS, recS, start1, List.map, List.length, List.replicate, List.append_nil, List.nil_append, List.cons_append, Nat.sub_self, Nat.reduceSub, Nat.reduceAdd, List.length_cons, List.length_nil, List.getElem?_cons_zero, List.getElem?_cons_succ, List.set_cons_zero, List.set_cons_succ, setAll, wipe1, Tg.slots, binS, subS, fdivS, modS, powS, cmpS, ltS, isS, isNS, asStrs, asBls, newLs, n_l_same, tyS, h2, h3, truS]
    rw [h1]
    simp only [truS, wpB, wpS, wpE, wpEs, wpT, wpTs, wpCs, wpP, wpIt, wpBl, bindT, biS, recS, start1, List.map, List.length, List.replicate, List.append_nil, List.nil_append, List.cons_append, Nat.sub_self, Nat.reduceSub, Nat.reduceAdd, List.length_cons, List.length_nil, List.getElem?_cons_zero, List.getElem?_cons_succ, List.set_cons_zero, List.set_cons_succ, setAll, wipe1, Tg.slots, binS, subS, fdivS, modS, powS, cmpS, ltS, isS, isNS, asStrs, asBls, newLs, tyS, h1]
    refine eqS_str hv hv ?_
    rw [decide_eq_true rfl]
    exact hq
  | @int _ i =>
    simp only [wpB, wpS, wpE, wpEs, wpT, wpTs, wpCs, wpP, wpIt, wpBl, bindT, biS, recS, start1, List.map, List.length, List.replicate, List.append_nil, List.nil_append, List.cons_append, Nat.sub_self, Nat.reduceSub, Nat.reduceAdd, List.length_cons, List.length_nil, List.getElem?_cons_zero, List.getElem?_cons_succ, List.set_cons_zero, List.set_cons_succ, setAll, wipe1, Tg.slots, binS, subS, fdivS, modS, powS, cmpS, ltS, isS, isNS, asStrs, asBls, newLs, n_l_same, tyS, h9, h10, truS]
    rw [h8]
    simp only [truS, wpB, wpS, wpE, wpEs, wpT, wpTs, wpCs, wpP, wpIt, wpBl, bindT, biS, recS, start1, List.map, List.length, List.replicate, List.append_nil, List.nil_append, List.cons_append, Nat.sub_self, Nat.reduceSub, Nat.reduceAdd, List.length_cons, List.length_nil, List.getElem?_cons_zero, List.getElem?_cons_succ, List.set_cons_zero, List.set_cons_succ, setAll, wipe1, Tg.slots, binS, subS, fdivS, modS, powS, cmpS, ltS, isS, isNS, asStrs, asBls, newLs, h0]
    refine ⟨i, rfl, eqS_i ?_⟩
    rw [decide_eq_true rfl]
    exact hq
  | @lst k _ _ xs ys ha hb hl hlen hsub =>
    obtain ⟨k', hk', hr⟩ : ∃ k', k + 1 = k' + 1 ∧ rs.sp = spSame k' := by
      rcases hr with h | h
      · cases h
      · exact h
    have hk' : k = k' := by omega
    subst hk'
    simp only [wpB, wpS, wpE, wpEs, wpT, wpTs, wpCs, wpP, wpIt, wpBl, bindT, biS, recS, start1, List.map, List.length, List.replicate, List.append_nil, List.nil_append, List.cons_append, Nat.sub_self, Nat.reduceSub, Nat.reduceAdd, List.length_cons, List.length_nil, List.getElem?_cons_zero, List.getElem?_cons_succ, List.set_cons_zero, List.set_cons_succ, setAll, wipe1, Tg.slots, binS, subS, fdivS, modS, powS, cmpS, ltS, isS, isNS, asStrs, asBls, newLs, n_l_same, hr]
    refine tyS_ls hb ?_
    rw [h4]
    simp only [truS, wpB, wpS, wpE, wpEs, wpT, wpTs, wpCs, wpP, wpIt, wpBl, bindT, biS, recS, start1, List.map, List.length, List.replicate, List.append_nil, List.nil_append, List.cons_append, Nat.sub_self, Nat.reduceSub, Nat.reduceAdd, List.length_cons, List.length_nil, List.getElem?_cons_zero, List.getElem?_cons_succ, List.set_cons_zero, List.set_cons_succ, setAll, wipe1, Tg.slots, binS, subS, fdivS, modS, powS, cmpS, ltS, isS, isNS, asStrs, asBls, newLs]
    refine tyS_ls hb ?_
    rw [h5]
    simp only [truS, wpB, wpS, wpE, wpEs, wpT, wpTs, wpCs, wpP, wpIt, wpBl, bindT, biS, recS, start1, List.map, List.length, List.replicate, List.append_nil, List.nil_append, List.cons_append, Nat.sub_self, Nat.reduceSub, Nat.reduceAdd, List.length_cons, List.length_nil, List.getElem?_cons_zero, List.getElem?_cons_succ, List.set_cons_zero, List.set_cons_succ, setAll, wipe1, Tg.slots, binS, subS, fdivS, modS, powS, cmpS, ltS, isS, isNS, asStrs, asBls, newLs]
    refine tyS_ls ha ?_
    rw [h4]
    refine tyS_ls hb ?_
    rw [h4]
    refine eqS_bl ?_
    simp only [beq_self_eq_true, Bool.not_true, wpB, wpS, wpE, wpEs, wpT, wpTs, wpCs, wpP, wpIt, wpBl, bindT, biS, recS, start1, List.map, List.length, List.replicate, List.append_nil, List.nil_append, List.cons_append, Nat.sub_self, Nat.reduceSub, Nat.reduceAdd, List.length_cons, List.length_nil, List.getElem?_cons_zero, List.getElem?_cons_succ, List.set_cons_zero, List.set_cons_succ, setAll, wipe1, Tg.slots, binS, subS, fdivS, modS, powS, cmpS, ltS, isS, isNS, asStrs, asBls, newLs]
    refine tyS_ls ha ?_
    rw [h5]
    refine tyS_ls hb ?_
    rw [h5]
    refine eqS_bl ?_
    simp only [beq_self_eq_true, Bool.not_true, wpB, wpS, wpE, wpEs, wpT, wpTs, wpCs, wpP, wpIt, wpBl, bindT, biS, recS, start1, List.map, List.length, List.replicate, List.append_nil, List.nil_append, List.cons_append, Nat.sub_self, Nat.reduceSub, Nat.reduceAdd, List.length_cons, List.length_nil, List.getElem?_cons_zero, List.getElem?_cons_succ, List.set_cons_zero, List.set_cons_succ, setAll, wipe1, Tg.slots, binS, subS, fdivS, modS, powS, cmpS, ltS, isS, isNS, asStrs, asBls, newLs]
    refine len_ls ha (len_ls hb (eqS_i ?_))
    rw [decide_eq_true (by rw [hl])]
    simp only [Bool.not_true, wpB, wpS, wpE, wpEs, wpT, wpTs, wpCs, wpP, wpIt, wpBl, bindT, biS, recS, start1, List.map, List.length, List.replicate, List.append_nil, List.nil_append, List.cons_append, Nat.sub_self, Nat.reduceSub, Nat.reduceAdd, List.length_cons, List.length_nil, List.getElem?_cons_zero, List.getElem?_cons_succ, List.set_cons_zero, List.set_cons_succ, setAll, wipe1, Tg.slots, binS, subS, fdivS, modS, powS, cmpS, ltS, isS, isNS, asStrs, asBls, newLs]
    refine len_ls hb ⟨by omega, by omega, ?_⟩
    rw [Int.toNat_natCast]
    refine lcGo_inv (fun i acc F1 => F1 = F ∧ acc = []) (by rw [rng_len, sizeLine_eq]; omega) (fun _ _ _ _ => by first | trivial | rfl) ?_ ?_ ⟨rfl, rfl⟩
    · rintro i w acc F1 k2 hw ⟨rfl, rfl⟩ _ hk2
      obtain ⟨rfl, hi⟩ := range_item0 hw
      obtain ⟨x, hx⟩ : ∃ x, xs[i]? = some x := ⟨_, List.getElem?_eq_getElem (by omega)⟩
      obtain ⟨y, hy⟩ : ∃ y, ys[i]? = some y := ⟨_, List.getElem?_eq_getElem hi⟩
      try simp only [wpB, wpS, wpE, wpEs, wpT, wpTs, wpCs, wpP, wpIt, wpBl, bindT, biS, recS, start1, List.map, List.length, List.replicate, List.append_nil, List.nil_append, List.cons_append, Nat.sub_self, Nat.reduceSub, Nat.reduceAdd, List.length_cons, List.length_nil, List.getElem?_cons_zero, List.getElem?_cons_succ, List.set_cons_zero, List.set_cons_succ, setAll, wipe1, Tg.slots, binS, subS, fdivS, modS, powS, cmpS, ltS, isS, isNS, asStrs, asBls, newLs]
      refine ix_list ha (by omega) (by rw [Int.toNat_natCast]; exact hx) (ix_list hb (by omega) (by rw [Int.toNat_natCast]; exact hy) ?_)
      refine ⟨x, y, rfl, hsub i x y hx hy, ?_⟩
      exact hk2 _ ⟨rfl, rfl⟩
    · rintro acc F1 ⟨rfl, rfl⟩
      refine len_ls (vs := []) rfl (eqS_i ?_)
      exact hq
  | @tup k xs ys hl hlen hsub =>
    obtain ⟨k', hk', hr⟩ : ∃ k', k + 1 = k' + 1 ∧ rs.sp = spSame k' := by
      rcases hr with h | h
      · cases h
      · exact h
    have hk' : k = k' := by omega
    subst hk'
    simp only [wpB, wpS, wpE, wpEs, wpT, wpTs, wpCs, wpP, wpIt, wpBl, bindT, biS, recS, start1, List.map, List.length, List.replicate, List.append_nil, List.nil_append, List.cons_append, Nat.sub_self, Nat.reduceSub, Nat.reduceAdd, List.length_cons, List.length_nil, List.getElem?_cons_zero, List.getElem?_cons_succ, List.set_cons_zero, List.set_cons_succ, setAll, wipe1, Tg.slots, binS, subS, fdivS, modS, powS, cmpS, ltS, isS, isNS, asStrs, asBls, newLs, n_l_same, hr, tyS]
    rw [h6]
    simp only [truS, wpB, wpS, wpE, wpEs, wpT, wpTs, wpCs, wpP, wpIt, wpBl, bindT, biS, recS, start1, List.map, List.length, List.replicate, List.append_nil, List.nil_append, List.cons_append, Nat.sub_self, Nat.reduceSub, Nat.reduceAdd, List.length_cons, List.length_nil, List.getElem?_cons_zero, List.getElem?_cons_succ, List.set_cons_zero, List.set_cons_succ, setAll, wipe1, Tg.slots, binS, subS, fdivS, modS, powS, cmpS, ltS, isS, isNS, asStrs, asBls, newLs, tyS]
    try simp only [h6, wpB, wpS, wpE, wpEs, wpT, wpTs, wpCs, wpP, wpIt, wpBl, bindT, biS, recS, start1, List.map, List.length, List.replicate, List.append_nil, List.nil_append, List.cons_append, Nat.sub_self, Nat.reduceSub, Nat.reduceAdd, List.length_cons, List.length_nil, List.getElem?_cons_zero, List.getElem?_cons_succ, List.set_cons_zero, List.set_cons_succ, setAll, wipe1, Tg.slots, binS, subS, fdivS, modS, powS, cmpS, ltS, isS, isNS, asStrs, asBls, newLs, tyS]
    refine eqS_bl ?_
    simp only [beq_self_eq_true, Bool.not_true, wpB, wpS, wpE, wpEs, wpT, wpTs, wpCs, wpP, wpIt, wpBl, bindT, biS, recS, start1, List.map, List.length, List.replicate, List.append_nil, List.nil_append, List.cons_append, Nat.sub_self, Nat.reduceSub, Nat.reduceAdd, List.length_cons, List.length_nil, List.getElem?_cons_zero, List.getElem?_cons_succ, List.set_cons_zero, List.set_cons_succ, setAll, wipe1, Tg.slots, binS, subS, fdivS, modS, powS, cmpS, ltS, isS, isNS, asStrs, asBls, newLs, tyS, h7]
    refine eqS_bl ?_
    simp only [beq_self_eq_true, Bool.not_true, wpB, wpS, wpE, wpEs, wpT, wpTs, wpCs, wpP, wpIt, wpBl, bindT, biS, recS, start1, List.map, List.length, List.replicate, List.append_nil, List.nil_append, List.cons_append, Nat.sub_self, Nat.reduceSub, Nat.reduceAdd, List.length_cons, List.length_nil, List.getElem?_cons_zero, List.getElem?_cons_succ, List.set_cons_zero, List.set_cons_succ, setAll, wipe1, Tg.slots, binS, subS, fdivS, modS, powS, cmpS, ltS, isS, isNS, asStrs, asBls, newLs, lenS]
    refine eqS_i ?_
    rw [decide_eq_true (by rw [hl])]
    simp only [Bool.not_true, wpB, wpS, wpE, wpEs, wpT, wpTs, wpCs, wpP, wpIt, wpBl, bindT, biS, recS, start1, List.map, List.length, List.replicate, List.append_nil, List.nil_append, List.cons_append, Nat.sub_self, Nat.reduceSub, Nat.reduceAdd, List.length_cons, List.length_nil, List.getElem?_cons_zero, List.getElem?_cons_succ, List.set_cons_zero, List.set_cons_succ, setAll, wipe1, Tg.slots, binS, subS, fdivS, modS, powS, cmpS, ltS, isS, isNS, asStrs, asBls, newLs, lenS]
    refine ⟨by omega, by omega, ?_⟩
    rw [Int.toNat_natCast]
    refine lcGo_inv (fun i acc F1 => F1 = F ∧ acc = []) (by rw [rng_len, sizeLine_eq]; omega) (fun _ _ _ _ => by first | trivial | rfl) ?_ ?_ ⟨rfl, rfl⟩
    · rintro i w acc F1 k2 hw ⟨rfl, rfl⟩ _ hk2
      obtain ⟨rfl, hi⟩ := range_item0 hw
      obtain ⟨x, hx⟩ : ∃ x, xs[i]? = some x := ⟨_, List.getElem?_eq_getElem (by omega)⟩
      obtain ⟨y, hy⟩ : ∃ y, ys[i]? = some y := ⟨_, List.getElem?_eq_getElem hi⟩
      try simp only [wpB, wpS, wpE, wpEs, wpT, wpTs, wpCs, wpP, wpIt, wpBl, bindT, biS, recS, start1, List.map, List.length, List.replicate, List.append_nil, List.nil_append, List.cons_append, Nat.sub_self, Nat.reduceSub, Nat.reduceAdd, List.length_cons, List.length_nil, List.getElem?_cons_zero, List.getElem?_cons_succ, List.set_cons_zero, List.set_cons_succ, setAll, wipe1, Tg.slots, binS, subS, fdivS, modS, powS, cmpS, ltS, isS, isNS, asStrs, asBls, newLs]
      refine ix_tup (by omega) (by rw [Int.toNat_natCast]; exact hx) (ix_tup (by omega) (by rw [Int.toNat_natCast]; exact hy) ?_)
      refine ⟨x, y, rfl, hsub i x y hx hy, ?_⟩
      exact hk2 _ ⟨rfl, rfl⟩
    · rintro acc F1 ⟨rfl, rfl⟩
      simp only [lsOf, lenS]
      refine eqS_i ?_
      exact hq
end Bv

set_option pp.maxSteps 600
/-! Family A: what is told. -/
namespace Bv
open PySem L2 PyProof.Rows
/-- lowest terms, from 0 on -/
def Lw (held : Held) : Prop := ∀ z v, hget held z = some v → 0 ≤ v.1 ∧ 0 < v.2 ∧ Int.gcd v.1 v.2 = 1
theorem Lw.pos {held : Held} (h : Lw held) {z : Str} {v : Int × Int} (e : hget held z = some v) : (0 < v.1) = (hget held z ≠ some (0, 1)) := by
  obtain ⟨h1, h2, h3⟩ := h z v e
  apply propext
  rw [e]
  constructor
  · rintro h0 h4
    cases h4
    exact absurd h0 (by decide)
  · intro h0
    by_cases q : v.1 = 0
    · rw [q, Int.gcd_zero_left] at h3
      have : v = (0, 1) := by
        obtain ⟨a, b⟩ := v
        simp only at q h3 h2
        rw [q, show b = 1 by omega]
      exact absurd (by rw [this]) h0
    · omega
def spPersons (CB : Addr) : Spec := fun vs F Q _ => ∃ b pl en ps es, vs = [.ref b] ∧ BkC CB F b pl en ps es ∧ ps.length < 64 ∧ newLs true ((sortS ps).map .str) F Q
theorem w_persons {Γ : Amb} {CB : Addr} {fp : FldR Γ "people"} (h1 : fp.C = CB) : ∀ vs F Q E, spPersons CB vs F Q E → wpB (fun C fs _ F => E C fs F) (c_Book_persons fp) (start1 n_Book_persons vs) F (fun _ F => Q .non F) Q := by
  rintro vs F Q E ⟨b, pl, en, ps, es, rfl, bk, hl, h⟩
  unfold c_Book_persons
  simp only [wpB, wpS, wpE, wpEs, wpT, wpTs, wpCs, wpP, wpIt, wpBl, bindT, biS, recS, truS, start1, List.map, List.length, List.replicate, List.append_nil, List.nil_append, List.cons_append, Nat.sub_self, Nat.reduceSub, Nat.reduceAdd, List.length_cons, List.length_nil, List.getElem?_cons_zero, List.getElem?_cons_succ, List.set_cons_zero, List.set_cons_succ, setAll, wipe1, Tg.slots, binS, subS, fdivS, modS, powS, cmpS, ltS, isS, isNS, asStrs, asBls, newLs, n_Book_persons, bk.b, h1, fld_people]
  exact ⟨trivial, sort_strs (l := ps) (by simp only [lsOf, bk.pl]) hl h⟩
def spOf (CB CE : Addr) : Spec := fun vs F Q _ => ∃ b x pl en ps es e h nums held, vs = [.ref b, .str x] ∧ BkC CB F b pl en ps es ∧ kget es x = some (.ref e) ∧ EnC CE F e h nums held ∧ Q nums F
theorem w_of {Γ : Amb} {CB CE CN : Addr} {fn : FldR Γ "numbers"} {t : MethR Γ "entry_of"} (h1 : fn.C = CE) (ht : t.sp = spEntryOf CB CN) (hc : t.C = CB) : ∀ vs F Q E, spOf CB CE vs F Q E → wpB (fun C fs _ F => E C fs F) (c_Book_of fn t) (start1 n_Book_of vs) F (fun _ F => Q .non F) Q := by
  rintro vs F Q E ⟨b, x, pl, en, ps, es, e, h, nums, held, rfl, bk, hx, ec, hq⟩
  unfold c_Book_of
  simp only [wpB, wpS, wpE, wpEs, wpT, wpTs, wpCs, wpP, wpIt, wpBl, bindT, biS, recS, truS, start1, List.map, List.length, List.replicate, List.append_nil, List.nil_append, List.cons_append, Nat.sub_self, Nat.reduceSub, Nat.reduceAdd, List.length_cons, List.length_nil, List.getElem?_cons_zero, List.getElem?_cons_succ, List.set_cons_zero, List.set_cons_succ, setAll, wipe1, Tg.slots, binS, subS, fdivS, modS, powS, cmpS, ltS, isS, isNS, asStrs, asBls, newLs, n_Book_of, bk.b, h1, ht, hc]
  refine ⟨trivial, rfl, b, x, pl, en, ps, es, rfl, bk, .inl ⟨_, hx, ?_⟩⟩
  simp only [ec.e, fld_numbers]
  exact ⟨trivial, hq⟩
theorem RecA.lws {un : List Str} {i : Nat} {held : Held} (h : RecA un i held) : Lw held := fun z v e => by
  obtain ⟨L, _, _, h2⟩ := h.dn
  have d := h2 z v e
  exact ⟨d.nn, d.pos, h.lw z v e⟩
def sharesV (held : Held) : Val := .lst ((showS held).map fun k => .tup [.str k, frP ((hget held k).getD (0, 0))])
def spSharesL : Spec := fun vs F Q _ => ∃ m x, vs = [m.v, .str x.nm] ∧ MdS F m ∧ m.ns.Nodup ∧ x ∈ m.hs ∧ x.held.length < 64 ∧ Lw x.held ∧ Q (sharesV x.held) F
theorem w_l_shares {Γ : Amb} : ∀ vs F Q E, spSharesL vs F Q E → wpB (fun C fs _ F => E C fs F) (c_l_shares (Γ := Γ)) (start1 n_l_shares vs) F (fun _ F => Q .non F) Q := by
  rintro vs F Q E ⟨m, x, rfl, md, nd, hx, hl, lw, hq⟩
  unfold c_l_shares
  simp only [wpB, wpS, wpE, wpEs, wpT, wpTs, wpCs, wpP, wpIt, wpBl, bindT, biS, recS, start1, List.map, List.length, List.replicate, List.append_nil, List.nil_append, List.cons_append, Nat.sub_self, Nat.reduceSub, Nat.reduceAdd, List.length_cons, List.length_nil, List.getElem?_cons_zero, List.getElem?_cons_succ, List.set_cons_zero, List.set_cons_succ, setAll, wipe1, Tg.slots, binS, subS, fdivS, modS, powS, cmpS, ltS, isS, isNS, asStrs, asBls, newLs, n_l_shares]
  have hof := hof_of nd hx
  refine ix_list (vs := [.ref m.pm, .ref m.em]) rfl (by decide) rfl (ix_dc md.emc (by rw [modA_get, hof]; rfl) (ix_list (vs := [.int x.n.1, .int x.n.2.1, .int x.n.2.2, .ref x.gh]) (by simp only [lsOf, md.gc x hx]) (by decide) rfl ?_))
  refine sort_keys (md.ghc x hx) (by rw [hv_len]; exact hl) ?_
  rw [hv_keys]
  simp only [newLs]
  rw [show ∀ F2, lsOf F2 (.lst ((sortS (x.held.map (·.1))).map .str)) = some ((sortS (x.held.map (·.1))).map .str) from fun _ => rfl]
  try dsimp only
  refine lcGo_inv (fun j acc F2 => F2 = F ∧ acc = (((sortS (x.held.map (·.1))).take j).filter fun k => decide (hget x.held k ≠ some (0, 1))).map fun k => .tup [.str k, frP ((hget x.held k).getD (0, 0))]) (by rw [List.length_map, sortS_length, List.length_map, sizeLine_eq]; omega) (fun _ _ _ h => by first | trivial | rfl) ?_ ?_ ⟨rfl, rfl⟩
  · rintro j w acc F2 k hw ⟨rfl, rfl⟩ hk hk2
    rw [List.getElem?_map] at hw
    obtain ⟨y, hy, rfl⟩ := Option.map_eq_some_iff.mp hw
    have hym : y ∈ x.held.map (·.1) := mem_sortS.mp (List.mem_of_getElem? hy)
    cases hv1 : hget x.held y with
    | none => exact absurd hym (hget_none.mp hv1)
    | some v =>
    have hvv : kget (hv x.held) y = some (frP v) := by rw [hv_get, hv1]; rfl
    have hpos := lw.pos hv1
    have htk : (sortS (x.held.map (·.1))).take (j + 1) = (sortS (x.held.map (·.1))).take j ++ [y] := by rw [List.take_add_one, hy]; rfl
    try simp only [wpB, wpS, wpE, wpEs, wpT, wpTs, wpCs, wpP, wpIt, wpBl, bindT, biS, recS, start1, List.map, List.length, List.replicate, List.append_nil, List.nil_append, List.cons_append, Nat.sub_self, Nat.reduceSub, Nat.reduceAdd, List.length_cons, List.length_nil, List.getElem?_cons_zero, List.getElem?_cons_succ, List.set_cons_zero, List.set_cons_succ, setAll, wipe1, Tg.slots, binS, subS, fdivS, modS, powS, cmpS, ltS, isS, isNS, asStrs, asBls, newLs]
    refine ix_dc (dc_of (md.ghc x hx)) hvv (ix0 ?_)
    simp only []
    by_cases hp : 0 < v.1
    · rw [decide_eq_true hp]
      have hne : decide (hget x.held y ≠ some (0, 1)) = true := decide_eq_true (hpos ▸ hp)
      simp only [wpB, wpS, wpE, wpEs, wpT, wpTs, wpCs, wpP, wpIt, wpBl, bindT, biS, recS, start1, List.map, List.length, List.replicate, List.append_nil, List.nil_append, List.cons_append, Nat.sub_self, Nat.reduceSub, Nat.reduceAdd, List.length_cons, List.length_nil, List.getElem?_cons_zero, List.getElem?_cons_succ, List.set_cons_zero, List.set_cons_succ, setAll, wipe1, Tg.slots, binS, subS, fdivS, modS, powS, cmpS, ltS, isS, isNS, asStrs, asBls, newLs]
      refine ix_dc (dc_of (md.ghc x hx)) hvv ⟨by rw [sizeLine_eq]; decide, hk _ _ ⟨rfl, ?_⟩⟩
      rw [htk, List.filter_append]
      have : [y].filter (fun k => decide (hget x.held k ≠ some (0, 1))) = [y] := by simp only [List.filter, hne]
      rw [this, List.map_append]
      congr 1
      rw [List.map_cons, List.map_nil, hv1]
      rfl
    · rw [decide_eq_false hp]
      have hne : decide (hget x.held y ≠ some (0, 1)) = false := decide_eq_false (hpos ▸ hp)
      simp only [wpB, wpS, wpE, wpEs, wpT, wpTs, wpCs, wpP, wpIt, wpBl, bindT, biS, recS, start1, List.map, List.length, List.replicate, List.append_nil, List.nil_append, List.cons_append, Nat.sub_self, Nat.reduceSub, Nat.reduceAdd, List.length_cons, List.length_nil, List.getElem?_cons_zero, List.getElem?_cons_succ, List.set_cons_zero, List.set_cons_succ, setAll, wipe1, Tg.slots, binS, subS, fdivS, modS, powS, cmpS, ltS, isS, isNS, asStrs, asBls, newLs]
      refine hk2 _ ⟨rfl, ?_⟩
      rw [htk, List.filter_append]
      have : [y].filter (fun k => decide (hget x.held k ≠ some (0, 1))) = [] := by simp only [List.filter, hne]
      rw [this, List.append_nil]
  · rintro acc F2 ⟨rfl, rfl⟩
    rw [List.length_map, List.take_length]
    exact hq
theorem SameV.ints {F : MH} {n : Nat} {l : List Int} (hl : l.length ≤ 1000) : SameV F (n + 1) (.tup (l.map .int)) (.tup (l.map .int)) := by
  refine .tup rfl (by rw [List.length_map]; exact hl) fun i x y h1 h2 => ?_
  rw [h1] at h2
  cases h2
  rw [List.getElem?_map] at h1
  obtain ⟨z, hz, rfl⟩ := Option.map_eq_some_iff.mp h1
  exact .int
theorem SameV.shares {F : MH} {a : Val} {held : Held} (ha : lsOf F a = some ((showS held).map fun k => .tup [.str k, frP ((hget held k).getD (0, 0))])) (hl : held.length ≤ 1000) (hv1 : ∀ z ∈ held.map (·.1), VS z) : SameV F 3 a (sharesV held) := by
  have hsl : (showS held).length ≤ held.length := by
    have := List.length_filter_le (fun k => decide (hget held k ≠ some (0, 1))) (sortS (held.map (·.1)))
    rw [sortS_length, List.length_map] at this
    exact this
  refine .lst ha rfl rfl (by rw [List.length_map]; omega) fun i x y h1 h2 => ?_
  rw [h1] at h2
  cases h2
  rw [List.getElem?_map] at h1
  obtain ⟨z, hz, rfl⟩ := Option.map_eq_some_iff.mp h1
  have hzm : z ∈ held.map (·.1) := mem_sortS.mp (List.mem_filter.mp (List.mem_of_getElem? hz)).1
  refine .tup rfl (by show 2 ≤ 1000; decide) fun j a b h3 h4 => ?_
  rw [h3] at h4
  cases h4
  match j, h3 with
  | 0, h3 => cases h3; exact .str (hv1 z hzm)
  | 1, h3 =>
    cases h3
    exact SameV.ints (l := [((hget held z).getD (0, 0)).1, ((hget held z).getD (0, 0)).2]) (by show 2 ≤ 1000; decide)
  | j + 2, h3 => cases h3
def spTold (CB CE : Addr) : Spec := fun vs F Q _ => ∃ m i, vs = [.ref m.b, m.v] ∧ St CB CE F m i ∧ i ≤ 45 ∧ ∀ F', Ext F F' → Q (.bl true) F'
theorem BkS.extE {CB CE : Addr} {F F' : MH} {m : BM} (h : BkS CB CE F m) (e : Ext F F') : BkS CB CE F' m := ⟨⟨e _ _ h.c.b, e _ _ h.c.pl, e _ _ h.c.en⟩, fun x hx => ⟨e _ _ (h.ent x hx).e, e _ _ (h.ent x hx).h⟩⟩
theorem MdS.extE {F F' : MH} {m : BM} (h : MdS F m) (e : Ext F F') (he : dcOf F' m.em = some (modA m.hs)) : MdS F' m := ⟨e _ _ h.pmc, he, fun x hx => e _ _ (h.gc x hx), fun x hx => e _ _ (h.ghc x hx)⟩
theorem w_l_told {Γ : Amb} {CB CE CN : Addr} {rs : CallR1 Γ "_law_same"} {tsh : MethR Γ "shares"} {rsh : CallR1 Γ "_law_shares"} {tof : MethR Γ "of"} {tp : MethR Γ "persons"} {th : MethR Γ "houses"} (h1 : rs.sp = spSame 3) (h2 : tsh.sp = spShares CB CE CN) (h2c : tsh.C = CB) (h3 : rsh.sp = spSharesL) (h4 : tof.sp = spOf CB CE) (h4c : tof.C = CB) (h5 : tp.sp = spPersons CB) (h5c : tp.C = CB) (h6 : th.sp = spHouses CB) (h6c : th.C = CB) :
    ∀ vs F Q E, spTold CB CE vs F Q E → wpB (fun C fs _ F => E C fs F) (c_l_told rs tsh rsh tof tp th) (start1 n_l_told vs) F (fun _ F => Q .non F) Q := by
  rintro vs F Q E ⟨m, i, rfl, st, hi, hq⟩
  unfold c_l_told
  have ap := st.ad.p
  have p6 := st.ok.p6
  have h8 := st.ok.h8
  have nd := st.ok.nds.2
  have vs1 : ∀ z ∈ m.ps ++ m.ns, VS z := fun z hz => (st.ok.nm z hz).vs
  have hg0 : ∀ {F2 : MH} {Q : Q1}, Q (.ref m.pm) F2 → ixS m.v (.int 0) F2 Q := fun {F2 Q} q => ix_list (vs := [.ref m.pm, .ref m.em]) rfl (by decide) rfl q
  have hg1 : ∀ {F2 : MH} {Q : Q1}, Q (.ref m.em) F2 → ixS m.v (.int 1) F2 Q := fun {F2 Q} q => ix_list (vs := [.ref m.pm, .ref m.em]) rfl (by decide) rfl q
  have hns : m.ns.length = m.hs.length := by unfold BM.ns; rw [List.length_map]
  simp only [wpB, wpS, wpE, wpEs, wpT, wpTs, wpCs, wpP, wpIt, wpBl, bindT, biS, recS, start1, List.map, List.length, List.replicate, List.append_nil, List.nil_append, List.cons_append, Nat.sub_self, Nat.reduceSub, Nat.reduceAdd, List.length_cons, List.length_nil, List.getElem?_cons_zero, List.getElem?_cons_succ, List.set_cons_zero, List.set_cons_succ, setAll, wipe1, Tg.slots, binS, subS, fdivS, modS, powS, cmpS, ltS, isS, isNS, asStrs, asBls, newLs, n_l_told, st.bk.c.b, h1, h2, h2c, h3, h4, h4c, h5, h5c, h6, h6c]
  refine ⟨trivial, rfl, m.b, m.pl, m.en, m.ps, entA m.hs, rfl, st.bk.c, by omega, fun q1 hq1 => ?_⟩
  have x1 : Ext F (mset F q1 (.lst ((sortS m.ps).map .str))) := ext_new hq1
  have c1 : lsOf (mset F q1 (.lst ((sortS m.ps).map .str))) (.ref q1) = some ((sortS m.ps).map .str) := by simp only [lsOf, mset_same]
  generalize mset F q1 (.lst ((sortS m.ps).map .str)) = F1 at *
  have st1 := st.ext x1
  refine hg0 (sort_strs (l := m.ps) (by simp only [lsOf, st1.md.pmc]) (by omega) ?_)
  simp only [newLs]
  refine ⟨_, _, rfl, SameV.strs (l := sortS m.ps) c1 rfl (fun z hz => vs1 z (List.mem_append_left _ (mem_sortS.mp hz))) (by rw [sortS_length]; omega), ?_⟩
  simp only [truS, Bool.not_true, wpB, wpS, wpE, wpEs, wpT, wpTs, wpCs, wpP, wpIt, wpBl, bindT, biS, recS, start1, List.map, List.length, List.replicate, List.append_nil, List.nil_append, List.cons_append, Nat.sub_self, Nat.reduceSub, Nat.reduceAdd, List.length_cons, List.length_nil, List.getElem?_cons_zero, List.getElem?_cons_succ, List.set_cons_zero, List.set_cons_succ, setAll, wipe1, Tg.slots, binS, subS, fdivS, modS, powS, cmpS, ltS, isS, isNS, asStrs, asBls, newLs, st1.bk.c.b]
  refine ⟨trivial, rfl, m.b, m.pl, m.en, m.ps, entA m.hs, rfl, st1.bk.c, by rw [entA_len]; omega, ?_⟩
  rw [entA_keys]
  intro q2 hq2
  have x2 : Ext F1 (mset F1 q2 (.lst ((sortS (m.hs.map (·.nm))).map .str))) := ext_new hq2
  have c2 : lsOf (mset F1 q2 (.lst ((sortS (m.hs.map (·.nm))).map .str))) (.ref q2) = some ((sortS (m.hs.map (·.nm))).map .str) := by simp only [lsOf, mset_same]
  generalize mset F1 q2 (.lst ((sortS (m.hs.map (·.nm))).map .str)) = F2 at *
  have st2 := st1.ext x2
  refine hg1 (sort_keys st2.em (by rw [modA_len]; omega) ?_)
  rw [modA_keys]
  simp only [newLs]
  refine ⟨_, _, rfl, SameV.strs (l := sortS m.ns) c2 rfl (fun z hz => vs1 z (List.mem_append_right _ (mem_sortS.mp hz))) (by rw [sortS_length]; omega), ?_⟩
  simp only [truS, Bool.not_true, wpB, wpS, wpE, wpEs, wpT, wpTs, wpCs, wpP, wpIt, wpBl, bindT, biS, recS, start1, List.map, List.length, List.replicate, List.append_nil, List.nil_append, List.cons_append, Nat.sub_self, Nat.reduceSub, Nat.reduceAdd, List.length_cons, List.length_nil, List.getElem?_cons_zero, List.getElem?_cons_succ, List.set_cons_zero, List.set_cons_succ, setAll, wipe1, Tg.slots, binS, subS, fdivS, modS, powS, cmpS, ltS, isS, isNS, asStrs, asBls, newLs]
  have x12 : Ext F F2 := fun a c h => x2 a c (x1 a c h)
  clear x1 x2 c1 c2 st1
  have bk := st2.bk
  have md := st2.md
  refine ⟨m.em, modA m.hs, st2.em, fun u => hg1 ⟨rfl, ?_⟩⟩
  have kk : ∀ {a c}, F2 a = some c → a ≠ m.em → mset F2 m.em (.lck u (modA m.hs)) a = some c := fun {a c} h h2 => by rw [mset_ne h2]; exact h
  have kc : ∀ {a c}, F2 a = some c → (∀ kvs, c ≠ .dict kvs) → mset F2 m.em (.lck u (modA m.hs)) a = some c := fun {a c} h hc => kk h (ne_cell h st2.em (hc _))
  have bkL : BkS CB CE (mset F2 m.em (.lck u (modA m.hs))) m := ⟨⟨kc bk.c.b (fun _ z => nomatch z), kc bk.c.pl (fun _ z => nomatch z), kk bk.c.en ap.enem⟩, fun x hx => ⟨kc (bk.ent x hx).e (fun _ z => nomatch z), kk (bk.ent x hx).h (ap.emh x hx)⟩⟩
  have mdL : MdS (mset F2 m.em (.lck u (modA m.hs))) m := ⟨kc md.pmc (fun _ z => nomatch z), by simp only [dcOf, mset_same], fun x hx => kc (md.gc x hx) (fun _ z => nomatch z), fun x hx => kk (md.ghc x hx) (ap.emgh x hx)⟩
  have emL : mset F2 m.em (.lck u (modA m.hs)) m.em = some (.lck u (modA m.hs)) := mset_same
  have kL : ∀ a c, a ≠ m.em → F2 a = some c → mset F2 m.em (.lck u (modA m.hs)) a = some c := fun a c h1 h2 => by rw [mset_ne h1]; exact h2
  generalize mset F2 m.em (.lck u (modA m.hs)) = FL at *
  refine forGo_inv (fun i σ F1 => Ext FL F1 ∧ ∃ s2, σ = [some (.ref m.b), some m.v, s2]) (fun i σ F1 h => h.1 _ _ emL) ?_ ?_ ⟨fun _ _ h => h, none, rfl⟩
  · rintro j w σ F1 k hw ⟨xL, s2, rfl⟩ hk
    have hw : (((modA m.hs).map (·.1)).map Val.str)[j]? = some w := by rw [List.map_map]; exact hw
    rw [modA_keys, List.map_map, List.getElem?_map] at hw
    obtain ⟨x, hx, rfl⟩ := Option.map_eq_some_iff.mp hw
    have hxm := List.mem_of_getElem? hx
    have hof := hof_of nd hxm
    have rc := st.ok.rc x hxm
    have rl := rc.len
    have hke : kget (entA m.hs) x.nm = some (.ref x.e) := by rw [entA_get, hof]; rfl
    have bkL := bkL.extE xL
    have mdL := mdL.extE xL (by simp only [dcOf, xL _ _ emL])
    simp only [Function.comp, wpB, wpS, wpE, wpEs, wpT, wpTs, wpCs, wpP, wpIt, wpBl, bindT, biS, recS, start1, List.map, List.length, List.replicate, List.append_nil, List.nil_append, List.cons_append, Nat.sub_self, Nat.reduceSub, Nat.reduceAdd, List.length_cons, List.length_nil, List.getElem?_cons_zero, List.getElem?_cons_succ, List.set_cons_zero, List.set_cons_succ, setAll, wipe1, Tg.slots, binS, subS, fdivS, modS, powS, cmpS, ltS, isS, isNS, asStrs, asBls, newLs, bkL.c.b]
    refine ⟨trivial, rfl, m.b, x.nm, m.pl, m.en, m.ps, entA m.hs, x.e, x.h, numV x.n, x.held, rfl, bkL.c, hke, bkL.ent x hxm, ?_⟩
    refine hg1 (ix_dc mdL.emc (by rw [modA_get, hof]; rfl) ?_)
    simp only []
    refine sl_list (vs := [.int x.n.1, .int x.n.2.1, .int x.n.2.2, .ref x.gh]) (by simp only [lsOf, mdL.gc x hxm]) ?_
    have ec : cut [Val.int x.n.1, .int x.n.2.1, .int x.n.2.2, .ref x.gh] none (some 3) = [.int x.n.1, .int x.n.2.1, .int x.n.2.2] := rfl
    rw [ec]
    simp only [tupleF, lsOf]
    refine ⟨_, _, rfl, SameV.ints (n := 2) (l := [x.n.1, x.n.2.1, x.n.2.2]) (by show 3 ≤ 1000; decide), ?_⟩
    simp only [truS, Bool.not_true, wpB, wpS, wpE, wpEs, wpT, wpTs, wpCs, wpP, wpIt, wpBl, bindT, biS, recS, start1, List.map, List.length, List.replicate, List.append_nil, List.nil_append, List.cons_append, Nat.sub_self, Nat.reduceSub, Nat.reduceAdd, List.length_cons, List.length_nil, List.getElem?_cons_zero, List.getElem?_cons_succ, List.set_cons_zero, List.set_cons_succ, setAll, wipe1, Tg.slots, binS, subS, fdivS, modS, powS, cmpS, ltS, isS, isNS, asStrs, asBls, newLs, bkL.c.b]
    refine ⟨trivial, rfl, m.b, x.nm, m.pl, m.en, m.ps, entA m.hs, x.e, x.h, numV x.n, x.held, rfl, bkL.c, hke, bkL.ent x hxm, by omega, fun q3 hq3 => ?_⟩
    have x3 : Ext F1 (mset F1 q3 (.lst ((showS x.held).map fun k => .tup [.str k, frP ((hget x.held k).getD (0, 0))]))) := ext_new hq3
    have c3 : lsOf (mset F1 q3 (.lst ((showS x.held).map fun k => .tup [.str k, frP ((hget x.held k).getD (0, 0))]))) (.ref q3) = some ((showS x.held).map fun k => .tup [.str k, frP ((hget x.held k).getD (0, 0))]) := by simp only [lsOf, mset_same]
    generalize mset F1 q3 (.lst ((showS x.held).map fun k => .tup [.str k, frP ((hget x.held k).getD (0, 0))])) = F3 at *
    refine ⟨m, x, rfl, mdL.extE x3 (by simp only [dcOf, x3 _ _ (xL _ _ emL)]), nd, hxm, by omega, rc.lws, ?_⟩
    refine ⟨_, _, rfl, SameV.shares c3 (by omega) (fun z hz => vs1 z (rc.hu z hz)), ?_⟩
    simp only [truS, Bool.not_true, wpB, wpS, wpE, wpEs, wpT, wpTs, wpCs, wpP, wpIt, wpBl, bindT, biS, recS, start1, List.map, List.length, List.replicate, List.append_nil, List.nil_append, List.cons_append, Nat.sub_self, Nat.reduceSub, Nat.reduceAdd, List.length_cons, List.length_nil, List.getElem?_cons_zero, List.getElem?_cons_succ, List.set_cons_zero, List.set_cons_succ, setAll, wipe1, Tg.slots, binS, subS, fdivS, modS, powS, cmpS, ltS, isS, isNS, asStrs, asBls, newLs]
    exact hk _ _ ⟨fun a c h => x3 a c (xL a c h), _, rfl⟩
  · rintro σ F1 ⟨xL, s2, rfl⟩
    refine ⟨xL _ _ emL, hq _ fun a c h => ?_⟩
    have h := x12 a c h
    by_cases ha : a = m.em
    · rw [ha, mset_same, ← h, ha, st2.em]
    · rw [mset_ne ha]; exact xL a c (kL a c ha h)
end Bv

set_option pp.maxSteps 600
/-! Family A: words, numbers and parts drawn. -/
namespace Bv
open PySem L2 PyProof.Rows
theorem Keep.ext {p : Addr} {F F' : MH} (h : Ext F F') : Keep p F F' := fun a c _ e => h a c e
theorem tx_of (s : String) (h : (Str.ofString s).length ≤ 1000) : Tx (Str.ofString s) := ⟨vs_of s, h⟩
def spOne : Spec := fun vs F Q _ => ∃ (p : Addr) (l : List Str) (odd : Bool), vs = [.ref p, .lst (l.map .str), .bl odd] ∧ Pur F p ∧ l ≠ [] ∧ l.length ≤ 1000 ∧ (∀ z ∈ l, Tx z) ∧
  ∀ z F', Pur F' p → Keep p F F' → Tx z → (odd = false → z ∈ l) → Q (.str z) F'
theorem w_l_one {Γ : Amb} {r : CallR1 Γ "_law_take"} (hr : r.sp = spTake) : ∀ vs F Q E, spOne vs F Q E → wpB (fun C fs _ F => E C fs F) (c_l_one r) (start1 n_l_one vs) F (fun _ F => Q .non F) Q := by
  rintro vs F Q E ⟨p, l, odd, rfl, hp, hne, hl, htx, h⟩
  unfold c_l_one
  simp only [wpB, wpS, wpE, wpEs, wpT, wpTs, wpCs, wpP, wpIt, wpBl, bindT, biS, recS, start1, List.map, List.length, List.replicate, List.append_nil, List.nil_append, List.cons_append, Nat.sub_self, Nat.reduceSub, Nat.reduceAdd, List.length_cons, List.length_nil, List.getElem?_cons_zero, List.getElem?_cons_succ, List.set_cons_zero, List.set_cons_succ, setAll, wipe1, Tg.slots, binS, subS, fdivS, modS, powS, cmpS, ltS, isS, isNS, asStrs, asBls, newLs, n_l_one, hr]
  have hpos : 0 < l.length := List.length_pos_iff.mpr hne
  have tail : ∀ F1 : MH, Pur F1 p → Keep p F F1 → lenS (.lst (l.map .str)) F1 fun x F2 => spTake [.ref p, x] F2 (fun y F3 => ixS (.lst (l.map .str)) y F3 Q) fun C fs F2 => E C fs F2 := fun F1 hp1 hk1 => by
    refine len_ls (vs := l.map .str) rfl ?_
    rw [List.length_map]
    refine ⟨p, l.length, rfl, by omega, .of_small (by omega) (by omega), hp1, fun r a b h0 h1 => ?_⟩
    have hr1 : r.toNat < l.length := by omega
    have hg : (l.map Val.str)[r.toNat]? = some (.str l[r.toNat]) := by rw [List.getElem?_map, List.getElem?_eq_getElem hr1]; rfl
    exact ix_list rfl h0 hg (h _ _ .set (hk1.trans .set) (htx _ (List.getElem_mem _)) (fun _ => List.getElem_mem _))
  cases odd with
  | false =>
    simp only [truS]
    exact tail F hp .refl
  | true =>
    simp only [truS]
    refine ⟨p, 8, rfl, by decide, .of_small (by decide) (by decide), hp, fun r a b h0 h1 => eqS_i ?_⟩
    by_cases h7 : r = 7
    · rw [decide_eq_true h7]
      simp only [wpB, wpS, wpE, wpEs, wpT, wpTs, wpCs, wpP, wpIt, wpBl, bindT, biS, recS, start1, List.map, List.length, List.replicate, List.append_nil, List.nil_append, List.cons_append, Nat.sub_self, Nat.reduceSub, Nat.reduceAdd, List.length_cons, List.length_nil, List.getElem?_cons_zero, List.getElem?_cons_succ, List.set_cons_zero, List.set_cons_succ, setAll, wipe1, Tg.slots, binS, subS, fdivS, modS, powS, cmpS, ltS, isS, isNS, asStrs, asBls, newLs]
      refine ⟨by rw [sizeLine_eq]; decide, p, 8, rfl, by decide, .of_small (by decide) (by decide), .set, fun r2 a2 b2 h20 h21 => ?_⟩
      have hg : ∃ s : String, ([Val.str "", .str "A", .str "ninefolds", .str "a b", .str "a1", .str "aB", .str "-", .str "zzzzzzzz"] : List Val)[r2.toNat]? = some (.str (Str.ofString s)) ∧ (Str.ofString s).length ≤ 1000 := by
        have : r2.toNat = 0 ∨ r2.toNat = 1 ∨ r2.toNat = 2 ∨ r2.toNat = 3 ∨ r2.toNat = 4 ∨ r2.toNat = 5 ∨ r2.toNat = 6 ∨ r2.toNat = 7 := by omega
        rcases this with e | e | e | e | e | e | e | e <;> rw [e]
        · exact ⟨"", rfl, by decide⟩
        · exact ⟨"A", rfl, by decide⟩
        · exact ⟨"ninefolds", rfl, by decide⟩
        · exact ⟨"a b", rfl, by decide⟩
        · exact ⟨"a1", rfl, by decide⟩
        · exact ⟨"aB", rfl, by decide⟩
        · exact ⟨"-", rfl, by decide⟩
        · exact ⟨"zzzzzzzz", rfl, by decide⟩
      obtain ⟨s, hg, hsl⟩ := hg
      refine ix_list rfl h20 hg (h _ _ (by rw [mset_mset]; exact .set) (by rw [mset_mset]; exact .set) (tx_of s hsl) (fun z => nomatch z))
    · rw [decide_eq_false h7]
      simp only [wpB, wpS, wpE, wpEs, wpT, wpTs, wpCs, wpP, wpIt, wpBl, bindT, biS, recS, start1, List.map, List.length, List.replicate, List.append_nil, List.nil_append, List.cons_append, Nat.sub_self, Nat.reduceSub, Nat.reduceAdd, List.length_cons, List.length_nil, List.getElem?_cons_zero, List.getElem?_cons_succ, List.set_cons_zero, List.set_cons_succ, setAll, wipe1, Tg.slots, binS, subS, fdivS, modS, powS, cmpS, ltS, isS, isNS, asStrs, asBls, newLs]
      exact tail _ .set .set
def spNumb : Spec := fun vs F Q _ => ∃ p : Addr, vs = [.ref p] ∧ Pur F p ∧ ∀ (n : Int) F', Pur F' p → Keep p F F' → Q (.int n) F'
theorem w_l_number {Γ : Amb} {r : CallR1 Γ "_law_take"} (hr : r.sp = spTake) : ∀ vs F Q E, spNumb vs F Q E → wpB (fun C fs _ F => E C fs F) (c_l_number r) (start1 n_l_number vs) F (fun _ F => Q .non F) Q := by
  rintro vs F Q E ⟨p, rfl, hp, h⟩
  unfold c_l_number
  simp only [wpB, wpS, wpE, wpEs, wpT, wpTs, wpCs, wpP, wpIt, wpBl, bindT, biS, recS, start1, List.map, List.length, List.replicate, List.append_nil, List.nil_append, List.cons_append, Nat.sub_self, Nat.reduceSub, Nat.reduceAdd, List.length_cons, List.length_nil, List.getElem?_cons_zero, List.getElem?_cons_succ, List.set_cons_zero, List.set_cons_succ, setAll, wipe1, Tg.slots, binS, subS, fdivS, modS, powS, cmpS, ltS, isS, isNS, asStrs, asBls, newLs, n_l_number, hr, CPow]
  refine ⟨p, 4, rfl, by decide, .of_small (by decide) (by decide), hp, fun r a b h0 h1 => ?_⟩
  refine ⟨by decide, mul_i (small_mulL (by decide) (by decide)) (add_int ⟨by decide, mul_i (small_mulL (by decide) (by decide)) ⟨by rw [sizeLine_eq]; decide, ?_⟩⟩)⟩
  have e30 : (10 : Int) ^ 30 ≤ 2 ^ 128 := by decide
  refine ix_ints (l := [21, 201, 2 * 10 ^ 6 + 1, 2 * 10 ^ 30 - 1]) h0 h1 fun m hm => ?_
  have hm1 : 1 ≤ m ∧ m ≤ 2 ^ 200 := by
    simp only [List.mem_cons, List.not_mem_nil, or_false] at hm
    rcases hm with rfl | rfl | rfl | rfl <;> decide
  refine ⟨p, m, rfl, by omega, bits_ok (n := 200) (by omega) hm1.2 (by decide), .set, fun r2 a2 b2 h20 h21 => ?_⟩
  refine ⟨by decide, by decide, by rw [sizeLine_eq]; decide, ?_⟩
  refine ix_ints (l := [10, 100, 10 ^ 6, 10 ^ 30 - 1]) h0 h1 fun k hk => ?_
  exact h _ _ (by rw [mset_mset]; exact .set) (by rw [mset_mset]; exact .set)
/-- a holding of which a part is drawn -/
structure Hs (p : Int × Int) : Prop where
  nn : 0 ≤ p.1
  pos : 0 < p.2
  le : p.1 ≤ p.2
  den : p.2 ≤ 2 ^ 4400
theorem Hs.sm {p : Int × Int} (h : Hs p) : SmP p := ⟨bits_ok (n := 4400) h.nn (by have := h.le; have := h.den; omega) (by decide), bits_ok (n := 4400) (Int.le_of_lt h.pos) h.den (by decide)⟩
theorem Hs.prod {p : Int × Int} (h : Hs p) {b : Int} (h0 : 0 < b) (h1 : b ≤ 2 ^ 64) : 0 < b * p.2 ∧ Sm (b * p.2) := by
  have hp : 0 < b * p.2 := Int.mul_pos h0 h.pos
  refine ⟨hp, bits_ok (n := 64 + 4400) (Int.le_of_lt hp) ?_ (by decide)⟩
  rw [Int.pow_add]
  have e1 : b * p.2 ≤ 2 ^ 64 * p.2 := Int.mul_le_mul_of_nonneg_right h1 (Int.le_of_lt h.pos)
  have e2 : (2 : Int) ^ 64 * p.2 ≤ 2 ^ 64 * 2 ^ 4400 := Int.mul_le_mul_of_nonneg_left h.den (Int.pow_nonneg (by decide))
  omega
structure Vl (s : Int × Int) : Prop where
  pos : 0 < s.2
  a1 : -1 ≤ s.1
  a2 : s.1 ≤ 2 * s.2
def spPartA : Spec := fun vs F Q _ => ∃ (p : Addr) (has : Int × Int), vs = [.ref p, frP has] ∧ Pur F p ∧ Hs has ∧ ∀ s F', Pur F' p → Keep p F F' → Shr s → Q (frP s) F'
theorem w_l_part {Γ : Amb} {rp : CallR1 Γ "_law_plus"} {r : CallR1 Γ "_law_take"} {rt : CallR1 Γ "_law_times"} {rl : CallR1 Γ "_law_lowest"} (h1 : rp.sp = spAdded) (h2 : r.sp = spTake) (h3 : rt.sp = spTimes) (h4 : rl.sp = spLow) : ∀ vs F Q E, spPartA vs F Q E → wpB (fun C fs _ F => E C fs F) (c_l_part rp r rt rl) (start1 n_l_part vs) F (fun _ F => Q .non F) Q := by
  rintro vs F Q E ⟨p, has, rfl, hp, hh, hq⟩
  unfold c_l_part
  simp only [wpB, wpS, wpE, wpEs, wpT, wpTs, wpCs, wpP, wpIt, wpBl, bindT, biS, recS, start1, List.map, List.length, List.replicate, List.append_nil, List.nil_append, List.cons_append, Nat.sub_self, Nat.reduceSub, Nat.reduceAdd, List.length_cons, List.length_nil, List.getElem?_cons_zero, List.getElem?_cons_succ, List.set_cons_zero, List.set_cons_succ, setAll, wipe1, Tg.slots, binS, subS, fdivS, modS, powS, cmpS, ltS, isS, isNS, asStrs, asBls, newLs, n_l_part, h1, h2, h3, h4, CPow]
  refine ⟨p, 8, rfl, by decide, .of_small (by decide) (by decide), hp, fun sort a b s0 s1 => ?_⟩
  refine ⟨by decide, by rw [sizeLine_eq]; decide, ?_⟩
  refine ix_ints (l := [5, 5, 12, 12, 100, 5, 5, 10 ^ 6]) s0 s1 fun k hk => ?_
  have hk1 : 5 ≤ k ∧ k ≤ 10 ^ 6 := by
    simp only [List.mem_cons, List.not_mem_nil, or_false] at hk
    rcases hk with rfl | rfl | rfl | rfl | rfl | rfl | rfl | rfl <;> decide
  refine ⟨p, k, rfl, by omega, .of_small (by omega) (by omega), .set, fun b0 a2 b2 h20 h21 => add_int ?_⟩
  generalize hbot : 2 + b0 = bot
  have hb1 : 2 ≤ bot ∧ bot ≤ 10 ^ 6 + 1 := by omega
  rw [mset_mset]
  refine ⟨p, bot, rfl, by omega, .of_small (by omega) (by omega), .set, fun t a3 b3 h30 h31 => add_int ⟨_, _, rfl, by omega, .of_small (by omega) (by omega), ?_⟩⟩
  rw [mset_mset]
  obtain ⟨l1, l2, l3, l4, l5⟩ := low_bd (t := t + 1) (b := bot) (A := 1) (C := 10 ^ 6 + 1) (by omega) (by omega) (by omega) (by omega)
  generalize low (t + 1) bot = some_ at *
  have l5 := l5 (by omega)
  refine eqS_i ?_
  by_cases h5 : sort = 5
  · rw [decide_eq_true h5]
    simp only [wpB, wpS, wpE, wpEs, wpT, wpTs, wpCs, wpP, wpIt, wpBl, bindT, biS, recS, start1, List.map, List.length, List.replicate, List.append_nil, List.nil_append, List.cons_append, Nat.sub_self, Nat.reduceSub, Nat.reduceAdd, List.length_cons, List.length_nil, List.getElem?_cons_zero, List.getElem?_cons_succ, List.set_cons_zero, List.set_cons_succ, setAll, wipe1, Tg.slots, binS, subS, fdivS, modS, powS, cmpS, ltS, isS, isNS, asStrs, asBls, newLs, CPow]
    have hpr := hh.prod (b := 10 ^ 6) (by decide) (by decide)
    rw [Int.mul_comm] at hpr
    refine ⟨by rw [sizeLine_eq]; decide, by rw [sizeLine_eq]; decide, by rw [sizeLine_eq]; decide, by rw [sizeLine_eq]; decide, by decide, by rw [sizeLine_eq]; decide, has, (1, 10 ^ 6), rfl, hh.sm, ⟨.of_small (by decide) (by decide), .of_small (by decide) (by decide)⟩, hpr.1, hpr.2, ?_⟩
    have hm : Vl (more has (1, 10 ^ 6)) := by
      have hle := hh.le
      have hnn := hh.nn
      have hps := hh.pos
      obtain ⟨m1, m2, m3, m4, m5⟩ := low_bd (t := has.1 * 10 ^ 6 + 1 * has.2) (b := has.2 * 10 ^ 6) (A := 2) (C := has.2 * 10 ^ 6) (by omega) hpr.1 (by omega) (Int.le_refl _)
      exact ⟨m2, by have : 0 ≤ (more has (1, 10 ^ 6)).1 := m1; omega, m3⟩
    refine ⟨by rw [sizeLine_eq]; decide, p, 5, rfl, by decide, .of_small (by decide) (by decide), .set, fun r5 a5 b5 h50 h51 => ?_⟩
    rw [mset_mset]
    have hg : ∃ s : Int × Int, ([.tup [.int 0, .int 1], .tup [.int (-1), .int 2], .tup [.int 3, .int 2], .tup [.int 1, .int 1], frP (more has (1, 10 ^ 6))] : List Val)[r5.toNat]? = some (frP s) ∧ Vl s := by
      have : r5.toNat = 0 ∨ r5.toNat = 1 ∨ r5.toNat = 2 ∨ r5.toNat = 3 ∨ r5.toNat = 4 := by omega
      rcases this with e | e | e | e | e <;> rw [e]
      · exact ⟨(0, 1), rfl, ⟨by decide, by decide, by decide⟩⟩
      · exact ⟨(-1, 2), rfl, ⟨by decide, by decide, by decide⟩⟩
      · exact ⟨(3, 2), rfl, ⟨by decide, by decide, by decide⟩⟩
      · exact ⟨(1, 1), rfl, ⟨by decide, by decide, by decide⟩⟩
      · exact ⟨_, rfl, hm⟩
    obtain ⟨s, hg, hs⟩ := hg
    refine ix_list rfl h50 hg ?_
    refine ix1 ⟨by decide, ?_⟩
    simp only []
    by_cases hbig : (10 : Int) ^ 28 < s.2
    · rw [decide_eq_true (show (10 : Int) ^ Int.toNat 28 < s.2 from hbig)]
      exact ⟨by rw [sizeLine_eq]; decide, hq (1, 2) _ .set .set ⟨by decide, by decide, by decide, by decide⟩⟩
    · rw [decide_eq_false (show ¬ (10 : Int) ^ Int.toNat 28 < s.2 from hbig)]
      refine hq s _ .set .set ⟨(hs).pos, ?_, ?_, ?_⟩
      · have : (10 : Int) ^ 28 ≤ 10 ^ 29 := by decide
        omega
      · have := (hs).a1
        have : (1 : Int) ≤ 10 ^ 30 := by decide
        omega
      · have := (hs).a2
        have : 2 * (10 : Int) ^ 28 ≤ 10 ^ 30 := by decide
        omega
  · rw [decide_eq_false h5]
    simp only [wpB, wpS, wpE, wpEs, wpT, wpTs, wpCs, wpP, wpIt, wpBl, bindT, biS, recS, start1, List.map, List.length, List.replicate, List.append_nil, List.nil_append, List.cons_append, Nat.sub_self, Nat.reduceSub, Nat.reduceAdd, List.length_cons, List.length_nil, List.getElem?_cons_zero, List.getElem?_cons_succ, List.set_cons_zero, List.set_cons_succ, setAll, wipe1, Tg.slots, binS, subS, fdivS, modS, powS, cmpS, ltS, isS, isNS, asStrs, asBls, newLs, CPow]
    have v1 : Vl some_ := ⟨l2, by omega, by omega⟩
    refine eqS_i ?_
    by_cases h4 : sort = 4
    · rw [decide_eq_true h4]
      simp only [Bool.not_true]
      refine ix1 ⟨by decide, ?_⟩
      simp only []
      by_cases hbig : (10 : Int) ^ 28 < some_.2
      · rw [decide_eq_true (show (10 : Int) ^ Int.toNat 28 < some_.2 from hbig)]
        exact ⟨by rw [sizeLine_eq]; decide, hq (1, 2) _ .set .set ⟨by decide, by decide, by decide, by decide⟩⟩
      · rw [decide_eq_false (show ¬ (10 : Int) ^ Int.toNat 28 < some_.2 from hbig)]
        refine hq some_ _ .set .set ⟨(v1).pos, ?_, ?_, ?_⟩
        · have : (10 : Int) ^ 28 ≤ 10 ^ 29 := by decide
          omega
        · have := (v1).a1
          have : (1 : Int) ≤ 10 ^ 30 := by decide
          omega
        · have := (v1).a2
          have : 2 * (10 : Int) ^ 28 ≤ 10 ^ 30 := by decide
          omega
    rw [decide_eq_false h4]
    simp only [Bool.not_false]
    refine eqS_i ?_
    by_cases h7 : sort = 7
    · rw [decide_eq_true h7]
      simp only [Bool.not_true]
      refine ix1 ⟨by decide, ?_⟩
      simp only []
      by_cases hbig : (10 : Int) ^ 28 < some_.2
      · rw [decide_eq_true (show (10 : Int) ^ Int.toNat 28 < some_.2 from hbig)]
        exact ⟨by rw [sizeLine_eq]; decide, hq (1, 2) _ .set .set ⟨by decide, by decide, by decide, by decide⟩⟩
      · rw [decide_eq_false (show ¬ (10 : Int) ^ Int.toNat 28 < some_.2 from hbig)]
        refine hq some_ _ .set .set ⟨(v1).pos, ?_, ?_, ?_⟩
        · have : (10 : Int) ^ 28 ≤ 10 ^ 29 := by decide
          omega
        · have := (v1).a1
          have : (1 : Int) ≤ 10 ^ 30 := by decide
          omega
        · have := (v1).a2
          have : 2 * (10 : Int) ^ 28 ≤ 10 ^ 30 := by decide
          omega
    rw [decide_eq_false h7]
    simp only [Bool.not_false]
    have hpr := hh.prod (b := some_.2) l2 (by omega)
    refine ⟨some_, has, rfl, ⟨.of_small (by omega) (by omega), .of_small (by omega) (by omega)⟩, hh.sm, hpr.1, hpr.2, ?_⟩
    have v2 : Vl (low (some_.1 * has.1) (some_.2 * has.2)) := by
      have hnn := hh.nn
      have hle := hh.le
      have hps := hh.pos
      have n1 : 0 ≤ some_.1 * has.1 := Int.mul_nonneg l1 hnn
      have n2 : some_.1 * has.1 ≤ some_.2 * has.2 := by
        have e1 : some_.1 * has.1 ≤ some_.2 * has.1 := Int.mul_le_mul_of_nonneg_right (by omega) hnn
        have e2 : some_.2 * has.1 ≤ some_.2 * has.2 := Int.mul_le_mul_of_nonneg_left hle (by omega)
        omega
      obtain ⟨m1, m2, m3, m4, m5⟩ := low_bd (t := some_.1 * has.1) (b := some_.2 * has.2) (A := 1) (C := some_.2 * has.2) n1 hpr.1 (by omega) (Int.le_refl _)
      exact ⟨m2, by omega, by omega⟩
    generalize low (some_.1 * has.1) (some_.2 * has.2) = s at *
    refine ix1 ⟨by decide, ?_⟩
    simp only []
    by_cases hbig : (10 : Int) ^ 28 < s.2
    · rw [decide_eq_true (show (10 : Int) ^ Int.toNat 28 < s.2 from hbig)]
      exact ⟨by rw [sizeLine_eq]; decide, hq (1, 2) _ .set .set ⟨by decide, by decide, by decide, by decide⟩⟩
    · rw [decide_eq_false (show ¬ (10 : Int) ^ Int.toNat 28 < s.2 from hbig)]
      refine hq s _ .set .set ⟨(v2).pos, ?_, ?_, ?_⟩
      · have : (10 : Int) ^ 28 ≤ 10 ^ 29 := by decide
        omega
      · have := (v2).a1
        have : (1 : Int) ≤ 10 ^ 30 := by decide
        omega
      · have := (v2).a2
        have : 2 * (10 : Int) ^ 28 ≤ 10 ^ 30 := by decide
        omega
end Bv

set_option pp.maxSteps 600
/-! Family A: a sale drawn. -/
namespace Bv
open PySem L2 PyProof.Rows
/-! ### a body in two -/
def takeS {Γ : Amb} : Nat → Ss Γ → Ss Γ
  | 0, _ => .nil
  | _ + 1, .nil => .nil
  | n + 1, .cons s r => .cons s (takeS n r)
def dropS {Γ : Amb} : Nat → Ss Γ → Ss Γ
  | 0, c => c
  | _ + 1, .nil => .nil
  | n + 1, .cons s r => dropS n r
theorem wpS_mono_ {Γ : Amb} {W : XS} {s : S Γ} {σ : St1} {F : MH} {Qn Qn' : St1 → MH → Prop} {Qr : Q1} (e : Qn = Qn') : wpS W s σ F Qn Qr = wpS W s σ F Qn' Qr := by rw [e]
theorem wpB_split {Γ : Amb} {W : XS} : ∀ (n : Nat) (c : Ss Γ) (σ : St1) (F : MH) (Qn : St1 → MH → Prop) (Qr : Q1), wpB W c σ F Qn Qr = wpB W (takeS n c) σ F (fun σ' F' => wpB W (dropS n c) σ' F' Qn Qr) Qr
  | 0, c, σ, F, Qn, Qr => by simp only [takeS, dropS, wpB]
  | _ + 1, .nil, σ, F, Qn, Qr => by simp only [takeS, dropS, wpB]
  | n + 1, .cons s r, σ, F, Qn, Qr => by
    simp only [takeS, dropS, wpB]
    exact wpS_mono_ (funext fun σ' => funext fun F' => wpB_split n r σ' F' Qn Qr)
/-! ### the purse is elsewhere -/
section
variable {CB CE : Addr} {F F' : MH} {m : BM} {i : Nat} {p : Addr}
theorem St.ne_pur (st : St CB CE F m i) (hp : Pur F p) {a : Addr} (ha : m.adr a) : a ≠ p := by
  obtain ⟨x, y, hp⟩ := hp
  have ls : ∀ l : List Str, Cell.lst (l.map .str) ≠ .lst [.int x, .int y] := fun l z => by cases l <;> cases z
  rcases ha with rfl | rfl | rfl | rfl | rfl | ⟨w, hw, rfl | rfl | rfl | rfl⟩
  · exact ne_cell st.bk.c.b hp (fun z => nomatch z)
  · exact ne_cell st.bk.c.pl hp (ls _)
  · exact ne_cell st.bk.c.en hp (fun z => nomatch z)
  · exact ne_cell st.md.pmc hp (ls _)
  · exact ne_cell st.em hp (fun z => nomatch z)
  · exact ne_cell (st.bk.ent w hw).e hp (fun z => nomatch z)
  · exact ne_cell (st.bk.ent w hw).h hp (fun z => nomatch z)
  · exact ne_cell (st.md.gc w hw) hp (fun z => by cases z)
  · exact ne_cell (st.md.ghc w hw) hp (fun z => nomatch z)
theorem St.draw (st : St CB CE F m i) (hp : Pur F p) (h2 : Keep p F F') : St CB CE F' m i := st.kept fun a c ha h => h2 a c (st.ne_pur hp ha) h
end
theorem sumT_zero {held : Held} (h : ∀ x ∈ held, x.2 = (0, 1)) : sumT held = 0 := by
  induction held with
  | nil => unfold sumT; rw [List.map_nil, List.sum_nil]
  | cons a l ih =>
    rw [sumT_cons, ih fun x hx => h x (List.mem_cons_of_mem _ hx), h a List.mem_cons_self, rt_zero]
    grind
theorem RecA.show_ne {un : List Str} {i : Nat} {held : Held} (h : RecA un i held) : showS held ≠ [] := fun e => by
  have h0 : sumT held = 0 := sumT_zero fun x hx => by
    have h1 := hget_mem h.hn hx
    have h2 : x.1 ∈ sortS (held.map (·.1)) := mem_sortS.mpr (List.mem_map.mpr ⟨x, hx, rfl⟩)
    have h3 := List.filter_eq_nil_iff.mp e x.1 h2
    rw [h1] at h3
    rw [decide_eq_true_iff] at h3
    exact Classical.byContradiction fun q => h3 (fun z => q (by injection z))
  have h1 := h.tot
  rw [h0] at h1
  exact absurd h1 (by decide)
theorem RecA.hs {un : List Str} {i : Nat} {held : Held} (h : RecA un i held) (hi : i ≤ 44) (z : Str) : Hs ((hget held z).getD (0, 1)) := by
  obtain ⟨L, l0, l1, l2⟩ := h.dnD
  have d := l2 z
  have h1 := h.le1D z
  refine ⟨d.nn, d.pos, ?_, Int.le_trans (d.le l0) (pow_mono (by omega) l1)⟩
  have h4 := rt_lt (p := (1, 1)) (q := (hget held z).getD (0, 1)) (by decide) d.pos
  rw [rt_one] at h4
  have h5 : ¬ (1 : Int) * ((hget held z).getD (0, 1)).2 < ((hget held z).getD (0, 1)).1 * 1 := fun q => by
    have := h4.mp q
    grind
  omega
theorem mul_strs {l : List Str} {k : Int} {F : MH} {Q : Q1} (h0 : 0 ≤ k) (hk : k ≤ 100) (hl : l.length ≤ 1000) (q : Q (.lst (((List.replicate k.toNat l).flatten).map .str)) F) : mulS (.lst (l.map .str)) (.int k) F Q := by
  have e : ((List.replicate k.toNat l).flatten).map Val.str = (List.replicate k.toNat (l.map Val.str)).flatten := by
    rw [List.map_flatten, List.map_replicate]
  rw [e] at q
  refine ⟨by omega, by omega, ?_, q⟩
  rw [List.length_map, sizeLine_eq]
  have h1 : k.toNat ≤ 100 := by omega
  have h2 : l.length * k.toNat ≤ 1000 * 100 := Nat.mul_le_mul hl h1
  omega
theorem add_strs {l l2 : List Str} {F : MH} {Q : Q1} (h : l.length + l2.length ≤ 200000) (q : Q (.lst ((l ++ l2).map .str)) F) : addS (.lst (l.map .str)) (.lst (l2.map .str)) F Q := by
  rw [List.map_append] at q
  exact add_ls (xs := l.map .str) (ys := l2.map .str) rfl rfl (by rw [List.length_map, List.length_map, sizeLine_eq]; omega) q
def repS (k : Nat) (l : List Str) : List Str := (List.replicate k l).flatten
theorem repS_mem {k : Nat} {l : List Str} {z : Str} (h : z ∈ repS k l) : z ∈ l := by
  obtain ⟨m, hm, hz⟩ := List.mem_flatten.mp h
  rw [(List.mem_replicate.mp hm).2] at hz
  exact hz
theorem repS_len (k : Nat) (l : List Str) : (repS k l).length = k * l.length := by
  unfold repS
  rw [List.length_flatten, List.map_replicate, List.sum_replicate_nat]
theorem repS_ne {k : Nat} {l : List Str} (hk : 0 < k) (hl : l ≠ []) : repS k l ≠ [] := fun e => by
  have := congrArg List.length e
  rw [repS_len] at this
  have h2 := List.length_pos_iff.mpr hl
  have h3 : 0 < k * l.length := Nat.mul_pos hk h2
  rw [this] at h3
  exact absurd h3 (by decide)
/-- texts that a word may be drawn of: some so many times, some words besides if odd -/
def poolS (k : Nat) (l : List Str) (j : Nat) (ws : List Str) (odd : Bool) : List Str := repS k l ++ repS (if odd = true then 1 else 0) (ws.take j)
theorem poolS_len {k : Nat} {l : List Str} {j : Nat} {ws : List Str} {odd : Bool} (hk : k ≤ 4) (hl : l.length ≤ 14) (hw : ws.length ≤ 14) : (poolS k l j ws odd).length ≤ 100 := by
  unfold poolS
  rw [List.length_append, repS_len, repS_len, List.length_take]
  have h1 : k * l.length ≤ 4 * 14 := Nat.mul_le_mul hk hl
  cases odd <;> simp <;> omega
theorem poolS_ne {k : Nat} {l : List Str} {j : Nat} {ws : List Str} {odd : Bool} (hk : 0 < k) (hl : l ≠ []) : poolS k l j ws odd ≠ [] := fun e => by
  unfold poolS at e
  exact repS_ne hk hl (List.append_eq_nil_iff.mp e).1
theorem poolS_mem {k : Nat} {l : List Str} {j : Nat} {ws : List Str} {odd : Bool} {z : Str} (h : z ∈ poolS k l j ws odd) : z ∈ l ∨ z ∈ ws := by
  unfold poolS at h
  rcases List.mem_append.mp h with q | q
  · exact .inl (repS_mem q)
  · exact .inr (List.mem_of_mem_take (repS_mem q))
/-- the pool made -/
theorem pool_i {l ws : List Str} {k j : Nat} {odd : Bool} {F : MH} {Q : Q1} (hk : k ≤ 4) (hl : l.length ≤ 14) (hw : ws.length ≤ 14) (hj : j ≤ ws.length) (q : Q (.lst ((poolS k l j ws odd).map .str)) F) :
    mulS (.lst (l.map .str)) (.int (k : Nat)) F fun x F1 => slS (.lst (ws.map .str)) none (some (j : Nat)) F1 fun y F2 => intS (.bl odd) F2 fun z F3 => mulS y z F3 fun y2 F4 => addS x y2 F4 Q := by
  refine mul_strs (by omega) (by omega) (by omega) (sl_list rfl ?_)
  rw [cut_map, cut_take ws hj]
  simp only [intS]
  refine mul_strs (by cases odd <;> decide) (by cases odd <;> decide) (by rw [List.length_take]; omega) ?_
  have e1 : (List.replicate (Int.toNat (k : Nat)) l).flatten = repS k l := by rw [Int.toNat_natCast]; rfl
  have e2 : (List.replicate (Int.toNat (if odd = true then 1 else 0)) (ws.take j)).flatten = repS (if odd = true then 1 else 0) (ws.take j) := by cases odd <;> rfl
  rw [e1, e2]
  refine add_strs ?_ q
  have := poolS_len (j := j) (odd := odd) hk hl hw
  unfold poolS at this
  rw [List.length_append] at this
  omega
/-- the law's words -/
structure Wds (ws : List Str) : Prop where
  len : ws.length = 14
  nm : ∀ z ∈ ws, Name z
def BM.hold (m : BM) : List Str := sortS m.ps ++ sortS m.ns
theorem OkS.hold {m : BM} {i : Nat} (h : OkS m i) : m.hold.length ≤ 14 ∧ (∀ z ∈ m.hold, Name z) := by
  constructor
  · unfold BM.hold
    rw [List.length_append, sortS_length, sortS_length]
    have := h.p6
    have := h.h8
    have : m.ns.length = m.hs.length := by unfold BM.ns; rw [List.length_map]
    omega
  · intro z hz
    unfold BM.hold at hz
    rcases List.mem_append.mp hz with q | q
    · exact h.nm z (List.mem_append_left _ (mem_sortS.mp q))
    · exact h.nm z (List.mem_append_right _ (mem_sortS.mp q))
theorem hold_i {CB CE : Addr} {F : MH} {m : BM} {i : Nat} (st : St CB CE F m i) {Q : Q1} (q : Q (.lst (m.hold.map .str)) F) : sortedF false (.ref m.pm) F fun x F1 => sortedF false (.ref m.em) F1 fun y F2 => addS x y F2 Q := by
  have p6 := st.ok.p6
  have h8 := st.ok.h8
  refine sort_strs (l := m.ps) (by simp only [lsOf, st.md.pmc]) (by omega) ?_
  refine sort_keys st.em (by rw [modA_len]; omega) ?_
  rw [modA_keys]
  refine add_strs (l := sortS m.ps) (l2 := sortS m.ns) ?_ q
  have := st.ok.hold.1
  unfold BM.hold at this
  rw [List.length_append] at this
  omega
end Bv

set_option pp.maxSteps 600
/-! Family A: deeds drawn. -/
namespace Bv
open PySem L2 PyProof.Rows
theorem hold_ne {m : BM} (h : m.hs ≠ []) : m.hold ≠ [] ∧ sortS m.ns ≠ [] := by
  have h1 : 0 < m.hs.length := List.length_pos_iff.mpr h
  have h2 : (sortS m.ns).length = m.hs.length := by rw [sortS_length]; unfold BM.ns; rw [List.length_map]
  have h3 : sortS m.ns ≠ [] := fun e => by rw [e] at h2; simp at h2; omega
  refine ⟨fun e => h3 ?_, h3⟩
  unfold BM.hold at e
  exact (List.append_eq_nil_iff.mp e).2
def spSaleL (CB CE : Addr) : Spec := fun vs F Q _ => ∃ p ws m odd i, vs = [.ref p, .lst (ws.map .str), m.v, .bl odd] ∧ Pur F p ∧ St CB CE F m i ∧ i ≤ 44 ∧ Wds ws ∧ m.hs ≠ [] ∧ ∀ d F', DOk d → Pur F' p → Keep p F F' → Q (deedV d) F'
theorem w_l_sale {Γ : Amb} {CB CE : Addr} {ro : CallR1 Γ "_law_one"} {rp : CallR1 Γ "_law_part"} {rt_ : CallR1 Γ "_law_take"} {rs : CallR1 Γ "_law_shares"} (h1 : ro.sp = spOne) (h2 : rp.sp = spPartA) (h3 : rt_.sp = spTake) (h4 : rs.sp = spSharesL) :
    ∀ vs F Q E, spSaleL CB CE vs F Q E → wpB (fun C fs _ F => E C fs F) (c_l_sale ro rp rt_ rs) (start1 n_l_sale vs) F (fun _ F => Q .non F) Q := by
  rintro vs F Q E ⟨p, ws, m, odd, i, rfl, hp, st, hi, wd, hne, hq⟩
  have hol := st.ok.hold
  obtain ⟨hold_n, ns_n⟩ := hold_ne hne
  have wl := wd.len
  have wtx : ∀ z ∈ ws, Tx z := fun z hz => (wd.nm z hz).tx
  have nsl : (sortS m.ns).length ≤ 14 := by
    rw [sortS_length]
    have := st.ok.h8
    unfold BM.ns
    rw [List.length_map]
    omega
  have pooltx : ∀ (k : Nat) (l : List Str) (j : Nat) (z : Str), (∀ z ∈ l, Name z) → z ∈ poolS k l j ws odd → Tx z := fun k l j z hl hz => by
    rcases poolS_mem hz with q | q
    · exact (hl z q).tx
    · exact wtx z q
  have tail2 : ∀ (F1 : MH) (house one : Str) (has : Int × Int) (s10 s11 : Option Val), Pur F1 p → Keep p F F1 → Hs has → wpB (fun C fs _ F => E C fs F) (dropS 7 (c_l_sale ro rp rt_ rs)) [some (.ref p), some (.lst (ws.map .str)), some m.v, some (.bl odd), some (.lst (m.hold.map .str)), some (.str house), some (.str one), some (frP has), some (.ref m.pm), some (.ref m.em), s10, s11] F1 (fun _ F => Q .non F) Q := by
    intro F1 house one has s10 s11 hp1 hk1 hh
    simp only [c_l_sale, dropS, wpB, wpS, wpE, wpEs, wpT, wpTs, wpCs, wpP, wpIt, wpBl, bindT, biS, recS, start1, List.map, List.length, List.replicate, List.append_nil, List.nil_append, List.cons_append, Nat.sub_self, Nat.reduceSub, Nat.reduceAdd, List.length_cons, List.length_nil, List.getElem?_cons_zero, List.getElem?_cons_succ, List.set_cons_zero, List.set_cons_succ, setAll, wipe1, Tg.slots, binS, subS, fdivS, modS, powS, cmpS, ltS, isS, isNS, asStrs, asBls, newLs, h1, h2]
    refine pool_i (k := 3) (j := 2) (by decide) hol.1 (by omega) (by omega) ?_
    refine ⟨p, _, odd, rfl, hp1, poolS_ne (by decide) hold_n, by have := poolS_len (k := 3) (j := 2) (odd := odd) (by decide) hol.1 (Nat.le_of_eq wl); omega, fun z hz => pooltx 3 _ 2 z hol.2 hz, fun z F2 hp2 hk2 tz _ => ?_⟩
    refine ⟨p, has, rfl, hp2, hh, fun s F3 hp3 hk3 hs => ?_⟩
    exact ⟨by rw [sizeLine_eq]; decide, hq (.sale house one z s) F3 hs hp3 (hk1.trans (hk2.trans hk3))⟩
  have tail : ∀ (F1 : MH) (house one : Str) (has : Int × Int) (s10 s11 : Option Val), Pur F1 p → Keep p F F1 → Hs has → wpB (fun C fs _ F => E C fs F) (dropS 6 (c_l_sale ro rp rt_ rs)) [some (.ref p), some (.lst (ws.map .str)), some m.v, some (.bl odd), some (.lst (m.hold.map .str)), some (.str house), some (.str one), some (frP has), some (.ref m.pm), some (.ref m.em), s10, s11] F1 (fun _ F => Q .non F) Q := by
    intro F1 house one has s10 s11 hp1 hk1 hh
    rw [wpB_split 1]
    have e7 : dropS 1 (dropS 6 (c_l_sale ro rp rt_ rs)) = dropS 7 (c_l_sale ro rp rt_ rs) := rfl
    rw [e7]
    have t2 := tail2
    generalize dropS 7 (c_l_sale ro rp rt_ rs) = T at *
    simp only [c_l_sale, dropS, takeS, wpB, wpS, wpE, wpEs, wpT, wpTs, wpCs, wpP, wpIt, wpBl, bindT, biS, recS, start1, List.map, List.length, List.replicate, List.append_nil, List.nil_append, List.cons_append, Nat.sub_self, Nat.reduceSub, Nat.reduceAdd, List.length_cons, List.length_nil, List.getElem?_cons_zero, List.getElem?_cons_succ, List.set_cons_zero, List.set_cons_succ, setAll, wipe1, Tg.slots, binS, subS, fdivS, modS, powS, cmpS, ltS, isS, isNS, asStrs, asBls, newLs]
    refine ix0 (eqS_i ?_)
    by_cases h0 : has.1 = 0
    · rw [decide_eq_true h0]
      simp only [wpB, wpS, wpE, wpEs, wpT, wpTs, wpCs, wpP, wpIt, wpBl, bindT, biS, recS, start1, List.map, List.length, List.replicate, List.append_nil, List.nil_append, List.cons_append, Nat.sub_self, Nat.reduceSub, Nat.reduceAdd, List.length_cons, List.length_nil, List.getElem?_cons_zero, List.getElem?_cons_succ, List.set_cons_zero, List.set_cons_succ, setAll, wipe1, Tg.slots, binS, subS, fdivS, modS, powS, cmpS, ltS, isS, isNS, asStrs, asBls, newLs]
      exact ⟨by rw [sizeLine_eq]; decide, t2 F1 house one (1, 1) s10 s11 hp1 hk1 ⟨by decide, by decide, by decide, Int.add_one_le_of_lt (Int.pow_pos (by decide))⟩⟩
    · rw [decide_eq_false h0]
      simp only [wpB, wpS, wpE, wpEs, wpT, wpTs, wpCs, wpP, wpIt, wpBl, bindT, biS, recS, start1, List.map, List.length, List.replicate, List.append_nil, List.nil_append, List.cons_append, Nat.sub_self, Nat.reduceSub, Nat.reduceAdd, List.length_cons, List.length_nil, List.getElem?_cons_zero, List.getElem?_cons_succ, List.set_cons_zero, List.set_cons_succ, setAll, wipe1, Tg.slots, binS, subS, fdivS, modS, powS, cmpS, ltS, isS, isNS, asStrs, asBls, newLs]
      exact t2 F1 house one has s10 s11 hp1 hk1 hh
  rw [wpB_split 6]
  generalize dropS 6 (c_l_sale ro rp rt_ rs) = T at *
  simp only [c_l_sale, takeS, n_l_sale, wpB, wpS, wpE, wpEs, wpT, wpTs, wpCs, wpP, wpIt, wpBl, bindT, biS, recS, start1, List.map, List.length, List.replicate, List.append_nil, List.nil_append, List.cons_append, Nat.sub_self, Nat.reduceSub, Nat.reduceAdd, List.length_cons, List.length_nil, List.getElem?_cons_zero, List.getElem?_cons_succ, List.set_cons_zero, List.set_cons_succ, setAll, wipe1, Tg.slots, binS, subS, fdivS, modS, powS, cmpS, ltS, isS, isNS, asStrs, asBls, newLs, h1, h3, h4, ul_model]
  refine ⟨trivial, hold_i st ?_⟩
  refine sort_keys st.em (by rw [modA_len]; have := st.ok.h8; omega) ?_
  rw [modA_keys]
  simp only [newLs]
  refine pool_i (l := sortS m.ns) (k := 4) (j := 3) (by decide) nsl (by omega) (by omega) ?_
  have nsN : ∀ z ∈ sortS m.ns, Name z := fun z hz => st.ok.nm z (List.mem_append_right _ (mem_sortS.mp hz))
  refine ⟨p, _, odd, rfl, hp, poolS_ne (by decide) ns_n, by have := poolS_len (k := 4) (j := 3) (odd := odd) (by decide) nsl (Nat.le_of_eq wl); omega, fun z hz => pooltx 4 _ 3 z nsN hz, fun house F1 hp1 hk1 th _ => ?_⟩
  refine ⟨p, _, odd, rfl, hp1, hold_n, by have := hol.1; omega, fun z hz => (hol.2 z hz).tx, fun one F2 hp2 hk2 t1 _ => ?_⟩
  have k12 := hk1.trans hk2
  have st2 := st.draw hp k12
  refine ⟨by rw [sizeLine_eq]; decide, in_es st2.md ?_⟩
  by_cases hin : house ∈ m.ns
  · rw [decide_eq_true hin]
    obtain ⟨x, hx, rfl⟩ := List.mem_map.mp hin
    have rc := st.ok.rc x hx
    have rl := rc.len
    have nd := st.ok.nds.2
    have hof := hof_of nd hx
    have hsn := rc.show_ne
    have hsp : 0 < (showS x.held).length := List.length_pos_iff.mpr hsn
    have hsl : (showS x.held).length ≤ 64 := by
      have := List.length_filter_le (fun k => decide (hget x.held k ≠ some (0, 1))) (sortS (x.held.map (·.1)))
      rw [sortS_length, List.length_map] at this
      unfold showS
      omega
    simp only [wpB, wpS, wpE, wpEs, wpT, wpTs, wpCs, wpP, wpIt, wpBl, bindT, biS, recS, start1, List.map, List.length, List.replicate, List.append_nil, List.nil_append, List.cons_append, Nat.sub_self, Nat.reduceSub, Nat.reduceAdd, List.length_cons, List.length_nil, List.getElem?_cons_zero, List.getElem?_cons_succ, List.set_cons_zero, List.set_cons_succ, setAll, wipe1, Tg.slots, binS, subS, fdivS, modS, powS, cmpS, ltS, isS, isNS, asStrs, asBls, newLs, h3, h4]
    refine ⟨m, x, rfl, st2.md, nd, hx, by omega, rc.lws, ?_⟩
    have hsv : ∀ F, lsOf F (sharesV x.held) = some ((showS x.held).map fun k => .tup [.str k, frP ((hget x.held k).getD (0, 0))]) := fun _ => rfl
    refine len_ls (hsv _) (mul_i (small_mulL (by decide) (by decide)) ?_)
    rw [List.length_map]
    refine ⟨p, _, rfl, by omega, .of_small (by omega) (by omega), hp2, fun at_ a b a0 a1 => ?_⟩
    refine len_ls (hsv _) (mul_i (small_mulL (by decide) (by decide)) ?_)
    rw [List.length_map]
    simp only [wpB, wpS, wpE, wpEs, wpT, wpTs, wpCs, wpP, wpIt, wpBl, bindT, biS, recS, start1, List.map, List.length, List.replicate, List.append_nil, List.nil_append, List.cons_append, Nat.sub_self, Nat.reduceSub, Nat.reduceAdd, List.length_cons, List.length_nil, List.getElem?_cons_zero, List.getElem?_cons_succ, List.set_cons_zero, List.set_cons_succ, setAll, wipe1, Tg.slots, binS, subS, fdivS, modS, powS, cmpS, ltS, isS, isNS, asStrs, asBls, newLs]
    have k3 := k12.trans (Keep.set (p := p) (F := F2) (c := .lst [.int a, .int b]))
    have hp3 : Pur (mset F2 p (.lst [.int a, .int b])) p := .set
    have st3 := st.draw hp k3
    generalize mset F2 p (.lst [.int a, .int b]) = F3 at *
    have hgx : ∀ (o : Str) (Q2 : Q1), Q2 (frP ((hget x.held o).getD (0, 1))) F3 → ixS (.ref m.em) (.str x.nm) F3 fun x1 F4 => ixS x1 (.int 3) F4 fun x2 F5 => (∃ p kvs, x2 = .ref p ∧ dcOf F5 p = some kvs) ∧ 2 ≤ sizeLine ∧ bmS .get x2 [.str o, .tup [.int 0, .int 1]] F5 Q2 := fun o Q2 q => by
      refine ix_dc st3.md.emc (by rw [modA_get, hof]; rfl) (ix_list (vs := [.int x.n.1, .int x.n.2.1, .int x.n.2.2, .ref x.gh]) (by simp only [lsOf, st3.md.gc x hx]) (by decide) rfl ⟨⟨x.gh, _, rfl, dc_of (st3.md.ghc x hx)⟩, by rw [sizeLine_eq]; decide, bm_get (dc_of (st3.md.ghc x hx)) ?_⟩)
      rw [hv_get]
      have eg : (Option.map frP (hget x.held o)).getD (Val.tup [.int 0, .int 1]) = frP ((hget x.held o).getD (0, 1)) := getD_fr
      rw [eg]
      exact q
    by_cases hat : at_ < 3 * ((showS x.held).length : Int)
    · rw [decide_eq_true hat]
      simp only [wpB, wpS, wpE, wpEs, wpT, wpTs, wpCs, wpP, wpIt, wpBl, bindT, biS, recS, start1, List.map, List.length, List.replicate, List.append_nil, List.nil_append, List.cons_append, Nat.sub_self, Nat.reduceSub, Nat.reduceAdd, List.length_cons, List.length_nil, List.getElem?_cons_zero, List.getElem?_cons_succ, List.set_cons_zero, List.set_cons_succ, setAll, wipe1, Tg.slots, binS, subS, fdivS, modS, powS, cmpS, ltS, isS, isNS, asStrs, asBls, newLs]
      have q0 : 0 ≤ at_.fdiv 3 := Int.fdiv_nonneg a0 (by decide)
      have q1 : at_.fdiv 3 < (showS x.held).length := by
        rw [Int.fdiv_eq_ediv_of_nonneg _ (by decide)]
        omega
      have q2 : (at_.fdiv 3).toNat < (showS x.held).length := by omega
      have hg : ((showS x.held).map fun k => Val.tup [.str k, frP ((hget x.held k).getD (0, 0))])[(at_.fdiv 3).toNat]? = some (.tup [.str (showS x.held)[(at_.fdiv 3).toNat], frP ((hget x.held (showS x.held)[(at_.fdiv 3).toNat]).getD (0, 0))]) := by rw [List.getElem?_map, List.getElem?_eq_getElem q2]; rfl
      refine ⟨Sm.div (.of_small (by decide) (by decide)) (by decide), ix_list (hsv _) q0 hg (ix_tup (by decide) rfl ?_)⟩
      refine hgx _ _ ?_
      exact tail F3 x.nm _ _ _ _ hp3 k3 (rc.hs hi _)
    · rw [decide_eq_false hat]
      simp only [wpB, wpS, wpE, wpEs, wpT, wpTs, wpCs, wpP, wpIt, wpBl, bindT, biS, recS, start1, List.map, List.length, List.replicate, List.append_nil, List.nil_append, List.cons_append, Nat.sub_self, Nat.reduceSub, Nat.reduceAdd, List.length_cons, List.length_nil, List.getElem?_cons_zero, List.getElem?_cons_succ, List.set_cons_zero, List.set_cons_succ, setAll, wipe1, Tg.slots, binS, subS, fdivS, modS, powS, cmpS, ltS, isS, isNS, asStrs, asBls, newLs]
      refine hgx _ _ ?_
      exact tail F3 x.nm _ _ _ _ hp3 k3 (rc.hs hi _)
  · rw [decide_eq_false hin]
    simp only [wpB, wpS, wpE, wpEs, wpT, wpTs, wpCs, wpP, wpIt, wpBl, bindT, biS, recS, start1, List.map, List.length, List.replicate, List.append_nil, List.nil_append, List.cons_append, Nat.sub_self, Nat.reduceSub, Nat.reduceAdd, List.length_cons, List.length_nil, List.getElem?_cons_zero, List.getElem?_cons_succ, List.set_cons_zero, List.set_cons_succ, setAll, wipe1, Tg.slots, binS, subS, fdivS, modS, powS, cmpS, ltS, isS, isNS, asStrs, asBls, newLs]
    exact tail F2 house one (1, 1) _ _ hp2 k12 ⟨by decide, by decide, by decide, Int.add_one_le_of_lt (Int.pow_pos (by decide))⟩
end Bv

set_option pp.maxSteps 600
/-! Family A: any deed drawn. -/
namespace Bv
open PySem L2 PyProof.Rows
def ifBody {Γ : Amb} : Ss Γ → Ss Γ
  | .cons (.ifs _ a _) _ => a
  | _ => .nil
def ifTest {Γ : Amb} : Ss Γ → T Γ
  | .cons (.ifs t _ _) _ => t
  | _ => .val (.cst .non)
def spDrawn (CB CE : Addr) : Spec := fun vs F Q _ => ∃ p ws m odd i most, vs = [.ref p, .lst (ws.map .str), m.v, .bl odd, .int most] ∧ Pur F p ∧ St CB CE F m i ∧ i ≤ 44 ∧ Wds ws ∧ 1 ≤ most ∧ most ≤ 12 ∧ ∀ d F', DOk d → Pur F' p → Keep p F F' → Q (deedV d) F'
theorem w_l_drawn {Γ : Amb} {CB CE : Addr} {rn : CallR1 Γ "_law_number"} {ro : CallR1 Γ "_law_one"} {rs : CallR1 Γ "_law_sale"} {rt_ : CallR1 Γ "_law_take"} (h1 : rn.sp = spNumb) (h2 : ro.sp = spOne) (h3 : rs.sp = spSaleL CB CE) (h4 : rt_.sp = spTake) :
    ∀ vs F Q E, spDrawn CB CE vs F Q E → wpB (fun C fs _ F => E C fs F) (c_l_drawn rn ro rs rt_) (start1 n_l_drawn vs) F (fun _ F => Q .non F) Q := by
  rintro vs F Q E ⟨p, ws, m, odd, i, most, rfl, hp, st, hi, wd, hm1, hm2, hq⟩
  have hol := st.ok.hold
  have wl := wd.len
  have wne : ws ≠ [] := fun e => by rw [e] at wl; simp at wl
  have wtx : ∀ z ∈ ws, Tx z := fun z hz => (wd.nm z hz).tx
  have nsl : (sortS m.ns).length ≤ 14 := by
    rw [sortS_length]
    have := st.ok.h8
    unfold BM.ns
    rw [List.length_map]
    omega
  have pooltx : ∀ (k : Nat) (l : List Str) (j : Nat) (z : Str), (∀ z ∈ l, Name z) → z ∈ poolS k l j ws odd → Tx z := fun k l j z hl hz => by
    rcases poolS_mem hz with q | q
    · exact (hl z q).tx
    · exact wtx z q
  have bodyP : ∀ (Qn : St1 → MH → Prop) (F1 : MH) (σ : St1), σ.take 4 = [some (.ref p), some (.lst (ws.map .str)), some m.v, some (.bl odd)] → Pur F1 p → Keep p F F1 → wpB (fun C fs _ F => E C fs F) (ifBody (dropS 3 (c_l_drawn rn ro rs rt_))) σ F1 Qn Q := by
    intro Qn F1 σ hσ hp1 hk1
    obtain ⟨ρ, rfl⟩ : ∃ ρ, σ = [some (.ref p), some (.lst (ws.map .str)), some m.v, some (.bl odd)] ++ ρ := ⟨σ.drop 4, by rw [← hσ, List.take_append_drop]⟩
    simp only [c_l_drawn, dropS, ifBody, wpB, wpS, wpE, wpEs, wpT, wpTs, wpCs, wpP, wpIt, wpBl, bindT, biS, recS, start1, List.map, List.length, List.replicate, List.append_nil, List.nil_append, List.cons_append, Nat.sub_self, Nat.reduceSub, Nat.reduceAdd, List.length_cons, List.length_nil, List.getElem?_cons_zero, List.getElem?_cons_succ, List.set_cons_zero, List.set_cons_succ, setAll, wipe1, Tg.slots, binS, subS, fdivS, modS, powS, cmpS, ltS, isS, isNS, asStrs, asBls, newLs, h2, List.cons_append, List.nil_append]
    refine ⟨p, ws, odd, rfl, hp1, wne, by omega, wtx, fun z F2 hp2 hk2 tz _ => ⟨by rw [sizeLine_eq]; decide, hq (.person z) F2 tz hp2 (hk1.trans hk2)⟩⟩
  have retH : ∀ (Qn : St1 → MH → Prop) (F1 : MH) (sort l : Int) (name owner : Str) (s7 s8 : Option Val), Pur F1 p → Keep p F F1 → Tx name → wpB (fun C fs _ F => E C fs F) (dropS 4 (ifBody (dropS 4 (c_l_drawn rn ro rs rt_)))) [some (.ref p), some (.lst (ws.map .str)), some m.v, some (.bl odd), some (.int most), some (.int sort), some (.lst (m.hold.map .str)), s7, s8, some (.ref m.pm), some (.ref m.em), some (.str name), some (.str owner), some (.int l)] F1 Qn Q := by
    intro Qn F1 sort l name owner s7 s8 hp1 hk1 tn
    simp only [c_l_drawn, dropS, ifBody, wpB, wpS, wpE, wpEs, wpT, wpTs, wpCs, wpP, wpIt, wpBl, bindT, biS, recS, start1, List.map, List.length, List.replicate, List.append_nil, List.nil_append, List.cons_append, Nat.sub_self, Nat.reduceSub, Nat.reduceAdd, List.length_cons, List.length_nil, List.getElem?_cons_zero, List.getElem?_cons_succ, List.set_cons_zero, List.set_cons_succ, setAll, wipe1, Tg.slots, binS, subS, fdivS, modS, powS, cmpS, ltS, isS, isNS, asStrs, asBls, newLs, h1]
    refine ⟨p, rfl, hp1, fun t F2 hp2 hk2 => ⟨p, rfl, hp2, fun k F3 hp3 hk3 => ⟨by rw [sizeLine_eq]; decide, ?_⟩⟩⟩
    exact hq (.house name owner t k l) F3 tn hp3 (hk1.trans (hk2.trans hk3))
  have bodyH : ∀ (Qn : St1 → MH → Prop) (F1 : MH) (sort : Int) (s7 s8 s11 s12 s13 : Option Val), m.hold ≠ [] → Pur F1 p → Keep p F F1 → wpB (fun C fs _ F => E C fs F) (ifBody (dropS 4 (c_l_drawn rn ro rs rt_))) [some (.ref p), some (.lst (ws.map .str)), some m.v, some (.bl odd), some (.int most), some (.int sort), some (.lst (m.hold.map .str)), s7, s8, some (.ref m.pm), some (.ref m.em), s11, s12, s13] F1 Qn Q := by
    intro Qn F1 sort s7 s8 s11 s12 s13 hhn hp1 hk1
    rw [wpB_split 4]
    have t4 := retH Qn
    generalize dropS 4 (ifBody (dropS 4 (c_l_drawn rn ro rs rt_))) = T at *
    simp only [c_l_drawn, dropS, takeS, ifBody, wpB, wpS, wpE, wpEs, wpT, wpTs, wpCs, wpP, wpIt, wpBl, bindT, biS, recS, start1, List.map, List.length, List.replicate, List.append_nil, List.nil_append, List.cons_append, Nat.sub_self, Nat.reduceSub, Nat.reduceAdd, List.length_cons, List.length_nil, List.getElem?_cons_zero, List.getElem?_cons_succ, List.set_cons_zero, List.set_cons_succ, setAll, wipe1, Tg.slots, binS, subS, fdivS, modS, powS, cmpS, ltS, isS, isNS, asStrs, asBls, newLs, h1, h2]
    refine ⟨p, ws, odd, rfl, hp1, wne, by omega, wtx, fun name F2 hp2 hk2 tn _ => ?_⟩
    refine pool_i (k := 3) (j := 4) (by decide) hol.1 (by omega) (by omega) ?_
    refine ⟨p, _, odd, rfl, hp2, poolS_ne (by decide) hhn, by have := poolS_len (k := 3) (j := 4) (odd := odd) (by decide) hol.1 (Nat.le_of_eq wl); omega, fun z hz => pooltx 3 _ 4 z hol.2 hz, fun owner F3 hp3 hk3 _ _ => ?_⟩
    refine ⟨p, rfl, hp3, fun l F4 hp4 hk4 => ?_⟩
    have k4 := hk1.trans (hk2.trans (hk3.trans hk4))
    cases odd with
    | false =>
      simp only [truS, Bool.not_false, wpB, wpS, wpE, wpEs, wpT, wpTs, wpCs, wpP, wpIt, wpBl, bindT, biS, recS, start1, List.map, List.length, List.replicate, List.append_nil, List.nil_append, List.cons_append, Nat.sub_self, Nat.reduceSub, Nat.reduceAdd, List.length_cons, List.length_nil, List.getElem?_cons_zero, List.getElem?_cons_succ, List.set_cons_zero, List.set_cons_succ, setAll, wipe1, Tg.slots, binS, subS, fdivS, modS, powS, cmpS, ltS, isS, isNS, asStrs, asBls, newLs]
      exact t4 F4 sort _ name owner s7 s8 hp4 k4 tn
    | true =>
      simp only [truS, Bool.not_true, wpB, wpS, wpE, wpEs, wpT, wpTs, wpCs, wpP, wpIt, wpBl, bindT, biS, recS, start1, List.map, List.length, List.replicate, List.append_nil, List.nil_append, List.cons_append, Nat.sub_self, Nat.reduceSub, Nat.reduceAdd, List.length_cons, List.length_nil, List.getElem?_cons_zero, List.getElem?_cons_succ, List.set_cons_zero, List.set_cons_succ, setAll, wipe1, Tg.slots, binS, subS, fdivS, modS, powS, cmpS, ltS, isS, isNS, asStrs, asBls, newLs]
      refine ⟨by decide, ?_⟩
      by_cases hl : 0 < l.fmod 4
      · rw [decide_eq_true hl]
        simp only [wpB, wpS, wpE, wpEs, wpT, wpTs, wpCs, wpP, wpIt, wpBl, bindT, biS, recS, start1, List.map, List.length, List.replicate, List.append_nil, List.nil_append, List.cons_append, Nat.sub_self, Nat.reduceSub, Nat.reduceAdd, List.length_cons, List.length_nil, List.getElem?_cons_zero, List.getElem?_cons_succ, List.set_cons_zero, List.set_cons_succ, setAll, wipe1, Tg.slots, binS, subS, fdivS, modS, powS, cmpS, ltS, isS, isNS, asStrs, asBls, newLs]
        exact t4 F4 sort _ name owner s7 s8 hp4 k4 tn
      · rw [decide_eq_false hl]
        simp only [wpB, wpS, wpE, wpEs, wpT, wpTs, wpCs, wpP, wpIt, wpBl, bindT, biS, recS, start1, List.map, List.length, List.replicate, List.append_nil, List.nil_append, List.cons_append, Nat.sub_self, Nat.reduceSub, Nat.reduceAdd, List.length_cons, List.length_nil, List.getElem?_cons_zero, List.getElem?_cons_succ, List.set_cons_zero, List.set_cons_succ, setAll, wipe1, Tg.slots, binS, subS, fdivS, modS, powS, cmpS, ltS, isS, isNS, asStrs, asBls, newLs]
        exact t4 F4 sort _ name owner s7 s8 hp4 k4 tn
  have retN : ∀ (F1 : MH) (sort n : Int) (house : Str) (s11 s12 s13 : Option Val), 9 ≤ sort → sort < 12 → Pur F1 p → Keep p F F1 → wpB (fun C fs _ F => E C fs F) (dropS 9 (c_l_drawn rn ro rs rt_)) [some (.ref p), some (.lst (ws.map .str)), some m.v, some (.bl odd), some (.int most), some (.int sort), some (.lst (m.hold.map .str)), some (.str house), some (.int n), some (.ref m.pm), some (.ref m.em), s11, s12, s13] F1 (fun _ F => Q .non F) Q := by
    intro F1 sort n house s11 s12 s13 hs1 hs2 hp1 hk1
    simp only [c_l_drawn, dropS, wpB, wpS, wpE, wpEs, wpT, wpTs, wpCs, wpP, wpIt, wpBl, bindT, biS, recS, start1, List.map, List.length, List.replicate, List.append_nil, List.nil_append, List.cons_append, Nat.sub_self, Nat.reduceSub, Nat.reduceAdd, List.length_cons, List.length_nil, List.getElem?_cons_zero, List.getElem?_cons_succ, List.set_cons_zero, List.set_cons_succ, setAll, wipe1, Tg.slots, binS, subS, fdivS, modS, powS, cmpS, ltS, isS, isNS, asStrs, asBls, newLs]
    obtain ⟨k, hk⟩ : ∃ k : Nat, sort - 9 = (k : Int) := ⟨(sort - 9).toNat, by omega⟩
    have hk3 : k < 3 := by omega
    rw [hk]
    have hg : ([Val.str "things", .str "mark", .str "loss"] : List Val)[k]? = some (.str (numK k)) := by
      have : k = 0 ∨ k = 1 ∨ k = 2 := by omega
      rcases this with rfl | rfl | rfl <;> rfl
    refine ⟨by rw [sizeLine_eq]; decide, ix_list rfl (by omega) (by rw [Int.toNat_natCast]; exact hg) ⟨by rw [sizeLine_eq]; decide, ?_⟩⟩
    exact hq (.num k house n) F1 hk3 hp1 hk1
  have tail6 : ∀ (F1 : MH) (sort : Int) (s7 s8 s11 s12 s13 : Option Val), m.hs ≠ [] → 9 ≤ sort → sort < 12 → Pur F1 p → Keep p F F1 → wpB (fun C fs _ F => E C fs F) (dropS 6 (c_l_drawn rn ro rs rt_)) [some (.ref p), some (.lst (ws.map .str)), some m.v, some (.bl odd), some (.int most), some (.int sort), some (.lst (m.hold.map .str)), s7, s8, some (.ref m.pm), some (.ref m.em), s11, s12, s13] F1 (fun _ F => Q .non F) Q := by
    intro F1 sort s7 s8 s11 s12 s13 hne hs1 hs2 hp1 hk1
    obtain ⟨hold_n, ns_n⟩ := hold_ne hne
    have st1 := st.draw hp hk1
    rw [wpB_split 3]
    have e9 : dropS 3 (dropS 6 (c_l_drawn rn ro rs rt_)) = dropS 9 (c_l_drawn rn ro rs rt_) := rfl
    rw [e9]
    have t9 := retN
    generalize dropS 9 (c_l_drawn rn ro rs rt_) = T at *
    simp only [c_l_drawn, dropS, takeS, wpB, wpS, wpE, wpEs, wpT, wpTs, wpCs, wpP, wpIt, wpBl, bindT, biS, recS, start1, List.map, List.length, List.replicate, List.append_nil, List.nil_append, List.cons_append, Nat.sub_self, Nat.reduceSub, Nat.reduceAdd, List.length_cons, List.length_nil, List.getElem?_cons_zero, List.getElem?_cons_succ, List.set_cons_zero, List.set_cons_succ, setAll, wipe1, Tg.slots, binS, subS, fdivS, modS, powS, cmpS, ltS, isS, isNS, asStrs, asBls, newLs, h1, h2]
    refine sort_keys st1.em (by rw [modA_len]; have := st.ok.h8; omega) ?_
    rw [modA_keys]
    simp only [newLs]
    refine pool_i (l := sortS m.ns) (k := 4) (j := 3) (by decide) nsl (by omega) (by omega) ?_
    have nsN : ∀ z ∈ sortS m.ns, Name z := fun z hz => st.ok.nm z (List.mem_append_right _ (mem_sortS.mp hz))
    refine ⟨p, _, odd, rfl, hp1, poolS_ne (by decide) ns_n, by have := poolS_len (k := 4) (j := 3) (odd := odd) (by decide) nsl (Nat.le_of_eq wl); omega, fun z hz => pooltx 4 _ 3 z nsN hz, fun house F2 hp2 hk2 th _ => ?_⟩
    refine ⟨p, rfl, hp2, fun n F3 hp3 hk3 => ?_⟩
    have k3 := hk1.trans (hk2.trans hk3)
    cases odd with
    | true =>
      simp only [truS, Bool.not_true, wpB, wpS, wpE, wpEs, wpT, wpTs, wpCs, wpP, wpIt, wpBl, bindT, biS, recS, start1, List.map, List.length, List.replicate, List.append_nil, List.nil_append, List.cons_append, Nat.sub_self, Nat.reduceSub, Nat.reduceAdd, List.length_cons, List.length_nil, List.getElem?_cons_zero, List.getElem?_cons_succ, List.set_cons_zero, List.set_cons_succ, setAll, wipe1, Tg.slots, binS, subS, fdivS, modS, powS, cmpS, ltS, isS, isNS, asStrs, asBls, newLs]
      exact t9 F3 sort n house s11 s12 s13 hs1 hs2 hp3 k3
    | false =>
      simp only [truS, Bool.not_false, wpB, wpS, wpE, wpEs, wpT, wpTs, wpCs, wpP, wpIt, wpBl, bindT, biS, recS, start1, List.map, List.length, List.replicate, List.append_nil, List.nil_append, List.cons_append, Nat.sub_self, Nat.reduceSub, Nat.reduceAdd, List.length_cons, List.length_nil, List.getElem?_cons_zero, List.getElem?_cons_succ, List.set_cons_zero, List.set_cons_succ, setAll, wipe1, Tg.slots, binS, subS, fdivS, modS, powS, cmpS, ltS, isS, isNS, asStrs, asBls, newLs]
      refine eqS_i ?_
      by_cases h11 : sort = 11
      · rw [decide_eq_true h11]
        simp only [wpB, wpS, wpE, wpEs, wpT, wpTs, wpCs, wpP, wpIt, wpBl, bindT, biS, recS, start1, List.map, List.length, List.replicate, List.append_nil, List.nil_append, List.cons_append, Nat.sub_self, Nat.reduceSub, Nat.reduceAdd, List.length_cons, List.length_nil, List.getElem?_cons_zero, List.getElem?_cons_succ, List.set_cons_zero, List.set_cons_succ, setAll, wipe1, Tg.slots, binS, subS, fdivS, modS, powS, cmpS, ltS, isS, isNS, asStrs, asBls, newLs]
        exact t9 F3 sort _ house s11 s12 s13 hs1 hs2 hp3 k3
      · rw [decide_eq_false h11]
        simp only [wpB, wpS, wpE, wpEs, wpT, wpTs, wpCs, wpP, wpIt, wpBl, bindT, biS, recS, start1, List.map, List.length, List.replicate, List.append_nil, List.nil_append, List.cons_append, Nat.sub_self, Nat.reduceSub, Nat.reduceAdd, List.length_cons, List.length_nil, List.getElem?_cons_zero, List.getElem?_cons_succ, List.set_cons_zero, List.set_cons_succ, setAll, wipe1, Tg.slots, binS, subS, fdivS, modS, powS, cmpS, ltS, isS, isNS, asStrs, asBls, newLs]
        exact t9 F3 sort n house s11 s12 s13 hs1 hs2 hp3 k3
  have tail5 : ∀ (F1 : MH) (sort : Int) (s7 s8 s11 s12 s13 : Option Val), m.hs ≠ [] → 0 ≤ sort → sort < 12 → Pur F1 p → Keep p F F1 → wpB (fun C fs _ F => E C fs F) (dropS 5 (c_l_drawn rn ro rs rt_)) [some (.ref p), some (.lst (ws.map .str)), some m.v, some (.bl odd), some (.int most), some (.int sort), some (.lst (m.hold.map .str)), s7, s8, some (.ref m.pm), some (.ref m.em), s11, s12, s13] F1 (fun _ F => Q .non F) Q := by
    intro F1 sort s7 s8 s11 s12 s13 hne hs1 hs2 hp1 hk1
    rw [wpB_split 1]
    have e6 : dropS 1 (dropS 5 (c_l_drawn rn ro rs rt_)) = dropS 6 (c_l_drawn rn ro rs rt_) := rfl
    rw [e6]
    have t6 := tail6
    generalize dropS 6 (c_l_drawn rn ro rs rt_) = T at *
    simp only [c_l_drawn, dropS, takeS, wpB, wpS, wpE, wpEs, wpT, wpTs, wpCs, wpP, wpIt, wpBl, bindT, biS, recS, start1, List.map, List.length, List.replicate, List.append_nil, List.nil_append, List.cons_append, Nat.sub_self, Nat.reduceSub, Nat.reduceAdd, List.length_cons, List.length_nil, List.getElem?_cons_zero, List.getElem?_cons_succ, List.set_cons_zero, List.set_cons_succ, setAll, wipe1, Tg.slots, binS, subS, fdivS, modS, powS, cmpS, ltS, isS, isNS, asStrs, asBls, newLs, h3]
    by_cases h9 : sort < 9
    · rw [decide_eq_true h9]
      simp only [wpB, wpS, wpE, wpEs, wpT, wpTs, wpCs, wpP, wpIt, wpBl, bindT, biS, recS, start1, List.map, List.length, List.replicate, List.append_nil, List.nil_append, List.cons_append, Nat.sub_self, Nat.reduceSub, Nat.reduceAdd, List.length_cons, List.length_nil, List.getElem?_cons_zero, List.getElem?_cons_succ, List.set_cons_zero, List.set_cons_succ, setAll, wipe1, Tg.slots, binS, subS, fdivS, modS, powS, cmpS, ltS, isS, isNS, asStrs, asBls, newLs, h3]
      exact ⟨p, ws, m, odd, i, rfl, hp1, st.draw hp hk1, hi, wd, hne, fun d F2 hd hp2 hk2 => hq d F2 hd hp2 (hk1.trans hk2)⟩
    · rw [decide_eq_false h9]
      simp only [wpB, wpS, wpE, wpEs, wpT, wpTs, wpCs, wpP, wpIt, wpBl, bindT, biS, recS, start1, List.map, List.length, List.replicate, List.append_nil, List.nil_append, List.cons_append, Nat.sub_self, Nat.reduceSub, Nat.reduceAdd, List.length_cons, List.length_nil, List.getElem?_cons_zero, List.getElem?_cons_succ, List.set_cons_zero, List.set_cons_succ, setAll, wipe1, Tg.slots, binS, subS, fdivS, modS, powS, cmpS, ltS, isS, isNS, asStrs, asBls, newLs]
      exact t6 F1 sort s7 s8 s11 s12 s13 hne (by omega) hs2 hp1 hk1
  have tail4 : ∀ (F1 : MH) (sort : Int) (s7 s8 s11 s12 s13 : Option Val), m.hold ≠ [] → 0 ≤ sort → sort < 12 → Pur F1 p → Keep p F F1 → wpB (fun C fs _ F => E C fs F) (dropS 4 (c_l_drawn rn ro rs rt_)) [some (.ref p), some (.lst (ws.map .str)), some m.v, some (.bl odd), some (.int most), some (.int sort), some (.lst (m.hold.map .str)), s7, s8, some (.ref m.pm), some (.ref m.em), s11, s12, s13] F1 (fun _ F => Q .non F) Q := by
    intro F1 sort s7 s8 s11 s12 s13 hhn hs1 hs2 hp1 hk1
    have st1 := st.draw hp hk1
    have e4 : dropS 4 (c_l_drawn rn ro rs rt_) = .cons (.ifs (ifTest (dropS 4 (c_l_drawn rn ro rs rt_))) (ifBody (dropS 4 (c_l_drawn rn ro rs rt_))) .nil) (dropS 5 (c_l_drawn rn ro rs rt_)) := rfl
    rw [e4]
    have bH := fun Qn => bodyH Qn F1 sort s7 s8 s11 s12 s13 hhn hp1 hk1
    have t5 := fun hne => tail5 F1 sort s7 s8 s11 s12 s13 hne hs1 hs2 hp1 hk1
    generalize ifBody (dropS 4 (c_l_drawn rn ro rs rt_)) = B at *
    generalize dropS 5 (c_l_drawn rn ro rs rt_) = T at *
    simp only [c_l_drawn, dropS, ifTest, wpB, wpS, wpE, wpEs, wpT, wpTs, wpCs, wpP, wpIt, wpBl, bindT, biS, recS, start1, List.map, List.length, List.replicate, List.append_nil, List.nil_append, List.cons_append, Nat.sub_self, Nat.reduceSub, Nat.reduceAdd, List.length_cons, List.length_nil, List.getElem?_cons_zero, List.getElem?_cons_succ, List.set_cons_zero, List.set_cons_succ, setAll, wipe1, Tg.slots, binS, subS, fdivS, modS, powS, cmpS, ltS, isS, isNS, asStrs, asBls, newLs]
    by_cases h5 : sort < 5
    · rw [decide_eq_true h5]
      exact bH _
    · rw [decide_eq_false h5]
      simp only [lenS, lsOf, st1.em]
      refine eqS_i ?_
      by_cases h0 : ((modA m.hs).length : Int) = 0
      · rw [decide_eq_true h0]
        exact bH _
      · rw [decide_eq_false h0]
        refine t5 fun e => h0 ?_
        rw [e]
        rfl
  rw [wpB_split 3]
  have e3 : dropS 3 (c_l_drawn rn ro rs rt_) = .cons (.ifs (ifTest (dropS 3 (c_l_drawn rn ro rs rt_))) (ifBody (dropS 3 (c_l_drawn rn ro rs rt_))) .nil) (dropS 4 (c_l_drawn rn ro rs rt_)) := rfl
  rw [e3]
  have bP := bodyP
  have t4 := tail4
  generalize ifBody (dropS 3 (c_l_drawn rn ro rs rt_)) = B at *
  generalize dropS 4 (c_l_drawn rn ro rs rt_) = T at *
  simp only [c_l_drawn, dropS, takeS, ifTest, n_l_drawn, wpB, wpS, wpE, wpEs, wpT, wpTs, wpCs, wpP, wpIt, wpBl, bindT, biS, recS, start1, List.map, List.length, List.replicate, List.append_nil, List.nil_append, List.cons_append, Nat.sub_self, Nat.reduceSub, Nat.reduceAdd, List.length_cons, List.length_nil, List.getElem?_cons_zero, List.getElem?_cons_succ, List.set_cons_zero, List.set_cons_succ, setAll, wipe1, Tg.slots, binS, subS, fdivS, modS, powS, cmpS, ltS, isS, isNS, asStrs, asBls, newLs, h4, ul_model]
  refine ⟨trivial, p, most, rfl, by omega, .of_small (by omega) (by omega), hp, fun sort a b h0 h1 => ?_⟩
  have k1 : Keep p F (mset F p (.lst [.int a, .int b])) := .set
  have p1 : Pur (mset F p (.lst [.int a, .int b])) p := .set
  have st1 := st.draw hp k1
  generalize mset F p (.lst [.int a, .int b]) = F1 at *
  refine hold_i st1 ?_
  simp only []
  by_cases h2 : sort < 2
  · rw [decide_eq_true h2]
    simp only []
    exact bP _ F1 _ rfl p1 k1
  · rw [decide_eq_false h2]
    simp only []
    refine ⟨by rw [sizeLine_eq]; decide, eqS_strs (l := m.hold) (m := []) rfl rfl (fun z hz => (hol.2 z hz).vs) (fun _ h => nomatch h) ?_⟩
    by_cases hh : m.hold = []
    · rw [decide_eq_true hh]
      exact bP _ F1 _ rfl p1 k1
    · rw [decide_eq_false hh]
      exact t4 F1 sort _ _ _ _ _ hh h0 (by omega) p1 k1
end Bv

set_option pp.maxSteps 600
/-! Family A: how a law begins. -/
namespace Bv
open PySem L2 PyProof.Rows
theorem first_int {ns : List Int} : ∃ c : Int, (ns.map Val.int ++ [.int 0])[0]? = some (.int c) := by
  cases ns with
  | nil => exact ⟨0, rfl⟩
  | cons a l => exact ⟨a, rfl⟩
/-- the script's first number, or 0 -/
theorem first_i {v : Val} {ns : List Int} {F : MH} {Q : Q1} (e : lsOf F v = some (ns.map .int)) (hl : ns.length ≤ 63) (q : ∀ c : Int, Q (.int c) F) : addS v (.lst [.int 0]) F fun x F1 => ixS x (.int 0) F1 Q := by
  obtain ⟨c, hc⟩ := first_int (ns := ns)
  exact add_ls (xs := ns.map .int) (ys := [.int 0]) e rfl (by rw [List.length_map, sizeLine_eq]; simp; omega) (ix_list rfl (by decide) hc (q c))
/-- some numbers, then the script's first ones -/
theorem row_i {v : Val} {ns l : List Int} {k : Nat} {F : MH} {Q : Q1} (e : lsOf F v = some (ns.map .int)) (hl : l.length ≤ 10) (hn : ns.length ≤ 63) (q : Q (.lst ((l ++ cut ns none (some (k : Int))).map .int)) F) : slS v none (some (k : Int)) F fun y F2 => addS (.lst (l.map .int)) y F2 Q := by
  refine sl_list e ?_
  rw [cut_map]
  rw [List.map_append] at q
  refine add_ls (xs := l.map .int) (ys := (cut ns none (some (k : Int))).map .int) rfl rfl ?_ q
  have := len_cut (xs := ns) (lo := none) (hi := some (k : Int))
  rw [List.length_map, List.length_map, sizeLine_eq]
  omega
theorem cut_len (ns : List Int) (k : Nat) : (cut ns none (some (k : Int))).length ≤ k := by
  unfold cut
  rw [HT.sIx_none, HT.sIx_nat, List.length_take]
  omega
/-- an empty book beside empty lists -/
theorem st_empty {CB CE : Addr} {F : MH} {b pl en pm em : Addr} (bc : BkC CB F b pl en [] []) (h1 : F pm = some (.lst [])) (h2 : F em = some (.dict [])) (n1 : en ≠ em) (n2 : pl ≠ pm) : St CB CE F ⟨b, pl, en, pm, em, [], []⟩ 0 :=
  ⟨⟨bc, fun _ h => nomatch h⟩, ⟨h1, dc_of h2, fun _ h => (nomatch h), fun _ h => nomatch h⟩, h2, ⟨List.nodup_nil, Nat.zero_le _, Nat.zero_le _, fun _ h => (nomatch h), fun _ h => nomatch h⟩, ⟨by simp [n1], by simp [n2]⟩⟩
/-- a book is made, and empty lists -/
theorem book_st {CB CE : Addr} {F F2 : MH} {b pl en pm em : Addr} (hb : F b = none) (hpl : mset F b (.inst CB []) pl = none) (hen : mset F b (.inst CB []) en = none) (bc : BkC CB F2 b pl en [] []) (fr2 : ∀ a c, a ≠ b → mset F b (.inst CB []) a = some c → F2 a = some c) (hpm : F2 pm = none) (hem : (mset F2 pm (.lst [])) em = none) :
    ∃ m : BM, m.b = b ∧ m.v = .lst [.ref pm, .ref em] ∧ m.hs = [] ∧ m.ps = [] ∧ Ext F (mset (mset F2 pm (.lst [])) em (.dict [])) ∧ (∀ a, m.adr a → F a = none) ∧ St CB CE (mset (mset F2 pm (.lst [])) em (.dict [])) m 0 := by
  have ext2 : Ext F F2 := fun a c h => by
    have : a ≠ b := fun z => by rw [z, hb] at h; cases h
    exact fr2 a c this (by rw [mset_ne this]; exact h)
  have n1 : em ≠ pm := fun z => by rw [z, mset_same] at hem; cases hem
  have hem2 : F2 em = none := by rw [mset_ne n1] at hem; exact hem
  have ext3 : Ext F2 (mset (mset F2 pm (.lst [])) em (.dict [])) := fun a c h => by
    rw [mset_ne (ne_free h hem2), mset_ne (ne_free h hpm)]; exact h
  refine ⟨⟨b, pl, en, pm, em, [], []⟩, rfl, rfl, rfl, rfl, fun a c q => ext3 a c (ext2 a c q), ?_, ?_⟩
  · have nn : ∀ a, mset F b (.inst CB []) a = none → F a = none := fun a h => by
      by_cases q : a = b
      · rw [q]; exact hb
      · rw [mset_ne q] at h; exact h
    have n2 : ∀ a, F2 a = none → F a = none := fun a h => by
      cases e : F a with
      | none => rfl
      | some c => rw [ext2 a c e] at h; cases h
    intro a ha
    rcases ha with rfl | rfl | rfl | rfl | rfl | ⟨x, hx, _⟩
    · exact hb
    · exact nn _ hpl
    · exact nn _ hen
    · exact n2 _ hpm
    · exact n2 _ hem2
    · cases hx
  · exact st_empty ⟨ext3 _ _ bc.b, ext3 _ _ bc.pl, ext3 _ _ bc.en⟩ (by rw [mset_ne (Ne.symm n1), mset_same]) mset_same (ne_free bc.en hem2) (ne_free bc.pl hpm)
/-- the seven refusals, as the law counts them -/
def X7 (a b c d e f g : Addr) : Nat → Addr
  | 0 => a
  | 1 => b
  | 2 => c
  | 3 => d
  | 4 => e
  | 5 => f
  | _ => g
theorem w_l_lesser {Γ : Amb} : ∀ vs F Q E, spLess vs F Q E → wpB (fun C fs _ F => E C fs F) (c_l_lesser (Γ := Γ)) (start1 n_l_lesser vs) F (fun _ F => Q .non F) Q := w_is_less
theorem wds_of {names : List Str} (h1 : names.length = 14) (h2 : ∀ x ∈ names, Name x) : Wds names := ⟨h1, h2⟩
def spLaw : Spec := fun vs F Q _ => ∃ (v : Val) (ns : List Int), vs = [v] ∧ lsOf F v = some (ns.map .int) ∧ ns.length ≤ 63 ∧ (∀ z ∈ ns, Builtin.Int.intBits z ≤ 2 ^ 20) ∧ ∀ F', Q (.bl true) F'
theorem ls_keep {F F' : MH} {v : Val} {ns : List Int} (e : lsOf F v = some (ns.map .int)) (h : ∀ a c, F a = some c → F' a = some c) : lsOf F' v = some (ns.map .int) := by
  cases v with
  | lst ws => exact e
  | ref p =>
    cases c : F p with
    | none => simp only [lsOf, c] at e; cases e
    | some d =>
      simp only [lsOf, c, h p d c] at e ⊢
      exact e
  | _ => cases e
end Bv

set_option pp.maxSteps 600
/-! k05: the lists that are told, as cells. -/
namespace Bv
open PySem L2 PyProof.Rows
mutual
theorem eqv_refl : ∀ {n : Nat} {v : Val}, okD n v = true → PyData.eqv (toPD v) (toPD v) = true
  | n, .non, _ => by simp [toPD, PyData.eqv]
  | n, .bl _, _ => by simp [toPD, PyData.eqv]
  | n, .int _, _ => by simp [toPD, PyData.eqv]
  | n, .str _, _ => by simp [toPD, PyData.eqv]
  | 0, .tup _, h => by simp [okD] at h
  | 0, .lst _, h => by simp [okD] at h
  | n + 1, .tup vs, h => by
    rw [toPD_tup, PyData.eqv]
    exact eqvAll_refl (n := n) h
  | n + 1, .lst vs, h => by
    rw [toPD_lst, PyData.eqv]
    exact eqvAll_refl (n := n) h
  | n, .ref _, h => by cases n <;> simp [okD] at h
  | n, .ty _, h => by cases n <;> simp [okD] at h
theorem eqvAll_refl : ∀ {n : Nat} {vs : List Val}, vs.all (okD n) = true → PyData.eqvAll (vs.map toPD) (vs.map toPD) = true
  | _, [], _ => by simp [PyData.eqvAll]
  | n, v :: vs, h => by
    rw [List.all_cons, Bool.and_eq_true] at h
    rw [List.map_cons, PyData.eqvAll, eqv_refl h.1, eqvAll_refl h.2]
    rfl
end
theorem rdD_still {F : MH} : ∀ (n k : Nat) {v : Val}, okD k v = true → rdD F n v = v
  | 0, _, _, _ => by rw [rdD]
  | n + 1, k, v, h => by
    have all : ∀ {j : Nat} {vs : List Val}, vs.all (okD j) = true → vs.map (rdD F n) = vs := by
      intro j vs hv
      conv => rhs; rw [← List.map_id vs]
      refine List.map_congr_left fun x hx => ?_
      exact rdD_still n j (List.all_eq_true.mp hv x hx)
    cases v with
    | ref p => cases k <;> simp [okD] at h
    | tup vs =>
      cases k with
      | zero => simp [okD] at h
      | succ k => rw [rdD, all (j := k) h]
    | lst vs =>
      cases k with
      | zero => simp [okD] at h
      | succ k => rw [rdD, all (j := k) h]
    | _ => rfl
theorem neD_same {a b v : Val} {F : MH} {Q : Bool → Prop} (ha : rdD F 4 a = v) (hb : rdD F 4 b = v) (ok : okD 60 v = true) (q : Q false) : neD a b F Q := by
  unfold neD
  rw [ha, hb, eqv_refl ok]
  exact ⟨ok, ok, q⟩
/-- rows that hold no cells -/
def Dat (va : List Val) : Prop := ∀ v ∈ va, ∀ n, okD (n + 3) v = true
theorem Dat.all {va : List Val} (h : Dat va) (n : Nat) : va.all (okD (n + 3)) = true := List.all_eq_true.mpr fun v hv => h v hv n
theorem rdD_cell {F : MH} {a : Addr} {va : List Val} (h : F a = some (.lst va)) (d : Dat va) (n : Nat) : rdD F (n + 1) (.ref a) = .lst va := by
  rw [rdD]
  simp only [h]
  congr 1
  conv => rhs; rw [← List.map_id va]
  refine List.map_congr_left fun x hx => ?_
  exact rdD_still n 3 (d x hx 0)
def tcV (a b c : Addr) : Val := .lst [.ref a, .ref b, .ref c]
def cpV (va vb vc : List Val) : Val := .lst [.lst va, .lst vb, .lst vc]
/-- three told lists -/
structure Tc (F : MH) (S : Addr → Prop) (a b c : Addr) (va vb vc : List Val) : Prop where
  fa : F a = some (.lst va)
  fb : F b = some (.lst vb)
  fc : F c = some (.lst vc)
  sa : ¬ S a
  sb : ¬ S b
  sc : ¬ S c
  da : Dat va
  db : Dat vb
  dc : Dat vc
theorem Tc.step {F F' : MH} {S S' : Addr → Prop} {a b c : Addr} {va vb vc : List Val} (h : Tc F S a b c va vb vc) (k : ∀ a c, F a = some c → ¬ S a → F' a = some c ∧ ¬ S' a) : Tc F' S' a b c va vb vc :=
  ⟨(k _ _ h.fa h.sa).1, (k _ _ h.fb h.sb).1, (k _ _ h.fc h.sc).1, (k _ _ h.fa h.sa).2, (k _ _ h.fb h.sb).2, (k _ _ h.fc h.sc).2, h.da, h.db, h.dc⟩
theorem Tc.rd {F : MH} {S : Addr → Prop} {a b c : Addr} {va vb vc : List Val} (h : Tc F S a b c va vb vc) (n : Nat) : rdD F (n + 2) (tcV a b c) = cpV va vb vc := by
  unfold tcV cpV
  rw [rdD, List.map_cons, List.map_cons, List.map_cons, List.map_nil, rdD_cell h.fa h.da, rdD_cell h.fb h.db, rdD_cell h.fc h.dc]
theorem cpV_ok {va vb vc : List Val} (ha : Dat va) (hb : Dat vb) (hc : Dat vc) (n : Nat) : okD (n + 5) (cpV va vb vc) = true := by
  show ([Val.lst va, .lst vb, .lst vc].all (okD (n + 4))) = true
  rw [List.all_cons, List.all_cons, List.all_cons, List.all_nil]
  have h : ∀ {vs : List Val}, Dat vs → okD (n + 4) (.lst vs) = true := fun {vs} d => d.all n
  rw [h ha, h hb, h hc]
  rfl
/-- what has been told up to now: each list beside its copy -/
structure Hld (F : MH) (S : Addr → Prop) (hp : Addr) (hl : List Val) : Prop where
  hc : F hp = some (.lst hl)
  hs : ¬ S hp
  es : ∀ e ∈ hl, ∃ a b c va vb vc, e = .lst [tcV a b c, cpV va vb vc] ∧ Tc F (fun z => S z ∨ z = hp) a b c va vb vc
theorem Hld.step {F F' : MH} {S S' : Addr → Prop} {hp : Addr} {hl : List Val} (h : Hld F S hp hl) (k : ∀ a c, F a = some c → ¬ S a → F' a = some c ∧ ¬ S' a) : Hld F' S' hp hl := by
  refine ⟨(k _ _ h.hc h.hs).1, (k _ _ h.hc h.hs).2, fun e he => ?_⟩
  obtain ⟨a, b, c, va, vb, vc, e1, t⟩ := h.es e he
  refine ⟨a, b, c, va, vb, vc, e1, t.step fun z d hz hs => ?_⟩
  have hz2 := k z d hz fun q => hs (.inl q)
  exact ⟨hz2.1, fun q => q.elim hz2.2 fun q => hs (.inr q)⟩
theorem Hld.ext {F F' : MH} {S : Addr → Prop} {hp : Addr} {hl : List Val} (h : Hld F S hp hl) (x : Ext F F') : Hld F' S hp hl := h.step fun a c e q => ⟨x a c e, q⟩
theorem Tc.ext {F F' : MH} {S : Addr → Prop} {a b c : Addr} {va vb vc : List Val} (h : Tc F S a b c va vb vc) (x : Ext F F') : Tc F' S a b c va vb vc := h.step fun a c e q => ⟨x a c e, q⟩
theorem Hld.add {F : MH} {S : Addr → Prop} {hp : Addr} {hl : List Val} (h : Hld F S hp hl) {a b c : Addr} {va vb vc : List Val} (t : Tc F (fun z => S z ∨ z = hp) a b c va vb vc) : Hld (mset F hp (.lst (hl ++ [.lst [tcV a b c, cpV va vb vc]]))) S hp (hl ++ [.lst [tcV a b c, cpV va vb vc]]) := by
  have k : ∀ {a b c va vb vc}, Tc F (fun z => S z ∨ z = hp) a b c va vb vc → Tc (mset F hp (.lst (hl ++ [.lst [tcV a b c, cpV va vb vc]]))) (fun z => S z ∨ z = hp) a b c va vb vc := fun {a b c va vb vc} t => t.step fun z d hz hs => ⟨by rw [mset_ne (fun q => hs (.inr q))]; exact hz, hs⟩
  refine ⟨mset_same, h.hs, fun e he => ?_⟩
  rcases List.mem_append.mp he with he | he
  · obtain ⟨a2, b2, c2, va2, vb2, vc2, e1, t2⟩ := h.es e he
    exact ⟨a2, b2, c2, va2, vb2, vc2, e1, t2.step fun z d hz hs => ⟨by rw [mset_ne (fun q => hs (.inr q))]; exact hz, hs⟩⟩
  · exact ⟨a, b, c, va, vb, vc, List.mem_singleton.mp he, t.step fun z d hz hs => ⟨by rw [mset_ne (fun q => hs (.inr q))]; exact hz, hs⟩⟩
theorem ix_last {v : Val} {vs : List Val} {x : Val} {F : MH} {Q : Q1} (e : lsOf F v = some (vs ++ [x])) (q : Q x F) : ixS v (.int (-1)) F Q := by
  have h : atI (vs ++ [x]) (-1) = some x := by
    unfold atI ixN
    rw [if_neg (by decide), if_pos (by rw [List.length_append, List.length_singleton]; omega)]
    show (vs ++ [x])[((-1 : Int) + ((vs ++ [x]).length : Int)).toNat]? = _
    have e2 : ((-1 : Int) + ((vs ++ [x]).length : Int)).toNat = vs.length := by rw [List.length_append, List.length_singleton]; omega
    rw [e2, List.getElem?_append_right (Nat.le_refl _), Nat.sub_self]
    rfl
  have h2 : atS (vs ++ [x]) (-1) F Q := by unfold atS; rw [h]; exact q
  cases v with
  | lst ws => cases e; exact h2
  | ref p => simp only [ixS, e]; exact h2
  | _ => cases e
theorem len_dc {p : Addr} {kvs : List (Str × Val)} {F : MH} {Q : Q1} (e : F p = some (.dict kvs)) (q : Q (.int kvs.length) F) : lenS (.ref p) F Q := by
  have : lsOf F (.ref p) = none := by simp only [lsOf, e]
  simp only [lenS, this, e]
  exact q
def perV (m : BM) : List Val := (sortS m.ps).map .str
def houV (m : BM) : List Val := (sortS m.ns).map .str
def shrV (x : Ha) : List Val := (showS x.held).map fun k => .tup [.str k, frP ((hget x.held k).getD (0, 0))]
theorem dat_strs {l : List Str} (h : ∀ z ∈ l, VS z) : Dat (l.map .str) := fun v hv n => by
  obtain ⟨z, hz, rfl⟩ := List.mem_map.mp hv
  exact okD_str (h z hz)
theorem dat_shr {x : Ha} (h : ∀ z ∈ x.held.map (·.1), VS z) : Dat (shrV x) := fun v hv n => by
  obtain ⟨z, hz, rfl⟩ := List.mem_map.mp hv
  have hzm : z ∈ x.held.map (·.1) := mem_sortS.mp (List.mem_filter.mp hz).1
  show ([Val.str z, frP ((hget x.held z).getD (0, 0))].all (okD (n + 2))) = true
  rw [List.all_cons, List.all_cons, List.all_nil, okD_str (h z hzm)]
  rfl
def spLists (CB CE : Addr) : Spec := fun vs F Q _ => ∃ m x i, vs = [.ref m.b, .str x.nm] ∧ St CB CE F m i ∧ i ≤ 45 ∧ x ∈ m.hs ∧ ∀ F' a b c, Ext F F' → F a = none → F b = none → F c = none → F' a = some (.lst (perV m)) → F' b = some (.lst (houV m)) → F' c = some (.lst (shrV x)) → Q (tcV a b c) F'
theorem w_l_lists {Γ : Amb} {CB CE CN : Addr} {tp : MethR Γ "persons"} {th : MethR Γ "houses"} {ts : MethR Γ "shares"} (h1 : tp.sp = spPersons CB) (h1c : tp.C = CB) (h2 : th.sp = spHouses CB) (h2c : th.C = CB) (h3 : ts.sp = spShares CB CE CN) (h3c : ts.C = CB) :
    ∀ vs F Q E, spLists CB CE vs F Q E → wpB (fun C fs _ F => E C fs F) (c_l_lists tp th ts) (start1 n_l_lists vs) F (fun _ F => Q .non F) Q := by
  rintro vs F Q E ⟨m, x, i, rfl, st, hi, hx, hq⟩
  unfold c_l_lists
  have p6 := st.ok.p6
  have h8 := st.ok.h8
  have rl := (st.ok.rc x hx).len
  have hof := hof_of st.ok.nds.2 hx
  have hke : kget (entA m.hs) x.nm = some (.ref x.e) := by rw [entA_get, hof]; rfl
  simp only [wpB, wpS, wpE, wpEs, wpT, wpTs, wpCs, wpP, wpIt, wpBl, bindT, biS, recS, start1, List.map, List.length, List.replicate, List.append_nil, List.nil_append, List.cons_append, Nat.sub_self, Nat.reduceSub, Nat.reduceAdd, List.length_cons, List.length_nil, List.getElem?_cons_zero, List.getElem?_cons_succ, List.set_cons_zero, List.set_cons_succ, setAll, wipe1, Tg.slots, binS, subS, fdivS, modS, powS, cmpS, ltS, isS, isNS, asStrs, asBls, newLs, n_l_lists, st.bk.c.b, h1, h1c, h2, h2c, h3, h3c]
  refine ⟨trivial, rfl, m.b, m.pl, m.en, m.ps, entA m.hs, rfl, st.bk.c, by omega, fun q1 hq1 => ?_⟩
  have x1 : Ext F (mset F q1 (.lst ((sortS m.ps).map .str))) := ext_new hq1
  have c1 : mset F q1 (.lst ((sortS m.ps).map .str)) q1 = some (.lst ((sortS m.ps).map .str)) := mset_same
  generalize mset F q1 (.lst ((sortS m.ps).map .str)) = F1 at *
  have st1 := st.ext x1
  simp only [st1.bk.c.b]
  refine ⟨trivial, rfl, m.b, m.pl, m.en, m.ps, entA m.hs, rfl, st1.bk.c, by rw [entA_len]; omega, ?_⟩
  rw [entA_keys]
  intro q2 hq2
  have x2 : Ext F1 (mset F1 q2 (.lst ((sortS (m.hs.map (·.nm))).map .str))) := ext_new hq2
  have c2 : mset F1 q2 (.lst ((sortS (m.hs.map (·.nm))).map .str)) q2 = some (.lst ((sortS (m.hs.map (·.nm))).map .str)) := mset_same
  generalize mset F1 q2 (.lst ((sortS (m.hs.map (·.nm))).map .str)) = F2 at *
  have st2 := st1.ext x2
  simp only [st2.bk.c.b]
  refine ⟨trivial, rfl, m.b, x.nm, m.pl, m.en, m.ps, entA m.hs, x.e, x.h, numV x.n, x.held, rfl, st2.bk.c, hke, st2.bk.ent x hx, by omega, fun q3 hq3 => ?_⟩
  have x3 : Ext F2 (mset F2 q3 (.lst (shrV x))) := ext_new hq3
  have c3 : mset F2 q3 (.lst (shrV x)) q3 = some (.lst (shrV x)) := mset_same
  refine ⟨by rw [sizeLine_eq]; decide, ?_⟩
  exact hq (mset F2 q3 (.lst (shrV x))) q1 q2 q3 (fun a c h => x3 a c (x2 a c (x1 a c h))) hq1 (x1.none hq2) (x1.none (x2.none hq3)) (x3 _ _ (x2 _ _ c1)) (x3 _ _ c2) c3
end Bv

set_option pp.maxSteps 600
/-! k05: the law's own def. -/
namespace Bv
open PySem L2 PyProof.Rows
theorem list_ref {m : Bool} {v : Val} {vs : List Val} {F : MH} {Q : Q1} (e : lsOf F v = some vs) (q : newLs m vs F Q) : listF m v F Q := by
  cases v with
  | lst ws => cases e; exact q
  | ref p => simp only [listF, e]; exact q
  | _ => cases e
def forBody {Γ : Amb} : Ss Γ → Ss Γ
  | .cons (.for _ _ b) _ => b
  | _ => .nil
theorem Frm.ne {F F' : MH} {m m' : BM} (fr : Frm F F' m m') (h : m.hs ≠ []) : m'.hs ≠ [] := fun e => by
  obtain ⟨l, hl⟩ := fr.ns
  unfold BM.ns at hl
  rw [e] at hl
  have : m.hs.map (·.nm) = [] := (List.append_eq_nil_iff.mp hl.symm).1
  exact h (List.map_eq_nil_iff.mp this)
theorem Frm.trans {F F' F'' : MH} {m m' m'' : BM} (h : Frm F F' m m') (h2 : Frm F' F'' m' m'') : Frm F F'' m m'' := by
  have k1 : ∀ a c, F a = some c → ¬ m.adr a → ¬ m'.adr a := fun a c e ha z => by
    rcases h.sub a z with q | q
    · exact ha q
    · rw [e] at q; cases q
  refine ⟨fun a c e ha => h2.keep a c (h.keep a c e ha) (k1 a c e ha), fun a z => ?_, h2.b.trans h.b, h2.v.trans h.v, ?_, ?_⟩
  · rcases h2.sub a z with q | q
    · exact h.sub a q
    · cases e : F a with
      | none => exact .inr rfl
      | some c =>
        by_cases ha : m.adr a
        · exact .inl ha
        · rw [h.keep a c e ha] at q; cases q
  · obtain ⟨l, hl⟩ := h.ns
    obtain ⟨l2, hl2⟩ := h2.ns
    exact ⟨l ++ l2, by rw [hl2, hl, List.append_assoc]⟩
  · obtain ⟨l, hl⟩ := h.ps
    obtain ⟨l2, hl2⟩ := h2.ps
    exact ⟨l ++ l2, by rw [hl2, hl, List.append_assoc]⟩
/-- the three first words -/
theorem words3 {names : List Str} (h1 : names.length = 14) (h2 : Hd names) : ∃ a b c, names[0]? = some a ∧ names[1]? = some b ∧ names[2]? = some c ∧ a ≠ b := by
  match names, h1 with
  | a :: b :: c :: r, _ =>
    refine ⟨a, b, c, rfl, rfl, rfl, fun e => ?_⟩
    have := h2.nodup
    rw [List.nodup_cons] at this
    exact this.1 (by rw [e]; exact List.mem_cons_self)
theorem ix_word {names : List Str} {k : Nat} {a : Str} {F : MH} {Q : Q1} (h : names[k]? = some a) (q : Q (.str a) F) : ixS (.lst (names.map .str)) (.int (k : Int)) F Q :=
  ix_list rfl (by omega) (by rw [Int.toNat_natCast, List.getElem?_map, h]; rfl) q
/-- the first person is put in -/
theorem put0 {m m' : BM} {a : Str} (h1 : m.ps = []) (h2 : m.hs = []) (ha : Name a) (pu : refu m (.person a) = none → Put (.person a) m m') : m'.ps = [a] ∧ m'.ns = [] := by
  have h3 : m.ns = [] := by unfold BM.ns; rw [h2]; rfl
  have hr : refu m (.person a) = none := by
    show refPerson m.ps m.ns a = none
    unfold refPerson refNew
    rw [ifO_f (by rw [nameB_iff.mpr ha]; decide), h1, h3, ifO_f (by rintro (q | q) <;> cases q), ifO_f (by decide)]
    rfl
  obtain ⟨e1, e2⟩ := pu hr
  rw [h1] at e1
  rw [h3] at e2
  exact ⟨e1, e2⟩
/-- the first house is put in -/
theorem put1 {m m' : BM} {a b : Str} {t k l : Int} (h1 : m.ps = [a]) (h2 : m.ns = []) (hb : Name b) (hab : a ≠ b) (hl : 0 ≤ l) (pu : refu m (.house b a t k l) = none → Put (.house b a t k l) m m') : m'.hs ≠ [] := by
  have hr : refu m (.house b a t k l) = none := by
    show refHouse m.ps m.ns b a l = none
    unfold refHouse refNew refHold refLoss
    rw [ifO_f (by rw [nameB_iff.mpr hb]; decide), h1, h2, ifO_f (by rintro (q | q); exact hab (List.mem_singleton.mp q).symm; cases q), ifO_f (fun q => q (.inl List.mem_cons_self)), ifO_f (by omega), ifO_f (by decide)]
    rfl
  obtain ⟨e1, e2⟩ := pu hr
  rw [h2] at e1
  intro e
  unfold BM.ns at e1
  rw [e] at e1
  cases e1
/-- the purse and the book may change -/
def chg (m : BM) (p : Addr) (z : Addr) : Prop := m.adr z ∨ z = p
theorem w_law {Γ : Amb} {CB CE : Addr} {rt_ : CallR1 Γ "_law_told"} {rl : CallR1 Γ "_law_lists"} {rk : CallR1 Γ "_law_take"} {rd : CallR1 Γ "_law_done"} {rdr : CallR1 Γ "_law_drawn"} {rp : CallR1 Γ "_law_purse"} {mb : MkR Γ "Book"} {rn : CallR1 Γ "_law_names"}
    (h1 : rt_.sp = spTold CB CE) (h2 : rl.sp = spLists CB CE) (h3 : rk.sp = spTake) (h4 : rd.sp = spDone CB CE) (h5 : rdr.sp = spDrawn CB CE) (h6 : rp.sp = spCell) (h7 : mb.sp = spBInit CB) (h7c : mb.C = CB) (h8 : rn.sp = spNames) :
    ∀ vs F Q E, spLaw vs F Q E → wpB noX (c_law rt_ rl rk rd rdr rp mb rn) (start1 n_law vs) F (fun _ F => Q .non F) Q := by
  rintro vs F Q E ⟨v0, ns, rfl, hv0, hl, hbits, hq⟩
  have datP : ∀ {F : MH} {m : BM} {i : Nat} {x : Ha}, St CB CE F m i → x ∈ m.hs → Dat (perV m) ∧ Dat (houV m) ∧ Dat (shrV x) := fun {F m i x} st hx =>
    ⟨dat_strs fun z hz => (st.ok.nm z (List.mem_append_left _ (mem_sortS.mp hz))).vs, dat_strs fun z hz => (st.ok.nm z (List.mem_append_right _ (mem_sortS.mp hz))).vs, dat_shr fun z hz => (st.ok.nm z ((st.ok.rc x hx).hu z hz)).vs⟩
  -- the last test of a turn
  have pD : ∀ (F1 : MH) (m : BM) (i : Nat) (hp p : Addr) (hl' : List Val) (x : Ha) (a b c : Addr) (names : List Str) (s4 s6 s7 s10 s11 s12 : Option Val) (k : St1 → MH → Prop), St CB CE F1 m i → i ≤ 45 → x ∈ m.hs → Hld F1 (chg m p) hp (hl' ++ [.lst [tcV a b c, cpV (perV m) (houV m) (shrV x)]]) → Tc F1 (fun z => chg m p z ∨ z = hp) a b c (perV m) (houV m) (shrV x) →
      (∀ F', Ext F1 F' → k [some v0, some (.lst (names.map .str)), some (.ref m.b), some m.v, s4, some (.ref hp), s6, s7, some (.str x.nm), some (tcV a b c), s10, s11, s12] F') →
      wpB noX (dropS 2 (dropS 3 (dropS 4 (forBody (dropS 5 (c_law rt_ rl rk rd rdr rp mb rn)))))) [some v0, some (.lst (names.map .str)), some (.ref m.b), some m.v, s4, some (.ref hp), s6, s7, some (.str x.nm), some (tcV a b c), s10, s11, s12] F1 k Q := by
    intro F1 m i hp p hl' x a b c names s4 s6 s7 s10 s11 s12 k st hi hx hh tc hk
    obtain ⟨d1, d2, d3⟩ := datP st hx
    simp only [c_law, dropS, forBody, wpB, wpS, wpE, wpEs, wpT, wpTs, wpCs, wpP, wpIt, wpBl, bindT, biS, recS, start1, List.map, List.length, List.replicate, List.append_nil, List.nil_append, List.cons_append, Nat.sub_self, Nat.reduceSub, Nat.reduceAdd, List.length_cons, List.length_nil, List.getElem?_cons_zero, List.getElem?_cons_succ, List.set_cons_zero, List.set_cons_succ, setAll, wipe1, Tg.slots, binS, subS, fdivS, modS, powS, cmpS, ltS, isS, isNS, asStrs, asBls, newLs, h1, h2]
    refine ⟨m, i, rfl, st, hi, fun F2 x2 => ?_⟩
    simp only [truS, Bool.not_true, wpB, wpS, wpE, wpEs, wpT, wpTs, wpCs, wpP, wpIt, wpBl, bindT, biS, recS, start1, List.map, List.length, List.replicate, List.append_nil, List.nil_append, List.cons_append, Nat.sub_self, Nat.reduceSub, Nat.reduceAdd, List.length_cons, List.length_nil, List.getElem?_cons_zero, List.getElem?_cons_succ, List.set_cons_zero, List.set_cons_succ, setAll, wipe1, Tg.slots, binS, subS, fdivS, modS, powS, cmpS, ltS, isS, isNS, asStrs, asBls, newLs]
    have st2 := st.ext x2
    refine ⟨m, x, i, rfl, st2, hi, hx, fun F3 a2 b2 c2 x3 n1 n2 n3 g1 g2 g3 => ?_⟩
    have hh3 := (hh.ext x2).ext x3
    have tc3 := (tc.ext x2).ext x3
    have t2 : Tc F3 (fun _ => False) a2 b2 c2 (perV m) (houV m) (shrV x) := ⟨g1, g2, g3, fun z => z, fun z => z, fun z => z, d1, d2, d3⟩
    have el : lsOf F3 (.ref hp) = some (hl' ++ [.lst [tcV a b c, cpV (perV m) (houV m) (shrV x)]]) := by simp only [lsOf, hh3.hc]
    refine ⟨by rw [sizeLine_eq]; decide, ?_⟩
    refine ix_last el (ix_list (vs := [tcV a b c, cpV (perV m) (houV m) (shrV x)]) rfl (by decide) rfl ?_)
    refine ix_last el (ix_list (vs := [tcV a b c, cpV (perV m) (houV m) (shrV x)]) rfl (by decide) rfl ?_)
    refine ⟨by rw [sizeLine_eq]; decide, ?_⟩
    refine neD_same (v := .lst [cpV (perV m) (houV m) (shrV x), cpV (perV m) (houV m) (shrV x)]) ?_ ?_ ?_ ?_
    · rw [rdD, List.map_cons, List.map_cons, List.map_nil, tc3.rd 1, t2.rd 1]
    · rw [rdD, List.map_cons, List.map_cons, List.map_nil, rdD_still 3 5 (cpV_ok d1 d2 d3 0)]
    · show ([cpV (perV m) (houV m) (shrV x), cpV (perV m) (houV m) (shrV x)].all (okD 59)) = true
      rw [List.all_cons, List.all_cons, List.all_nil, cpV_ok d1 d2 d3 54]
      rfl
    · simp only [wpB, wpS, wpE, wpEs, wpT, wpTs, wpCs, wpP, wpIt, wpBl, bindT, biS, recS, start1, List.map, List.length, List.replicate, List.append_nil, List.nil_append, List.cons_append, Nat.sub_self, Nat.reduceSub, Nat.reduceAdd, List.length_cons, List.length_nil, List.getElem?_cons_zero, List.getElem?_cons_succ, List.set_cons_zero, List.set_cons_succ, setAll, wipe1, Tg.slots, binS, subS, fdivS, modS, powS, cmpS, ltS, isS, isNS, asStrs, asBls, newLs]
      exact hk F3 fun a c h => x3 a c (x2 a c h)
  -- the other list is spoilt
  have pC : ∀ (F1 : MH) (p a b c : Addr) (va vb vc : List Val) (s0 s1 s2 s3 s4 s5 s6 s8 s9 s11 s12 : Option Val) (k : St1 → MH → Prop), Pur F1 p → F1 a = some (.lst va) → F1 b = some (.lst vb) → F1 c = some (.lst vc) → va ≠ [] → vb ≠ [] → vc ≠ [] → va.length ≤ 1000 → vb.length ≤ 1000 → vc.length ≤ 1000 → a ≠ p → b ≠ p → c ≠ p →
      (∀ F' at', (∀ z d, F1 z = some d → z ≠ p → z ≠ a → z ≠ b → z ≠ c → F' z = some d) → k [s0, s1, s2, s3, s4, s5, s6, some (.ref p), s8, s9, some (tcV a b c), at', s12] F') →
      wpB noX (takeS 2 (dropS 3 (dropS 4 (forBody (dropS 5 (c_law rt_ rl rk rd rdr rp mb rn)))))) [s0, s1, s2, s3, s4, s5, s6, some (.ref p), s8, s9, some (tcV a b c), s11, s12] F1 k Q := by
    intro F1 p a b c va vb vc s0 s1 s2 s3 s4 s5 s6 s8 s9 s11 s12 k hp ha hb hc na nb nc la lb lc ap bp cp hk
    simp only [c_law, dropS, takeS, forBody, wpB, wpS, wpE, wpEs, wpT, wpTs, wpCs, wpP, wpIt, wpBl, bindT, biS, recS, start1, List.map, List.length, List.replicate, List.append_nil, List.nil_append, List.cons_append, Nat.sub_self, Nat.reduceSub, Nat.reduceAdd, List.length_cons, List.length_nil, List.getElem?_cons_zero, List.getElem?_cons_succ, List.set_cons_zero, List.set_cons_succ, setAll, wipe1, Tg.slots, binS, subS, fdivS, modS, powS, cmpS, ltS, isS, isNS, asStrs, asBls, newLs, h3]
    refine ⟨p, 3, rfl, by decide, .of_small (by decide) (by decide), hp, fun r a1 b1 h0 h1 => ?_⟩
    have hp2 : Pur (mset F1 p (.lst [.int a1, .int b1])) p := .set
    refine ⟨p, 2, rfl, by decide, .of_small (by decide) (by decide), hp2, fun r2 a2 b2 _ _ => eqS_i ?_⟩
    rw [mset_mset]
    have k2 : ∀ z d, F1 z = some d → z ≠ p → mset F1 p (.lst [.int a2, .int b2]) z = some d := fun z d h n => by rw [mset_ne n]; exact h
    generalize mset F1 p (.lst [.int a2, .int b2]) = F2 at *
    have hat : ∃ q vq, [Val.ref a, .ref b, .ref c][r.toNat]? = some (.ref q) ∧ F2 q = some (.lst vq) ∧ vq ≠ [] ∧ vq.length ≤ 1000 ∧ (q = a ∨ q = b ∨ q = c) := by
      have : r = 0 ∨ r = 1 ∨ r = 2 := by omega
      rcases this with rfl | rfl | rfl
      · exact ⟨a, va, rfl, k2 _ _ ha ap, na, la, .inl rfl⟩
      · exact ⟨b, vb, rfl, k2 _ _ hb bp, nb, lb, .inr (.inl rfl)⟩
      · exact ⟨c, vc, rfl, k2 _ _ hc cp, nc, lc, .inr (.inr rfl)⟩
    obtain ⟨q, vq, hq1, hq2, hq3, hq4, hq5⟩ := hat
    have fin : ∀ ws at', k [s0, s1, s2, s3, s4, s5, s6, some (.ref p), s8, s9, some (tcV a b c), at', s12] (mset F2 q (.lst ws)) := fun ws at' => by
      refine hk _ at' fun z d h n1 n2 n3 n4 => ?_
      have : z ≠ q := by rcases hq5 with rfl | rfl | rfl <;> assumption
      rw [mset_ne this]
      exact k2 z d h n1
    by_cases h7 : r2 = 0
    · rw [decide_eq_true h7]
      simp only [wpB, wpS, wpE, wpEs, wpT, wpTs, wpCs, wpP, wpIt, wpBl, bindT, biS, recS, start1, List.map, List.length, List.replicate, List.append_nil, List.nil_append, List.cons_append, Nat.sub_self, Nat.reduceSub, Nat.reduceAdd, List.length_cons, List.length_nil, List.getElem?_cons_zero, List.getElem?_cons_succ, List.set_cons_zero, List.set_cons_succ, setAll, wipe1, Tg.slots, binS, subS, fdivS, modS, powS, cmpS, ltS, isS, isNS, asStrs, asBls, newLs]
      refine ix_list (vs := [.ref a, .ref b, .ref c]) rfl h0 hq1 ⟨⟨q, vq, rfl, hq2⟩, ?_⟩
      simp only [bmS, hq2]
      exact fin _ _
    · rw [decide_eq_false h7]
      simp only [wpB, wpS, wpE, wpEs, wpT, wpTs, wpCs, wpP, wpIt, wpBl, bindT, biS, recS, start1, List.map, List.length, List.replicate, List.append_nil, List.nil_append, List.cons_append, Nat.sub_self, Nat.reduceSub, Nat.reduceAdd, List.length_cons, List.length_nil, List.getElem?_cons_zero, List.getElem?_cons_succ, List.set_cons_zero, List.set_cons_succ, setAll, wipe1, Tg.slots, binS, subS, fdivS, modS, powS, cmpS, ltS, isS, isNS, asStrs, asBls, newLs]
      refine ix_list (vs := [.ref a, .ref b, .ref c]) rfl h0 hq1 ⟨⟨q, vq, rfl, hq2⟩, ?_⟩
      refine ix_list (vs := [.ref a, .ref b, .ref c]) rfl h0 hq1 ?_
      obtain ⟨y, ys, rfl⟩ : ∃ y ys, vq = y :: ys := by
        cases vq with
        | nil => exact absurd rfl hq3
        | cons y ys => exact ⟨y, ys, rfl⟩
      refine ix_list (vs := y :: ys) (by simp only [lsOf, hq2]) (by decide) rfl (bm_append hq2 (by rw [sizeLine_eq]; omega) ?_)
      exact fin _ _
  -- what was told is put beside its copy, and told again
  have pB : ∀ (F1 : MH) (m : BM) (i : Nat) (hp p : Addr) (hl' : List Val) (x : Ha) (a b c : Addr) (names : List Str) (s4 s6 s10 s11 s12 : Option Val) (k : St1 → MH → Prop), St CB CE F1 m i → i ≤ 45 → x ∈ m.hs → Pur F1 p → Hld F1 (chg m p) hp hl' → hl'.length ≤ 1000 → Tc F1 (fun z => chg m p z ∨ z = hp) a b c (perV m) (houV m) (shrV x) →
      (∀ F' a2 b2 c2 s12', St CB CE F' m i → Pur F' p → Hld F' (fun z => chg m p z ∨ z = a2 ∨ z = b2 ∨ z = c2) hp (hl' ++ [.lst [tcV a b c, cpV (perV m) (houV m) (shrV x)]]) → Tc F' (fun z => (chg m p z ∨ z = a2 ∨ z = b2 ∨ z = c2) ∨ z = hp) a b c (perV m) (houV m) (shrV x) → F' a2 = some (.lst (perV m)) → F' b2 = some (.lst (houV m)) → F' c2 = some (.lst (shrV x)) → (¬ m.adr a2 ∧ ¬ m.adr b2 ∧ ¬ m.adr c2) → a2 ≠ p → b2 ≠ p → c2 ≠ p →
        k [some v0, some (.lst (names.map .str)), some (.ref m.b), some m.v, s4, some (.ref hp), s6, some (.ref p), some (.str x.nm), some (tcV a b c), some (tcV a2 b2 c2), s11, s12'] F') →
      wpB noX (takeS 3 (dropS 4 (forBody (dropS 5 (c_law rt_ rl rk rd rdr rp mb rn))))) [some v0, some (.lst (names.map .str)), some (.ref m.b), some m.v, s4, some (.ref hp), s6, some (.ref p), some (.str x.nm), some (tcV a b c), s10, s11, s12] F1 k Q := by
    intro F1 m i hp p hl' x a b c names s4 s6 s10 s11 s12 k st hi hx hpu hh hlen tc hk
    obtain ⟨d1, d2, d3⟩ := datP st hx
    simp only [c_law, dropS, takeS, forBody, wpB, wpS, wpE, wpEs, wpT, wpTs, wpCs, wpP, wpIt, wpBl, bindT, biS, recS, start1, List.map, List.length, List.replicate, List.append_nil, List.nil_append, List.cons_append, Nat.sub_self, Nat.reduceSub, Nat.reduceAdd, List.length_cons, List.length_nil, List.getElem?_cons_zero, List.getElem?_cons_succ, List.set_cons_zero, List.set_cons_succ, setAll, wipe1, Tg.slots, binS, subS, fdivS, modS, powS, cmpS, ltS, isS, isNS, asStrs, asBls, newLs, h1, h2]
    refine ⟨⟨hp, _, rfl, hh.hc⟩, ?_⟩
    rw [show ∀ F, lsOf F (tcV a b c) = some [.ref a, .ref b, .ref c] from fun _ => rfl]
    try dsimp only
    simp only [lcGo, bindT, wpB, wpS, wpE, wpEs, wpT, wpTs, wpCs, wpP, wpIt, wpBl, bindT, biS, recS, start1, List.map, List.length, List.replicate, List.append_nil, List.nil_append, List.cons_append, Nat.sub_self, Nat.reduceSub, Nat.reduceAdd, List.length_cons, List.length_nil, List.getElem?_cons_zero, List.getElem?_cons_succ, List.set_cons_zero, List.set_cons_succ, setAll, wipe1, Tg.slots, binS, subS, fdivS, modS, powS, cmpS, ltS, isS, isNS, asStrs, asBls, newLs]
    refine ⟨rfl, list_ref (vs := perV m) (by simp only [lsOf, tc.fa]) ⟨by rw [sizeLine_eq]; decide, rfl, list_ref (vs := houV m) (by simp only [lsOf, tc.fb]) ⟨by rw [sizeLine_eq]; decide, rfl, list_ref (vs := shrV x) (by simp only [lsOf, tc.fc]) ⟨by rw [sizeLine_eq]; decide, rfl, ?_⟩⟩⟩⟩
    refine ⟨by rw [sizeLine_eq]; decide, ?_⟩
    refine bm_append hh.hc (by rw [sizeLine_eq]; omega) ?_
    have hh2 := hh.add tc
    have nhp : ¬ chg m p hp := hh.hs
    have st2 : St CB CE (mset F1 hp (.lst (hl' ++ [.lst [tcV a b c, cpV (perV m) (houV m) (shrV x)]]))) m i := st.kept fun z d hz h => by
      have : z ≠ hp := fun e => nhp (.inl (e ▸ hz))
      rw [mset_ne this]; exact h
    have hpu2 : Pur (mset F1 hp (.lst (hl' ++ [.lst [tcV a b c, cpV (perV m) (houV m) (shrV x)]]))) p := by
      obtain ⟨u, v, e⟩ := hpu
      have : p ≠ hp := fun z => nhp (.inr z.symm)
      exact ⟨u, v, by rw [mset_ne this]; exact e⟩
    have tc2 : Tc (mset F1 hp (.lst (hl' ++ [.lst [tcV a b c, cpV (perV m) (houV m) (shrV x)]]))) (fun z => chg m p z ∨ z = hp) a b c (perV m) (houV m) (shrV x) := tc.step fun z d hz hs => ⟨by rw [mset_ne (fun q => hs (.inr q))]; exact hz, hs⟩
    show spLists CB CE [.ref m.b, .str x.nm] (mset F1 hp (.lst (hl' ++ [.lst [tcV a b c, cpV (perV m) (houV m) (shrV x)]]))) _ _
    generalize mset F1 hp (.lst (hl' ++ [.lst [tcV a b c, cpV (perV m) (houV m) (shrV x)]])) = F2 at *
    refine ⟨m, x, i, rfl, st2, hi, hx, fun F3 a2 b2 c2 x3 n1 n2 n3 g1 g2 g3 => ?_⟩
    have st3 := st2.ext x3
    have t2 : Tc F3 (fun _ => False) a2 b2 c2 (perV m) (houV m) (shrV x) := ⟨g1, g2, g3, fun z => z, fun z => z, fun z => z, d1, d2, d3⟩
    have tc3 := tc2.ext x3
    refine neD_same (v := cpV (perV m) (houV m) (shrV x)) (t2.rd 2) (tc3.rd 2) (cpV_ok d1 d2 d3 55) ?_
    simp only [wpB, wpS, wpE, wpEs, wpT, wpTs, wpCs, wpP, wpIt, wpBl, bindT, biS, recS, start1, List.map, List.length, List.replicate, List.append_nil, List.nil_append, List.cons_append, Nat.sub_self, Nat.reduceSub, Nat.reduceAdd, List.length_cons, List.length_nil, List.getElem?_cons_zero, List.getElem?_cons_succ, List.set_cons_zero, List.set_cons_succ, setAll, wipe1, Tg.slots, binS, subS, fdivS, modS, powS, cmpS, ltS, isS, isNS, asStrs, asBls, newLs]
    refine ⟨m, i, rfl, st3, hi, fun F4 x4 => ?_⟩
    simp only [truS, Bool.not_true, wpB, wpS, wpE, wpEs, wpT, wpTs, wpCs, wpP, wpIt, wpBl, bindT, biS, recS, start1, List.map, List.length, List.replicate, List.append_nil, List.nil_append, List.cons_append, Nat.sub_self, Nat.reduceSub, Nat.reduceAdd, List.length_cons, List.length_nil, List.getElem?_cons_zero, List.getElem?_cons_succ, List.set_cons_zero, List.set_cons_succ, setAll, wipe1, Tg.slots, binS, subS, fdivS, modS, powS, cmpS, ltS, isS, isNS, asStrs, asBls, newLs]
    have x24 : Ext F2 F4 := fun a c h => x4 a c (x3 a c h)
    have new : ∀ {z d}, F2 z = some d → ∀ S : Addr → Prop, ¬ S z → ¬ (S z ∨ z = a2 ∨ z = b2 ∨ z = c2) := fun {z d} h S hs q => by
      rcases q with q | rfl | rfl | rfl
      · exact hs q
      · rw [n1] at h; cases h
      · rw [n2] at h; cases h
      · rw [n3] at h; cases h
    have nad : ∀ z, F2 z = none → ¬ m.adr z := fun z h q => by
      obtain ⟨d, e⟩ := st2.has q
      rw [h] at e; cases e
    have npu : ∀ z, F2 z = none → z ≠ p := fun z h e => by
      obtain ⟨u, v, e2⟩ := hpu2
      rw [e, e2] at h; cases h
    refine hk F4 a2 b2 c2 _ (st2.ext x24) (by obtain ⟨u, v, e⟩ := hpu2; exact ⟨u, v, x24 _ _ e⟩) (hh2.step fun z d hz hs => ⟨x24 z d hz, new hz _ hs⟩) (tc2.step fun z d hz hs => ⟨x24 z d hz, fun q => ?_⟩) (x4 _ _ g1) (x4 _ _ g2) (x4 _ _ g3) ⟨nad _ n1, nad _ n2, nad _ n3⟩ (npu _ n1) (npu _ n2) (npu _ n3)
    rcases q with q | q
    · exact new hz (chg m p) (fun q => hs (.inl q)) q
    · exact hs (.inr q)
  -- a deed, and what is told then
  have pA : ∀ (F1 : MH) (m : BM) (i : Nat) (hp : Addr) (hl' : List Val) (cell : Int) (names : List Str) (s4 s7 s8 s9 s10 s11 s12 : Option Val) (k : St1 → MH → Prop), Wds names → St CB CE F1 m i → i ≤ 44 → m.hs ≠ [] → Hld F1 m.adr hp hl' →
      (∀ F' m' p x a b c, St CB CE F' m' (i + 1) → m'.b = m.b → m'.v = m.v → m'.hs ≠ [] → (m.ps ≠ [] → m'.ps ≠ []) → x ∈ m'.hs → Pur F' p → Hld F' (chg m' p) hp hl' → Tc F' (fun z => chg m' p z ∨ z = hp) a b c (perV m') (houV m') (shrV x) →
        k [some v0, some (.lst (names.map .str)), some (.ref m'.b), some m'.v, s4, some (.ref hp), some (.int cell), some (.ref p), some (.str x.nm), some (tcV a b c), s10, s11, s12] F') →
      wpB noX (takeS 4 (forBody (dropS 5 (c_law rt_ rl rk rd rdr rp mb rn)))) [some v0, some (.lst (names.map .str)), some (.ref m.b), some m.v, s4, some (.ref hp), some (.int cell), s7, s8, s9, s10, s11, s12] F1 k Q := by
    intro F1 m i hp hl' cell names s4 s7 s8 s9 s10 s11 s12 k wd st hi hne hh hk
    simp only [c_law, dropS, takeS, forBody, wpB, wpS, wpE, wpEs, wpT, wpTs, wpCs, wpP, wpIt, wpBl, bindT, biS, recS, start1, List.map, List.length, List.replicate, List.append_nil, List.nil_append, List.cons_append, Nat.sub_self, Nat.reduceSub, Nat.reduceAdd, List.length_cons, List.length_nil, List.getElem?_cons_zero, List.getElem?_cons_succ, List.set_cons_zero, List.set_cons_succ, setAll, wipe1, Tg.slots, binS, subS, fdivS, modS, powS, cmpS, ltS, isS, isNS, asStrs, asBls, newLs, h2, h3, h4, h5, h6]
    refine ⟨_, rfl, fun p a b hpn => ?_⟩
    have x2 : Ext F1 (mset F1 p (.lst [.int a, .int b])) := ext_new hpn
    have st2 := st.ext x2
    have hpu : Pur (mset F1 p (.lst [.int a, .int b])) p := .set
    have hh2 : Hld (mset F1 p (.lst [.int a, .int b])) (chg m p) hp hl' := hh.step fun z d hz hs => ⟨x2 z d hz, fun q => q.elim hs fun e => by rw [e, hpn] at hz; cases hz⟩
    generalize mset F1 p (.lst [.int a, .int b]) = F2 at *
    refine ⟨p, names, m, true, i, 12, rfl, hpu, st2, hi, wd, by decide, by decide, fun d F3 hd hp3 hk3 => ?_⟩
    have st3 := st2.draw hpu hk3
    have hh3 : Hld F3 (chg m p) hp hl' := hh2.step fun z d hz hs => ⟨hk3 z d (fun e => hs (.inr e)) hz, hs⟩
    have npa : ¬ m.adr p := fun q => st3.ne_pur hp3 q rfl
    refine ⟨m, d, i, rfl, st3, hi, hd, fun F4 m4 st4 fr4 _ => ?_⟩
    simp only [truS, Bool.not_true, wpB, wpS, wpE, wpEs, wpT, wpTs, wpCs, wpP, wpIt, wpBl, bindT, biS, recS, start1, List.map, List.length, List.replicate, List.append_nil, List.nil_append, List.cons_append, Nat.sub_self, Nat.reduceSub, Nat.reduceAdd, List.length_cons, List.length_nil, List.getElem?_cons_zero, List.getElem?_cons_succ, List.set_cons_zero, List.set_cons_succ, setAll, wipe1, Tg.slots, binS, subS, fdivS, modS, powS, cmpS, ltS, isS, isNS, asStrs, asBls, newLs]
    have hne4 := fr4.ne hne
    have hp4 : Pur F4 p := by
      obtain ⟨u, v, e⟩ := hp3
      exact ⟨u, v, fr4.keep _ _ e npa⟩
    have hh4 : Hld F4 (chg m4 p) hp hl' := hh3.step fun z d hz hs => ⟨fr4.keep z d hz fun q => hs (.inl q), fun q => by
      rcases q with q | q
      · rcases fr4.sub z q with q | q
        · exact hs (.inl q)
        · rw [q] at hz; cases hz
      · exact hs (.inr q)⟩
    have hg1 : ∀ {F2 : MH} {Q : Q1}, Q (.ref m4.em) F2 → ixS m.v (.int 1) F2 Q := fun {F2 Q} q => by
      rw [← fr4.v]
      exact ix_list (vs := [.ref m4.pm, .ref m4.em]) rfl (by decide) rfl q
    have h8' := st4.ok.h8
    have hpos : 0 < m4.hs.length := List.length_pos_iff.mpr hne4
    refine hg1 (sort_keys st4.em (by rw [modA_len]; omega) ?_)
    rw [modA_keys]
    simp only [newLs]
    refine hg1 (len_dc st4.em ?_)
    rw [modA_len]
    refine ⟨p, (m4.hs.length : Int), rfl, by omega, .of_small (by omega) (by omega), hp4, fun r a2 b2 h0 h1 => ?_⟩
    have st5 := st4.draw hp4 (Keep.set (p := p) (F := F4) (c := .lst [.int a2, .int b2]))
    have hp5 : Pur (mset F4 p (.lst [.int a2, .int b2])) p := .set
    have hh5 : Hld (mset F4 p (.lst [.int a2, .int b2])) (chg m4 p) hp hl' := hh4.step fun z d hz hs => ⟨by rw [mset_ne (fun e => hs (.inr e))]; exact hz, hs⟩
    generalize mset F4 p (.lst [.int a2, .int b2]) = F5 at *
    obtain ⟨z, hz⟩ : ∃ z, (sortS (m4.hs.map (·.nm)))[r.toNat]? = some z := ⟨_, List.getElem?_eq_getElem (by rw [sortS_length, List.length_map]; omega)⟩
    obtain ⟨x, hx, rfl⟩ := List.mem_map.mp (mem_sortS.mp (List.mem_of_getElem? hz))
    refine ix_list (vs := (sortS (m4.hs.map (·.nm))).map .str) rfl h0 (by rw [List.getElem?_map, hz]; rfl) ?_
    rw [← fr4.b]
    refine ⟨m4, x, i + 1, rfl, st5, by omega, hx, fun F6 a3 b3 c3 x6 n1 n2 n3 g1 g2 g3 => ?_⟩
    obtain ⟨d1, d2, d3⟩ := datP st5 hx
    have nS : ∀ {z : Addr}, F5 z = none → ¬ (chg m4 p z ∨ z = hp) := fun {z} h q => by
      rcases q with (q | q) | q
      · obtain ⟨d, e⟩ := st5.has q
        rw [h] at e; cases e
      · obtain ⟨u, v, e⟩ := hp5
        rw [← q, h] at e; cases e
      · have e := hh5.hc
        rw [← q, h] at e; cases e
    have := hk F6 m4 p x a3 b3 c3 (st5.ext x6) fr4.b fr4.v hne4 (fun hps e => by obtain ⟨l, hl2⟩ := fr4.ps; rw [e] at hl2; exact hps (List.append_eq_nil_iff.mp hl2.symm).1) hx (by obtain ⟨u, v, e⟩ := hp5; exact ⟨u, v, x6 _ _ e⟩) (hh5.ext x6) ⟨g1, g2, g3, nS n1, nS n2, nS n3, d1, d2, d3⟩
    rw [fr4.v] at this
    exact this
  have body : ∀ (F1 : MH) (m : BM) (i : Nat) (hp : Addr) (hl' : List Val) (cell : Int) (names : List Str) (s4 s7 s8 s9 s10 s11 s12 : Option Val) (k : St1 → MH → Prop), Wds names → St CB CE F1 m i → i ≤ 44 → m.hs ≠ [] → hl'.length ≤ 999 → m.ps ≠ [] → Hld F1 m.adr hp hl' →
      (∀ F' m' e σ', St CB CE F' m' (i + 1) → m'.b = m.b → m'.v = m.v → m'.hs ≠ [] → m'.ps ≠ [] → Hld F' m'.adr hp (hl' ++ [e]) → (∃ t4 t6 t7 t8 t9 t10 t11 t12, σ' = [some v0, some (.lst (names.map .str)), some (.ref m.b), some m.v, t4, some (.ref hp), t6, t7, t8, t9, t10, t11, t12]) → k σ' F') →
      wpB noX (forBody (dropS 5 (c_law rt_ rl rk rd rdr rp mb rn))) [some v0, some (.lst (names.map .str)), some (.ref m.b), some m.v, s4, some (.ref hp), some (.int cell), s7, s8, s9, s10, s11, s12] F1 k Q := by
    intro F1 m i hp hl' cell names s4 s7 s8 s9 s10 s11 s12 k wd st hi hne hll hps hh hk
    rw [wpB_split 4]
    refine pA F1 m i hp hl' cell names s4 s7 s8 s9 s10 s11 s12 _ wd st hi hne hh fun F2 m2 p x a b c st2 eb ev hne2 hps2 hx hp2 hh2 tc2 => ?_
    rw [wpB_split 3]
    refine pB F2 m2 (i + 1) hp p hl' x a b c names _ _ _ _ _ _ st2 (by omega) hx hp2 hh2 (by omega) tc2 fun F3 a2 b2 c2 s12' st3 hp3 hh3 tc3 g1 g2 g3 nad np1 np2 np3 => ?_
    rw [wpB_split 2]
    have p6 := st3.ok.p6
    have h8' := st3.ok.h8
    have rc := st3.ok.rc x hx
    have rl := rc.len
    have sl : (showS x.held).length ≤ x.held.length := by
      have := List.length_filter_le (fun k => decide (hget x.held k ≠ some (0, 1))) (sortS (x.held.map (·.1)))
      rw [sortS_length, List.length_map] at this
      exact this
    have shl : (showS x.held) ≠ [] := rc.show_ne
    have lP : (perV m2).length = m2.ps.length := by unfold perV; rw [List.length_map, sortS_length]
    have lH : (houV m2).length = m2.hs.length := by unfold houV; rw [List.length_map, sortS_length]; unfold BM.ns; rw [List.length_map]
    have lS : (shrV x).length = (showS x.held).length := by unfold shrV; rw [List.length_map]
    have p1 : 0 < m2.ps.length := List.length_pos_iff.mpr (hps2 hps)
    have p2 : 0 < m2.hs.length := List.length_pos_iff.mpr hne2
    have p3 : 0 < (showS x.held).length := List.length_pos_iff.mpr shl
    refine pC F3 p a2 b2 c2 (perV m2) (houV m2) (shrV x) _ _ _ _ _ _ _ _ _ _ _ _ hp3 g1 g2 g3 (List.length_pos_iff.mp (by omega)) (List.length_pos_iff.mp (by omega)) (List.length_pos_iff.mp (by omega)) (by omega) (by omega) (by omega) np1 np2 np3 fun F4 at' hkk => ?_
    have st4 : St CB CE F4 m2 (i + 1) := st3.kept fun z d hz h => hkk z d h (st3.ne_pur hp3 hz) (fun e => nad.1 (e ▸ hz)) (fun e => nad.2.1 (e ▸ hz)) (fun e => nad.2.2 (e ▸ hz))
    have hh4 : Hld F4 (chg m2 p) hp (hl' ++ [.lst [tcV a b c, cpV (perV m2) (houV m2) (shrV x)]]) := hh3.step fun z d hz hs => ⟨hkk z d hz (fun e => hs (.inl (.inr e))) (fun e => hs (.inr (.inl e))) (fun e => hs (.inr (.inr (.inl e)))) (fun e => hs (.inr (.inr (.inr e)))), fun q => hs (.inl q)⟩
    have tc4 : Tc F4 (fun z => chg m2 p z ∨ z = hp) a b c (perV m2) (houV m2) (shrV x) := tc3.step fun z d hz hs => ⟨hkk z d hz (fun e => hs (.inl (.inl (.inr e)))) (fun e => hs (.inl (.inr (.inl e)))) (fun e => hs (.inl (.inr (.inr (.inl e))))) (fun e => hs (.inl (.inr (.inr (.inr e))))), fun q => q.elim (fun q => hs (.inl (.inl q))) fun q => hs (.inr q)⟩
    refine pD F4 m2 (i + 1) hp p hl' x a b c names _ _ _ _ _ _ k st4 (by omega) hx hh4 tc4 fun F5 x5 => ?_
    exact hk F5 m2 _ _ (st4.ext x5) eb ev hne2 (hps2 hps) ((hh4.ext x5).step fun z d hz hs => ⟨hz, fun q => hs (.inl q)⟩) ⟨_, _, _, _, _, _, _, _, by rw [eb, ev]⟩
  rw [wpB_split 5]
  have e5 : dropS 5 (c_law rt_ rl rk rd rdr rp mb rn) = .cons (.for (.nm 6) (.lst (.bin .Add (.lst false (.cons (.cst (.int 0)) (.cons (.cst (.int 7)) (.cons (.cst (.int 2)) .nil)))) (.sl (.var 0) .nil (.cons (.cst (.int 24)) .nil)))) (forBody (dropS 5 (c_law rt_ rl rk rd rdr rp mb rn)))) (.cons (.ret (.cmp .Eq (.bi .len (.cons (.lc false (.var 12) (.nm 12) (.lst (.var 5)) (.cons (.cmpD (.ix (.var 12) (.cst (.int 0))) (.ix (.var 12) (.cst (.int 1)))) .nil)) .nil)) (.cst (.int 0)))) .nil) := rfl
  rw [e5]
  generalize forBody (dropS 5 (c_law rt_ rl rk rd rdr rp mb rn)) = B at *
  clear pA pB pC pD
  simp only [c_law, takeS, n_law, wpB, wpS, wpE, wpEs, wpT, wpTs, wpCs, wpP, wpIt, wpBl, bindT, biS, recS, start1, List.map, List.length, List.replicate, List.append_nil, List.nil_append, List.cons_append, Nat.sub_self, Nat.reduceSub, Nat.reduceAdd, List.length_cons, List.length_nil, List.getElem?_cons_zero, List.getElem?_cons_succ, List.set_cons_zero, List.set_cons_succ, setAll, wipe1, Tg.slots, binS, subS, fdivS, modS, powS, cmpS, ltS, isS, isNS, asStrs, asBls, newLs, h4, h6, h7, h7c, h8]
  refine ⟨by rw [sizeLine_eq]; decide, first_i hv0 hl fun c => ?_⟩
  refine add_int ⟨_, rfl, fun p a b hp => ⟨p, rfl, .set, fun names F1 hn1 hn2 hn3 hp1 hk1 => ?_⟩⟩
  have x1 : Ext F F1 := fun a c h => hk1 a c (ne_free h hp) (by rw [mset_ne (ne_free h hp)]; exact h)
  have wd : Wds names := ⟨hn1, hn3⟩
  obtain ⟨wa, wb, wc, e0, e1, e2, hab⟩ := words3 hn1 hn2
  have na := hn3 wa (List.mem_of_getElem? e0)
  have nb := hn3 wb (List.mem_of_getElem? e1)
  have nc := hn3 wc (List.mem_of_getElem? e2)
  intro bk hbk
  refine ⟨bk, rfl, mset_same, fun pl en F2 hpl hen bc fr2 => ⟨rfl, by rw [sizeLine_eq]; decide, fun pm hpm em hem => ⟨by rw [sizeLine_eq]; decide, ?_⟩⟩⟩
  obtain ⟨m, hmb, hmv, hm1, hm2, x2, hadr, st⟩ := book_st (CE := CE) hbk hpl hen bc fr2 hpm hem
  generalize mset (mset F2 pm (.lst [])) em (.dict []) = F3 at *
  have hv3 := ls_keep hv0 fun a c h => x2 a c (x1 a c h)
  refine ix_word (k := 0) e0 ⟨by rw [sizeLine_eq]; decide, ix_word (k := 1) e1 (ix_word (k := 0) e0 ⟨by rw [sizeLine_eq]; decide, ix_word (k := 2) e2 (ix_word (k := 1) e1 ⟨by rw [sizeLine_eq]; decide, by rw [sizeLine_eq]; decide, ?_⟩)⟩)⟩
  rw [← hmv, ← hmb]
  simp only [lsOf, forGo, wpB, wpS, wpE, wpEs, wpT, wpTs, wpCs, wpP, wpIt, wpBl, bindT, biS, recS, start1, List.map, List.length, List.replicate, List.append_nil, List.nil_append, List.cons_append, Nat.sub_self, Nat.reduceSub, Nat.reduceAdd, List.length_cons, List.length_nil, List.getElem?_cons_zero, List.getElem?_cons_succ, List.set_cons_zero, List.set_cons_succ, setAll, wipe1, Tg.slots, binS, subS, fdivS, modS, powS, cmpS, ltS, isS, isNS, asStrs, asBls, newLs]
  refine ⟨trivial, m, .person wa, 0, rfl, st, by decide, na.tx, fun F4 m4 st4 fr4 pu4 => ?_⟩
  obtain ⟨q1, q2⟩ := put0 hm2 hm1 na pu4
  simp only [truS, Bool.not_true, wpB, wpS, wpE, wpEs, wpT, wpTs, wpCs, wpP, wpIt, wpBl, bindT, biS, recS, start1, List.map, List.length, List.replicate, List.append_nil, List.nil_append, List.cons_append, Nat.sub_self, Nat.reduceSub, Nat.reduceAdd, List.length_cons, List.length_nil, List.getElem?_cons_zero, List.getElem?_cons_succ, List.set_cons_zero, List.set_cons_succ, setAll, wipe1, Tg.slots, binS, subS, fdivS, modS, powS, cmpS, ltS, isS, isNS, asStrs, asBls, newLs]
  rw [← fr4.b, ← fr4.v]
  refine ⟨trivial, m4, .house wb wa 5 3 1, 1, rfl, st4, by decide, nb.tx, fun F5 m5 st5 fr5 pu5 => ?_⟩
  have hne5 := put1 q1 q2 nb hab (by decide) pu5
  simp only [truS, Bool.not_true, wpB, wpS, wpE, wpEs, wpT, wpTs, wpCs, wpP, wpIt, wpBl, bindT, biS, recS, start1, List.map, List.length, List.replicate, List.append_nil, List.nil_append, List.cons_append, Nat.sub_self, Nat.reduceSub, Nat.reduceAdd, List.length_cons, List.length_nil, List.getElem?_cons_zero, List.getElem?_cons_succ, List.set_cons_zero, List.set_cons_succ, setAll, wipe1, Tg.slots, binS, subS, fdivS, modS, powS, cmpS, ltS, isS, isNS, asStrs, asBls, newLs]
  rw [← fr5.b, ← fr5.v]
  refine ⟨trivial, m5, .house wc wb (-2) 0 0, 2, rfl, st5, by decide, nc.tx, fun F6 m6 st6 fr6 _ => ?_⟩
  simp only [truS, Bool.not_true, wpB, wpS, wpE, wpEs, wpT, wpTs, wpCs, wpP, wpIt, wpBl, bindT, biS, recS, start1, List.map, List.length, List.replicate, List.append_nil, List.nil_append, List.cons_append, Nat.sub_self, Nat.reduceSub, Nat.reduceAdd, List.length_cons, List.length_nil, List.getElem?_cons_zero, List.getElem?_cons_succ, List.set_cons_zero, List.set_cons_succ, setAll, wipe1, Tg.slots, binS, subS, fdivS, modS, powS, cmpS, ltS, isS, isNS, asStrs, asBls, newLs]
  have hne6 := fr6.ne hne5
  have hps6 : m6.ps ≠ [] := fun e => by
    obtain ⟨l5, h5⟩ := fr5.ps
    obtain ⟨l6, h6⟩ := fr6.ps
    rw [e, h5, q1] at h6
    cases h6
  have hv6 : lsOf F6 v0 = some (ns.map .int) := ls_keep hv0 fun a c h => ((fr4.trans fr5).trans fr6).keep a c (x2 a c (x1 a c h)) fun z => by
    have h1 := hadr a z
    rw [x1 a c h] at h1
    cases h1
  rw [← fr6.b, ← fr6.v]
  refine ⟨trivial, by rw [sizeLine_eq]; decide, fun hp hhp => ?_⟩
  have x7 : Ext F6 (mset F6 hp (.lst [])) := ext_new hhp
  have nhp : ¬ m6.adr hp := fun q => by
    obtain ⟨d, e⟩ := st6.has q
    rw [hhp] at e
    cases e
  have hh7 : Hld (mset F6 hp (.lst [])) m6.adr hp [] := ⟨mset_same, nhp, fun _ h => nomatch h⟩
  have st7 := st6.ext x7
  have hv7 := ls_keep hv6 fun a c h => x7 a c h
  generalize mset F6 hp (.lst []) = F7 at *
  refine ⟨by rw [sizeLine_eq]; decide, row_i (l := [0, 7, 2]) (k := 24) hv7 (by decide) hl ?_⟩
  have hrl : (([0, 7, 2] : List Int) ++ cut ns none (some ((24 : Nat) : Int))).length ≤ 27 := by
    have hcl := cut_len ns 24
    rw [List.length_append]
    have e3 : ([0, 7, 2] : List Int).length = 3 := rfl
    omega
  generalize ([0, 7, 2] : List Int) ++ cut ns none (some ((24 : Nat) : Int)) = row at *
  dsimp only
  refine forGo_inv (fun i σ F4 => ∃ (m' : BM) (hl' : List Val) (s4 s6 s7 s8 s9 s10 s11 s12 : Option Val), σ = [some v0, some (.lst (names.map .str)), some (.ref m6.b), some m6.v, s4, some (.ref hp), s6, s7, s8, s9, s10, s11, s12] ∧ m'.b = m6.b ∧ m'.v = m6.v ∧ m'.hs ≠ [] ∧ m'.ps ≠ [] ∧ St CB CE F4 m' (3 + i) ∧ hl'.length = i ∧ Hld F4 m'.adr hp hl') (fun _ _ _ _ => by first | trivial | rfl) ?_ ?_ ⟨m6, [], _, _, _, _, _, _, _, _, rfl, rfl, rfl, hne6, hps6, st7, rfl, hh7⟩
  · rintro i w σ F4 k hw ⟨m', hl', s4, s6, s7, s8, s9, s10, s11, s12, rfl, eb, ev, hne, hps, st4, hlen, hh⟩ hk
    rw [List.getElem?_map] at hw
    obtain ⟨cell, hcell, rfl⟩ := Option.map_eq_some_iff.mp hw
    have hi : i < 27 := by
      have := (List.getElem?_eq_some_iff.mp hcell).1
      omega
    simp only [wpB, wpS, wpE, wpEs, wpT, wpTs, wpCs, wpP, wpIt, wpBl, bindT, biS, recS, start1, List.map, List.length, List.replicate, List.append_nil, List.nil_append, List.cons_append, Nat.sub_self, Nat.reduceSub, Nat.reduceAdd, List.length_cons, List.length_nil, List.getElem?_cons_zero, List.getElem?_cons_succ, List.set_cons_zero, List.set_cons_succ, setAll, wipe1, Tg.slots, binS, subS, fdivS, modS, powS, cmpS, ltS, isS, isNS, asStrs, asBls, newLs]
    rw [← eb, ← ev]
    refine body F4 m' (3 + i) hp hl' cell names s4 s7 s8 s9 s10 s11 s12 k wd st4 (by omega) hne (by omega) hps hh fun F' m'' e σ' st' eb' ev' hne' hps' hh' hσ => ?_
    obtain ⟨t4, t6, t7, t8, t9, t10, t11, t12, rfl⟩ := hσ
    exact hk _ _ ⟨m'', _, t4, t6, t7, t8, t9, t10, t11, t12, by rw [eb, ev], eb'.trans eb, ev'.trans ev, hne', hps', st', by rw [List.length_append, hlen]; rfl, hh'⟩
  · rintro σ F4 ⟨m', hl', s4, s6, s7, s8, s9, s10, s11, s12, rfl, eb, ev, hne, hps, st4, hlen, hh⟩
    simp only [wpB, wpS, wpE, wpEs, wpT, wpTs, wpCs, wpP, wpIt, wpBl, bindT, biS, recS, start1, List.map, List.length, List.replicate, List.append_nil, List.nil_append, List.cons_append, Nat.sub_self, Nat.reduceSub, Nat.reduceAdd, List.length_cons, List.length_nil, List.getElem?_cons_zero, List.getElem?_cons_succ, List.set_cons_zero, List.set_cons_succ, setAll, wipe1, Tg.slots, binS, subS, fdivS, modS, powS, cmpS, ltS, isS, isNS, asStrs, asBls, newLs]
    simp only [hh.hc]
    refine lcGo_inv (fun i acc F1 => F1 = F4 ∧ acc = []) (by rw [hlen, List.length_map, sizeLine_eq]; omega) (fun _ _ _ h => by rw [h.1]; simp only [hh.hc]) ?_ ?_ ⟨rfl, rfl⟩
    · rintro i w acc F1 k hw ⟨rfl, rfl⟩ _ hk2
      obtain ⟨a, b, c, va, vb, vc, rfl, t⟩ := hh.es w (List.mem_of_getElem? hw)
      try simp only [wpB, wpS, wpE, wpEs, wpT, wpTs, wpCs, wpP, wpIt, wpBl, bindT, biS, recS, start1, List.map, List.length, List.replicate, List.append_nil, List.nil_append, List.cons_append, Nat.sub_self, Nat.reduceSub, Nat.reduceAdd, List.length_cons, List.length_nil, List.getElem?_cons_zero, List.getElem?_cons_succ, List.set_cons_zero, List.set_cons_succ, setAll, wipe1, Tg.slots, binS, subS, fdivS, modS, powS, cmpS, ltS, isS, isNS, asStrs, asBls, newLs]
      refine ix_list (vs := [tcV a b c, cpV va vb vc]) rfl (by decide) rfl (ix_list (vs := [tcV a b c, cpV va vb vc]) rfl (by decide) rfl ?_)
      refine neD_same (v := cpV va vb vc) (t.rd 2) (rdD_still 4 5 (cpV_ok t.da t.db t.dc 0)) (cpV_ok t.da t.db t.dc 55) ?_
      exact hk2 _ ⟨rfl, rfl⟩
    · rintro acc F1 ⟨rfl, rfl⟩
      refine len_ls (vs := []) rfl (eqS_i ?_)
      exact hq _
end Bv

set_option pp.maxSteps 100
/-! Every def's promise, and the law. -/
namespace Bv
open PySem L2 PyProof.Rows
abbrev Gm (P : Program) (w : World) (K : PySem.W.Frag) (mg : Str → Option Value) (base : Heap) (k : Nat) : Amb := ⟨P, w, K, mg, base, k⟩
section
variable {P : Program} {w : World} {K : PySem.W.Frag} {mg : Str → Option Value} {base : Heap}
def mkCall {x : Str} {sp : Spec} {f : Addr} {fd : FuncData} {ps : List Str} {j : Nat} (k : Nat) (hj : j ≤ k) (hm : mg x = some (.ref f)) (hk : PySem.W.keepIn K (.ref f) = true) (hb : Binds K fd ps []) (O : FnOk P w K mg base (L2.CX P w) j f fd ps (liftSp K sp)) : CallR1 (Gm P w K mg base k) x :=
  ⟨sp, f, fd, ps, j, hj, hm, hk, hb, O⟩
def mkMeth {m : Str} {sp : Spec} {C f : Addr} {fd : FuncData} {ps : List Str} {j : Nat} (k : Nat) (cl : Cls K C) (hj : j ≤ k) (hm : Meth K C m f) (hb : Binds K fd ps []) (O : FnOk P w K mg base (L2.CX P w) j f fd ps (liftSp K sp)) : MethR (Gm P w K mg base k) m :=
  ⟨C, sp, cl, f, fd, ps, j, hj, hm, hb, O⟩
def mkNew {x : Str} {sp : Spec} {C f : Addr} {fd : FuncData} {ps : List Str} {j : Nat} (k : Nat) (hj : j + 1 ≤ k) (hm : Mk K C f) (hx : mg x = some (.ref C)) (hb : Binds K fd ps []) (O : FnOk P w K mg base (L2.CX P w) j f fd ps (liftSp K sp)) : MkR (Gm P w K mg base k) x :=
  ⟨C, sp, f, fd, ps, j, hj, hm, hx, hb, O⟩
def mkFld {f : Str} {C : Addr} (k : Nat) (cl : Cls K C) (no : NoAttr K C f) : FldR (Gm P w K mg base k) f := ⟨C, cl, no⟩
def mkRai {x : Str} {C : Addr} (k : Nat) (h1 : PySem.W.excIn K C [.type "ValueError", .type "Exception", .type "BaseException", .type "object"] "ValueError.__new__" = true) (h2 : mg x = some (.ref C)) (h3 : PySem.W.keepIn K (.ref C) = true) (h4 : PySem.W.subIn K (.ref C) (.type "BaseException") = some true) (h5 : PySem.W.typeIn K (.ref C) = some (.type "type")) : RaiR (Gm P w K mg base k) x := ⟨C, h1, h2, h3, h4, h5⟩
def mkGlS {x : Str} {z : Str} {tk : Tok} (k : Nat) (h : mg x = some (.str z tk)) : GlR (Gm P w K mg base k) x := ⟨.str z, .str z tk, .str z, h, ⟨tk, rfl⟩, fun _ => .str z⟩
def mkGlI {x : Str} {i : Int} {tk : Tok} (k : Nat) (h : mg x = some (.int i tk)) : GlR (Gm P w K mg base k) x := ⟨.int i, .int i tk, .int i, h, ⟨tk, rfl⟩, fun _ => .int i⟩
def mkIs {x : Str} {C : Addr} (k : Nat) (h : mg x = some (.ref C)) : IsR (Gm P w K mg base k) x := ⟨.ref C, .ref C, rfl, .own C, .inl h, fun t => PySem.W.kitOne K t (.ref C), fun _ _ h => h⟩
def mkIsT {x : Str} {n : String} (k : Nat) (h : mg x = none) (h2 : bootBuiltins x = some (.type n)) (h3 : x ≠ "__name__") : IsR (Gm P w K mg base k) x := ⟨.type n, .ty n, rfl, .ty n, .inr ⟨h, h2, h3⟩, fun t => PySem.W.kitOne K t (.type n), fun _ _ h => h⟩
def mkEx {x : Str} {C : Addr} (k : Nat) (h : mg x = some (.ref C)) : ExR (Gm P w K mg base k) x := ⟨C, h, fun D => PySem.W.exmOne K (.ref D) (.ref C), fun _ _ h => h⟩
theorem fn_no {f : Addr} {fd : FuncData} {ps : List Str} (_ : Binds K fd ps []) {CX : CXT} {j : Nat} : FnOk P w K mg base CX j f fd ps (liftSp K fun _ _ _ _ => False) :=
  ⟨fun vs H Q E h => by obtain ⟨B, N, F, as, Q0, E0, o, d, w, _, _⟩ := h; exact w.elim, fun A outer s H args us vs Q E hr he hb hv h => by obtain ⟨B, N, F, as, Q0, E0, o, d, w, _, _⟩ := h; exact w.elim⟩
theorem kit_cls {t : Value} {C : Addr} {b : Bool} (h1 : PySem.W.isClsIn K C = true) (h2 : PySem.W.typeIn K (.ref C) = some (.type "type")) (h3 : PySem.W.subIn K t (.ref C) = some b) : PySem.W.kitCls K t (.ref C) = some b := by
  have h1' : (PySem.W.clsIn K C).isSome = true := h1
  show (if ((PySem.W.clsIn K C).isSome && PySem.W.typeIn K (.ref C) == some (.type "type")) = true then PySem.W.subIn K t (.ref C) else none) = some b
  rw [if_pos (by rw [h1', h2]; rfl)]
  exact h3
theorem kit_own {D C : Addr} {b : Bool} (ne : (Value.ref D == Value.ref C) = false) (h1 : PySem.W.isClsIn K C = true) (h2 : PySem.W.typeIn K (.ref C) = some (.type "type")) (h3 : PySem.W.subIn K (.ref D) (.ref C) = some b) : PySem.W.kitOne K (.ref D) (.ref C) = some b := by
  unfold PySem.W.kitOne
  rw [if_neg (by rw [ne]; exact Bool.false_ne_true)]
  exact kit_cls h1 h2 h3
theorem kit_self {D : Addr} : PySem.W.kitOne K (.ref D) (.ref D) = some true := by
  unfold PySem.W.kitOne
  rw [if_pos (by simp)]
theorem kit_ty {D : Addr} {n : String} {b : Bool} (h1 : PySem.W.kitMeta n = true) (h3 : PySem.W.subIn K (.ref D) (.type n) = some b) : PySem.W.kitOne K (.ref D) (.type n) = some b := by
  unfold PySem.W.kitOne
  have ne : (Value.ref D == Value.type n) = false := rfl
  rw [if_neg (by rw [ne]; exact Bool.false_ne_true)]
  show (if PySem.W.kitMeta n = true then PySem.W.subIn K (.ref D) (.type n) else none) = some b
  rw [if_pos h1]
  exact h3
theorem kit_tt {m n : String} {b : Bool} (ne : (Value.type m == Value.type n) = false) (h1 : PySem.W.kitMeta n = true) (h3 : (fastBuiltinMro m).map (·.contains (.type n)) = some b) : PySem.W.kitOne K (.type m) (.type n) = some b := by
  unfold PySem.W.kitOne
  rw [if_neg (by rw [ne]; exact Bool.false_ne_true)]
  show (if PySem.W.kitMeta n = true then PySem.W.subIn K (.type m) (.type n) else none) = some b
  rw [if_pos h1]
  exact h3
theorem kit_tyself {n : String} : PySem.W.kitOne K (.type n) (.type n) = some true := by
  unfold PySem.W.kitOne
  rw [if_pos (by simp)]
theorem exm_own {D C : Addr} (h0 : PySem.W.subIn K (.ref C) (.type "BaseException") = some true) (h1 : PySem.W.isClsIn K C = true) (h2 : PySem.W.typeIn K (.ref C) = some (.type "type")) (h3 : PySem.W.subIn K (.ref D) (.ref C) = some true) : PySem.W.exmOne K (.ref D) (.ref C) = some true := by
  unfold PySem.W.exmOne
  rw [if_pos (by rw [h0]; rfl)]
  exact kit_cls h1 h2 h3
end
theorem all_fns {P : Program} {w : World} {K : PySem.W.Frag} {h : Heap} {mg : Str → Option Value} {fa : Addr} (X : K.In h) (G : h.Ns mainGlobals mg) (hfa : mg "law" = some (.ref fa))
    {CB CE C_NoHolder C_NoHouse C_NoLoss C_NoName C_NoShare C_NoText C_OwnError C_TooMany C_Twice C_Whole : Addr} {f0 f1 f2 f3 f4 f5 f6 f7 f8 f9 f10 f11 f12 f13 f14 f15 f16 f17 f18 f19 f20 f21 f22 f23 f24 f25 f26 f27 f28 f29 f30 f31 f32 f33 f34 f35 f36 f37 f38 f39 f40 f41 f42 f43 f44 f45 f46 f47 f48 : Addr}
    {od0 an0 od1 an1 od2 an2 od3 an3 od4 an4 od5 an5 od6 an6 od7 an7 od8 an8 od9 an9 od10 an10 od11 an11 od12 an12 od13 an13 od14 an14 od15 an15 od16 an16 od17 an17 od18 an18 od19 an19 od20 an20 od21 an21 od22 an22 od23 an23 od24 an24 od25 an25 od26 an26 od27 an27 od28 an28 od29 an29 od30 an30 od31 an31 od32 an32 od33 an33 od34 an34 od35 an35 od36 an36 od37 an37 od38 an38 od39 an39 od40 an40 od41 an41 od42 an42 od43 an43 od44 an44 od45 an45 od46 an46 od47 an47 od48 an48 : Option Addr} {sl0 sl1 sl2 sl3 sl4 sl5 sl6 sl7 sl8 sl9 sl10 sl11 sl12 sl13 sl14 sl15 sl16 sl17 sl18 sl19 sl20 sl21 sl22 sl23 sl24 sl25 sl26 sl27 sl28 sl29 sl30 sl31 sl32 sl33 sl34 sl35 sl36 sl37 sl38 sl39 sl40 sl41 sl42 sl43 sl44 sl45 sl46 sl47 sl48 : Array (Option Value)} {oc0 kV0 dc0 pm0 cd0 ct0 oc1 kV1 dc1 pm1 cd1 ct1 oc2 kV2 dc2 pm2 cd2 ct2 oc3 kV3 dc3 pm3 cd3 ct3 oc4 kV4 dc4 pm4 cd4 ct4 oc5 kV5 dc5 pm5 cd5 ct5 oc6 kV6 dc6 pm6 cd6 ct6 oc7 kV7 dc7 pm7 cd7 ct7 oc8 kV8 dc8 pm8 cd8 ct8 oc9 kV9 dc9 pm9 cd9 ct9 oc10 kV10 dc10 pm10 cd10 ct10 oc11 kV11 dc11 pm11 cd11 ct11 oc12 kV12 dc12 pm12 cd12 ct12 oc13 kV13 dc13 pm13 cd13 ct13 oc14 kV14 dc14 pm14 cd14 ct14 oc15 kV15 dc15 pm15 cd15 ct15 oc16 kV16 dc16 pm16 cd16 ct16 oc17 kV17 dc17 pm17 cd17 ct17 oc18 kV18 dc18 pm18 cd18 ct18 oc19 kV19 dc19 pm19 cd19 ct19 oc20 kV20 dc20 pm20 cd20 ct20 oc21 kV21 dc21 pm21 cd21 ct21 oc22 kV22 dc22 pm22 cd22 ct22 oc23 kV23 dc23 pm23 cd23 ct23 oc24 kV24 dc24 pm24 cd24 ct24 oc25 kV25 dc25 pm25 cd25 ct25 oc26 kV26 dc26 pm26 cd26 ct26 oc27 kV27 dc27 pm27 cd27 ct27 oc28 kV28 dc28 pm28 cd28 ct28 oc29 kV29 dc29 pm29 cd29 ct29 oc30 kV30 dc30 pm30 cd30 ct30 oc31 kV31 dc31 pm31 cd31 ct31 oc32 kV32 dc32 pm32 cd32 ct32 oc33 kV33 dc33 pm33 cd33 ct33 oc34 kV34 dc34 pm34 cd34 ct34 oc35 kV35 dc35 pm35 cd35 ct35 oc36 kV36 dc36 pm36 cd36 ct36 oc37 kV37 dc37 pm37 cd37 ct37 oc38 kV38 dc38 pm38 cd38 ct38 oc39 kV39 dc39 pm39 cd39 ct39 oc40 kV40 dc40 pm40 cd40 ct40 oc41 kV41 dc41 pm41 cd41 ct41 oc42 kV42 dc42 pm42 cd42 ct42 oc43 kV43 dc43 pm43 cd43 ct43 oc44 kV44 dc44 pm44 cd44 ct44 oc45 kV45 dc45 pm45 cd45 ct45 oc46 kV46 dc46 pm46 cd46 ct46 oc47 kV47 dc47 pm47 cd47 ct47 oc48 kV48 dc48 pm48 cd48 ct48 : Value}
    {zL : Str} {tkL tkP tkH : Tok}
    (aCB : PySem.W.nsIn K mainGlobals "Book" = some (some (.ref CB)))
    (aCE : PySem.W.nsIn K mainGlobals "Entry" = some (some (.ref CE)))
    (aC_NoHolder : PySem.W.nsIn K mainGlobals "NoHolder" = some (some (.ref C_NoHolder)))
    (aC_NoHouse : PySem.W.nsIn K mainGlobals "NoHouse" = some (some (.ref C_NoHouse)))
    (aC_NoLoss : PySem.W.nsIn K mainGlobals "NoLoss" = some (some (.ref C_NoLoss)))
    (aC_NoName : PySem.W.nsIn K mainGlobals "NoName" = some (some (.ref C_NoName)))
    (aC_NoShare : PySem.W.nsIn K mainGlobals "NoShare" = some (some (.ref C_NoShare)))
    (aC_NoText : PySem.W.nsIn K mainGlobals "NoText" = some (some (.ref C_NoText)))
    (aC_OwnError : PySem.W.nsIn K mainGlobals "OwnError" = some (some (.ref C_OwnError)))
    (aC_TooMany : PySem.W.nsIn K mainGlobals "TooMany" = some (some (.ref C_TooMany)))
    (aC_Twice : PySem.W.nsIn K mainGlobals "Twice" = some (some (.ref C_Twice)))
    (aC_Whole : PySem.W.nsIn K mainGlobals "Whole" = some (some (.ref C_Whole)))
    (a0 : PySem.W.nsIn K mainGlobals "divisor" = some (some (.ref f0)))
    (l0 : K.lookup f0 = some ⟨oc0, od0, .func (PySem.W.fnOf "divisor" "divisor" (defArgs s_divisor) (defBody s_divisor) (defScope s_divisor) .none kV0 dc0 pm0 an0 cd0 ct0), sl0⟩)
    (c0 : PySem.W.codeIn K cd0 "divisor" = true)
    (k0 : PySem.W.keepIn K (.ref f0) = true)
    (a1 : PySem.W.nsIn K mainGlobals "is_less" = some (some (.ref f1)))
    (l1 : K.lookup f1 = some ⟨oc1, od1, .func (PySem.W.fnOf "is_less" "is_less" (defArgs s_is_less) (defBody s_is_less) (defScope s_is_less) .none kV1 dc1 pm1 an1 cd1 ct1), sl1⟩)
    (c1 : PySem.W.codeIn K cd1 "is_less" = true)
    (k1 : PySem.W.keepIn K (.ref f1) = true)
    (a2 : PySem.W.nsIn K mainGlobals "is_name" = some (some (.ref f2)))
    (l2 : K.lookup f2 = some ⟨oc2, od2, .func (PySem.W.fnOf "is_name" "is_name" (defArgs s_is_name) (defBody s_is_name) (defScope s_is_name) .none kV2 dc2 pm2 an2 cd2 ct2), sl2⟩)
    (c2 : PySem.W.codeIn K cd2 "is_name" = true)
    (k2 : PySem.W.keepIn K (.ref f2) = true)
    (a3 : PySem.W.nsIn K mainGlobals "must_loss" = some (some (.ref f3)))
    (l3 : K.lookup f3 = some ⟨oc3, od3, .func (PySem.W.fnOf "must_loss" "must_loss" (defArgs s_must_loss) (defBody s_must_loss) (defScope s_must_loss) .none kV3 dc3 pm3 an3 cd3 ct3), sl3⟩)
    (c3 : PySem.W.codeIn K cd3 "must_loss" = true)
    (k3 : PySem.W.keepIn K (.ref f3) = true)
    (a4 : PySem.W.findIn K (.ref CE) "__init__" = some (some (.ref f4)))
    (i4 : PySem.W.isFn K (.ref f4) = true)
    (l4 : K.lookup f4 = some ⟨oc4, od4, .func (PySem.W.fnOf "__init__" "Entry.__init__" (defArgs s_Entry_init) (defBody s_Entry_init) (defScope s_Entry_init) .none kV4 dc4 pm4 an4 cd4 ct4), sl4⟩)
    (c4 : PySem.W.codeIn K cd4 "Entry.__init__" = true)
    (k4 : PySem.W.keepIn K (.ref f4) = true)
    (a5 : PySem.W.findIn K (.ref CB) "__init__" = some (some (.ref f5)))
    (i5 : PySem.W.isFn K (.ref f5) = true)
    (l5 : K.lookup f5 = some ⟨oc5, od5, .func (PySem.W.fnOf "__init__" "Book.__init__" (defArgs s_Book_init) (defBody s_Book_init) (defScope s_Book_init) .none kV5 dc5 pm5 an5 cd5 ct5), sl5⟩)
    (c5 : PySem.W.codeIn K cd5 "Book.__init__" = true)
    (k5 : PySem.W.keepIn K (.ref f5) = true)
    (a6 : PySem.W.findIn K (.ref CB) "must_hold" = some (some (.ref f6)))
    (i6 : PySem.W.isFn K (.ref f6) = true)
    (l6 : K.lookup f6 = some ⟨oc6, od6, .func (PySem.W.fnOf "must_hold" "Book.must_hold" (defArgs s_Book_must_hold) (defBody s_Book_must_hold) (defScope s_Book_must_hold) .none kV6 dc6 pm6 an6 cd6 ct6), sl6⟩)
    (c6 : PySem.W.codeIn K cd6 "Book.must_hold" = true)
    (k6 : PySem.W.keepIn K (.ref f6) = true)
    (a7 : PySem.W.findIn K (.ref CB) "entry_of" = some (some (.ref f7)))
    (i7 : PySem.W.isFn K (.ref f7) = true)
    (l7 : K.lookup f7 = some ⟨oc7, od7, .func (PySem.W.fnOf "entry_of" "Book.entry_of" (defArgs s_Book_entry_of) (defBody s_Book_entry_of) (defScope s_Book_entry_of) .none kV7 dc7 pm7 an7 cd7 ct7), sl7⟩)
    (c7 : PySem.W.codeIn K cd7 "Book.entry_of" = true)
    (k7 : PySem.W.keepIn K (.ref f7) = true)
    (a8 : PySem.W.findIn K (.ref CB) "houses" = some (some (.ref f8)))
    (i8 : PySem.W.isFn K (.ref f8) = true)
    (l8 : K.lookup f8 = some ⟨oc8, od8, .func (PySem.W.fnOf "houses" "Book.houses" (defArgs s_Book_houses) (defBody s_Book_houses) (defScope s_Book_houses) .none kV8 dc8 pm8 an8 cd8 ct8), sl8⟩)
    (c8 : PySem.W.codeIn K cd8 "Book.houses" = true)
    (k8 : PySem.W.keepIn K (.ref f8) = true)
    (a9 : PySem.W.findIn K (.ref CB) "persons" = some (some (.ref f9)))
    (i9 : PySem.W.isFn K (.ref f9) = true)
    (l9 : K.lookup f9 = some ⟨oc9, od9, .func (PySem.W.fnOf "persons" "Book.persons" (defArgs s_Book_persons) (defBody s_Book_persons) (defScope s_Book_persons) .none kV9 dc9 pm9 an9 cd9 ct9), sl9⟩)
    (c9 : PySem.W.codeIn K cd9 "Book.persons" = true)
    (k9 : PySem.W.keepIn K (.ref f9) = true)
    (a10 : PySem.W.nsIn K mainGlobals "_law_purse" = some (some (.ref f10)))
    (l10 : K.lookup f10 = some ⟨oc10, od10, .func (PySem.W.fnOf "_law_purse" "_law_purse" (defArgs s_l_purse) (defBody s_l_purse) (defScope s_l_purse) .none kV10 dc10 pm10 an10 cd10 ct10), sl10⟩)
    (c10 : PySem.W.codeIn K cd10 "_law_purse" = true)
    (k10 : PySem.W.keepIn K (.ref f10) = true)
    (a11 : PySem.W.nsIn K mainGlobals "_law_take" = some (some (.ref f11)))
    (l11 : K.lookup f11 = some ⟨oc11, od11, .func (PySem.W.fnOf "_law_take" "_law_take" (defArgs s_l_take) (defBody s_l_take) (defScope s_l_take) .none kV11 dc11 pm11 an11 cd11 ct11), sl11⟩)
    (c11 : PySem.W.codeIn K cd11 "_law_take" = true)
    (k11 : PySem.W.keepIn K (.ref f11) = true)
    (a12 : PySem.W.nsIn K mainGlobals "_law_divisor" = some (some (.ref f12)))
    (l12 : K.lookup f12 = some ⟨oc12, od12, .func (PySem.W.fnOf "_law_divisor" "_law_divisor" (defArgs s_l_divisor) (defBody s_l_divisor) (defScope s_l_divisor) .none kV12 dc12 pm12 an12 cd12 ct12), sl12⟩)
    (c12 : PySem.W.codeIn K cd12 "_law_divisor" = true)
    (k12 : PySem.W.keepIn K (.ref f12) = true)
    (a13 : PySem.W.nsIn K mainGlobals "_law_lesser" = some (some (.ref f13)))
    (l13 : K.lookup f13 = some ⟨oc13, od13, .func (PySem.W.fnOf "_law_lesser" "_law_lesser" (defArgs s_l_lesser) (defBody s_l_lesser) (defScope s_l_lesser) .none kV13 dc13 pm13 an13 cd13 ct13), sl13⟩)
    (c13 : PySem.W.codeIn K cd13 "_law_lesser" = true)
    (k13 : PySem.W.keepIn K (.ref f13) = true)
    (a14 : PySem.W.nsIn K mainGlobals "_law_is_name" = some (some (.ref f14)))
    (l14 : K.lookup f14 = some ⟨oc14, od14, .func (PySem.W.fnOf "_law_is_name" "_law_is_name" (defArgs s_l_is_name) (defBody s_l_is_name) (defScope s_l_is_name) .none kV14 dc14 pm14 an14 cd14 ct14), sl14⟩)
    (c14 : PySem.W.codeIn K cd14 "_law_is_name" = true)
    (k14 : PySem.W.keepIn K (.ref f14) = true)
    (a15 : PySem.W.nsIn K mainGlobals "_law_which" = some (some (.ref f15)))
    (l15 : K.lookup f15 = some ⟨oc15, od15, .func (PySem.W.fnOf "_law_which" "_law_which" (defArgs s_l_which) (defBody s_l_which) (defScope s_l_which) .none kV15 dc15 pm15 an15 cd15 ct15), sl15⟩)
    (c15 : PySem.W.codeIn K cd15 "_law_which" = true)
    (k15 : PySem.W.keepIn K (.ref f15) = true)
    (a16 : PySem.W.nsIn K mainGlobals "_law_shares" = some (some (.ref f16)))
    (l16 : K.lookup f16 = some ⟨oc16, od16, .func (PySem.W.fnOf "_law_shares" "_law_shares" (defArgs s_l_shares) (defBody s_l_shares) (defScope s_l_shares) .none kV16 dc16 pm16 an16 cd16 ct16), sl16⟩)
    (c16 : PySem.W.codeIn K cd16 "_law_shares" = true)
    (k16 : PySem.W.keepIn K (.ref f16) = true)
    (a17 : PySem.W.nsIn K mainGlobals "_law_whole" = some (some (.ref f17)))
    (l17 : K.lookup f17 = some ⟨oc17, od17, .func (PySem.W.fnOf "_law_whole" "_law_whole" (defArgs s_l_whole) (defBody s_l_whole) (defScope s_l_whole) .none kV17 dc17 pm17 an17 cd17 ct17), sl17⟩)
    (c17 : PySem.W.codeIn K cd17 "_law_whole" = true)
    (k17 : PySem.W.keepIn K (.ref f17) = true)
    (a18 : PySem.W.nsIn K mainGlobals "made" = some (some (.ref f18)))
    (l18 : K.lookup f18 = some ⟨oc18, od18, .func (PySem.W.fnOf "made" "made" (defArgs s_made) (defBody s_made) (defScope s_made) .none kV18 dc18 pm18 an18 cd18 ct18), sl18⟩)
    (c18 : PySem.W.codeIn K cd18 "made" = true)
    (k18 : PySem.W.keepIn K (.ref f18) = true)
    (a19 : PySem.W.findIn K (.ref CB) "must_be_new" = some (some (.ref f19)))
    (i19 : PySem.W.isFn K (.ref f19) = true)
    (l19 : K.lookup f19 = some ⟨oc19, od19, .func (PySem.W.fnOf "must_be_new" "Book.must_be_new" (defArgs s_Book_must_be_new) (defBody s_Book_must_be_new) (defScope s_Book_must_be_new) .none kV19 dc19 pm19 an19 cd19 ct19), sl19⟩)
    (c19 : PySem.W.codeIn K cd19 "Book.must_be_new" = true)
    (k19 : PySem.W.keepIn K (.ref f19) = true)
    (a20 : PySem.W.findIn K (.ref CB) "put_number" = some (some (.ref f20)))
    (i20 : PySem.W.isFn K (.ref f20) = true)
    (l20 : K.lookup f20 = some ⟨oc20, od20, .func (PySem.W.fnOf "put_number" "Book.put_number" (defArgs s_Book_put_number) (defBody s_Book_put_number) (defScope s_Book_put_number) .none kV20 dc20 pm20 an20 cd20 ct20), sl20⟩)
    (c20 : PySem.W.codeIn K cd20 "Book.put_number" = true)
    (k20 : PySem.W.keepIn K (.ref f20) = true)
    (a21 : PySem.W.findIn K (.ref CB) "shares" = some (some (.ref f21)))
    (i21 : PySem.W.isFn K (.ref f21) = true)
    (l21 : K.lookup f21 = some ⟨oc21, od21, .func (PySem.W.fnOf "shares" "Book.shares" (defArgs s_Book_shares) (defBody s_Book_shares) (defScope s_Book_shares) .none kV21 dc21 pm21 an21 cd21 ct21), sl21⟩)
    (c21 : PySem.W.codeIn K cd21 "Book.shares" = true)
    (k21 : PySem.W.keepIn K (.ref f21) = true)
    (a22 : PySem.W.findIn K (.ref CB) "of" = some (some (.ref f22)))
    (i22 : PySem.W.isFn K (.ref f22) = true)
    (l22 : K.lookup f22 = some ⟨oc22, od22, .func (PySem.W.fnOf "of" "Book.of" (defArgs s_Book_of) (defBody s_Book_of) (defScope s_Book_of) .none kV22 dc22 pm22 an22 cd22 ct22), sl22⟩)
    (c22 : PySem.W.codeIn K cd22 "Book.of" = true)
    (k22 : PySem.W.keepIn K (.ref f22) = true)
    (a23 : PySem.W.nsIn K mainGlobals "_law_lowest" = some (some (.ref f23)))
    (l23 : K.lookup f23 = some ⟨oc23, od23, .func (PySem.W.fnOf "_law_lowest" "_law_lowest" (defArgs s_l_lowest) (defBody s_l_lowest) (defScope s_l_lowest) .none kV23 dc23 pm23 an23 cd23 ct23), sl23⟩)
    (c23 : PySem.W.codeIn K cd23 "_law_lowest" = true)
    (k23 : PySem.W.keepIn K (.ref f23) = true)
    (a24 : PySem.W.nsIn K mainGlobals "_law_names" = some (some (.ref f24)))
    (l24 : K.lookup f24 = some ⟨oc24, od24, .func (PySem.W.fnOf "_law_names" "_law_names" (defArgs s_l_names) (defBody s_l_names) (defScope s_l_names) .none kV24 dc24 pm24 an24 cd24 ct24), sl24⟩)
    (c24 : PySem.W.codeIn K cd24 "_law_names" = true)
    (k24 : PySem.W.keepIn K (.ref f24) = true)
    (a25 : PySem.W.nsIn K mainGlobals "_law_refusal" = some (some (.ref f25)))
    (l25 : K.lookup f25 = some ⟨oc25, od25, .func (PySem.W.fnOf "_law_refusal" "_law_refusal" (defArgs s_l_refusal) (defBody s_l_refusal) (defScope s_l_refusal) .none kV25 dc25 pm25 an25 cd25 ct25), sl25⟩)
    (c25 : PySem.W.codeIn K cd25 "_law_refusal" = true)
    (k25 : PySem.W.keepIn K (.ref f25) = true)
    (a26 : PySem.W.nsIn K mainGlobals "_law_one" = some (some (.ref f26)))
    (l26 : K.lookup f26 = some ⟨oc26, od26, .func (PySem.W.fnOf "_law_one" "_law_one" (defArgs s_l_one) (defBody s_l_one) (defScope s_l_one) .none kV26 dc26 pm26 an26 cd26 ct26), sl26⟩)
    (c26 : PySem.W.codeIn K cd26 "_law_one" = true)
    (k26 : PySem.W.keepIn K (.ref f26) = true)
    (a27 : PySem.W.nsIn K mainGlobals "_law_number" = some (some (.ref f27)))
    (l27 : K.lookup f27 = some ⟨oc27, od27, .func (PySem.W.fnOf "_law_number" "_law_number" (defArgs s_l_number) (defBody s_l_number) (defScope s_l_number) .none kV27 dc27 pm27 an27 cd27 ct27), sl27⟩)
    (c27 : PySem.W.codeIn K cd27 "_law_number" = true)
    (k27 : PySem.W.keepIn K (.ref f27) = true)
    (a28 : PySem.W.nsIn K mainGlobals "added" = some (some (.ref f28)))
    (l28 : K.lookup f28 = some ⟨oc28, od28, .func (PySem.W.fnOf "added" "added" (defArgs s_added) (defBody s_added) (defScope s_added) .none kV28 dc28 pm28 an28 cd28 ct28), sl28⟩)
    (c28 : PySem.W.codeIn K cd28 "added" = true)
    (k28 : PySem.W.keepIn K (.ref f28) = true)
    (a29 : PySem.W.nsIn K mainGlobals "minus" = some (some (.ref f29)))
    (l29 : K.lookup f29 = some ⟨oc29, od29, .func (PySem.W.fnOf "minus" "minus" (defArgs s_minus) (defBody s_minus) (defScope s_minus) .none kV29 dc29 pm29 an29 cd29 ct29), sl29⟩)
    (c29 : PySem.W.codeIn K cd29 "minus" = true)
    (k29 : PySem.W.keepIn K (.ref f29) = true)
    (a30 : PySem.W.findIn K (.ref CB) "person" = some (some (.ref f30)))
    (i30 : PySem.W.isFn K (.ref f30) = true)
    (l30 : K.lookup f30 = some ⟨oc30, od30, .func (PySem.W.fnOf "person" "Book.person" (defArgs s_Book_person) (defBody s_Book_person) (defScope s_Book_person) .none kV30 dc30 pm30 an30 cd30 ct30), sl30⟩)
    (c30 : PySem.W.codeIn K cd30 "Book.person" = true)
    (k30 : PySem.W.keepIn K (.ref f30) = true)
    (a31 : PySem.W.findIn K (.ref CB) "house" = some (some (.ref f31)))
    (i31 : PySem.W.isFn K (.ref f31) = true)
    (l31 : K.lookup f31 = some ⟨oc31, od31, .func (PySem.W.fnOf "house" "Book.house" (defArgs s_Book_house) (defBody s_Book_house) (defScope s_Book_house) .none kV31 dc31 pm31 an31 cd31 ct31), sl31⟩)
    (c31 : PySem.W.codeIn K cd31 "Book.house" = true)
    (k31 : PySem.W.keepIn K (.ref f31) = true)
    (a32 : PySem.W.findIn K (.ref CB) "things" = some (some (.ref f32)))
    (i32 : PySem.W.isFn K (.ref f32) = true)
    (l32 : K.lookup f32 = some ⟨oc32, od32, .func (PySem.W.fnOf "things" "Book.things" (defArgs s_Book_things) (defBody s_Book_things) (defScope s_Book_things) .none kV32 dc32 pm32 an32 cd32 ct32), sl32⟩)
    (c32 : PySem.W.codeIn K cd32 "Book.things" = true)
    (k32 : PySem.W.keepIn K (.ref f32) = true)
    (a33 : PySem.W.findIn K (.ref CB) "mark" = some (some (.ref f33)))
    (i33 : PySem.W.isFn K (.ref f33) = true)
    (l33 : K.lookup f33 = some ⟨oc33, od33, .func (PySem.W.fnOf "mark" "Book.mark" (defArgs s_Book_mark) (defBody s_Book_mark) (defScope s_Book_mark) .none kV33 dc33 pm33 an33 cd33 ct33), sl33⟩)
    (c33 : PySem.W.codeIn K cd33 "Book.mark" = true)
    (k33 : PySem.W.keepIn K (.ref f33) = true)
    (a34 : PySem.W.findIn K (.ref CB) "loss" = some (some (.ref f34)))
    (i34 : PySem.W.isFn K (.ref f34) = true)
    (l34 : K.lookup f34 = some ⟨oc34, od34, .func (PySem.W.fnOf "loss" "Book.loss" (defArgs s_Book_loss) (defBody s_Book_loss) (defScope s_Book_loss) .none kV34 dc34 pm34 an34 cd34 ct34), sl34⟩)
    (c34 : PySem.W.codeIn K cd34 "Book.loss" = true)
    (k34 : PySem.W.keepIn K (.ref f34) = true)
    (a35 : PySem.W.nsIn K mainGlobals "_law_plus" = some (some (.ref f35)))
    (l35 : K.lookup f35 = some ⟨oc35, od35, .func (PySem.W.fnOf "_law_plus" "_law_plus" (defArgs s_l_plus) (defBody s_l_plus) (defScope s_l_plus) .none kV35 dc35 pm35 an35 cd35 ct35), sl35⟩)
    (c35 : PySem.W.codeIn K cd35 "_law_plus" = true)
    (k35 : PySem.W.keepIn K (.ref f35) = true)
    (a36 : PySem.W.nsIn K mainGlobals "_law_times" = some (some (.ref f36)))
    (l36 : K.lookup f36 = some ⟨oc36, od36, .func (PySem.W.fnOf "_law_times" "_law_times" (defArgs s_l_times) (defBody s_l_times) (defScope s_l_times) .none kV36 dc36 pm36 an36 cd36 ct36), sl36⟩)
    (c36 : PySem.W.codeIn K cd36 "_law_times" = true)
    (k36 : PySem.W.keepIn K (.ref f36) = true)
    (a37 : PySem.W.nsIn K mainGlobals "_law_lists" = some (some (.ref f37)))
    (l37 : K.lookup f37 = some ⟨oc37, od37, .func (PySem.W.fnOf "_law_lists" "_law_lists" (defArgs s_l_lists) (defBody s_l_lists) (defScope s_l_lists) .none kV37 dc37 pm37 an37 cd37 ct37), sl37⟩)
    (c37 : PySem.W.codeIn K cd37 "_law_lists" = true)
    (k37 : PySem.W.keepIn K (.ref f37) = true)
    (a38 : PySem.W.findIn K (.ref CB) "sale" = some (some (.ref f38)))
    (i38 : PySem.W.isFn K (.ref f38) = true)
    (l38 : K.lookup f38 = some ⟨oc38, od38, .func (PySem.W.fnOf "sale" "Book.sale" (defArgs s_Book_sale) (defBody s_Book_sale) (defScope s_Book_sale) .none kV38 dc38 pm38 an38 cd38 ct38), sl38⟩)
    (c38 : PySem.W.codeIn K cd38 "Book.sale" = true)
    (k38 : PySem.W.keepIn K (.ref f38) = true)
    (a39 : PySem.W.nsIn K mainGlobals "_law_changed" = some (some (.ref f39)))
    (l39 : K.lookup f39 = some ⟨oc39, od39, .func (PySem.W.fnOf "_law_changed" "_law_changed" (defArgs s_l_changed) (defBody s_l_changed) (defScope s_l_changed) .none kV39 dc39 pm39 an39 cd39 ct39), sl39⟩)
    (c39 : PySem.W.codeIn K cd39 "_law_changed" = true)
    (k39 : PySem.W.keepIn K (.ref f39) = true)
    (a40 : PySem.W.nsIn K mainGlobals "_law_part" = some (some (.ref f40)))
    (l40 : K.lookup f40 = some ⟨oc40, od40, .func (PySem.W.fnOf "_law_part" "_law_part" (defArgs s_l_part) (defBody s_l_part) (defScope s_l_part) .none kV40 dc40 pm40 an40 cd40 ct40), sl40⟩)
    (c40 : PySem.W.codeIn K cd40 "_law_part" = true)
    (k40 : PySem.W.keepIn K (.ref f40) = true)
    (a41 : PySem.W.nsIn K mainGlobals "_law_deed" = some (some (.ref f41)))
    (l41 : K.lookup f41 = some ⟨oc41, od41, .func (PySem.W.fnOf "_law_deed" "_law_deed" (defArgs s_l_deed) (defBody s_l_deed) (defScope s_l_deed) .none kV41 dc41 pm41 an41 cd41 ct41), sl41⟩)
    (c41 : PySem.W.codeIn K cd41 "_law_deed" = true)
    (k41 : PySem.W.keepIn K (.ref f41) = true)
    (a42 : PySem.W.nsIn K mainGlobals "_law_same" = some (some (.ref f42)))
    (l42 : K.lookup f42 = some ⟨oc42, od42, .func (PySem.W.fnOf "_law_same" "_law_same" (defArgs s_l_same) (defBody s_l_same) (defScope s_l_same) .none kV42 dc42 pm42 an42 cd42 ct42), sl42⟩)
    (c42 : PySem.W.codeIn K cd42 "_law_same" = true)
    (k42 : PySem.W.keepIn K (.ref f42) = true)
    (a43 : PySem.W.nsIn K mainGlobals "_law_sale" = some (some (.ref f43)))
    (l43 : K.lookup f43 = some ⟨oc43, od43, .func (PySem.W.fnOf "_law_sale" "_law_sale" (defArgs s_l_sale) (defBody s_l_sale) (defScope s_l_sale) .none kV43 dc43 pm43 an43 cd43 ct43), sl43⟩)
    (c43 : PySem.W.codeIn K cd43 "_law_sale" = true)
    (k43 : PySem.W.keepIn K (.ref f43) = true)
    (a44 : PySem.W.nsIn K mainGlobals "_law_did" = some (some (.ref f44)))
    (l44 : K.lookup f44 = some ⟨oc44, od44, .func (PySem.W.fnOf "_law_did" "_law_did" (defArgs s_l_did) (defBody s_l_did) (defScope s_l_did) .none kV44 dc44 pm44 an44 cd44 ct44), sl44⟩)
    (c44 : PySem.W.codeIn K cd44 "_law_did" = true)
    (k44 : PySem.W.keepIn K (.ref f44) = true)
    (a45 : PySem.W.nsIn K mainGlobals "_law_told" = some (some (.ref f45)))
    (l45 : K.lookup f45 = some ⟨oc45, od45, .func (PySem.W.fnOf "_law_told" "_law_told" (defArgs s_l_told) (defBody s_l_told) (defScope s_l_told) .none kV45 dc45 pm45 an45 cd45 ct45), sl45⟩)
    (c45 : PySem.W.codeIn K cd45 "_law_told" = true)
    (k45 : PySem.W.keepIn K (.ref f45) = true)
    (a46 : PySem.W.nsIn K mainGlobals "_law_drawn" = some (some (.ref f46)))
    (l46 : K.lookup f46 = some ⟨oc46, od46, .func (PySem.W.fnOf "_law_drawn" "_law_drawn" (defArgs s_l_drawn) (defBody s_l_drawn) (defScope s_l_drawn) .none kV46 dc46 pm46 an46 cd46 ct46), sl46⟩)
    (c46 : PySem.W.codeIn K cd46 "_law_drawn" = true)
    (k46 : PySem.W.keepIn K (.ref f46) = true)
    (a47 : PySem.W.nsIn K mainGlobals "_law_done" = some (some (.ref f47)))
    (l47 : K.lookup f47 = some ⟨oc47, od47, .func (PySem.W.fnOf "_law_done" "_law_done" (defArgs s_l_done) (defBody s_l_done) (defScope s_l_done) .none kV47 dc47 pm47 an47 cd47 ct47), sl47⟩)
    (c47 : PySem.W.codeIn K cd47 "_law_done" = true)
    (k47 : PySem.W.keepIn K (.ref f47) = true)
    (a48 : PySem.W.nsIn K mainGlobals "law" = some (some (.ref f48)))
    (l48 : K.lookup f48 = some ⟨oc48, od48, .func (PySem.W.fnOf "law" "law" (defArgs s_law) (defBody s_law) (defScope s_law) .none kV48 dc48 pm48 an48 cd48 ct48), sl48⟩)
    (c48 : PySem.W.codeIn K cd48 "law" = true)
    (k48 : PySem.W.keepIn K (.ref f48) = true)
    (pgCB : PySem.W.plainGet K CB Str.empty = true)
    (hdCB : PySem.W.hasDictIn K CB = true)
    (poCB : PySem.W.plainOver K CB = true)
    (saCB : PySem.W.findIn K (.ref CB) "__setattr__" = some (some (.builtin "object.__setattr__")))
    (mkCB : PySem.W.makesIn K CB = true)
    (kpCB : PySem.W.keepIn K (.ref CB) = true)
    (pgCE : PySem.W.plainGet K CE Str.empty = true)
    (hdCE : PySem.W.hasDictIn K CE = true)
    (poCE : PySem.W.plainOver K CE = true)
    (saCE : PySem.W.findIn K (.ref CE) "__setattr__" = some (some (.builtin "object.__setattr__")))
    (mkCE : PySem.W.makesIn K CE = true)
    (kpCE : PySem.W.keepIn K (.ref CE) = true)
    (no_people : PySem.W.findIn K (.ref CB) "people" = some none)
    (no_entries : PySem.W.findIn K (.ref CB) "entries" = some none)
    (no_numbers : PySem.W.findIn K (.ref CE) "numbers" = some none)
    (no_held : PySem.W.findIn K (.ref CE) "held" = some none)
    (x_NoHouse : PySem.W.excIn K C_NoHouse [.type "ValueError", .type "Exception", .type "BaseException", .type "object"] "ValueError.__new__" = true)
    (xk_NoHouse : PySem.W.keepIn K (.ref C_NoHouse) = true)
    (xb_NoHouse : PySem.W.subIn K (.ref C_NoHouse) (.type "BaseException") = some true)
    (x_NoLoss : PySem.W.excIn K C_NoLoss [.type "ValueError", .type "Exception", .type "BaseException", .type "object"] "ValueError.__new__" = true)
    (xk_NoLoss : PySem.W.keepIn K (.ref C_NoLoss) = true)
    (xb_NoLoss : PySem.W.subIn K (.ref C_NoLoss) (.type "BaseException") = some true)
    (x_Twice : PySem.W.excIn K C_Twice [.type "ValueError", .type "Exception", .type "BaseException", .type "object"] "ValueError.__new__" = true)
    (xk_Twice : PySem.W.keepIn K (.ref C_Twice) = true)
    (xb_Twice : PySem.W.subIn K (.ref C_Twice) (.type "BaseException") = some true)
    (x_NoName : PySem.W.excIn K C_NoName [.type "ValueError", .type "Exception", .type "BaseException", .type "object"] "ValueError.__new__" = true)
    (xk_NoName : PySem.W.keepIn K (.ref C_NoName) = true)
    (xb_NoName : PySem.W.subIn K (.ref C_NoName) (.type "BaseException") = some true)
    (x_TooMany : PySem.W.excIn K C_TooMany [.type "ValueError", .type "Exception", .type "BaseException", .type "object"] "ValueError.__new__" = true)
    (xk_TooMany : PySem.W.keepIn K (.ref C_TooMany) = true)
    (xb_TooMany : PySem.W.subIn K (.ref C_TooMany) (.type "BaseException") = some true)
    (x_NoShare : PySem.W.excIn K C_NoShare [.type "ValueError", .type "Exception", .type "BaseException", .type "object"] "ValueError.__new__" = true)
    (xk_NoShare : PySem.W.keepIn K (.ref C_NoShare) = true)
    (xb_NoShare : PySem.W.subIn K (.ref C_NoShare) (.type "BaseException") = some true)
    (x_NoHolder : PySem.W.excIn K C_NoHolder [.type "ValueError", .type "Exception", .type "BaseException", .type "object"] "ValueError.__new__" = true)
    (xk_NoHolder : PySem.W.keepIn K (.ref C_NoHolder) = true)
    (xb_NoHolder : PySem.W.subIn K (.ref C_NoHolder) (.type "BaseException") = some true)
    (ty_NoHolder : PySem.W.typeIn K (.ref C_NoHolder) = some (.type "type"))
    (ty_NoHouse : PySem.W.typeIn K (.ref C_NoHouse) = some (.type "type"))
    (ty_NoLoss : PySem.W.typeIn K (.ref C_NoLoss) = some (.type "type"))
    (ty_NoName : PySem.W.typeIn K (.ref C_NoName) = some (.type "type"))
    (ty_NoShare : PySem.W.typeIn K (.ref C_NoShare) = some (.type "type"))
    (ty_NoText : PySem.W.typeIn K (.ref C_NoText) = some (.type "type"))
    (ty_OwnError : PySem.W.typeIn K (.ref C_OwnError) = some (.type "type"))
    (ty_TooMany : PySem.W.typeIn K (.ref C_TooMany) = some (.type "type"))
    (ty_Twice : PySem.W.typeIn K (.ref C_Twice) = some (.type "type"))
    (ty_Whole : PySem.W.typeIn K (.ref C_Whole) = some (.type "type"))
    (ic_NoHolder : PySem.W.isClsIn K C_NoHolder = true)
    (ic_NoHouse : PySem.W.isClsIn K C_NoHouse = true)
    (ic_NoLoss : PySem.W.isClsIn K C_NoLoss = true)
    (ic_NoName : PySem.W.isClsIn K C_NoName = true)
    (ic_NoShare : PySem.W.isClsIn K C_NoShare = true)
    (ic_NoText : PySem.W.isClsIn K C_NoText = true)
    (ic_OwnError : PySem.W.isClsIn K C_OwnError = true)
    (ic_TooMany : PySem.W.isClsIn K C_TooMany = true)
    (ic_Twice : PySem.W.isClsIn K C_Twice = true)
    (ic_Whole : PySem.W.isClsIn K C_Whole = true)
    (sb_NoName_NoHolder : PySem.W.subIn K (.ref C_NoName) (.ref C_NoHolder) = some false)
    (ne_NoName_NoHolder : (Value.ref C_NoName == Value.ref C_NoHolder) = false)
    (sb_NoName_NoHouse : PySem.W.subIn K (.ref C_NoName) (.ref C_NoHouse) = some false)
    (ne_NoName_NoHouse : (Value.ref C_NoName == Value.ref C_NoHouse) = false)
    (sb_NoName_NoLoss : PySem.W.subIn K (.ref C_NoName) (.ref C_NoLoss) = some false)
    (ne_NoName_NoLoss : (Value.ref C_NoName == Value.ref C_NoLoss) = false)
    (sb_NoName_NoShare : PySem.W.subIn K (.ref C_NoName) (.ref C_NoShare) = some false)
    (ne_NoName_NoShare : (Value.ref C_NoName == Value.ref C_NoShare) = false)
    (sb_NoName_NoText : PySem.W.subIn K (.ref C_NoName) (.ref C_NoText) = some false)
    (ne_NoName_NoText : (Value.ref C_NoName == Value.ref C_NoText) = false)
    (sb_NoName_OwnError : PySem.W.subIn K (.ref C_NoName) (.ref C_OwnError) = some true)
    (ne_NoName_OwnError : (Value.ref C_NoName == Value.ref C_OwnError) = false)
    (sb_NoName_TooMany : PySem.W.subIn K (.ref C_NoName) (.ref C_TooMany) = some false)
    (ne_NoName_TooMany : (Value.ref C_NoName == Value.ref C_TooMany) = false)
    (sb_NoName_Twice : PySem.W.subIn K (.ref C_NoName) (.ref C_Twice) = some false)
    (ne_NoName_Twice : (Value.ref C_NoName == Value.ref C_Twice) = false)
    (sb_NoName_Whole : PySem.W.subIn K (.ref C_NoName) (.ref C_Whole) = some false)
    (ne_NoName_Whole : (Value.ref C_NoName == Value.ref C_Whole) = false)
    (sv_NoName : PySem.W.subIn K (.ref C_NoName) (.type "ValueError") = some true)
    (eg_NoName : PySem.W.findIn K (.ref C_NoName) "__getattribute__" = some (some (.builtin "BaseException.__getattribute__")))
    (ek_NoName : PySem.W.findIn K (.ref C_NoName) "__getattr__" = some none)
    (ed_NoName : PySem.W.hasDictIn K C_NoName = true)
    (ea_NoName : PySem.W.findIn K (.ref C_NoName) "__class__" = some (some (.builtin "object.__class__")))
    (em_NoName : PySem.W.mroIn K C_NoName (.type "object") = some true)
    (sb_Twice_NoHolder : PySem.W.subIn K (.ref C_Twice) (.ref C_NoHolder) = some false)
    (ne_Twice_NoHolder : (Value.ref C_Twice == Value.ref C_NoHolder) = false)
    (sb_Twice_NoHouse : PySem.W.subIn K (.ref C_Twice) (.ref C_NoHouse) = some false)
    (ne_Twice_NoHouse : (Value.ref C_Twice == Value.ref C_NoHouse) = false)
    (sb_Twice_NoLoss : PySem.W.subIn K (.ref C_Twice) (.ref C_NoLoss) = some false)
    (ne_Twice_NoLoss : (Value.ref C_Twice == Value.ref C_NoLoss) = false)
    (sb_Twice_NoName : PySem.W.subIn K (.ref C_Twice) (.ref C_NoName) = some false)
    (ne_Twice_NoName : (Value.ref C_Twice == Value.ref C_NoName) = false)
    (sb_Twice_NoShare : PySem.W.subIn K (.ref C_Twice) (.ref C_NoShare) = some false)
    (ne_Twice_NoShare : (Value.ref C_Twice == Value.ref C_NoShare) = false)
    (sb_Twice_NoText : PySem.W.subIn K (.ref C_Twice) (.ref C_NoText) = some false)
    (ne_Twice_NoText : (Value.ref C_Twice == Value.ref C_NoText) = false)
    (sb_Twice_OwnError : PySem.W.subIn K (.ref C_Twice) (.ref C_OwnError) = some true)
    (ne_Twice_OwnError : (Value.ref C_Twice == Value.ref C_OwnError) = false)
    (sb_Twice_TooMany : PySem.W.subIn K (.ref C_Twice) (.ref C_TooMany) = some false)
    (ne_Twice_TooMany : (Value.ref C_Twice == Value.ref C_TooMany) = false)
    (sb_Twice_Whole : PySem.W.subIn K (.ref C_Twice) (.ref C_Whole) = some false)
    (ne_Twice_Whole : (Value.ref C_Twice == Value.ref C_Whole) = false)
    (sv_Twice : PySem.W.subIn K (.ref C_Twice) (.type "ValueError") = some true)
    (eg_Twice : PySem.W.findIn K (.ref C_Twice) "__getattribute__" = some (some (.builtin "BaseException.__getattribute__")))
    (ek_Twice : PySem.W.findIn K (.ref C_Twice) "__getattr__" = some none)
    (ed_Twice : PySem.W.hasDictIn K C_Twice = true)
    (ea_Twice : PySem.W.findIn K (.ref C_Twice) "__class__" = some (some (.builtin "object.__class__")))
    (em_Twice : PySem.W.mroIn K C_Twice (.type "object") = some true)
    (sb_TooMany_NoHolder : PySem.W.subIn K (.ref C_TooMany) (.ref C_NoHolder) = some false)
    (ne_TooMany_NoHolder : (Value.ref C_TooMany == Value.ref C_NoHolder) = false)
    (sb_TooMany_NoHouse : PySem.W.subIn K (.ref C_TooMany) (.ref C_NoHouse) = some false)
    (ne_TooMany_NoHouse : (Value.ref C_TooMany == Value.ref C_NoHouse) = false)
    (sb_TooMany_NoLoss : PySem.W.subIn K (.ref C_TooMany) (.ref C_NoLoss) = some false)
    (ne_TooMany_NoLoss : (Value.ref C_TooMany == Value.ref C_NoLoss) = false)
    (sb_TooMany_NoName : PySem.W.subIn K (.ref C_TooMany) (.ref C_NoName) = some false)
    (ne_TooMany_NoName : (Value.ref C_TooMany == Value.ref C_NoName) = false)
    (sb_TooMany_NoShare : PySem.W.subIn K (.ref C_TooMany) (.ref C_NoShare) = some false)
    (ne_TooMany_NoShare : (Value.ref C_TooMany == Value.ref C_NoShare) = false)
    (sb_TooMany_NoText : PySem.W.subIn K (.ref C_TooMany) (.ref C_NoText) = some false)
    (ne_TooMany_NoText : (Value.ref C_TooMany == Value.ref C_NoText) = false)
    (sb_TooMany_OwnError : PySem.W.subIn K (.ref C_TooMany) (.ref C_OwnError) = some true)
    (ne_TooMany_OwnError : (Value.ref C_TooMany == Value.ref C_OwnError) = false)
    (sb_TooMany_Twice : PySem.W.subIn K (.ref C_TooMany) (.ref C_Twice) = some false)
    (ne_TooMany_Twice : (Value.ref C_TooMany == Value.ref C_Twice) = false)
    (sb_TooMany_Whole : PySem.W.subIn K (.ref C_TooMany) (.ref C_Whole) = some false)
    (ne_TooMany_Whole : (Value.ref C_TooMany == Value.ref C_Whole) = false)
    (sv_TooMany : PySem.W.subIn K (.ref C_TooMany) (.type "ValueError") = some true)
    (eg_TooMany : PySem.W.findIn K (.ref C_TooMany) "__getattribute__" = some (some (.builtin "BaseException.__getattribute__")))
    (ek_TooMany : PySem.W.findIn K (.ref C_TooMany) "__getattr__" = some none)
    (ed_TooMany : PySem.W.hasDictIn K C_TooMany = true)
    (ea_TooMany : PySem.W.findIn K (.ref C_TooMany) "__class__" = some (some (.builtin "object.__class__")))
    (em_TooMany : PySem.W.mroIn K C_TooMany (.type "object") = some true)
    (sb_NoHolder_NoHouse : PySem.W.subIn K (.ref C_NoHolder) (.ref C_NoHouse) = some false)
    (ne_NoHolder_NoHouse : (Value.ref C_NoHolder == Value.ref C_NoHouse) = false)
    (sb_NoHolder_NoLoss : PySem.W.subIn K (.ref C_NoHolder) (.ref C_NoLoss) = some false)
    (ne_NoHolder_NoLoss : (Value.ref C_NoHolder == Value.ref C_NoLoss) = false)
    (sb_NoHolder_NoName : PySem.W.subIn K (.ref C_NoHolder) (.ref C_NoName) = some false)
    (ne_NoHolder_NoName : (Value.ref C_NoHolder == Value.ref C_NoName) = false)
    (sb_NoHolder_NoShare : PySem.W.subIn K (.ref C_NoHolder) (.ref C_NoShare) = some false)
    (ne_NoHolder_NoShare : (Value.ref C_NoHolder == Value.ref C_NoShare) = false)
    (sb_NoHolder_NoText : PySem.W.subIn K (.ref C_NoHolder) (.ref C_NoText) = some false)
    (ne_NoHolder_NoText : (Value.ref C_NoHolder == Value.ref C_NoText) = false)
    (sb_NoHolder_OwnError : PySem.W.subIn K (.ref C_NoHolder) (.ref C_OwnError) = some true)
    (ne_NoHolder_OwnError : (Value.ref C_NoHolder == Value.ref C_OwnError) = false)
    (sb_NoHolder_TooMany : PySem.W.subIn K (.ref C_NoHolder) (.ref C_TooMany) = some false)
    (ne_NoHolder_TooMany : (Value.ref C_NoHolder == Value.ref C_TooMany) = false)
    (sb_NoHolder_Twice : PySem.W.subIn K (.ref C_NoHolder) (.ref C_Twice) = some false)
    (ne_NoHolder_Twice : (Value.ref C_NoHolder == Value.ref C_Twice) = false)
    (sb_NoHolder_Whole : PySem.W.subIn K (.ref C_NoHolder) (.ref C_Whole) = some false)
    (ne_NoHolder_Whole : (Value.ref C_NoHolder == Value.ref C_Whole) = false)
    (sv_NoHolder : PySem.W.subIn K (.ref C_NoHolder) (.type "ValueError") = some true)
    (eg_NoHolder : PySem.W.findIn K (.ref C_NoHolder) "__getattribute__" = some (some (.builtin "BaseException.__getattribute__")))
    (ek_NoHolder : PySem.W.findIn K (.ref C_NoHolder) "__getattr__" = some none)
    (ed_NoHolder : PySem.W.hasDictIn K C_NoHolder = true)
    (ea_NoHolder : PySem.W.findIn K (.ref C_NoHolder) "__class__" = some (some (.builtin "object.__class__")))
    (em_NoHolder : PySem.W.mroIn K C_NoHolder (.type "object") = some true)
    (sb_NoHouse_NoHolder : PySem.W.subIn K (.ref C_NoHouse) (.ref C_NoHolder) = some false)
    (ne_NoHouse_NoHolder : (Value.ref C_NoHouse == Value.ref C_NoHolder) = false)
    (sb_NoHouse_NoLoss : PySem.W.subIn K (.ref C_NoHouse) (.ref C_NoLoss) = some false)
    (ne_NoHouse_NoLoss : (Value.ref C_NoHouse == Value.ref C_NoLoss) = false)
    (sb_NoHouse_NoName : PySem.W.subIn K (.ref C_NoHouse) (.ref C_NoName) = some false)
    (ne_NoHouse_NoName : (Value.ref C_NoHouse == Value.ref C_NoName) = false)
    (sb_NoHouse_NoShare : PySem.W.subIn K (.ref C_NoHouse) (.ref C_NoShare) = some false)
    (ne_NoHouse_NoShare : (Value.ref C_NoHouse == Value.ref C_NoShare) = false)
    (sb_NoHouse_NoText : PySem.W.subIn K (.ref C_NoHouse) (.ref C_NoText) = some false)
    (ne_NoHouse_NoText : (Value.ref C_NoHouse == Value.ref C_NoText) = false)
    (sb_NoHouse_OwnError : PySem.W.subIn K (.ref C_NoHouse) (.ref C_OwnError) = some true)
    (ne_NoHouse_OwnError : (Value.ref C_NoHouse == Value.ref C_OwnError) = false)
    (sb_NoHouse_TooMany : PySem.W.subIn K (.ref C_NoHouse) (.ref C_TooMany) = some false)
    (ne_NoHouse_TooMany : (Value.ref C_NoHouse == Value.ref C_TooMany) = false)
    (sb_NoHouse_Twice : PySem.W.subIn K (.ref C_NoHouse) (.ref C_Twice) = some false)
    (ne_NoHouse_Twice : (Value.ref C_NoHouse == Value.ref C_Twice) = false)
    (sb_NoHouse_Whole : PySem.W.subIn K (.ref C_NoHouse) (.ref C_Whole) = some false)
    (ne_NoHouse_Whole : (Value.ref C_NoHouse == Value.ref C_Whole) = false)
    (sv_NoHouse : PySem.W.subIn K (.ref C_NoHouse) (.type "ValueError") = some true)
    (eg_NoHouse : PySem.W.findIn K (.ref C_NoHouse) "__getattribute__" = some (some (.builtin "BaseException.__getattribute__")))
    (ek_NoHouse : PySem.W.findIn K (.ref C_NoHouse) "__getattr__" = some none)
    (ed_NoHouse : PySem.W.hasDictIn K C_NoHouse = true)
    (ea_NoHouse : PySem.W.findIn K (.ref C_NoHouse) "__class__" = some (some (.builtin "object.__class__")))
    (em_NoHouse : PySem.W.mroIn K C_NoHouse (.type "object") = some true)
    (sb_NoLoss_NoHolder : PySem.W.subIn K (.ref C_NoLoss) (.ref C_NoHolder) = some false)
    (ne_NoLoss_NoHolder : (Value.ref C_NoLoss == Value.ref C_NoHolder) = false)
    (sb_NoLoss_NoHouse : PySem.W.subIn K (.ref C_NoLoss) (.ref C_NoHouse) = some false)
    (ne_NoLoss_NoHouse : (Value.ref C_NoLoss == Value.ref C_NoHouse) = false)
    (sb_NoLoss_NoName : PySem.W.subIn K (.ref C_NoLoss) (.ref C_NoName) = some false)
    (ne_NoLoss_NoName : (Value.ref C_NoLoss == Value.ref C_NoName) = false)
    (sb_NoLoss_NoShare : PySem.W.subIn K (.ref C_NoLoss) (.ref C_NoShare) = some false)
    (ne_NoLoss_NoShare : (Value.ref C_NoLoss == Value.ref C_NoShare) = false)
    (sb_NoLoss_NoText : PySem.W.subIn K (.ref C_NoLoss) (.ref C_NoText) = some false)
    (ne_NoLoss_NoText : (Value.ref C_NoLoss == Value.ref C_NoText) = false)
    (sb_NoLoss_OwnError : PySem.W.subIn K (.ref C_NoLoss) (.ref C_OwnError) = some true)
    (ne_NoLoss_OwnError : (Value.ref C_NoLoss == Value.ref C_OwnError) = false)
    (sb_NoLoss_TooMany : PySem.W.subIn K (.ref C_NoLoss) (.ref C_TooMany) = some false)
    (ne_NoLoss_TooMany : (Value.ref C_NoLoss == Value.ref C_TooMany) = false)
    (sb_NoLoss_Twice : PySem.W.subIn K (.ref C_NoLoss) (.ref C_Twice) = some false)
    (ne_NoLoss_Twice : (Value.ref C_NoLoss == Value.ref C_Twice) = false)
    (sb_NoLoss_Whole : PySem.W.subIn K (.ref C_NoLoss) (.ref C_Whole) = some false)
    (ne_NoLoss_Whole : (Value.ref C_NoLoss == Value.ref C_Whole) = false)
    (sv_NoLoss : PySem.W.subIn K (.ref C_NoLoss) (.type "ValueError") = some true)
    (eg_NoLoss : PySem.W.findIn K (.ref C_NoLoss) "__getattribute__" = some (some (.builtin "BaseException.__getattribute__")))
    (ek_NoLoss : PySem.W.findIn K (.ref C_NoLoss) "__getattr__" = some none)
    (ed_NoLoss : PySem.W.hasDictIn K C_NoLoss = true)
    (ea_NoLoss : PySem.W.findIn K (.ref C_NoLoss) "__class__" = some (some (.builtin "object.__class__")))
    (em_NoLoss : PySem.W.mroIn K C_NoLoss (.type "object") = some true)
    (sb_NoShare_NoHolder : PySem.W.subIn K (.ref C_NoShare) (.ref C_NoHolder) = some false)
    (ne_NoShare_NoHolder : (Value.ref C_NoShare == Value.ref C_NoHolder) = false)
    (sb_NoShare_NoHouse : PySem.W.subIn K (.ref C_NoShare) (.ref C_NoHouse) = some false)
    (ne_NoShare_NoHouse : (Value.ref C_NoShare == Value.ref C_NoHouse) = false)
    (sb_NoShare_NoLoss : PySem.W.subIn K (.ref C_NoShare) (.ref C_NoLoss) = some false)
    (ne_NoShare_NoLoss : (Value.ref C_NoShare == Value.ref C_NoLoss) = false)
    (sb_NoShare_NoName : PySem.W.subIn K (.ref C_NoShare) (.ref C_NoName) = some false)
    (ne_NoShare_NoName : (Value.ref C_NoShare == Value.ref C_NoName) = false)
    (sb_NoShare_NoText : PySem.W.subIn K (.ref C_NoShare) (.ref C_NoText) = some false)
    (ne_NoShare_NoText : (Value.ref C_NoShare == Value.ref C_NoText) = false)
    (sb_NoShare_OwnError : PySem.W.subIn K (.ref C_NoShare) (.ref C_OwnError) = some true)
    (ne_NoShare_OwnError : (Value.ref C_NoShare == Value.ref C_OwnError) = false)
    (sb_NoShare_TooMany : PySem.W.subIn K (.ref C_NoShare) (.ref C_TooMany) = some false)
    (ne_NoShare_TooMany : (Value.ref C_NoShare == Value.ref C_TooMany) = false)
    (sb_NoShare_Twice : PySem.W.subIn K (.ref C_NoShare) (.ref C_Twice) = some false)
    (ne_NoShare_Twice : (Value.ref C_NoShare == Value.ref C_Twice) = false)
    (sb_NoShare_Whole : PySem.W.subIn K (.ref C_NoShare) (.ref C_Whole) = some false)
    (ne_NoShare_Whole : (Value.ref C_NoShare == Value.ref C_Whole) = false)
    (sv_NoShare : PySem.W.subIn K (.ref C_NoShare) (.type "ValueError") = some true)
    (eg_NoShare : PySem.W.findIn K (.ref C_NoShare) "__getattribute__" = some (some (.builtin "BaseException.__getattribute__")))
    (ek_NoShare : PySem.W.findIn K (.ref C_NoShare) "__getattr__" = some none)
    (ed_NoShare : PySem.W.hasDictIn K C_NoShare = true)
    (ea_NoShare : PySem.W.findIn K (.ref C_NoShare) "__class__" = some (some (.builtin "object.__class__")))
    (em_NoShare : PySem.W.mroIn K C_NoShare (.type "object") = some true)
    (en_ : PySem.W.specialIn K (.builtin "object.__class__") "__get__" = some (some (.builtin "getset_descriptor.__get__")))
    (et : PySem.W.takesIn K (.builtin "object.__class__") = some true)
    (xb_OwnError : PySem.W.subIn K (.ref C_OwnError) (.type "BaseException") = some true)
    (b_len : PySem.W.nsIn K mainGlobals "len" = some none)
    (b_abs : PySem.W.nsIn K mainGlobals "abs" = some none)
    (b_int : PySem.W.nsIn K mainGlobals "int" = some none)
    (b_str : PySem.W.nsIn K mainGlobals "str" = some none)
    (b_sorted : PySem.W.nsIn K mainGlobals "sorted" = some none)
    (b_list : PySem.W.nsIn K mainGlobals "list" = some none)
    (b_all : PySem.W.nsIn K mainGlobals "all" = some none)
    (b_any : PySem.W.nsIn K mainGlobals "any" = some none)
    (b_tuple : PySem.W.nsIn K mainGlobals "tuple" = some none)
    (b_max : PySem.W.nsIn K mainGlobals "max" = some none)
    (b_isinstance : PySem.W.nsIn K mainGlobals "isinstance" = some none)
    (b_range : PySem.W.nsIn K mainGlobals "range" = some none)
    (b_zip : PySem.W.nsIn K mainGlobals "zip" = some none)
    (b_enumerate : PySem.W.nsIn K mainGlobals "enumerate" = some none)
    (b_dict : PySem.W.nsIn K mainGlobals "dict" = some none)
    (b_ValueError : PySem.W.nsIn K mainGlobals "ValueError" = some none)
    (b_bool : PySem.W.nsIn K mainGlobals "bool" = some none)
    (gL : PySem.W.nsIn K mainGlobals "LETTERS" = some (some (.str zL tkL)))
    (gLe : zL = abc)
    (gP : PySem.W.nsIn K mainGlobals "MOST_PERSONS" = some (some (.int 6 tkP)))
    (gH : PySem.W.nsIn K mainGlobals "MOST_HOUSES" = some (some (.int 8 tkH))) :
    ∃ fd : FuncData, (∀ (s : Shared) (u : Value), BindsTo s fd ⟨[u], []⟩ [("_law_script", u)]) ∧ ∀ base : Heap, K.In base → base.Ns mainGlobals mg → FnOk P w K mg base CX0 8 fa fd ["_law_script"] (liftSp K spLaw) := by
  have e := hfa.symm.trans (PySem.W.mg_of X G a48)
  cases e
  subst gLe
  have clCB : Cls K CB := ⟨pgCB, hdCB, poCB, saCB⟩
  have clCE : Cls K CE := ⟨pgCE, hdCE, poCE, saCE⟩
  have hIs_NoName_NoHolder : PySem.W.kitOne K (.ref C_NoName) (.ref C_NoHolder) = some false := kit_own ne_NoName_NoHolder ic_NoHolder ty_NoHolder sb_NoName_NoHolder
  have hIs_NoName_NoHouse : PySem.W.kitOne K (.ref C_NoName) (.ref C_NoHouse) = some false := kit_own ne_NoName_NoHouse ic_NoHouse ty_NoHouse sb_NoName_NoHouse
  have hIs_NoName_NoLoss : PySem.W.kitOne K (.ref C_NoName) (.ref C_NoLoss) = some false := kit_own ne_NoName_NoLoss ic_NoLoss ty_NoLoss sb_NoName_NoLoss
  have hIs_NoName_NoShare : PySem.W.kitOne K (.ref C_NoName) (.ref C_NoShare) = some false := kit_own ne_NoName_NoShare ic_NoShare ty_NoShare sb_NoName_NoShare
  have hIs_NoName_NoText : PySem.W.kitOne K (.ref C_NoName) (.ref C_NoText) = some false := kit_own ne_NoName_NoText ic_NoText ty_NoText sb_NoName_NoText
  have hIs_NoName_OwnError : PySem.W.kitOne K (.ref C_NoName) (.ref C_OwnError) = some true := kit_own ne_NoName_OwnError ic_OwnError ty_OwnError sb_NoName_OwnError
  have hIs_NoName_TooMany : PySem.W.kitOne K (.ref C_NoName) (.ref C_TooMany) = some false := kit_own ne_NoName_TooMany ic_TooMany ty_TooMany sb_NoName_TooMany
  have hIs_NoName_Twice : PySem.W.kitOne K (.ref C_NoName) (.ref C_Twice) = some false := kit_own ne_NoName_Twice ic_Twice ty_Twice sb_NoName_Twice
  have hIs_NoName_Whole : PySem.W.kitOne K (.ref C_NoName) (.ref C_Whole) = some false := kit_own ne_NoName_Whole ic_Whole ty_Whole sb_NoName_Whole
  have hIs_NoName_NoName : PySem.W.kitOne K (.ref C_NoName) (.ref C_NoName) = some true := kit_self
  have hIs_NoName_ValueError : PySem.W.kitOne K (.ref C_NoName) (.type "ValueError") = some true := kit_ty (by decide +kernel) sv_NoName
  have hOwn_NoName : PySem.W.exmOne K (.ref C_NoName) (.ref C_OwnError) = some true := exm_own xb_OwnError ic_OwnError ty_OwnError sb_NoName_OwnError
  have hExc_NoName : ExcC K C_NoName := ⟨eg_NoName, ek_NoName, xb_NoName, ed_NoName, ea_NoName, en_, et, em_NoName⟩
  have hIs_Twice_NoHolder : PySem.W.kitOne K (.ref C_Twice) (.ref C_NoHolder) = some false := kit_own ne_Twice_NoHolder ic_NoHolder ty_NoHolder sb_Twice_NoHolder
  have hIs_Twice_NoHouse : PySem.W.kitOne K (.ref C_Twice) (.ref C_NoHouse) = some false := kit_own ne_Twice_NoHouse ic_NoHouse ty_NoHouse sb_Twice_NoHouse
  have hIs_Twice_NoLoss : PySem.W.kitOne K (.ref C_Twice) (.ref C_NoLoss) = some false := kit_own ne_Twice_NoLoss ic_NoLoss ty_NoLoss sb_Twice_NoLoss
  have hIs_Twice_NoName : PySem.W.kitOne K (.ref C_Twice) (.ref C_NoName) = some false := kit_own ne_Twice_NoName ic_NoName ty_NoName sb_Twice_NoName
  have hIs_Twice_NoShare : PySem.W.kitOne K (.ref C_Twice) (.ref C_NoShare) = some false := kit_own ne_Twice_NoShare ic_NoShare ty_NoShare sb_Twice_NoShare
  have hIs_Twice_NoText : PySem.W.kitOne K (.ref C_Twice) (.ref C_NoText) = some false := kit_own ne_Twice_NoText ic_NoText ty_NoText sb_Twice_NoText
  have hIs_Twice_OwnError : PySem.W.kitOne K (.ref C_Twice) (.ref C_OwnError) = some true := kit_own ne_Twice_OwnError ic_OwnError ty_OwnError sb_Twice_OwnError
  have hIs_Twice_TooMany : PySem.W.kitOne K (.ref C_Twice) (.ref C_TooMany) = some false := kit_own ne_Twice_TooMany ic_TooMany ty_TooMany sb_Twice_TooMany
  have hIs_Twice_Whole : PySem.W.kitOne K (.ref C_Twice) (.ref C_Whole) = some false := kit_own ne_Twice_Whole ic_Whole ty_Whole sb_Twice_Whole
  have hIs_Twice_Twice : PySem.W.kitOne K (.ref C_Twice) (.ref C_Twice) = some true := kit_self
  have hIs_Twice_ValueError : PySem.W.kitOne K (.ref C_Twice) (.type "ValueError") = some true := kit_ty (by decide +kernel) sv_Twice
  have hOwn_Twice : PySem.W.exmOne K (.ref C_Twice) (.ref C_OwnError) = some true := exm_own xb_OwnError ic_OwnError ty_OwnError sb_Twice_OwnError
  have hExc_Twice : ExcC K C_Twice := ⟨eg_Twice, ek_Twice, xb_Twice, ed_Twice, ea_Twice, en_, et, em_Twice⟩
  have hIs_TooMany_NoHolder : PySem.W.kitOne K (.ref C_TooMany) (.ref C_NoHolder) = some false := kit_own ne_TooMany_NoHolder ic_NoHolder ty_NoHolder sb_TooMany_NoHolder
  have hIs_TooMany_NoHouse : PySem.W.kitOne K (.ref C_TooMany) (.ref C_NoHouse) = some false := kit_own ne_TooMany_NoHouse ic_NoHouse ty_NoHouse sb_TooMany_NoHouse
  have hIs_TooMany_NoLoss : PySem.W.kitOne K (.ref C_TooMany) (.ref C_NoLoss) = some false := kit_own ne_TooMany_NoLoss ic_NoLoss ty_NoLoss sb_TooMany_NoLoss
  have hIs_TooMany_NoName : PySem.W.kitOne K (.ref C_TooMany) (.ref C_NoName) = some false := kit_own ne_TooMany_NoName ic_NoName ty_NoName sb_TooMany_NoName
  have hIs_TooMany_NoShare : PySem.W.kitOne K (.ref C_TooMany) (.ref C_NoShare) = some false := kit_own ne_TooMany_NoShare ic_NoShare ty_NoShare sb_TooMany_NoShare
  have hIs_TooMany_NoText : PySem.W.kitOne K (.ref C_TooMany) (.ref C_NoText) = some false := kit_own ne_TooMany_NoText ic_NoText ty_NoText sb_TooMany_NoText
  have hIs_TooMany_OwnError : PySem.W.kitOne K (.ref C_TooMany) (.ref C_OwnError) = some true := kit_own ne_TooMany_OwnError ic_OwnError ty_OwnError sb_TooMany_OwnError
  have hIs_TooMany_Twice : PySem.W.kitOne K (.ref C_TooMany) (.ref C_Twice) = some false := kit_own ne_TooMany_Twice ic_Twice ty_Twice sb_TooMany_Twice
  have hIs_TooMany_Whole : PySem.W.kitOne K (.ref C_TooMany) (.ref C_Whole) = some false := kit_own ne_TooMany_Whole ic_Whole ty_Whole sb_TooMany_Whole
  have hIs_TooMany_TooMany : PySem.W.kitOne K (.ref C_TooMany) (.ref C_TooMany) = some true := kit_self
  have hIs_TooMany_ValueError : PySem.W.kitOne K (.ref C_TooMany) (.type "ValueError") = some true := kit_ty (by decide +kernel) sv_TooMany
  have hOwn_TooMany : PySem.W.exmOne K (.ref C_TooMany) (.ref C_OwnError) = some true := exm_own xb_OwnError ic_OwnError ty_OwnError sb_TooMany_OwnError
  have hExc_TooMany : ExcC K C_TooMany := ⟨eg_TooMany, ek_TooMany, xb_TooMany, ed_TooMany, ea_TooMany, en_, et, em_TooMany⟩
  have hIs_NoHolder_NoHouse : PySem.W.kitOne K (.ref C_NoHolder) (.ref C_NoHouse) = some false := kit_own ne_NoHolder_NoHouse ic_NoHouse ty_NoHouse sb_NoHolder_NoHouse
  have hIs_NoHolder_NoLoss : PySem.W.kitOne K (.ref C_NoHolder) (.ref C_NoLoss) = some false := kit_own ne_NoHolder_NoLoss ic_NoLoss ty_NoLoss sb_NoHolder_NoLoss
  have hIs_NoHolder_NoName : PySem.W.kitOne K (.ref C_NoHolder) (.ref C_NoName) = some false := kit_own ne_NoHolder_NoName ic_NoName ty_NoName sb_NoHolder_NoName
  have hIs_NoHolder_NoShare : PySem.W.kitOne K (.ref C_NoHolder) (.ref C_NoShare) = some false := kit_own ne_NoHolder_NoShare ic_NoShare ty_NoShare sb_NoHolder_NoShare
  have hIs_NoHolder_NoText : PySem.W.kitOne K (.ref C_NoHolder) (.ref C_NoText) = some false := kit_own ne_NoHolder_NoText ic_NoText ty_NoText sb_NoHolder_NoText
  have hIs_NoHolder_OwnError : PySem.W.kitOne K (.ref C_NoHolder) (.ref C_OwnError) = some true := kit_own ne_NoHolder_OwnError ic_OwnError ty_OwnError sb_NoHolder_OwnError
  have hIs_NoHolder_TooMany : PySem.W.kitOne K (.ref C_NoHolder) (.ref C_TooMany) = some false := kit_own ne_NoHolder_TooMany ic_TooMany ty_TooMany sb_NoHolder_TooMany
  have hIs_NoHolder_Twice : PySem.W.kitOne K (.ref C_NoHolder) (.ref C_Twice) = some false := kit_own ne_NoHolder_Twice ic_Twice ty_Twice sb_NoHolder_Twice
  have hIs_NoHolder_Whole : PySem.W.kitOne K (.ref C_NoHolder) (.ref C_Whole) = some false := kit_own ne_NoHolder_Whole ic_Whole ty_Whole sb_NoHolder_Whole
  have hIs_NoHolder_NoHolder : PySem.W.kitOne K (.ref C_NoHolder) (.ref C_NoHolder) = some true := kit_self
  have hIs_NoHolder_ValueError : PySem.W.kitOne K (.ref C_NoHolder) (.type "ValueError") = some true := kit_ty (by decide +kernel) sv_NoHolder
  have hOwn_NoHolder : PySem.W.exmOne K (.ref C_NoHolder) (.ref C_OwnError) = some true := exm_own xb_OwnError ic_OwnError ty_OwnError sb_NoHolder_OwnError
  have hExc_NoHolder : ExcC K C_NoHolder := ⟨eg_NoHolder, ek_NoHolder, xb_NoHolder, ed_NoHolder, ea_NoHolder, en_, et, em_NoHolder⟩
  have hIs_NoHouse_NoHolder : PySem.W.kitOne K (.ref C_NoHouse) (.ref C_NoHolder) = some false := kit_own ne_NoHouse_NoHolder ic_NoHolder ty_NoHolder sb_NoHouse_NoHolder
  have hIs_NoHouse_NoLoss : PySem.W.kitOne K (.ref C_NoHouse) (.ref C_NoLoss) = some false := kit_own ne_NoHouse_NoLoss ic_NoLoss ty_NoLoss sb_NoHouse_NoLoss
  have hIs_NoHouse_NoName : PySem.W.kitOne K (.ref C_NoHouse) (.ref C_NoName) = some false := kit_own ne_NoHouse_NoName ic_NoName ty_NoName sb_NoHouse_NoName
  have hIs_NoHouse_NoShare : PySem.W.kitOne K (.ref C_NoHouse) (.ref C_NoShare) = some false := kit_own ne_NoHouse_NoShare ic_NoShare ty_NoShare sb_NoHouse_NoShare
  have hIs_NoHouse_NoText : PySem.W.kitOne K (.ref C_NoHouse) (.ref C_NoText) = some false := kit_own ne_NoHouse_NoText ic_NoText ty_NoText sb_NoHouse_NoText
  have hIs_NoHouse_OwnError : PySem.W.kitOne K (.ref C_NoHouse) (.ref C_OwnError) = some true := kit_own ne_NoHouse_OwnError ic_OwnError ty_OwnError sb_NoHouse_OwnError
  have hIs_NoHouse_TooMany : PySem.W.kitOne K (.ref C_NoHouse) (.ref C_TooMany) = some false := kit_own ne_NoHouse_TooMany ic_TooMany ty_TooMany sb_NoHouse_TooMany
  have hIs_NoHouse_Twice : PySem.W.kitOne K (.ref C_NoHouse) (.ref C_Twice) = some false := kit_own ne_NoHouse_Twice ic_Twice ty_Twice sb_NoHouse_Twice
  have hIs_NoHouse_Whole : PySem.W.kitOne K (.ref C_NoHouse) (.ref C_Whole) = some false := kit_own ne_NoHouse_Whole ic_Whole ty_Whole sb_NoHouse_Whole
  have hIs_NoHouse_NoHouse : PySem.W.kitOne K (.ref C_NoHouse) (.ref C_NoHouse) = some true := kit_self
  have hIs_NoHouse_ValueError : PySem.W.kitOne K (.ref C_NoHouse) (.type "ValueError") = some true := kit_ty (by decide +kernel) sv_NoHouse
  have hOwn_NoHouse : PySem.W.exmOne K (.ref C_NoHouse) (.ref C_OwnError) = some true := exm_own xb_OwnError ic_OwnError ty_OwnError sb_NoHouse_OwnError
  have hExc_NoHouse : ExcC K C_NoHouse := ⟨eg_NoHouse, ek_NoHouse, xb_NoHouse, ed_NoHouse, ea_NoHouse, en_, et, em_NoHouse⟩
  have hIs_NoLoss_NoHolder : PySem.W.kitOne K (.ref C_NoLoss) (.ref C_NoHolder) = some false := kit_own ne_NoLoss_NoHolder ic_NoHolder ty_NoHolder sb_NoLoss_NoHolder
  have hIs_NoLoss_NoHouse : PySem.W.kitOne K (.ref C_NoLoss) (.ref C_NoHouse) = some false := kit_own ne_NoLoss_NoHouse ic_NoHouse ty_NoHouse sb_NoLoss_NoHouse
  have hIs_NoLoss_NoName : PySem.W.kitOne K (.ref C_NoLoss) (.ref C_NoName) = some false := kit_own ne_NoLoss_NoName ic_NoName ty_NoName sb_NoLoss_NoName
  have hIs_NoLoss_NoShare : PySem.W.kitOne K (.ref C_NoLoss) (.ref C_NoShare) = some false := kit_own ne_NoLoss_NoShare ic_NoShare ty_NoShare sb_NoLoss_NoShare
  have hIs_NoLoss_NoText : PySem.W.kitOne K (.ref C_NoLoss) (.ref C_NoText) = some false := kit_own ne_NoLoss_NoText ic_NoText ty_NoText sb_NoLoss_NoText
  have hIs_NoLoss_OwnError : PySem.W.kitOne K (.ref C_NoLoss) (.ref C_OwnError) = some true := kit_own ne_NoLoss_OwnError ic_OwnError ty_OwnError sb_NoLoss_OwnError
  have hIs_NoLoss_TooMany : PySem.W.kitOne K (.ref C_NoLoss) (.ref C_TooMany) = some false := kit_own ne_NoLoss_TooMany ic_TooMany ty_TooMany sb_NoLoss_TooMany
  have hIs_NoLoss_Twice : PySem.W.kitOne K (.ref C_NoLoss) (.ref C_Twice) = some false := kit_own ne_NoLoss_Twice ic_Twice ty_Twice sb_NoLoss_Twice
  have hIs_NoLoss_Whole : PySem.W.kitOne K (.ref C_NoLoss) (.ref C_Whole) = some false := kit_own ne_NoLoss_Whole ic_Whole ty_Whole sb_NoLoss_Whole
  have hIs_NoLoss_NoLoss : PySem.W.kitOne K (.ref C_NoLoss) (.ref C_NoLoss) = some true := kit_self
  have hIs_NoLoss_ValueError : PySem.W.kitOne K (.ref C_NoLoss) (.type "ValueError") = some true := kit_ty (by decide +kernel) sv_NoLoss
  have hOwn_NoLoss : PySem.W.exmOne K (.ref C_NoLoss) (.ref C_OwnError) = some true := exm_own xb_OwnError ic_OwnError ty_OwnError sb_NoLoss_OwnError
  have hExc_NoLoss : ExcC K C_NoLoss := ⟨eg_NoLoss, ek_NoLoss, xb_NoLoss, ed_NoLoss, ea_NoLoss, en_, et, em_NoLoss⟩
  have hIs_NoShare_NoHolder : PySem.W.kitOne K (.ref C_NoShare) (.ref C_NoHolder) = some false := kit_own ne_NoShare_NoHolder ic_NoHolder ty_NoHolder sb_NoShare_NoHolder
  have hIs_NoShare_NoHouse : PySem.W.kitOne K (.ref C_NoShare) (.ref C_NoHouse) = some false := kit_own ne_NoShare_NoHouse ic_NoHouse ty_NoHouse sb_NoShare_NoHouse
  have hIs_NoShare_NoLoss : PySem.W.kitOne K (.ref C_NoShare) (.ref C_NoLoss) = some false := kit_own ne_NoShare_NoLoss ic_NoLoss ty_NoLoss sb_NoShare_NoLoss
  have hIs_NoShare_NoName : PySem.W.kitOne K (.ref C_NoShare) (.ref C_NoName) = some false := kit_own ne_NoShare_NoName ic_NoName ty_NoName sb_NoShare_NoName
  have hIs_NoShare_NoText : PySem.W.kitOne K (.ref C_NoShare) (.ref C_NoText) = some false := kit_own ne_NoShare_NoText ic_NoText ty_NoText sb_NoShare_NoText
  have hIs_NoShare_OwnError : PySem.W.kitOne K (.ref C_NoShare) (.ref C_OwnError) = some true := kit_own ne_NoShare_OwnError ic_OwnError ty_OwnError sb_NoShare_OwnError
  have hIs_NoShare_TooMany : PySem.W.kitOne K (.ref C_NoShare) (.ref C_TooMany) = some false := kit_own ne_NoShare_TooMany ic_TooMany ty_TooMany sb_NoShare_TooMany
  have hIs_NoShare_Twice : PySem.W.kitOne K (.ref C_NoShare) (.ref C_Twice) = some false := kit_own ne_NoShare_Twice ic_Twice ty_Twice sb_NoShare_Twice
  have hIs_NoShare_Whole : PySem.W.kitOne K (.ref C_NoShare) (.ref C_Whole) = some false := kit_own ne_NoShare_Whole ic_Whole ty_Whole sb_NoShare_Whole
  have hIs_NoShare_NoShare : PySem.W.kitOne K (.ref C_NoShare) (.ref C_NoShare) = some true := kit_self
  have hIs_NoShare_ValueError : PySem.W.kitOne K (.ref C_NoShare) (.type "ValueError") = some true := kit_ty (by decide +kernel) sv_NoShare
  have hOwn_NoShare : PySem.W.exmOne K (.ref C_NoShare) (.ref C_OwnError) = some true := exm_own xb_OwnError ic_OwnError ty_OwnError sb_NoShare_OwnError
  have hExc_NoShare : ExcC K C_NoShare := ⟨eg_NoShare, ek_NoShare, xb_NoShare, ed_NoShare, ea_NoShare, en_, et, em_NoShare⟩
  have hSS : PySem.W.kitOne K (.type "str") (.type "str") = some true := kit_tyself
  have hLL : PySem.W.kitOne K (.type "list") (.type "list") = some true := kit_tyself
  have hTT : PySem.W.kitOne K (.type "tuple") (.type "tuple") = some true := kit_tyself
  have hII : PySem.W.kitOne K (.type "int") (.type "int") = some true := kit_tyself
  have hST : PySem.W.kitOne K (.type "str") (.type "tuple") = some false := kit_tt (by decide +kernel) (by decide +kernel) (by decide +kernel)
  have hSL : PySem.W.kitOne K (.type "str") (.type "list") = some false := kit_tt (by decide +kernel) (by decide +kernel) (by decide +kernel)
  have hLT : PySem.W.kitOne K (.type "list") (.type "tuple") = some false := kit_tt (by decide +kernel) (by decide +kernel) (by decide +kernel)
  have hTL : PySem.W.kitOne K (.type "tuple") (.type "list") = some false := kit_tt (by decide +kernel) (by decide +kernel) (by decide +kernel)
  have hIS : PySem.W.kitOne K (.type "int") (.type "str") = some false := kit_tt (by decide +kernel) (by decide +kernel) (by decide +kernel)
  have hIT : PySem.W.kitOne K (.type "int") (.type "tuple") = some false := kit_tt (by decide +kernel) (by decide +kernel) (by decide +kernel)
  have hIL : PySem.W.kitOne K (.type "int") (.type "list") = some false := kit_tt (by decide +kernel) (by decide +kernel) (by decide +kernel)
  have hIB : PySem.W.kitOne K (.type "int") (.type "bool") = some false := kit_tt (by decide +kernel) (by decide +kernel) (by decide +kernel)
  have F0 := fun_mk (st := s_divisor) l0 c0 k0
  have B0 := F0.binds (ps := ["one", "other"]) fun _ _ _ _ _ _ us hl => match us, hl with | [_, _], _ => rfl
  have F1 := fun_mk (st := s_is_less) l1 c1 k1
  have B1 := F1.binds (ps := ["one", "other"]) fun _ _ _ _ _ _ us hl => match us, hl with | [_, _], _ => rfl
  have F2 := fun_mk (st := s_is_name) l2 c2 k2
  have B2 := F2.binds (ps := ["text"]) fun _ _ _ _ _ _ us hl => match us, hl with | [_], _ => rfl
  have F3 := fun_mk (st := s_must_loss) l3 c3 k3
  have B3 := F3.binds (ps := ["number"]) fun _ _ _ _ _ _ us hl => match us, hl with | [_], _ => rfl
  have F4 := fun_mk (st := s_Entry_init) l4 c4 k4
  have B4 := F4.binds (ps := ["self", "numbers", "held"]) fun _ _ _ _ _ _ us hl => match us, hl with | [_, _, _], _ => rfl
  have F5 := fun_mk (st := s_Book_init) l5 c5 k5
  have B5 := F5.binds (ps := ["self"]) fun _ _ _ _ _ _ us hl => match us, hl with | [_], _ => rfl
  have F6 := fun_mk (st := s_Book_must_hold) l6 c6 k6
  have B6 := F6.binds (ps := ["self", "name"]) fun _ _ _ _ _ _ us hl => match us, hl with | [_, _], _ => rfl
  have F7 := fun_mk (st := s_Book_entry_of) l7 c7 k7
  have B7 := F7.binds (ps := ["self", "house"]) fun _ _ _ _ _ _ us hl => match us, hl with | [_, _], _ => rfl
  have F8 := fun_mk (st := s_Book_houses) l8 c8 k8
  have B8 := F8.binds (ps := ["self"]) fun _ _ _ _ _ _ us hl => match us, hl with | [_], _ => rfl
  have F9 := fun_mk (st := s_Book_persons) l9 c9 k9
  have B9 := F9.binds (ps := ["self"]) fun _ _ _ _ _ _ us hl => match us, hl with | [_], _ => rfl
  have F10 := fun_mk (st := s_l_purse) l10 c10 k10
  have B10 := F10.binds (ps := ["_law_cell"]) fun _ _ _ _ _ _ us hl => match us, hl with | [_], _ => rfl
  have F11 := fun_mk (st := s_l_take) l11 c11 k11
  have B11 := F11.binds (ps := ["_law_purse_here", "_law_many"]) fun _ _ _ _ _ _ us hl => match us, hl with | [_, _], _ => rfl
  have F12 := fun_mk (st := s_l_divisor) l12 c12 k12
  have B12 := F12.binds (ps := ["_law_one_here", "_law_other"]) fun _ _ _ _ _ _ us hl => match us, hl with | [_, _], _ => rfl
  have F13 := fun_mk (st := s_l_lesser) l13 c13 k13
  have B13 := F13.binds (ps := ["_law_one_here", "_law_other"]) fun _ _ _ _ _ _ us hl => match us, hl with | [_, _], _ => rfl
  have F14 := fun_mk (st := s_l_is_name) l14 c14 k14
  have B14 := F14.binds (ps := ["_law_text"]) fun _ _ _ _ _ _ us hl => match us, hl with | [_], _ => rfl
  have F15 := fun_mk (st := s_l_which) l15 c15 k15
  have B15 := F15.binds (ps := ["_law_e"]) fun _ _ _ _ _ _ us hl => match us, hl with | [_], _ => rfl
  have F16 := fun_mk (st := s_l_shares) l16 c16 k16
  have B16 := F16.binds (ps := ["_law_model", "_law_house"]) fun _ _ _ _ _ _ us hl => match us, hl with | [_, _], _ => rfl
  have F17 := fun_mk (st := s_l_whole) l17 c17 k17
  have B17 := F17.binds (ps := ["_law_found"]) fun _ _ _ _ _ _ us hl => match us, hl with | [_], _ => rfl
  have F18 := fun_mk (st := s_made) l18 c18 k18
  have B18 := F18.binds (ps := ["top", "bottom"]) fun _ _ _ _ _ _ us hl => match us, hl with | [_, _], _ => rfl
  have F19 := fun_mk (st := s_Book_must_be_new) l19 c19 k19
  have B19 := F19.binds (ps := ["self", "name"]) fun _ _ _ _ _ _ us hl => match us, hl with | [_, _], _ => rfl
  have F20 := fun_mk (st := s_Book_put_number) l20 c20 k20
  have B20 := F20.binds (ps := ["self", "house", "place", "number"]) fun _ _ _ _ _ _ us hl => match us, hl with | [_, _, _, _], _ => rfl
  have F21 := fun_mk (st := s_Book_shares) l21 c21 k21
  have B21 := F21.binds (ps := ["self", "house"]) fun _ _ _ _ _ _ us hl => match us, hl with | [_, _], _ => rfl
  have F22 := fun_mk (st := s_Book_of) l22 c22 k22
  have B22 := F22.binds (ps := ["self", "house"]) fun _ _ _ _ _ _ us hl => match us, hl with | [_, _], _ => rfl
  have F23 := fun_mk (st := s_l_lowest) l23 c23 k23
  have B23 := F23.binds (ps := ["_law_top", "_law_bottom"]) fun _ _ _ _ _ _ us hl => match us, hl with | [_, _], _ => rfl
  have F24 := fun_mk (st := s_l_names) l24 c24 k24
  have B24 := F24.binds (ps := ["_law_purse_here"]) fun _ _ _ _ _ _ us hl => match us, hl with | [_], _ => rfl
  have F25 := fun_mk (st := s_l_refusal) l25 c25 k25
  have B25 := F25.binds (ps := ["_law_model", "_law_deed_here"]) fun _ _ _ _ _ _ us hl => match us, hl with | [_, _], _ => rfl
  have F26 := fun_mk (st := s_l_one) l26 c26 k26
  have B26 := F26.binds (ps := ["_law_purse_here", "_law_words", "_law_odd"]) fun _ _ _ _ _ _ us hl => match us, hl with | [_, _, _], _ => rfl
  have F27 := fun_mk (st := s_l_number) l27 c27 k27
  have B27 := F27.binds (ps := ["_law_purse_here"]) fun _ _ _ _ _ _ us hl => match us, hl with | [_], _ => rfl
  have F28 := fun_mk (st := s_added) l28 c28 k28
  have B28 := F28.binds (ps := ["one", "other"]) fun _ _ _ _ _ _ us hl => match us, hl with | [_, _], _ => rfl
  have F29 := fun_mk (st := s_minus) l29 c29 k29
  have B29 := F29.binds (ps := ["one", "other"]) fun _ _ _ _ _ _ us hl => match us, hl with | [_, _], _ => rfl
  have F30 := fun_mk (st := s_Book_person) l30 c30 k30
  have B30 := F30.binds (ps := ["self", "name"]) fun _ _ _ _ _ _ us hl => match us, hl with | [_, _], _ => rfl
  have F31 := fun_mk (st := s_Book_house) l31 c31 k31
  have B31 := F31.binds (ps := ["self", "name", "owner", "things", "mark", "loss"]) fun _ _ _ _ _ _ us hl => match us, hl with | [_, _, _, _, _, _], _ => rfl
  have F32 := fun_mk (st := s_Book_things) l32 c32 k32
  have B32 := F32.binds (ps := ["self", "house", "number"]) fun _ _ _ _ _ _ us hl => match us, hl with | [_, _, _], _ => rfl
  have F33 := fun_mk (st := s_Book_mark) l33 c33 k33
  have B33 := F33.binds (ps := ["self", "house", "number"]) fun _ _ _ _ _ _ us hl => match us, hl with | [_, _, _], _ => rfl
  have F34 := fun_mk (st := s_Book_loss) l34 c34 k34
  have B34 := F34.binds (ps := ["self", "house", "number"]) fun _ _ _ _ _ _ us hl => match us, hl with | [_, _, _], _ => rfl
  have F35 := fun_mk (st := s_l_plus) l35 c35 k35
  have B35 := F35.binds (ps := ["_law_one_here", "_law_other"]) fun _ _ _ _ _ _ us hl => match us, hl with | [_, _], _ => rfl
  have F36 := fun_mk (st := s_l_times) l36 c36 k36
  have B36 := F36.binds (ps := ["_law_one_here", "_law_other"]) fun _ _ _ _ _ _ us hl => match us, hl with | [_, _], _ => rfl
  have F37 := fun_mk (st := s_l_lists) l37 c37 k37
  have B37 := F37.binds (ps := ["_law_book", "_law_house"]) fun _ _ _ _ _ _ us hl => match us, hl with | [_, _], _ => rfl
  have F38 := fun_mk (st := s_Book_sale) l38 c38 k38
  have B38 := F38.binds (ps := ["self", "house", "one", "other", "share"]) fun _ _ _ _ _ _ us hl => match us, hl with | [_, _, _, _, _], _ => rfl
  have F39 := fun_mk (st := s_l_changed) l39 c39 k39
  have B39 := F39.binds (ps := ["_law_model", "_law_deed_here"]) fun _ _ _ _ _ _ us hl => match us, hl with | [_, _], _ => rfl
  have F40 := fun_mk (st := s_l_part) l40 c40 k40
  have B40 := F40.binds (ps := ["_law_purse_here", "_law_has"]) fun _ _ _ _ _ _ us hl => match us, hl with | [_, _], _ => rfl
  have F41 := fun_mk (st := s_l_deed) l41 c41 k41
  have B41 := F41.binds (ps := ["_law_book", "_law_deed_here"]) fun _ _ _ _ _ _ us hl => match us, hl with | [_, _], _ => rfl
  have F42 := fun_mk (st := s_l_same) l42 c42 k42
  have B42 := F42.binds (ps := ["_law_found", "_law_due"]) fun _ _ _ _ _ _ us hl => match us, hl with | [_, _], _ => rfl
  have F43 := fun_mk (st := s_l_sale) l43 c43 k43
  have B43 := F43.binds (ps := ["_law_purse_here", "_law_words", "_law_model", "_law_odd"]) fun _ _ _ _ _ _ us hl => match us, hl with | [_, _, _, _], _ => rfl
  have F44 := fun_mk (st := s_l_did) l44 c44 k44
  have B44 := F44.binds (ps := ["_law_book", "_law_deed_here"]) fun _ _ _ _ _ _ us hl => match us, hl with | [_, _], _ => rfl
  have F45 := fun_mk (st := s_l_told) l45 c45 k45
  have B45 := F45.binds (ps := ["_law_book", "_law_model"]) fun _ _ _ _ _ _ us hl => match us, hl with | [_, _], _ => rfl
  have F46 := fun_mk (st := s_l_drawn) l46 c46 k46
  have B46 := F46.binds (ps := ["_law_purse_here", "_law_words", "_law_model", "_law_odd", "_law_most"]) fun _ _ _ _ _ _ us hl => match us, hl with | [_, _, _, _, _], _ => rfl
  have F47 := fun_mk (st := s_l_done) l47 c47 k47
  have B47 := F47.binds (ps := ["_law_book", "_law_model", "_law_deed_here"]) fun _ _ _ _ _ _ us hl => match us, hl with | [_, _, _], _ => rfl
  have F48 := fun_mk (st := s_law) l48 c48 k48
  have B48 := F48.binds (ps := ["_law_script"]) fun _ _ _ _ _ _ us hl => match us, hl with | [_], _ => rfl
  refine ⟨PySem.W.fnOf "law" "law" (defArgs s_law) (defBody s_law) (defScope s_law) .none kV48 dc48 pm48 an48 cd48 ct48, fun s v => .of_eq rfl, fun base _ _ => ?_⟩
  have ga : ∀ k, AmbOk (Gm P w K mg base k) := fun k => ⟨fun x hx => by
    simp only [bltNames, List.mem_cons, List.not_mem_nil, or_false] at hx
    rcases hx with rfl | rfl | rfl | rfl | rfl | rfl | rfl | rfl | rfl | rfl | rfl | rfl | rfl | rfl | rfl
    · exact PySem.W.mg_none_of X G b_len
    · exact PySem.W.mg_none_of X G b_abs
    · exact PySem.W.mg_none_of X G b_int
    · exact PySem.W.mg_none_of X G b_str
    · exact PySem.W.mg_none_of X G b_sorted
    · exact PySem.W.mg_none_of X G b_list
    · exact PySem.W.mg_none_of X G b_all
    · exact PySem.W.mg_none_of X G b_any
    · exact PySem.W.mg_none_of X G b_tuple
    · exact PySem.W.mg_none_of X G b_max
    · exact PySem.W.mg_none_of X G b_isinstance
    · exact PySem.W.mg_none_of X G b_range
    · exact PySem.W.mg_none_of X G b_zip
    · exact PySem.W.mg_none_of X G b_enumerate
    · exact PySem.W.mg_none_of X G b_dict⟩
  have O0 : FnOk P w K mg base (L2.CX P w) 1 _ _ _ (liftSp K spDiv) := fun_ok (Γ := Gm P w K mg base 0) (ga 0) (sp := spDiv) F0 f_divisor (c_divisor ) (k_divisor ) (fun vs F Q E h => by obtain ⟨_, _, rfl, _⟩ := h; rfl) (w_divisor)
  have O1 : FnOk P w K mg base (L2.CX P w) 1 _ _ _ (liftSp K spLess) := fun_ok (Γ := Gm P w K mg base 0) (ga 0) (sp := spLess) F1 f_is_less (c_is_less ) (k_is_less ) (fun vs F Q E h => by obtain ⟨_, _, rfl, _⟩ := h; rfl) (w_is_less)
  have O2 : FnOk P w K mg base (L2.CX P w) 1 _ _ _ (liftSp K spIsNameX) := fun_ok (Γ := Gm P w K mg base 0) (ga 0) (sp := spIsNameX) F2 f_is_name (c_is_name (mkGlS 0 (PySem.W.mg_of X G gL))) (k_is_name _) (fun vs F Q E h => by obtain ⟨_, rfl, _⟩ := h; rfl) (w_is_nameX rfl)
  have O3 : FnOk P w K mg base (L2.CX P w) 1 _ _ _ (liftSp K (spLossX (X7 C_NoName C_Twice C_TooMany C_NoHolder C_NoHouse C_NoLoss C_NoShare))) := fun_ok (Γ := Gm P w K mg base 0) (ga 0) (sp := (spLossX (X7 C_NoName C_Twice C_TooMany C_NoHolder C_NoHouse C_NoLoss C_NoShare))) F3 f_must_loss (c_must_loss (mkRai 0 x_NoLoss (PySem.W.mg_of X G aC_NoLoss) xk_NoLoss xb_NoLoss ty_NoLoss)) (k_must_loss _) (fun vs F Q E h => by obtain ⟨_, rfl, _⟩ := h; rfl) (w_must_lossX rfl)
  have O4 : FnOk P w K mg base (L2.CX P w) 1 _ _ _ (liftSp K (spEInit CE)) := fun_ok (Γ := Gm P w K mg base 0) (ga 0) (sp := (spEInit CE)) F4 f_Entry_init (c_Entry_init (mkFld 0 clCE no_held) (mkFld 0 clCE no_numbers)) (k_Entry_init _ _) (fun vs F Q E h => by obtain ⟨_, _, _, rfl, _⟩ := h; rfl) (w_Entry_init rfl rfl)
  have O5 : FnOk P w K mg base (L2.CX P w) 1 _ _ _ (liftSp K (spBInit CB)) := fun_ok (Γ := Gm P w K mg base 0) (ga 0) (sp := (spBInit CB)) F5 f_Book_init (c_Book_init (mkFld 0 clCB no_entries) (mkFld 0 clCB no_people)) (k_Book_init _ _) (fun vs F Q E h => by obtain ⟨_, rfl, _⟩ := h; rfl) (w_Book_init rfl rfl)
  have O6 : FnOk P w K mg base (L2.CX P w) 1 _ _ _ (liftSp K (spMustHoldX (X7 C_NoName C_Twice C_TooMany C_NoHolder C_NoHouse C_NoLoss C_NoShare) CB)) := fun_ok (Γ := Gm P w K mg base 0) (ga 0) (sp := (spMustHoldX (X7 C_NoName C_Twice C_TooMany C_NoHolder C_NoHouse C_NoLoss C_NoShare) CB)) F6 f_Book_must_hold (c_Book_must_hold (mkFld 0 clCB no_people) (mkFld 0 clCB no_entries) (mkRai 0 x_NoHolder (PySem.W.mg_of X G aC_NoHolder) xk_NoHolder xb_NoHolder ty_NoHolder)) (k_Book_must_hold _ _ _) (fun vs F Q E h => by obtain ⟨_, _, _, _, _, _, rfl, _⟩ := h; rfl) (w_must_holdX rfl rfl rfl)
  have O7 : FnOk P w K mg base (L2.CX P w) 1 _ _ _ (liftSp K (spEntryOf CB ((X7 C_NoName C_Twice C_TooMany C_NoHolder C_NoHouse C_NoLoss C_NoShare) 4))) := fun_ok (Γ := Gm P w K mg base 0) (ga 0) (sp := (spEntryOf CB ((X7 C_NoName C_Twice C_TooMany C_NoHolder C_NoHouse C_NoLoss C_NoShare) 4))) F7 f_Book_entry_of (c_Book_entry_of (mkFld 0 clCB no_entries) (mkRai 0 x_NoHouse (PySem.W.mg_of X G aC_NoHouse) xk_NoHouse xb_NoHouse ty_NoHouse)) (k_Book_entry_of _ _) (fun vs F Q E h => by obtain ⟨_, _, _, _, _, _, rfl, _⟩ := h; rfl) (w_entry_of rfl rfl)
  have O8 : FnOk P w K mg base (L2.CX P w) 1 _ _ _ (liftSp K (spHouses CB)) := fun_ok (Γ := Gm P w K mg base 0) (ga 0) (sp := (spHouses CB)) F8 f_Book_houses (c_Book_houses (mkFld 0 clCB no_entries)) (k_Book_houses _) (fun vs F Q E h => by obtain ⟨_, _, _, _, _, rfl, _⟩ := h; rfl) (w_houses rfl)
  have O9 : FnOk P w K mg base (L2.CX P w) 1 _ _ _ (liftSp K (spPersons CB)) := fun_ok (Γ := Gm P w K mg base 0) (ga 0) (sp := (spPersons CB)) F9 f_Book_persons (c_Book_persons (mkFld 0 clCB no_people)) (k_Book_persons _) (fun vs F Q E h => by obtain ⟨_, _, _, _, _, rfl, _⟩ := h; rfl) (w_persons rfl)
  have O10 : FnOk P w K mg base (L2.CX P w) 1 _ _ _ (liftSp K spCell) := fun_ok (Γ := Gm P w K mg base 0) (ga 0) (sp := spCell) F10 f_l_purse (c_l_purse ) (k_l_purse ) (fun vs F Q E h => by obtain ⟨_, rfl, _⟩ := h; rfl) (w_l_purse)
  have O11 : FnOk P w K mg base (L2.CX P w) 1 _ _ _ (liftSp K spTake) := fun_ok (Γ := Gm P w K mg base 0) (ga 0) (sp := spTake) F11 f_l_take (c_l_take ) (k_l_take ) (fun vs F Q E h => by obtain ⟨_, _, rfl, _⟩ := h; rfl) (w_l_take)
  have O12 : FnOk P w K mg base (L2.CX P w) 1 _ _ _ (liftSp K spDivL) := fun_ok (Γ := Gm P w K mg base 0) (ga 0) (sp := spDivL) F12 f_l_divisor (c_l_divisor ) (k_l_divisor ) (fun vs F Q E h => by obtain ⟨_, _, rfl, _⟩ := h; rfl) (w_l_divisor)
  have O13 : FnOk P w K mg base (L2.CX P w) 1 _ _ _ (liftSp K spLess) := fun_ok (Γ := Gm P w K mg base 0) (ga 0) (sp := spLess) F13 f_l_lesser (c_l_lesser ) (k_l_lesser ) (fun vs F Q E h => by obtain ⟨_, _, rfl, _⟩ := h; rfl) (w_l_lesser)
  have O14 : FnOk P w K mg base (L2.CX P w) 1 _ _ _ (liftSp K spIsNameX) := fun_ok (Γ := Gm P w K mg base 0) (ga 0) (sp := spIsNameX) F14 f_l_is_name (c_l_is_name ) (k_l_is_name ) (fun vs F Q E h => by obtain ⟨_, rfl, _⟩ := h; rfl) (w_l_is_name)
  have O15 : FnOk P w K mg base (L2.CX P w) 1 _ _ _ (liftSp K (spWhichX (X7 C_NoName C_Twice C_TooMany C_NoHolder C_NoHouse C_NoLoss C_NoShare))) := fun_ok (Γ := Gm P w K mg base 0) (ga 0) (sp := (spWhichX (X7 C_NoName C_Twice C_TooMany C_NoHolder C_NoHouse C_NoLoss C_NoShare))) F15 f_l_which (c_l_which (mkIsT (n := "ValueError") 0 (PySem.W.mg_none_of X G b_ValueError) (by decide +kernel) (by decide)) (mkIs 0 (PySem.W.mg_of X G aC_OwnError)) (mkIs 0 (PySem.W.mg_of X G aC_NoText)) (mkIs 0 (PySem.W.mg_of X G aC_Whole)) (mkIs 0 (PySem.W.mg_of X G aC_NoHouse)) (mkIs 0 (PySem.W.mg_of X G aC_NoLoss)) (mkIs 0 (PySem.W.mg_of X G aC_NoShare)) (mkIs 0 (PySem.W.mg_of X G aC_NoName)) (mkIs 0 (PySem.W.mg_of X G aC_Twice)) (mkIs 0 (PySem.W.mg_of X G aC_TooMany)) (mkIs 0 (PySem.W.mg_of X G aC_NoHolder))) (k_l_which _ _ _ _ _ _ _ _ _ _ _) (fun vs F Q E h => by obtain ⟨_, _, rfl, _⟩ := h; rfl) (w_l_whichX (fun r h => match r, h with | 0, _ => hExc_NoName | 1, _ => hExc_Twice | 2, _ => hExc_TooMany | 3, _ => hExc_NoHolder | 4, _ => hExc_NoHouse | 5, _ => hExc_NoLoss | 6, _ => hExc_NoShare | r + 7, h => absurd h (by omega)) (fun r h => match r, h with | 0, _ => hIs_NoName_ValueError | 1, _ => hIs_Twice_ValueError | 2, _ => hIs_TooMany_ValueError | 3, _ => hIs_NoHolder_ValueError | 4, _ => hIs_NoHouse_ValueError | 5, _ => hIs_NoLoss_ValueError | 6, _ => hIs_NoShare_ValueError | r + 7, h => absurd h (by omega)) (fun r h => match r, h with | 0, _ => hIs_NoName_OwnError | 1, _ => hIs_Twice_OwnError | 2, _ => hIs_TooMany_OwnError | 3, _ => hIs_NoHolder_OwnError | 4, _ => hIs_NoHouse_OwnError | 5, _ => hIs_NoLoss_OwnError | 6, _ => hIs_NoShare_OwnError | r + 7, h => absurd h (by omega)) (fun r h => match r, h with | 0, _ => hIs_NoName_NoName | 1, _ => hIs_Twice_NoName | 2, _ => hIs_TooMany_NoName | 3, _ => hIs_NoHolder_NoName | 4, _ => hIs_NoHouse_NoName | 5, _ => hIs_NoLoss_NoName | 6, _ => hIs_NoShare_NoName | r + 7, h => absurd h (by omega)) (fun r h => match r, h with | 0, _ => hIs_NoName_Twice | 1, _ => hIs_Twice_Twice | 2, _ => hIs_TooMany_Twice | 3, _ => hIs_NoHolder_Twice | 4, _ => hIs_NoHouse_Twice | 5, _ => hIs_NoLoss_Twice | 6, _ => hIs_NoShare_Twice | r + 7, h => absurd h (by omega)) (fun r h => match r, h with | 0, _ => hIs_NoName_TooMany | 1, _ => hIs_Twice_TooMany | 2, _ => hIs_TooMany_TooMany | 3, _ => hIs_NoHolder_TooMany | 4, _ => hIs_NoHouse_TooMany | 5, _ => hIs_NoLoss_TooMany | 6, _ => hIs_NoShare_TooMany | r + 7, h => absurd h (by omega)) (fun r h => match r, h with | 0, _ => hIs_NoName_NoHolder | 1, _ => hIs_Twice_NoHolder | 2, _ => hIs_TooMany_NoHolder | 3, _ => hIs_NoHolder_NoHolder | 4, _ => hIs_NoHouse_NoHolder | 5, _ => hIs_NoLoss_NoHolder | 6, _ => hIs_NoShare_NoHolder | r + 7, h => absurd h (by omega)) (fun r h => match r, h with | 0, _ => hIs_NoName_NoHouse | 1, _ => hIs_Twice_NoHouse | 2, _ => hIs_TooMany_NoHouse | 3, _ => hIs_NoHolder_NoHouse | 4, _ => hIs_NoHouse_NoHouse | 5, _ => hIs_NoLoss_NoHouse | 6, _ => hIs_NoShare_NoHouse | r + 7, h => absurd h (by omega)) (fun r h => match r, h with | 0, _ => hIs_NoName_NoLoss | 1, _ => hIs_Twice_NoLoss | 2, _ => hIs_TooMany_NoLoss | 3, _ => hIs_NoHolder_NoLoss | 4, _ => hIs_NoHouse_NoLoss | 5, _ => hIs_NoLoss_NoLoss | 6, _ => hIs_NoShare_NoLoss | r + 7, h => absurd h (by omega)) (fun r h => match r, h with | 0, _ => hIs_NoName_NoShare | 1, _ => hIs_Twice_NoShare | 2, _ => hIs_TooMany_NoShare | 3, _ => hIs_NoHolder_NoShare | 4, _ => hIs_NoHouse_NoShare | 5, _ => hIs_NoLoss_NoShare | 6, _ => hIs_NoShare_NoShare | r + 7, h => absurd h (by omega)) (fun r h => match r, h with | 0, _ => hIs_NoName_NoText | 1, _ => hIs_Twice_NoText | 2, _ => hIs_TooMany_NoText | 3, _ => hIs_NoHolder_NoText | 4, _ => hIs_NoHouse_NoText | 5, _ => hIs_NoLoss_NoText | 6, _ => hIs_NoShare_NoText | r + 7, h => absurd h (by omega)) (fun r h => match r, h with | 0, _ => hIs_NoName_Whole | 1, _ => hIs_Twice_Whole | 2, _ => hIs_TooMany_Whole | 3, _ => hIs_NoHolder_Whole | 4, _ => hIs_NoHouse_Whole | 5, _ => hIs_NoLoss_Whole | 6, _ => hIs_NoShare_Whole | r + 7, h => absurd h (by omega)))
  have O16 : FnOk P w K mg base (L2.CX P w) 1 _ _ _ (liftSp K spSharesL) := fun_ok (Γ := Gm P w K mg base 0) (ga 0) (sp := spSharesL) F16 f_l_shares (c_l_shares ) (k_l_shares ) (fun vs F Q E h => by obtain ⟨_, _, rfl, _⟩ := h; rfl) (w_l_shares)
  have O17 : FnOk P w K mg base (L2.CX P w) 1 _ _ _ (liftSp K spWhole) := fun_ok (Γ := Gm P w K mg base 0) (ga 0) (sp := spWhole) F17 f_l_whole (c_l_whole (mkIsT (n := "int") 0 (PySem.W.mg_none_of X G b_int) (by decide +kernel) (by decide)) (mkIsT (n := "bool") 0 (PySem.W.mg_none_of X G b_bool) (by decide +kernel) (by decide))) (k_l_whole _ _) (fun vs F Q E h => by obtain ⟨_, rfl, _⟩ := h; rfl) (w_l_whole hII hIB)
  have O18 : FnOk P w K mg base (L2.CX P w) 2 _ _ _ (liftSp K spMade) := fun_ok (Γ := Gm P w K mg base 1) (ga 1) (sp := spMade) F18 f_made (c_made (mkCall 1 (by decide) (PySem.W.mg_of X G a0) k0 B0 O0)) (k_made _) (fun vs F Q E h => by obtain ⟨_, _, rfl, _⟩ := h; rfl) (w_made rfl)
  have O19 : FnOk P w K mg base (L2.CX P w) 2 _ _ _ (liftSp K (spMustNewX (X7 C_NoName C_Twice C_TooMany C_NoHolder C_NoHouse C_NoLoss C_NoShare) CB)) := fun_ok (Γ := Gm P w K mg base 1) (ga 1) (sp := (spMustNewX (X7 C_NoName C_Twice C_TooMany C_NoHolder C_NoHouse C_NoLoss C_NoShare) CB)) F19 f_Book_must_be_new (c_Book_must_be_new (mkFld 1 clCB no_people) (mkFld 1 clCB no_entries) (mkRai 1 x_Twice (PySem.W.mg_of X G aC_Twice) xk_Twice xb_Twice ty_Twice) (mkCall 1 (by decide) (PySem.W.mg_of X G a2) k2 B2 O2) (mkRai 1 x_NoName (PySem.W.mg_of X G aC_NoName) xk_NoName xb_NoName ty_NoName)) (k_Book_must_be_new _ _ _ _ _) (fun vs F Q E h => by obtain ⟨_, _, _, _, _, _, rfl, _⟩ := h; rfl) (w_must_be_newX rfl rfl rfl rfl rfl)
  have O20 : FnOk P w K mg base (L2.CX P w) 2 _ _ _ (liftSp K (spPutNX (X7 C_NoName C_Twice C_TooMany C_NoHolder C_NoHouse C_NoLoss C_NoShare) CB CE)) := fun_ok (Γ := Gm P w K mg base 1) (ga 1) (sp := (spPutNX (X7 C_NoName C_Twice C_TooMany C_NoHolder C_NoHouse C_NoLoss C_NoShare) CB CE)) F20 f_Book_put_number (c_Book_put_number (mkFld 1 clCE no_numbers) (mkMeth 1 clCB (by decide) ⟨a7, i7, k7⟩ B7 O7)) (k_Book_put_number _ _) (fun vs F Q E h => by obtain ⟨_, _, _, _, _, _, _, _, rfl, _⟩ := h; rfl) (w_put_numberX rfl rfl rfl)
  have O21 : FnOk P w K mg base (L2.CX P w) 2 _ _ _ (liftSp K (spShares CB CE ((X7 C_NoName C_Twice C_TooMany C_NoHolder C_NoHouse C_NoLoss C_NoShare) 4))) := fun_ok (Γ := Gm P w K mg base 1) (ga 1) (sp := (spShares CB CE ((X7 C_NoName C_Twice C_TooMany C_NoHolder C_NoHouse C_NoLoss C_NoShare) 4))) F21 f_Book_shares (c_Book_shares (mkFld 1 clCE no_held) (mkMeth 1 clCB (by decide) ⟨a7, i7, k7⟩ B7 O7)) (k_Book_shares _ _) (fun vs F Q E h => by obtain ⟨_, _, _, _, _, _, _, _, _, _, rfl, _⟩ := h; rfl) (w_shares rfl rfl rfl)
  have O22 : FnOk P w K mg base (L2.CX P w) 2 _ _ _ (liftSp K (spOf CB CE)) := fun_ok (Γ := Gm P w K mg base 1) (ga 1) (sp := (spOf CB CE)) F22 f_Book_of (c_Book_of (mkFld 1 clCE no_numbers) (mkMeth 1 clCB (by decide) ⟨a7, i7, k7⟩ B7 O7)) (k_Book_of _ _) (fun vs F Q E h => by obtain ⟨_, _, _, _, _, _, _, _, _, _, rfl, _⟩ := h; rfl) (w_of (CN := (X7 C_NoName C_Twice C_TooMany C_NoHolder C_NoHouse C_NoLoss C_NoShare) 4) rfl rfl rfl)
  have O23 : FnOk P w K mg base (L2.CX P w) 2 _ _ _ (liftSp K spLow) := fun_ok (Γ := Gm P w K mg base 1) (ga 1) (sp := spLow) F23 f_l_lowest (c_l_lowest (mkCall 1 (by decide) (PySem.W.mg_of X G a12) k12 B12 O12)) (k_l_lowest _) (fun vs F Q E h => by obtain ⟨_, _, rfl, _⟩ := h; rfl) (w_l_lowest rfl)
  have O24 : FnOk P w K mg base (L2.CX P w) 2 _ _ _ (liftSp K spNames) := fun_ok (Γ := Gm P w K mg base 1) (ga 1) (sp := spNames) F24 f_l_names (c_l_names (mkCall 1 (by decide) (PySem.W.mg_of X G a11) k11 B11 O11)) (k_l_names _) (fun vs F Q E h => by obtain ⟨_, rfl, _⟩ := h; rfl) (w_l_names rfl)
  have O25 : FnOk P w K mg base (L2.CX P w) 2 _ _ _ (liftSp K spRefusal) := fun_ok (Γ := Gm P w K mg base 1) (ga 1) (sp := spRefusal) F25 f_l_refusal (c_l_refusal (mkCall 1 (by decide) (PySem.W.mg_of X G a13) k13 B13 O13) (mkCall 1 (by decide) (PySem.W.mg_of X G a14) k14 B14 O14)) (k_l_refusal _ _) (fun vs F Q E h => by obtain ⟨_, _, rfl, _⟩ := h; rfl) (w_l_refusal rfl rfl)
  have O26 : FnOk P w K mg base (L2.CX P w) 2 _ _ _ (liftSp K spOne) := fun_ok (Γ := Gm P w K mg base 1) (ga 1) (sp := spOne) F26 f_l_one (c_l_one (mkCall 1 (by decide) (PySem.W.mg_of X G a11) k11 B11 O11)) (k_l_one _) (fun vs F Q E h => by obtain ⟨_, _, _, rfl, _⟩ := h; rfl) (w_l_one rfl)
  have O27 : FnOk P w K mg base (L2.CX P w) 2 _ _ _ (liftSp K spNumb) := fun_ok (Γ := Gm P w K mg base 1) (ga 1) (sp := spNumb) F27 f_l_number (c_l_number (mkCall 1 (by decide) (PySem.W.mg_of X G a11) k11 B11 O11)) (k_l_number _) (fun vs F Q E h => by obtain ⟨_, rfl, _⟩ := h; rfl) (w_l_number rfl)
  have O28 : FnOk P w K mg base (L2.CX P w) 3 _ _ _ (liftSp K spAdded) := fun_ok (Γ := Gm P w K mg base 2) (ga 2) (sp := spAdded) F28 f_added (c_added (mkCall 2 (by decide) (PySem.W.mg_of X G a18) k18 B18 O18)) (k_added _) (fun vs F Q E h => by obtain ⟨_, _, rfl, _⟩ := h; rfl) (w_added rfl)
  have O29 : FnOk P w K mg base (L2.CX P w) 3 _ _ _ (liftSp K spMinus) := fun_ok (Γ := Gm P w K mg base 2) (ga 2) (sp := spMinus) F29 f_minus (c_minus (mkCall 2 (by decide) (PySem.W.mg_of X G a18) k18 B18 O18)) (k_minus _) (fun vs F Q E h => by obtain ⟨_, _, rfl, _⟩ := h; rfl) (w_minus rfl)
  have O30 : FnOk P w K mg base (L2.CX P w) 3 _ _ _ (liftSp K (spPersonX (X7 C_NoName C_Twice C_TooMany C_NoHolder C_NoHouse C_NoLoss C_NoShare) CB)) := fun_ok (Γ := Gm P w K mg base 2) (ga 2) (sp := (spPersonX (X7 C_NoName C_Twice C_TooMany C_NoHolder C_NoHouse C_NoLoss C_NoShare) CB)) F30 f_Book_person (c_Book_person (mkFld 2 clCB no_people) (mkGlI 2 (PySem.W.mg_of X G gP)) (mkRai 2 x_TooMany (PySem.W.mg_of X G aC_TooMany) xk_TooMany xb_TooMany ty_TooMany) (mkMeth 2 clCB (by decide) ⟨a19, i19, k19⟩ B19 O19)) (k_Book_person _ _ _ _) (fun vs F Q E h => by obtain ⟨_, _, _, _, _, _, rfl, _⟩ := h; rfl) (w_personX rfl rfl rfl rfl rfl)
  have O31 : FnOk P w K mg base (L2.CX P w) 3 _ _ _ (liftSp K (spHouseX (X7 C_NoName C_Twice C_TooMany C_NoHolder C_NoHouse C_NoLoss C_NoShare) CB CE)) := fun_ok (Γ := Gm P w K mg base 2) (ga 2) (sp := (spHouseX (X7 C_NoName C_Twice C_TooMany C_NoHolder C_NoHouse C_NoLoss C_NoShare) CB CE)) F31 f_Book_house (c_Book_house (mkFld 2 clCB no_entries) (mkNew 2 (by decide) ⟨mkCE, a4, i4, kpCE⟩ (PySem.W.mg_of X G aCE) B4 O4) (mkGlI 2 (PySem.W.mg_of X G gH)) (mkRai 2 x_TooMany (PySem.W.mg_of X G aC_TooMany) xk_TooMany xb_TooMany ty_TooMany) (mkCall 2 (by decide) (PySem.W.mg_of X G a3) k3 B3 O3) (mkMeth 2 clCB (by decide) ⟨a6, i6, k6⟩ B6 O6) (mkMeth 2 clCB (by decide) ⟨a19, i19, k19⟩ B19 O19)) (k_Book_house _ _ _ _ _ _ _) (fun vs F Q E h => by obtain ⟨_, _, _, _, _, _, _, _, _, _, rfl, _⟩ := h; rfl) (w_houseX rfl rfl rfl rfl rfl rfl rfl rfl rfl rfl)
  have O32 : FnOk P w K mg base (L2.CX P w) 3 _ _ _ (liftSp K (spThingX 0 (X7 C_NoName C_Twice C_TooMany C_NoHolder C_NoHouse C_NoLoss C_NoShare) CB CE)) := fun_ok (Γ := Gm P w K mg base 2) (ga 2) (sp := (spThingX 0 (X7 C_NoName C_Twice C_TooMany C_NoHolder C_NoHouse C_NoLoss C_NoShare) CB CE)) F32 f_Book_things (c_Book_things (mkMeth 2 clCB (by decide) ⟨a20, i20, k20⟩ B20 O20)) (k_Book_things _) (fun vs F Q E h => by obtain ⟨_, _, _, _, _, _, _, rfl, _⟩ := h; rfl) (w_thingsX rfl rfl)
  have O33 : FnOk P w K mg base (L2.CX P w) 3 _ _ _ (liftSp K (spThingX 1 (X7 C_NoName C_Twice C_TooMany C_NoHolder C_NoHouse C_NoLoss C_NoShare) CB CE)) := fun_ok (Γ := Gm P w K mg base 2) (ga 2) (sp := (spThingX 1 (X7 C_NoName C_Twice C_TooMany C_NoHolder C_NoHouse C_NoLoss C_NoShare) CB CE)) F33 f_Book_mark (c_Book_mark (mkMeth 2 clCB (by decide) ⟨a20, i20, k20⟩ B20 O20)) (k_Book_mark _) (fun vs F Q E h => by obtain ⟨_, _, _, _, _, _, _, rfl, _⟩ := h; rfl) (w_markX rfl rfl)
  have O34 : FnOk P w K mg base (L2.CX P w) 3 _ _ _ (liftSp K (spThingX 2 (X7 C_NoName C_Twice C_TooMany C_NoHolder C_NoHouse C_NoLoss C_NoShare) CB CE)) := fun_ok (Γ := Gm P w K mg base 2) (ga 2) (sp := (spThingX 2 (X7 C_NoName C_Twice C_TooMany C_NoHolder C_NoHouse C_NoLoss C_NoShare) CB CE)) F34 f_Book_loss (c_Book_loss (mkMeth 2 clCB (by decide) ⟨a20, i20, k20⟩ B20 O20) (mkCall 2 (by decide) (PySem.W.mg_of X G a3) k3 B3 O3) (mkMeth 2 clCB (by decide) ⟨a7, i7, k7⟩ B7 O7)) (k_Book_loss _ _ _) (fun vs F Q E h => by obtain ⟨_, _, _, _, _, _, _, rfl, _⟩ := h; rfl) (w_lossX rfl rfl rfl rfl rfl)
  have O35 : FnOk P w K mg base (L2.CX P w) 3 _ _ _ (liftSp K spAdded) := fun_ok (Γ := Gm P w K mg base 2) (ga 2) (sp := spAdded) F35 f_l_plus (c_l_plus (mkCall 2 (by decide) (PySem.W.mg_of X G a23) k23 B23 O23)) (k_l_plus _) (fun vs F Q E h => by obtain ⟨_, _, rfl, _⟩ := h; rfl) (w_l_plus rfl)
  have O36 : FnOk P w K mg base (L2.CX P w) 3 _ _ _ (liftSp K spTimes) := fun_ok (Γ := Gm P w K mg base 2) (ga 2) (sp := spTimes) F36 f_l_times (c_l_times (mkCall 2 (by decide) (PySem.W.mg_of X G a23) k23 B23 O23)) (k_l_times _) (fun vs F Q E h => by obtain ⟨_, _, rfl, _⟩ := h; rfl) (w_l_times rfl)
  have O37 : FnOk P w K mg base (L2.CX P w) 3 _ _ _ (liftSp K (spLists CB CE)) := fun_ok (Γ := Gm P w K mg base 2) (ga 2) (sp := (spLists CB CE)) F37 f_l_lists (c_l_lists (mkMeth 2 clCB (by decide) ⟨a9, i9, k9⟩ B9 O9) (mkMeth 2 clCB (by decide) ⟨a8, i8, k8⟩ B8 O8) (mkMeth 2 clCB (by decide) ⟨a21, i21, k21⟩ B21 O21)) (k_l_lists _ _ _) (fun vs F Q E h => by obtain ⟨_, _, _, rfl, _⟩ := h; rfl) (w_l_lists (CN := (X7 C_NoName C_Twice C_TooMany C_NoHolder C_NoHouse C_NoLoss C_NoShare) 4) rfl rfl rfl rfl rfl rfl)
  have O38 : FnOk P w K mg base (L2.CX P w) 4 _ _ _ (liftSp K (spSaleX (X7 C_NoName C_Twice C_TooMany C_NoHolder C_NoHouse C_NoLoss C_NoShare) CB CE)) := fun_ok (Γ := Gm P w K mg base 3) (ga 3) (sp := (spSaleX (X7 C_NoName C_Twice C_TooMany C_NoHolder C_NoHouse C_NoLoss C_NoShare) CB CE)) F38 f_Book_sale (c_Book_sale (mkCall 3 (by decide) (PySem.W.mg_of X G a28) k28 B28 O28) (mkCall 3 (by decide) (PySem.W.mg_of X G a29) k29 B29 O29) (mkCall 3 (by decide) (PySem.W.mg_of X G a1) k1 B1 O1) (mkRai 3 x_NoShare (PySem.W.mg_of X G aC_NoShare) xk_NoShare xb_NoShare ty_NoShare) (mkMeth 3 clCB (by decide) ⟨a6, i6, k6⟩ B6 O6) (mkFld 3 clCE no_held) (mkMeth 3 clCB (by decide) ⟨a7, i7, k7⟩ B7 O7)) (k_Book_sale _ _ _ _ _ _ _) (fun vs F Q E h => by obtain ⟨_, _, _, _, _, _, _, _, _, rfl, _⟩ := h; rfl) (w_saleX rfl rfl rfl rfl rfl rfl rfl rfl rfl)
  have O39 : FnOk P w K mg base (L2.CX P w) 4 _ _ _ (liftSp K spChanged) := fun_ok (Γ := Gm P w K mg base 3) (ga 3) (sp := spChanged) F39 f_l_changed (c_l_changed (mkCall 3 (by decide) (PySem.W.mg_of X G a35) k35 B35 O35)) (k_l_changed _) (fun vs F Q E h => by obtain ⟨_, _, rfl, _⟩ := h; rfl) (w_l_changed rfl)
  have O40 : FnOk P w K mg base (L2.CX P w) 4 _ _ _ (liftSp K spPartA) := fun_ok (Γ := Gm P w K mg base 3) (ga 3) (sp := spPartA) F40 f_l_part (c_l_part (mkCall 3 (by decide) (PySem.W.mg_of X G a35) k35 B35 O35) (mkCall 3 (by decide) (PySem.W.mg_of X G a11) k11 B11 O11) (mkCall 3 (by decide) (PySem.W.mg_of X G a36) k36 B36 O36) (mkCall 3 (by decide) (PySem.W.mg_of X G a23) k23 B23 O23)) (k_l_part _ _ _ _) (fun vs F Q E h => by obtain ⟨_, _, rfl, _⟩ := h; rfl) (w_l_part rfl rfl rfl rfl)
  have O41 : FnOk P w K mg base (L2.CX P w) 5 _ _ _ (liftSp K (spDeedX (X7 C_NoName C_Twice C_TooMany C_NoHolder C_NoHouse C_NoLoss C_NoShare) CB CE)) := fun_ok (Γ := Gm P w K mg base 4) (ga 4) (sp := (spDeedX (X7 C_NoName C_Twice C_TooMany C_NoHolder C_NoHouse C_NoLoss C_NoShare) CB CE)) F41 f_l_deed (c_l_deed (mkMeth 4 clCB (by decide) ⟨a34, i34, k34⟩ B34 O34) (mkMeth 4 clCB (by decide) ⟨a33, i33, k33⟩ B33 O33) (mkMeth 4 clCB (by decide) ⟨a32, i32, k32⟩ B32 O32) (mkMeth 4 clCB (by decide) ⟨a38, i38, k38⟩ B38 O38) (mkMeth 4 clCB (by decide) ⟨a31, i31, k31⟩ B31 O31) (mkMeth 4 clCB (by decide) ⟨a30, i30, k30⟩ B30 O30)) (k_l_deed _ _ _ _ _ _) (fun vs F Q E h => by obtain ⟨_, _, rfl, _⟩ := h; rfl) (w_l_deed rfl rfl rfl rfl rfl rfl rfl rfl rfl rfl rfl rfl)
  have O42_0 : FnOk P w K mg base (L2.CX P w) 0 f42 _ _ (liftSp K spNo) := fn_no B42
  have O42_1 : FnOk P w K mg base (L2.CX P w) 2 _ _ _ (liftSp K (spSame 0)) := fun_ok (Γ := Gm P w K mg base 1) (ga 1) (sp := (spSame 0)) F42 f_l_same (c_l_same (mkCall 1 (by decide) (PySem.W.mg_of X G a17) k17 B17 O17) (mkIsT (n := "str") 1 (PySem.W.mg_none_of X G b_str) (by decide +kernel) (by decide)) (mkIsT (n := "tuple") 1 (PySem.W.mg_none_of X G b_tuple) (by decide +kernel) (by decide)) (mkIsT (n := "list") 1 (PySem.W.mg_none_of X G b_list) (by decide +kernel) (by decide)) (mkCall 1 (by decide) (PySem.W.mg_of X G a42) k42 B42 O42_0)) (k_l_same _ _ _ _ _) (fun vs F Q E h => by obtain ⟨_, _, rfl, _⟩ := h; rfl) (w_l_same 0 rfl hSS hST hSL hLT hLL hTT hTL hIS hIT hIL (.inl rfl))
  have O42_2 : FnOk P w K mg base (L2.CX P w) 3 _ _ _ (liftSp K (spSame 1)) := fun_ok (Γ := Gm P w K mg base 2) (ga 2) (sp := (spSame 1)) F42 f_l_same (c_l_same (mkCall 2 (by decide) (PySem.W.mg_of X G a17) k17 B17 O17) (mkIsT (n := "str") 2 (PySem.W.mg_none_of X G b_str) (by decide +kernel) (by decide)) (mkIsT (n := "tuple") 2 (PySem.W.mg_none_of X G b_tuple) (by decide +kernel) (by decide)) (mkIsT (n := "list") 2 (PySem.W.mg_none_of X G b_list) (by decide +kernel) (by decide)) (mkCall 2 (by decide) (PySem.W.mg_of X G a42) k42 B42 O42_1)) (k_l_same _ _ _ _ _) (fun vs F Q E h => by obtain ⟨_, _, rfl, _⟩ := h; rfl) (w_l_same 1 rfl hSS hST hSL hLT hLL hTT hTL hIS hIT hIL (.inr ⟨0, rfl, rfl⟩))
  have O42_3 : FnOk P w K mg base (L2.CX P w) 4 _ _ _ (liftSp K (spSame 2)) := fun_ok (Γ := Gm P w K mg base 3) (ga 3) (sp := (spSame 2)) F42 f_l_same (c_l_same (mkCall 3 (by decide) (PySem.W.mg_of X G a17) k17 B17 O17) (mkIsT (n := "str") 3 (PySem.W.mg_none_of X G b_str) (by decide +kernel) (by decide)) (mkIsT (n := "tuple") 3 (PySem.W.mg_none_of X G b_tuple) (by decide +kernel) (by decide)) (mkIsT (n := "list") 3 (PySem.W.mg_none_of X G b_list) (by decide +kernel) (by decide)) (mkCall 3 (by decide) (PySem.W.mg_of X G a42) k42 B42 O42_2)) (k_l_same _ _ _ _ _) (fun vs F Q E h => by obtain ⟨_, _, rfl, _⟩ := h; rfl) (w_l_same 2 rfl hSS hST hSL hLT hLL hTT hTL hIS hIT hIL (.inr ⟨1, rfl, rfl⟩))
  have O42 : FnOk P w K mg base (L2.CX P w) 5 _ _ _ (liftSp K (spSame 3)) := fun_ok (Γ := Gm P w K mg base 4) (ga 4) (sp := (spSame 3)) F42 f_l_same (c_l_same (mkCall 4 (by decide) (PySem.W.mg_of X G a17) k17 B17 O17) (mkIsT (n := "str") 4 (PySem.W.mg_none_of X G b_str) (by decide +kernel) (by decide)) (mkIsT (n := "tuple") 4 (PySem.W.mg_none_of X G b_tuple) (by decide +kernel) (by decide)) (mkIsT (n := "list") 4 (PySem.W.mg_none_of X G b_list) (by decide +kernel) (by decide)) (mkCall 4 (by decide) (PySem.W.mg_of X G a42) k42 B42 O42_3)) (k_l_same _ _ _ _ _) (fun vs F Q E h => by obtain ⟨_, _, rfl, _⟩ := h; rfl) (w_l_same 3 rfl hSS hST hSL hLT hLL hTT hTL hIS hIT hIL (.inr ⟨2, rfl, rfl⟩))
  have O43 : FnOk P w K mg base (L2.CX P w) 5 _ _ _ (liftSp K (spSaleL CB CE)) := fun_ok (Γ := Gm P w K mg base 4) (ga 4) (sp := (spSaleL CB CE)) F43 f_l_sale (c_l_sale (mkCall 4 (by decide) (PySem.W.mg_of X G a26) k26 B26 O26) (mkCall 4 (by decide) (PySem.W.mg_of X G a40) k40 B40 O40) (mkCall 4 (by decide) (PySem.W.mg_of X G a11) k11 B11 O11) (mkCall 4 (by decide) (PySem.W.mg_of X G a16) k16 B16 O16)) (k_l_sale _ _ _ _) (fun vs F Q E h => by obtain ⟨_, _, _, _, _, rfl, _⟩ := h; rfl) (w_l_sale rfl rfl rfl rfl)
  have O44 : FnOk P w K mg base (L2.CX P w) 6 _ _ _ (liftSp K (spDid (X7 C_NoName C_Twice C_TooMany C_NoHolder C_NoHouse C_NoLoss C_NoShare) CB CE)) := fun_ok (Γ := Gm P w K mg base 5) (ga 5) (sp := (spDid (X7 C_NoName C_Twice C_TooMany C_NoHolder C_NoHouse C_NoLoss C_NoShare) CB CE)) F44 f_l_did (c_l_did (mkEx 5 (PySem.W.mg_of X G aC_OwnError)) (mkCall 5 (by decide) (PySem.W.mg_of X G a41) k41 B41 O41)) (k_l_did _ _) (fun vs F Q E h => by obtain ⟨_, _, rfl, _⟩ := h; rfl) (w_l_did (fun r => match r with | 0 => hOwn_NoName | 1 => hOwn_Twice | 2 => hOwn_TooMany | 3 => hOwn_NoHolder | 4 => hOwn_NoHouse | 5 => hOwn_NoLoss | _ + 6 => hOwn_NoShare) rfl)
  have O45 : FnOk P w K mg base (L2.CX P w) 6 _ _ _ (liftSp K (spTold CB CE)) := fun_ok (Γ := Gm P w K mg base 5) (ga 5) (sp := (spTold CB CE)) F45 f_l_told (c_l_told (mkCall 5 (by decide) (PySem.W.mg_of X G a42) k42 B42 O42) (mkMeth 5 clCB (by decide) ⟨a21, i21, k21⟩ B21 O21) (mkCall 5 (by decide) (PySem.W.mg_of X G a16) k16 B16 O16) (mkMeth 5 clCB (by decide) ⟨a22, i22, k22⟩ B22 O22) (mkMeth 5 clCB (by decide) ⟨a9, i9, k9⟩ B9 O9) (mkMeth 5 clCB (by decide) ⟨a8, i8, k8⟩ B8 O8)) (k_l_told _ _ _ _ _ _) (fun vs F Q E h => by obtain ⟨_, _, rfl, _⟩ := h; rfl) (w_l_told (CN := (X7 C_NoName C_Twice C_TooMany C_NoHolder C_NoHouse C_NoLoss C_NoShare) 4) rfl rfl rfl rfl rfl rfl rfl rfl rfl rfl)
  have O46 : FnOk P w K mg base (L2.CX P w) 6 _ _ _ (liftSp K (spDrawn CB CE)) := fun_ok (Γ := Gm P w K mg base 5) (ga 5) (sp := (spDrawn CB CE)) F46 f_l_drawn (c_l_drawn (mkCall 5 (by decide) (PySem.W.mg_of X G a27) k27 B27 O27) (mkCall 5 (by decide) (PySem.W.mg_of X G a26) k26 B26 O26) (mkCall 5 (by decide) (PySem.W.mg_of X G a43) k43 B43 O43) (mkCall 5 (by decide) (PySem.W.mg_of X G a11) k11 B11 O11)) (k_l_drawn _ _ _ _) (fun vs F Q E h => by obtain ⟨_, _, _, _, _, _, rfl, _⟩ := h; rfl) (w_l_drawn rfl rfl rfl rfl)
  have O47 : FnOk P w K mg base (L2.CX P w) 7 _ _ _ (liftSp K (spDone CB CE)) := fun_ok (Γ := Gm P w K mg base 6) (ga 6) (sp := (spDone CB CE)) F47 f_l_done (c_l_done (mkCall 6 (by decide) (PySem.W.mg_of X G a39) k39 B39 O39) (mkCall 6 (by decide) (PySem.W.mg_of X G a15) k15 B15 O15) (mkCall 6 (by decide) (PySem.W.mg_of X G a44) k44 B44 O44) (mkCall 6 (by decide) (PySem.W.mg_of X G a25) k25 B25 O25)) (k_l_done _ _ _ _) (fun vs F Q E h => by obtain ⟨_, _, _, rfl, _⟩ := h; rfl) (w_l_done (X := (X7 C_NoName C_Twice C_TooMany C_NoHolder C_NoHouse C_NoLoss C_NoShare)) rfl rfl rfl rfl)
  exact top_ok (Γ := Gm P w K mg base 7) (ga 7) (sp := spLaw) F48 f_law (c_law (mkCall 7 (by decide) (PySem.W.mg_of X G a45) k45 B45 O45) (mkCall 7 (by decide) (PySem.W.mg_of X G a37) k37 B37 O37) (mkCall 7 (by decide) (PySem.W.mg_of X G a11) k11 B11 O11) (mkCall 7 (by decide) (PySem.W.mg_of X G a47) k47 B47 O47) (mkCall 7 (by decide) (PySem.W.mg_of X G a46) k46 B46 O46) (mkCall 7 (by decide) (PySem.W.mg_of X G a10) k10 B10 O10) (mkNew 7 (by decide) ⟨mkCB, a5, i5, kpCB⟩ (PySem.W.mg_of X G aCB) B5 O5) (mkCall 7 (by decide) (PySem.W.mg_of X G a24) k24 B24 O24)) (k_law _ _ _ _ _ _ _ _) (fun vs F Q E h => by obtain ⟨_, _, rfl, _⟩ := h; rfl) (w_law (CB := CB) (CE := CE) rfl rfl rfl rfl rfl rfl rfl rfl rfl)
theorem no_lists {K : PySem.W.Frag} (h : (K.all fun p => !(p.2.cls == .type "list")) = true) {a : Addr} {o : Obj} (e : K.lookup a = some o) (hc : o.cls = .type "list") : False := by
  have hm : (a, o) ∈ K := by
    induction K with
    | nil => cases e
    | cons x r ih =>
      rw [List.all_cons, Bool.and_eq_true] at h
      rw [List.lookup_cons] at e
      cases hx : (a == x.1) with
      | true =>
        rw [hx] at e
        cases e
        have : a = x.1 := by simpa using hx
        rw [this]
        exact List.mem_cons_self
      | false =>
        rw [hx] at e
        exact List.mem_cons_of_mem _ (ih h.2 e)
  have := (List.all_eq_true.mp h) _ hm
  rw [hc] at this
  cases this
theorem law_top {K : PySem.W.Frag} (hK : (K.all fun p => !(p.2.cls == .type "list")) = true) {H : Hp} {a : Addr} {ns : List Int} (hl : ns.length ≤ 63) (hb : ∀ z ∈ ns, Builtin.Int.intBits z ≤ 1048576) (hO : Only H) (hS : SqL K H a (ns.map V.int)) :
    liftSp K spLaw [.ref a] H (fun v _ => v = .bl true) fun _ _ _ => False := by
  have fr : ∃ o, H a = some (.frz o (.lst (ns.map V.int))) := by
    rcases hS with (h | h) | ⟨o, its, n, h1, h2, _⟩
    · rcases hO a with q | ⟨o, xs, q⟩
      · rw [h] at q; cases q
      · rw [h] at q; cases q
    · exact h
    · exact (no_lists hK h1 h2).elim
  obtain ⟨o, ho⟩ := fr
  refine ⟨⟨fun _ => none, fun b => if b = a then some (.scr (ns.map .int)) else none, H⟩, fun _ => none, fun b => if b = a then some (.scr (ns.map .int)) else none, [.ref a], fun v _ => v = .bl true, fun _ _ _ => False, ⟨fun b x q => (nomatch q), fun b c q => ⟨rfl, ?_⟩, fun b u q _ q2 => ⟨q, rfl, q2⟩, Same.refl _⟩, .cons (.ref a) .nil, ?_, fun v x N' F' H' _ _ d q => ?_, fun _ _ _ _ _ _ _ _ _ q => q.elim⟩
  · have hb : b = a := by
      by_cases e : b = a
      · exact e
      · rw [if_neg e] at q; cases q
    rw [if_pos hb] at q
    cases q
    rw [hb]
    exact ⟨o, ns.map V.int, ho, Dvs.of_ints ns⟩
  · exact ⟨.ref a, ns, rfl, by simp [lsOf], hl, fun z hz => hb z hz, fun F' => rfl⟩
  · subst q
    cases d
    rfl
end Bv

open PySem PySem.W PyProof.Rows in
set_option maxRecDepth 100000 in
set_option maxHeartbeats 0 in
theorem PySem.Challenge.cw_wholeowners_k05_told_lists_holds : PySem.Challenge.rw_wholeowners_k05_told_lists.Holds := by
  w_on; o_law; k_head; (case hw => w_witness2)
  k_fill
  refine L2.walk_ofB (l := PySem.Challenge.rw_wholeowners_k05_told_lists) (n := 63) (k := 8) (x := "_law_script") (CX := fun _ => L2.CX0) (sp := fun w => Bv.liftSp _ Bv.spLaw) rfl (by decide) rfl ⟨rfl, by decide, by decide⟩ (fun w h Y => PySem.W.kIn_of Y) ?F (fun w H a ns hl hb hO hS => Bv.law_top ?nl hl hb hO hS) (fun _ _ _ _ _ z => z)
  case F =>
    intro w mg fa h KX G hmg
    refine' Bv.all_fns KX G hmg ?aCB ?aCE ?aC_NoHolder ?aC_NoHouse ?aC_NoLoss ?aC_NoName ?aC_NoShare ?aC_NoText ?aC_OwnError ?aC_TooMany ?aC_Twice ?aC_Whole ?a0 ?l0 ?c0 ?k0 ?a1 ?l1 ?c1 ?k1 ?a2 ?l2 ?c2 ?k2 ?a3 ?l3 ?c3 ?k3 ?a4 ?i4 ?l4 ?c4 ?k4 ?a5 ?i5 ?l5 ?c5 ?k5 ?a6 ?i6 ?l6 ?c6 ?k6 ?a7 ?i7 ?l7 ?c7 ?k7 ?a8 ?i8 ?l8 ?c8 ?k8 ?a9 ?i9 ?l9 ?c9 ?k9 ?a10 ?l10 ?c10 ?k10 ?a11 ?l11 ?c11 ?k11 ?a12 ?l12 ?c12 ?k12 ?a13 ?l13 ?c13 ?k13 ?a14 ?l14 ?c14 ?k14 ?a15 ?l15 ?c15 ?k15 ?a16 ?l16 ?c16 ?k16 ?a17 ?l17 ?c17 ?k17 ?a18 ?l18 ?c18 ?k18 ?a19 ?i19 ?l19 ?c19 ?k19 ?a20 ?i20 ?l20 ?c20 ?k20 ?a21 ?i21 ?l21 ?c21 ?k21 ?a22 ?i22 ?l22 ?c22 ?k22 ?a23 ?l23 ?c23 ?k23 ?a24 ?l24 ?c24 ?k24 ?a25 ?l25 ?c25 ?k25 ?a26 ?l26 ?c26 ?k26 ?a27 ?l27 ?c27 ?k27 ?a28 ?l28 ?c28 ?k28 ?a29 ?l29 ?c29 ?k29 ?a30 ?i30 ?l30 ?c30 ?k30 ?a31 ?i31 ?l31 ?c31 ?k31 ?a32 ?i32 ?l32 ?c32 ?k32 ?a33 ?i33 ?l33 ?c33 ?k33 ?a34 ?i34 ?l34 ?c34 ?k34 ?a35 ?l35 ?c35 ?k35 ?a36 ?l36 ?c36 ?k36 ?a37 ?l37 ?c37 ?k37 ?a38 ?i38 ?l38 ?c38 ?k38 ?a39 ?l39 ?c39 ?k39 ?a40 ?l40 ?c40 ?k40 ?a41 ?l41 ?c41 ?k41 ?a42 ?l42 ?c42 ?k42 ?a43 ?l43 ?c43 ?k43 ?a44 ?l44 ?c44 ?k44 ?a45 ?l45 ?c45 ?k45 ?a46 ?l46 ?c46 ?k46 ?a47 ?l47 ?c47 ?k47 ?a48 ?l48 ?c48 ?k48 ?pgCB ?hdCB ?poCB ?saCB ?mkCB ?kpCB ?pgCE ?hdCE ?poCE ?saCE ?mkCE ?kpCE ?no_people ?no_entries ?no_numbers ?no_held ?x_NoHouse ?xk_NoHouse ?xb_NoHouse ?x_NoLoss ?xk_NoLoss ?xb_NoLoss ?x_Twice ?xk_Twice ?xb_Twice ?x_NoName ?xk_NoName ?xb_NoName ?x_TooMany ?xk_TooMany ?xb_TooMany ?x_NoShare ?xk_NoShare ?xb_NoShare ?x_NoHolder ?xk_NoHolder ?xb_NoHolder ?ty_NoHolder ?ty_NoHouse ?ty_NoLoss ?ty_NoName ?ty_NoShare ?ty_NoText ?ty_OwnError ?ty_TooMany ?ty_Twice ?ty_Whole ?ic_NoHolder ?ic_NoHouse ?ic_NoLoss ?ic_NoName ?ic_NoShare ?ic_NoText ?ic_OwnError ?ic_TooMany ?ic_Twice ?ic_Whole ?sb_NoName_NoHolder ?ne_NoName_NoHolder ?sb_NoName_NoHouse ?ne_NoName_NoHouse ?sb_NoName_NoLoss ?ne_NoName_NoLoss ?sb_NoName_NoShare ?ne_NoName_NoShare ?sb_NoName_NoText ?ne_NoName_NoText ?sb_NoName_OwnError ?ne_NoName_OwnError ?sb_NoName_TooMany ?ne_NoName_TooMany ?sb_NoName_Twice ?ne_NoName_Twice ?sb_NoName_Whole ?ne_NoName_Whole ?sv_NoName ?eg_NoName ?ek_NoName ?ed_NoName ?ea_NoName ?em_NoName ?sb_Twice_NoHolder ?ne_Twice_NoHolder ?sb_Twice_NoHouse ?ne_Twice_NoHouse ?sb_Twice_NoLoss ?ne_Twice_NoLoss ?sb_Twice_NoName ?ne_Twice_NoName ?sb_Twice_NoShare ?ne_Twice_NoShare ?sb_Twice_NoText ?ne_Twice_NoText ?sb_Twice_OwnError ?ne_Twice_OwnError ?sb_Twice_TooMany ?ne_Twice_TooMany ?sb_Twice_Whole ?ne_Twice_Whole ?sv_Twice ?eg_Twice ?ek_Twice ?ed_Twice ?ea_Twice ?em_Twice ?sb_TooMany_NoHolder ?ne_TooMany_NoHolder ?sb_TooMany_NoHouse ?ne_TooMany_NoHouse ?sb_TooMany_NoLoss ?ne_TooMany_NoLoss ?sb_TooMany_NoName ?ne_TooMany_NoName ?sb_TooMany_NoShare ?ne_TooMany_NoShare ?sb_TooMany_NoText ?ne_TooMany_NoText ?sb_TooMany_OwnError ?ne_TooMany_OwnError ?sb_TooMany_Twice ?ne_TooMany_Twice ?sb_TooMany_Whole ?ne_TooMany_Whole ?sv_TooMany ?eg_TooMany ?ek_TooMany ?ed_TooMany ?ea_TooMany ?em_TooMany ?sb_NoHolder_NoHouse ?ne_NoHolder_NoHouse ?sb_NoHolder_NoLoss ?ne_NoHolder_NoLoss ?sb_NoHolder_NoName ?ne_NoHolder_NoName ?sb_NoHolder_NoShare ?ne_NoHolder_NoShare ?sb_NoHolder_NoText ?ne_NoHolder_NoText ?sb_NoHolder_OwnError ?ne_NoHolder_OwnError ?sb_NoHolder_TooMany ?ne_NoHolder_TooMany ?sb_NoHolder_Twice ?ne_NoHolder_Twice ?sb_NoHolder_Whole ?ne_NoHolder_Whole ?sv_NoHolder ?eg_NoHolder ?ek_NoHolder ?ed_NoHolder ?ea_NoHolder ?em_NoHolder ?sb_NoHouse_NoHolder ?ne_NoHouse_NoHolder ?sb_NoHouse_NoLoss ?ne_NoHouse_NoLoss ?sb_NoHouse_NoName ?ne_NoHouse_NoName ?sb_NoHouse_NoShare ?ne_NoHouse_NoShare ?sb_NoHouse_NoText ?ne_NoHouse_NoText ?sb_NoHouse_OwnError ?ne_NoHouse_OwnError ?sb_NoHouse_TooMany ?ne_NoHouse_TooMany ?sb_NoHouse_Twice ?ne_NoHouse_Twice ?sb_NoHouse_Whole ?ne_NoHouse_Whole ?sv_NoHouse ?eg_NoHouse ?ek_NoHouse ?ed_NoHouse ?ea_NoHouse ?em_NoHouse ?sb_NoLoss_NoHolder ?ne_NoLoss_NoHolder ?sb_NoLoss_NoHouse ?ne_NoLoss_NoHouse ?sb_NoLoss_NoName ?ne_NoLoss_NoName ?sb_NoLoss_NoShare ?ne_NoLoss_NoShare ?sb_NoLoss_NoText ?ne_NoLoss_NoText ?sb_NoLoss_OwnError ?ne_NoLoss_OwnError ?sb_NoLoss_TooMany ?ne_NoLoss_TooMany ?sb_NoLoss_Twice ?ne_NoLoss_Twice ?sb_NoLoss_Whole ?ne_NoLoss_Whole ?sv_NoLoss ?eg_NoLoss ?ek_NoLoss ?ed_NoLoss ?ea_NoLoss ?em_NoLoss ?sb_NoShare_NoHolder ?ne_NoShare_NoHolder ?sb_NoShare_NoHouse ?ne_NoShare_NoHouse ?sb_NoShare_NoLoss ?ne_NoShare_NoLoss ?sb_NoShare_NoName ?ne_NoShare_NoName ?sb_NoShare_NoText ?ne_NoShare_NoText ?sb_NoShare_OwnError ?ne_NoShare_OwnError ?sb_NoShare_TooMany ?ne_NoShare_TooMany ?sb_NoShare_Twice ?ne_NoShare_Twice ?sb_NoShare_Whole ?ne_NoShare_Whole ?sv_NoShare ?eg_NoShare ?ek_NoShare ?ed_NoShare ?ea_NoShare ?em_NoShare ?en_ ?et ?xb_OwnError ?b_len ?b_abs ?b_int ?b_str ?b_sorted ?b_list ?b_all ?b_any ?b_tuple ?b_max ?b_isinstance ?b_range ?b_zip ?b_enumerate ?b_dict ?b_ValueError ?b_bool ?gL ?gLe ?gP ?gH
    (case aCB => k_is)
    (case aCE => k_is)
    (case aC_NoHolder => k_is)
    (case aC_NoHouse => k_is)
    (case aC_NoLoss => k_is)
    (case aC_NoName => k_is)
    (case aC_NoShare => k_is)
    (case aC_NoText => k_is)
    (case aC_OwnError => k_is)
    (case aC_TooMany => k_is)
    (case aC_Twice => k_is)
    (case aC_Whole => k_is)
    (case a0 => k_is)
    (case l0 => k_is)
    (case c0 => k_is)
    (case k0 => k_is)
    (case a1 => k_is)
    (case l1 => k_is)
    (case c1 => k_is)
    (case k1 => k_is)
    (case a2 => k_is)
    (case l2 => k_is)
    (case c2 => k_is)
    (case k2 => k_is)
    (case a3 => k_is)
    (case l3 => k_is)
    (case c3 => k_is)
    (case k3 => k_is)
    (case a4 => k_is)
    (case i4 => k_is)
    (case l4 => k_is)
    (case c4 => k_is)
    (case k4 => k_is)
    (case a5 => k_is)
    (case i5 => k_is)
    (case l5 => k_is)
    (case c5 => k_is)
    (case k5 => k_is)
    (case a6 => k_is)
    (case i6 => k_is)
    (case l6 => k_is)
    (case c6 => k_is)
    (case k6 => k_is)
    (case a7 => k_is)
    (case i7 => k_is)
    (case l7 => k_is)
    (case c7 => k_is)
    (case k7 => k_is)
    (case a8 => k_is)
    (case i8 => k_is)
    (case l8 => k_is)
    (case c8 => k_is)
    (case k8 => k_is)
    (case a9 => k_is)
    (case i9 => k_is)
    (case l9 => k_is)
    (case c9 => k_is)
    (case k9 => k_is)
    (case a10 => k_is)
    (case l10 => k_is)
    (case c10 => k_is)
    (case k10 => k_is)
    (case a11 => k_is)
    (case l11 => k_is)
    (case c11 => k_is)
    (case k11 => k_is)
    (case a12 => k_is)
    (case l12 => k_is)
    (case c12 => k_is)
    (case k12 => k_is)
    (case a13 => k_is)
    (case l13 => k_is)
    (case c13 => k_is)
    (case k13 => k_is)
    (case a14 => k_is)
    (case l14 => k_is)
    (case c14 => k_is)
    (case k14 => k_is)
    (case a15 => k_is)
    (case l15 => k_is)
    (case c15 => k_is)
    (case k15 => k_is)
    (case a16 => k_is)
    (case l16 => k_is)
    (case c16 => k_is)
    (case k16 => k_is)
    (case a17 => k_is)
    (case l17 => k_is)
    (case c17 => k_is)
    (case k17 => k_is)
    (case a18 => k_is)
    (case l18 => k_is)
    (case c18 => k_is)
    (case k18 => k_is)
    (case a19 => k_is)
    (case i19 => k_is)
    (case l19 => k_is)
    (case c19 => k_is)
    (case k19 => k_is)
    (case a20 => k_is)
    (case i20 => k_is)
    (case l20 => k_is)
    (case c20 => k_is)
    (case k20 => k_is)
    (case a21 => k_is)
    (case i21 => k_is)
    (case l21 => k_is)
    (case c21 => k_is)
    (case k21 => k_is)
    (case a22 => k_is)
    (case i22 => k_is)
    (case l22 => k_is)
    (case c22 => k_is)
    (case k22 => k_is)
    (case a23 => k_is)
    (case l23 => k_is)
    (case c23 => k_is)
    (case k23 => k_is)
    (case a24 => k_is)
    (case l24 => k_is)
    (case c24 => k_is)
    (case k24 => k_is)
    (case a25 => k_is)
    (case l25 => k_is)
    (case c25 => k_is)
    (case k25 => k_is)
    (case a26 => k_is)
    (case l26 => k_is)
    (case c26 => k_is)
    (case k26 => k_is)
    (case a27 => k_is)
    (case l27 => k_is)
    (case c27 => k_is)
    (case k27 => k_is)
    (case a28 => k_is)
    (case l28 => k_is)
    (case c28 => k_is)
    (case k28 => k_is)
    (case a29 => k_is)
    (case l29 => k_is)
    (case c29 => k_is)
    (case k29 => k_is)
    (case a30 => k_is)
    (case i30 => k_is)
    (case l30 => k_is)
    (case c30 => k_is)
    (case k30 => k_is)
    (case a31 => k_is)
    (case i31 => k_is)
    (case l31 => k_is)
    (case c31 => k_is)
    (case k31 => k_is)
    (case a32 => k_is)
    (case i32 => k_is)
    (case l32 => k_is)
    (case c32 => k_is)
    (case k32 => k_is)
    (case a33 => k_is)
    (case i33 => k_is)
    (case l33 => k_is)
    (case c33 => k_is)
    (case k33 => k_is)
    (case a34 => k_is)
    (case i34 => k_is)
    (case l34 => k_is)
    (case c34 => k_is)
    (case k34 => k_is)
    (case a35 => k_is)
    (case l35 => k_is)
    (case c35 => k_is)
    (case k35 => k_is)
    (case a36 => k_is)
    (case l36 => k_is)
    (case c36 => k_is)
    (case k36 => k_is)
    (case a37 => k_is)
    (case l37 => k_is)
    (case c37 => k_is)
    (case k37 => k_is)
    (case a38 => k_is)
    (case i38 => k_is)
    (case l38 => k_is)
    (case c38 => k_is)
    (case k38 => k_is)
    (case a39 => k_is)
    (case l39 => k_is)
    (case c39 => k_is)
    (case k39 => k_is)
    (case a40 => k_is)
    (case l40 => k_is)
    (case c40 => k_is)
    (case k40 => k_is)
    (case a41 => k_is)
    (case l41 => k_is)
    (case c41 => k_is)
    (case k41 => k_is)
    (case a42 => k_is)
    (case l42 => k_is)
    (case c42 => k_is)
    (case k42 => k_is)
    (case a43 => k_is)
    (case l43 => k_is)
    (case c43 => k_is)
    (case k43 => k_is)
    (case a44 => k_is)
    (case l44 => k_is)
    (case c44 => k_is)
    (case k44 => k_is)
    (case a45 => k_is)
    (case l45 => k_is)
    (case c45 => k_is)
    (case k45 => k_is)
    (case a46 => k_is)
    (case l46 => k_is)
    (case c46 => k_is)
    (case k46 => k_is)
    (case a47 => k_is)
    (case l47 => k_is)
    (case c47 => k_is)
    (case k47 => k_is)
    (case a48 => k_is)
    (case l48 => k_is)
    (case c48 => k_is)
    (case k48 => k_is)
    (case pgCB => k_is)
    (case hdCB => k_is)
    (case poCB => k_is)
    (case saCB => k_is)
    (case mkCB => k_is)
    (case kpCB => k_is)
    (case pgCE => k_is)
    (case hdCE => k_is)
    (case poCE => k_is)
    (case saCE => k_is)
    (case mkCE => k_is)
    (case kpCE => k_is)
    (case no_people => k_is)
    (case no_entries => k_is)
    (case no_numbers => k_is)
    (case no_held => k_is)
    (case x_NoHouse => k_exc)
    (case xk_NoHouse => k_is)
    (case xb_NoHouse => k_is)
    (case x_NoLoss => k_exc)
    (case xk_NoLoss => k_is)
    (case xb_NoLoss => k_is)
    (case x_Twice => k_exc)
    (case xk_Twice => k_is)
    (case xb_Twice => k_is)
    (case x_NoName => k_exc)
    (case xk_NoName => k_is)
    (case xb_NoName => k_is)
    (case x_TooMany => k_exc)
    (case xk_TooMany => k_is)
    (case xb_TooMany => k_is)
    (case x_NoShare => k_exc)
    (case xk_NoShare => k_is)
    (case xb_NoShare => k_is)
    (case x_NoHolder => k_exc)
    (case xk_NoHolder => k_is)
    (case xb_NoHolder => k_is)
    (case ty_NoHolder => k_is)
    (case ty_NoHouse => k_is)
    (case ty_NoLoss => k_is)
    (case ty_NoName => k_is)
    (case ty_NoShare => k_is)
    (case ty_NoText => k_is)
    (case ty_OwnError => k_is)
    (case ty_TooMany => k_is)
    (case ty_Twice => k_is)
    (case ty_Whole => k_is)
    (case ic_NoHolder => k_is)
    (case ic_NoHouse => k_is)
    (case ic_NoLoss => k_is)
    (case ic_NoName => k_is)
    (case ic_NoShare => k_is)
    (case ic_NoText => k_is)
    (case ic_OwnError => k_is)
    (case ic_TooMany => k_is)
    (case ic_Twice => k_is)
    (case ic_Whole => k_is)
    (case sb_NoName_NoHolder => k_is)
    (case ne_NoName_NoHolder => rfl)
    (case sb_NoName_NoHouse => k_is)
    (case ne_NoName_NoHouse => rfl)
    (case sb_NoName_NoLoss => k_is)
    (case ne_NoName_NoLoss => rfl)
    (case sb_NoName_NoShare => k_is)
    (case ne_NoName_NoShare => rfl)
    (case sb_NoName_NoText => k_is)
    (case ne_NoName_NoText => rfl)
    (case sb_NoName_OwnError => k_is)
    (case ne_NoName_OwnError => rfl)
    (case sb_NoName_TooMany => k_is)
    (case ne_NoName_TooMany => rfl)
    (case sb_NoName_Twice => k_is)
    (case ne_NoName_Twice => rfl)
    (case sb_NoName_Whole => k_is)
    (case ne_NoName_Whole => rfl)
    (case sv_NoName => k_is)
    (case eg_NoName => k_is)
    (case ek_NoName => k_is)
    (case ed_NoName => k_is)
    (case ea_NoName => k_is)
    (case em_NoName => k_is)
    (case sb_Twice_NoHolder => k_is)
    (case ne_Twice_NoHolder => rfl)
    (case sb_Twice_NoHouse => k_is)
    (case ne_Twice_NoHouse => rfl)
    (case sb_Twice_NoLoss => k_is)
    (case ne_Twice_NoLoss => rfl)
    (case sb_Twice_NoName => k_is)
    (case ne_Twice_NoName => rfl)
    (case sb_Twice_NoShare => k_is)
    (case ne_Twice_NoShare => rfl)
    (case sb_Twice_NoText => k_is)
    (case ne_Twice_NoText => rfl)
    (case sb_Twice_OwnError => k_is)
    (case ne_Twice_OwnError => rfl)
    (case sb_Twice_TooMany => k_is)
    (case ne_Twice_TooMany => rfl)
    (case sb_Twice_Whole => k_is)
    (case ne_Twice_Whole => rfl)
    (case sv_Twice => k_is)
    (case eg_Twice => k_is)
    (case ek_Twice => k_is)
    (case ed_Twice => k_is)
    (case ea_Twice => k_is)
    (case em_Twice => k_is)
    (case sb_TooMany_NoHolder => k_is)
    (case ne_TooMany_NoHolder => rfl)
    (case sb_TooMany_NoHouse => k_is)
    (case ne_TooMany_NoHouse => rfl)
    (case sb_TooMany_NoLoss => k_is)
    (case ne_TooMany_NoLoss => rfl)
    (case sb_TooMany_NoName => k_is)
    (case ne_TooMany_NoName => rfl)
    (case sb_TooMany_NoShare => k_is)
    (case ne_TooMany_NoShare => rfl)
    (case sb_TooMany_NoText => k_is)
    (case ne_TooMany_NoText => rfl)
    (case sb_TooMany_OwnError => k_is)
    (case ne_TooMany_OwnError => rfl)
    (case sb_TooMany_Twice => k_is)
    (case ne_TooMany_Twice => rfl)
    (case sb_TooMany_Whole => k_is)
    (case ne_TooMany_Whole => rfl)
    (case sv_TooMany => k_is)
    (case eg_TooMany => k_is)
    (case ek_TooMany => k_is)
    (case ed_TooMany => k_is)
    (case ea_TooMany => k_is)
    (case em_TooMany => k_is)
    (case sb_NoHolder_NoHouse => k_is)
    (case ne_NoHolder_NoHouse => rfl)
    (case sb_NoHolder_NoLoss => k_is)
    (case ne_NoHolder_NoLoss => rfl)
    (case sb_NoHolder_NoName => k_is)
    (case ne_NoHolder_NoName => rfl)
    (case sb_NoHolder_NoShare => k_is)
    (case ne_NoHolder_NoShare => rfl)
    (case sb_NoHolder_NoText => k_is)
    (case ne_NoHolder_NoText => rfl)
    (case sb_NoHolder_OwnError => k_is)
    (case ne_NoHolder_OwnError => rfl)
    (case sb_NoHolder_TooMany => k_is)
    (case ne_NoHolder_TooMany => rfl)
    (case sb_NoHolder_Twice => k_is)
    (case ne_NoHolder_Twice => rfl)
    (case sb_NoHolder_Whole => k_is)
    (case ne_NoHolder_Whole => rfl)
    (case sv_NoHolder => k_is)
    (case eg_NoHolder => k_is)
    (case ek_NoHolder => k_is)
    (case ed_NoHolder => k_is)
    (case ea_NoHolder => k_is)
    (case em_NoHolder => k_is)
    (case sb_NoHouse_NoHolder => k_is)
    (case ne_NoHouse_NoHolder => rfl)
    (case sb_NoHouse_NoLoss => k_is)
    (case ne_NoHouse_NoLoss => rfl)
    (case sb_NoHouse_NoName => k_is)
    (case ne_NoHouse_NoName => rfl)
    (case sb_NoHouse_NoShare => k_is)
    (case ne_NoHouse_NoShare => rfl)
    (case sb_NoHouse_NoText => k_is)
    (case ne_NoHouse_NoText => rfl)
    (case sb_NoHouse_OwnError => k_is)
    (case ne_NoHouse_OwnError => rfl)
    (case sb_NoHouse_TooMany => k_is)
    (case ne_NoHouse_TooMany => rfl)
    (case sb_NoHouse_Twice => k_is)
    (case ne_NoHouse_Twice => rfl)
    (case sb_NoHouse_Whole => k_is)
    (case ne_NoHouse_Whole => rfl)
    (case sv_NoHouse => k_is)
    (case eg_NoHouse => k_is)
    (case ek_NoHouse => k_is)
    (case ed_NoHouse => k_is)
    (case ea_NoHouse => k_is)
    (case em_NoHouse => k_is)
    (case sb_NoLoss_NoHolder => k_is)
    (case ne_NoLoss_NoHolder => rfl)
    (case sb_NoLoss_NoHouse => k_is)
    (case ne_NoLoss_NoHouse => rfl)
    (case sb_NoLoss_NoName => k_is)
    (case ne_NoLoss_NoName => rfl)
    (case sb_NoLoss_NoShare => k_is)
    (case ne_NoLoss_NoShare => rfl)
    (case sb_NoLoss_NoText => k_is)
    (case ne_NoLoss_NoText => rfl)
    (case sb_NoLoss_OwnError => k_is)
    (case ne_NoLoss_OwnError => rfl)
    (case sb_NoLoss_TooMany => k_is)
    (case ne_NoLoss_TooMany => rfl)
    (case sb_NoLoss_Twice => k_is)
    (case ne_NoLoss_Twice => rfl)
    (case sb_NoLoss_Whole => k_is)
    (case ne_NoLoss_Whole => rfl)
    (case sv_NoLoss => k_is)
    (case eg_NoLoss => k_is)
    (case ek_NoLoss => k_is)
    (case ed_NoLoss => k_is)
    (case ea_NoLoss => k_is)
    (case em_NoLoss => k_is)
    (case sb_NoShare_NoHolder => k_is)
    (case ne_NoShare_NoHolder => rfl)
    (case sb_NoShare_NoHouse => k_is)
    (case ne_NoShare_NoHouse => rfl)
    (case sb_NoShare_NoLoss => k_is)
    (case ne_NoShare_NoLoss => rfl)
    (case sb_NoShare_NoName => k_is)
    (case ne_NoShare_NoName => rfl)
    (case sb_NoShare_NoText => k_is)
    (case ne_NoShare_NoText => rfl)
    (case sb_NoShare_OwnError => k_is)
    (case ne_NoShare_OwnError => rfl)
    (case sb_NoShare_TooMany => k_is)
    (case ne_NoShare_TooMany => rfl)
    (case sb_NoShare_Twice => k_is)
    (case ne_NoShare_Twice => rfl)
    (case sb_NoShare_Whole => k_is)
    (case ne_NoShare_Whole => rfl)
    (case sv_NoShare => k_is)
    (case eg_NoShare => k_is)
    (case ek_NoShare => k_is)
    (case ed_NoShare => k_is)
    (case ea_NoShare => k_is)
    (case em_NoShare => k_is)
    (case en_ => k_is)
    (case et => k_is)
    (case xb_OwnError => k_is)
    (case b_len => k_is)
    (case b_abs => k_is)
    (case b_int => k_is)
    (case b_str => k_is)
    (case b_sorted => k_is)
    (case b_list => k_is)
    (case b_all => k_is)
    (case b_any => k_is)
    (case b_tuple => k_is)
    (case b_max => k_is)
    (case b_isinstance => k_is)
    (case b_range => k_is)
    (case b_zip => k_is)
    (case b_enumerate => k_is)
    (case b_dict => k_is)
    (case b_ValueError => k_is)
    (case b_bool => k_is)
    (case gL => k_is)
    (case gLe => rfl)
    (case gP => k_is)
    (case gH => k_is)
  case nl => kernel_rfl
