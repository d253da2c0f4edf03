import PyProof.Rows.All
import Wide.All
import OpenK.AllK
import Wide.FinOn
import HandS.ForMost
import HandS.ForExc
import HandS.More
import HandS.Wide
import HandS.Zip
import HandS.IsInst
import HandS.ExcIs
import HandS.ExcValue
import HandS.TupAny
import HandS.Flow
import HandS.Small
import HandS.WideBits
import KE.KRevSl
import HandS.ExcInit
import HandS.ExcField
import HandS.NoneIn
import KE.KDictZip
import HandS.ListItems
import PyProof.ExcBaseAll.ValueError
import PySem.Challenge.RW_wholeowners_k13_ways_through
import HandS.Text
import HandS.EndBits
set_option Elab.async false
set_option linter.all false
set_option maxRecDepth 100000
set_option maxHeartbeats 8000000
/-! Values told without addresses, cells that may change, and what a heap must bear so that it holds them. -/
namespace Bv
open PySem L2

/-- a value: lists and tuples that never change are told by their items; ref: a cell that may change, or a class -/
inductive Val where
  | non | bl (b : Bool) | int (i : Int) | str (x : Str) | tup (vs : List Val) | lst (vs : List Val) | ref (a : Addr) | ty (n : String)

mutual
inductive Dv (K : PySem.W.Frag) (N : Hp) : Val → V → Prop
  | non : Dv K N .non .non
  | bl (b : Bool) : Dv K N (.bl b) (.bl b)
  | int (i : Int) : Dv K N (.int i) (.int i)
  | str (x : Str) : Dv K N (.str x) (.str x)
  | ref (a : Addr) : Dv K N (.ref a) (.ref a)
  | ty (n : String) : Dv K N (.ty n) (.ty n)
  | tup {p : Addr} {vs : List Val} {xs : List V} : N p = some (.tup xs) → Dvs K N vs xs → Dv K N (.tup vs) (.ref p)
  | lst {p : Addr} {vs : List Val} {xs : List V} : N p = some (.lst xs) → Dvs K N vs xs → Dv K N (.lst vs) (.ref p)
inductive Dvs (K : PySem.W.Frag) (N : Hp) : List Val → List V → Prop
  | nil : Dvs K N [] []
  | cons {v : Val} {x : V} {vs : List Val} {xs : List V} : Dv K N v x → Dvs K N vs xs → Dvs K N (v :: vs) (x :: xs)
end

mutual
theorem Dv.mono {K : PySem.W.Frag} {N N' : Hp} (e : Same N N') : ∀ {v : Val} {x : V}, Dv K N v x → Dv K N' v x
  | _, _, .non => .non
  | _, _, .bl b => .bl b
  | _, _, .int i => .int i
  | _, _, .str x => .str x
  | _, _, .ref a => .ref a
  | _, _, .ty n => .ty n
  | _, _, .tup h t => .tup (e _ _ h) (Dvs.mono e t)
  | _, _, .lst h t => .lst (e _ _ h) (Dvs.mono e t)
theorem Dvs.mono {K : PySem.W.Frag} {N N' : Hp} (e : Same N N') : ∀ {vs : List Val} {xs : List V}, Dvs K N vs xs → Dvs K N' vs xs
  | _, _, .nil => .nil
  | _, _, .cons h t => .cons (Dv.mono e h) (Dvs.mono e t)
end

section
variable {K : PySem.W.Frag} {N : Hp}
theorem Dvs.length : ∀ {vs : List Val} {xs : List V}, Dvs K N vs xs → vs.length = xs.length
  | _, _, .nil => rfl
  | _, _, .cons _ t => by rw [List.length_cons, List.length_cons, Dvs.length t]
theorem Dvs.append : ∀ {vs ws : List Val} {xs ys : List V}, Dvs K N vs xs → Dvs K N ws ys → Dvs K N (vs ++ ws) (xs ++ ys)
  | _, _, _, _, .nil, h => h
  | _, _, _, _, .cons h t, h2 => .cons h (Dvs.append t h2)
theorem Dvs.get : ∀ {vs : List Val} {xs : List V} {i : Nat} {v : Val}, Dvs K N vs xs → vs[i]? = some v → ∃ x, xs[i]? = some x ∧ Dv K N v x
  | _, _, _, _, .nil, e => by simp at e
  | _, _, 0, _, .cons h t, e => by simp at e; subst e; exact ⟨_, rfl, h⟩
  | _, _, i + 1, v, .cons h t, e => by
    obtain ⟨x, h1, h2⟩ := Dvs.get (i := i) (v := v) t (by simpa using e)
    exact ⟨x, by simpa using h1, h2⟩
theorem Dvs.get' : ∀ {vs : List Val} {xs : List V} {i : Nat} {x : V}, Dvs K N vs xs → xs[i]? = some x → ∃ v, vs[i]? = some v ∧ Dv K N v x
  | _, _, _, _, .nil, e => by simp at e
  | _, _, 0, _, .cons h t, e => by simp at e; subst e; exact ⟨_, rfl, h⟩
  | _, _, i + 1, x, .cons h t, e => by
    obtain ⟨v, h1, h2⟩ := Dvs.get' (i := i) (x := x) t (by simpa using e)
    exact ⟨v, by simpa using h1, h2⟩
theorem Dvs.take : ∀ {vs : List Val} {xs : List V} (n : Nat), Dvs K N vs xs → Dvs K N (vs.take n) (xs.take n)
  | _, _, 0, _ => by simpa using Dvs.nil
  | _, _, _ + 1, .nil => by simpa using Dvs.nil
  | _, _, n + 1, .cons h t => by simpa using Dvs.cons h (Dvs.take n t)
theorem Dvs.drop : ∀ {vs : List Val} {xs : List V} (n : Nat), Dvs K N vs xs → Dvs K N (vs.drop n) (xs.drop n)
  | _, _, 0, h => h
  | _, _, _ + 1, .nil => by simpa using Dvs.nil
  | _, _, n + 1, .cons h t => by simpa using Dvs.drop n t
theorem Dvs.set {v : Val} {x : V} (h : Dv K N v x) : ∀ {vs : List Val} {xs : List V} (i : Nat), Dvs K N vs xs → Dvs K N (vs.set i v) (xs.set i x)
  | _, _, _, .nil => .nil
  | _, _, 0, .cons _ t => .cons h t
  | _, _, i + 1, .cons q t => .cons q (Dvs.set h i t)
theorem Dvs.dropLast : ∀ {vs : List Val} {xs : List V}, Dvs K N vs xs → Dvs K N vs.dropLast xs.dropLast := fun {vs xs} h => by
  rw [List.dropLast_eq_take, List.dropLast_eq_take, h.length]
  exact h.take _
theorem Dvs.strs : ∀ {ss : List Str} {xs : List V}, Dvs K N (ss.map Val.str) xs → xs = ss.map V.str
  | [], _, .nil => rfl
  | s :: ss, _, .cons h t => by
    cases h
    rw [Dvs.strs t]
    rfl
theorem Dvs.of_strs : ∀ (ss : List Str), Dvs K N (ss.map Val.str) (ss.map V.str)
  | [] => .nil
  | s :: ss => .cons (.str s) (Dvs.of_strs ss)
theorem Dvs.ints : ∀ {ss : List Int} {xs : List V}, Dvs K N (ss.map Val.int) xs → xs = ss.map V.int
  | [], _, .nil => rfl
  | s :: ss, _, .cons h t => by
    cases h
    rw [Dvs.ints t]
    rfl
theorem Dvs.of_ints : ∀ (ss : List Int), Dvs K N (ss.map Val.int) (ss.map V.int)
  | [] => .nil
  | s :: ss => .cons (.int s) (Dvs.of_ints ss)
theorem Dvs.bls : ∀ {ss : List Bool} {xs : List V}, Dvs K N (ss.map Val.bl) xs → xs = ss.map V.bl
  | [], _, .nil => rfl
  | s :: ss, _, .cons h t => by
    cases h
    rw [Dvs.bls t]
    rfl
end

/-- what may stand at an address that may change -/
inductive Cell where
  | lst (vs : List Val)
  | scr (vs : List Val)
  | dict (kvs : List (Str × Val))
  | lck (u : HO) (kvs : List (Str × Val))
  | inst (C : Addr) (fs : List (Str × Val))
  | exn (C : Addr) (fs : List (Str × Val))

abbrev MH := Addr → Option Cell
def mset (F : MH) (a : Addr) (c : Cell) : MH := fun b => if b = a then some c else F b
def mdel (F : MH) (a : Addr) : MH := fun b => if b = a then none else F b
theorem mset_same {F : MH} {a : Addr} {c : Cell} : mset F a c a = some c := by unfold mset; rw [if_pos rfl]
theorem mset_ne {F : MH} {a b : Addr} {c : Cell} (h : b ≠ a) : mset F a c b = F b := by unfold mset; rw [if_neg h]
theorem mset_mset {F : MH} {a : Addr} {c d : Cell} : mset (mset F a c) a d = mset F a d := by
  funext b; unfold mset; split <;> rfl
theorem mdel_same {F : MH} {a : Addr} : mdel F a a = none := by unfold mdel; rw [if_pos rfl]
theorem mdel_ne {F : MH} {a b : Addr} (h : b ≠ a) : mdel F a b = F b := by unfold mdel; rw [if_neg h]
theorem mset_self {F : MH} {a : Addr} {c : Cell} (h : F a = some c) : mset F a c = F := by
  funext b; unfold mset; split
  · rename_i e; rw [e, h]
  · rfl
theorem mdel_mset {F : MH} {a : Addr} {c : Cell} (h : F a = none) : mdel (mset F a c) a = F := by
  funext b
  by_cases e : b = a
  · rw [e, mdel_same, h]
  · rw [mdel_ne e, mset_ne e]
theorem mset_comm {F : MH} {a b : Addr} {c d : Cell} (h : a ≠ b) : mset (mset F a c) b d = mset (mset F b d) a c := by
  funext x; unfold mset; by_cases h1 : x = b
  · by_cases h2 : x = a
    · exact absurd (h2.symm.trans h1) h
    · rw [if_pos h1, if_neg h2, if_pos h1]
  · by_cases h2 : x = a
    · rw [if_neg h1, if_pos h2, if_pos h2]
    · rw [if_neg h1, if_neg h2, if_neg h2, if_neg h1]

/-- an exception object, with the own dict d or none, that nobody raises now -/
def ExG (cls : Value) (d : Option Addr) (a : Addr) : HO := .ext fun h => ∃ (oe : Obj) (vs : Array Value), h.get? a = some oe ∧ Zc cls d oe ∧ oe.data = .fields vs

abbrev Dkv (K : PySem.W.Frag) (N : Hp) : List (Str × Val) → List (Key × V) → Prop := Paired fun (p : Str × Val) (q : Key × V) => q.1 = Sum.inr p.1 ∧ Dv K N p.2 q.2
abbrev Dfs (K : PySem.W.Frag) (N : Hp) : List (Str × Val) → List (Str × V) → Prop := Paired fun (p : Str × Val) (q : Str × V) => p.1 = q.1 ∧ Dv K N p.2 q.2

def CellIn (K : PySem.W.Frag) (N H : Hp) (a : Addr) : Cell → Prop
  | .lst vs => ∃ xs, H a = some (.lst xs) ∧ Dvs K N vs xs
  | .scr vs => ∃ o xs, H a = some (.frz o (.lst xs)) ∧ Dvs K N vs xs
  | .dict kvs => ∃ xs, H a = some (.dK xs) ∧ Dkv K N kvs xs
  | .lck u kvs => H a = some u ∧ ∃ o xs, u = .frz o (.dK xs) ∧ Dkv K N kvs xs
  | .inst C fs => ∃ dx xs, H a = some (.ins C dx xs) ∧ Dfs K N fs xs
  | .exn C fs => (fs = [] ∧ H a = some (ExG (.ref C) none a)) ∨ ∃ d xs, fs ≠ [] ∧ H a = some (ExG (.ref C) (some d) a) ∧ H d = some (.xd xs) ∧ Dfs K N fs xs

/-- a moment: what stood still, the cells, the heap. What a moment's heap bears beside them stays as it was -/
structure Bs where
  N : Hp
  F : MH
  H : Hp
/-- the heap H bears what N tells (it stands still), and apart from it the cells F -/
structure Ok (K : PySem.W.Frag) (B : Bs) (N : Hp) (F : MH) (H : Hp) : Prop where
  sub : Same N H
  cell : ∀ a c, F a = some c → N a = none ∧ CellIn K N H a c
  kept : ∀ a o, B.H a = some o → B.N a = none → B.F a = none → H a = some o ∧ N a = none ∧ F a = none
  low : Same B.N N

section
variable {K : PySem.W.Frag} {B : Bs} {N N' H H' : Hp} {F : MH}
theorem Dkv.mono (e : Same N N') {l : List (Str × Val)} {m : List (Key × V)} (h : Dkv K N l m) : Dkv K N' l m := Paired.mapP h fun _ _ q => ⟨q.1, q.2.mono e⟩
theorem Dfs.mono (e : Same N N') {l : List (Str × Val)} {m : List (Str × V)} (h : Dfs K N l m) : Dfs K N' l m := Paired.mapP h fun _ _ q => ⟨q.1, q.2.mono e⟩
theorem CellIn.mono (e : Same N N') {a : Addr} : ∀ {c : Cell}, CellIn K N H a c → CellIn K N' H a c
  | .lst _, ⟨xs, h, d⟩ => ⟨xs, h, d.mono e⟩
  | .scr _, ⟨o, xs, h, d⟩ => ⟨o, xs, h, d.mono e⟩
  | .dict _, ⟨xs, h, d⟩ => ⟨xs, h, Dkv.mono e d⟩
  | .lck _ _, ⟨h, o, xs, hu, d⟩ => ⟨h, o, xs, hu, Dkv.mono e d⟩
  | .inst _ _, ⟨dx, xs, h, d⟩ => ⟨dx, xs, h, Dfs.mono e d⟩
  | .exn _ _, .inl h => .inl h
  | .exn _ _, .inr ⟨d, xs, hn, h, h2, q⟩ => .inr ⟨d, xs, hn, h, h2, Dfs.mono e q⟩
theorem CellIn.there {a : Addr} : ∀ {c : Cell}, CellIn K N H a c → ∃ o, H a = some o
  | .lst _, ⟨xs, h, d⟩ => ⟨_, h⟩
  | .scr _, ⟨o, xs, h, d⟩ => ⟨_, h⟩
  | .dict _, ⟨xs, h, d⟩ => ⟨_, h⟩
  | .lck _ _, ⟨h, _⟩ => ⟨_, h⟩
  | .inst _ _, ⟨dx, xs, h, d⟩ => ⟨_, h⟩
  | .exn _ _, .inl h => ⟨_, h.2⟩
  | .exn _ _, .inr ⟨d, xs, hn, h, h2, q⟩ => ⟨_, h⟩
/-- what a cell leans on in H: its own place, and an exception's dict -/
theorem CellIn.keep {a : Addr} (k : ∀ b o, (b = a ∨ ∃ xs, o = .xd xs) → H b = some o → H' b = some o) : ∀ {c : Cell}, CellIn K N H a c → CellIn K N H' a c
  | .lst _, ⟨xs, h, d⟩ => ⟨xs, k _ _ (.inl rfl) h, d⟩
  | .scr _, ⟨o, xs, h, d⟩ => ⟨o, xs, k _ _ (.inl rfl) h, d⟩
  | .dict _, ⟨xs, h, d⟩ => ⟨xs, k _ _ (.inl rfl) h, d⟩
  | .lck _ _, ⟨h, o, xs, hu, d⟩ => ⟨k _ _ (.inl rfl) h, o, xs, hu, d⟩
  | .inst _ _, ⟨dx, xs, h, d⟩ => ⟨dx, xs, k _ _ (.inl rfl) h, d⟩
  | .exn _ _, .inl h => .inl ⟨h.1, k _ _ (.inl rfl) h.2⟩
  | .exn _ _, .inr ⟨d, xs, hn, h, h2, q⟩ => .inr ⟨d, xs, hn, k _ _ (.inl rfl) h, k _ _ (.inr ⟨_, rfl⟩) h2, q⟩
theorem Ok.free (o : Ok K B N F H) {p : Addr} (h : H p = none) : N p = none ∧ F p = none := by
  refine ⟨o.sub.free h, ?_⟩
  cases e : F p with
  | none => rfl
  | some c =>
    obtain ⟨u, q⟩ := (o.cell p c e).2.there
    rw [h] at q
    cases q
/-- the heap grows -/
theorem Ok.grow (o : Ok K B N F H) (e : Same H H') : Ok K B N F H' :=
  ⟨o.sub.trans e, fun a c h => ⟨(o.cell a c h).1, (o.cell a c h).2.keep fun b u _ q => e b u q⟩, fun a u h h1 h2 => let ⟨x, y, z⟩ := o.kept a u h h1 h2; ⟨e a u x, y, z⟩, o.low⟩
theorem same_upd {p : Addr} {u : HO} (h : H p = none) : Same H (upd H p u) := fun b o e => by rw [upd_ne (ne_of_none e h)]; exact e
/-- a new thing that stands still -/
theorem Ok.still (o : Ok K B N F H) {p : Addr} {u : HO} (h : H p = none) : Same N (upd N p u) ∧ Ok K B (upd N p u) F (upd H p u) := by
  have hn := (o.free h).1
  refine ⟨same_upd hn, ⟨fun b x e => ?_, fun a c q => ?_, fun a u' h0 h1 h2 => ?_, o.low.trans (same_upd hn)⟩⟩
  · by_cases hb : b = p
    · subst hb; rw [upd_same] at e ⊢; exact e
    · rw [upd_ne hb] at e ⊢; exact o.sub b x e
  · have na : a ≠ p := fun z => by rw [z, (o.free h).2] at q; cases q
    obtain ⟨h1, h2⟩ := o.cell a c q
    exact ⟨by rw [upd_ne na]; exact h1, (h2.mono (same_upd hn)).keep fun b x _ r => same_upd h b x r⟩
  · obtain ⟨x, y, z⟩ := o.kept a u' h0 h1 h2
    have na := ne_of_none x h
    exact ⟨by rw [upd_ne na]; exact x, by rw [upd_ne na]; exact y, z⟩
/-- a new cell -/
theorem Ok.new (o : Ok K B N F H) {p : Addr} {u : HO} {c : Cell} (h : H p = none) (hc : CellIn K N (upd H p u) p c) : Ok K B N (mset F p c) (upd H p u) := by
  refine ⟨o.sub.trans (same_upd h), fun a d q => ?_, fun a u' h0 h1 h2 => ?_, o.low⟩
  · by_cases ha : a = p
    · subst ha; rw [mset_same] at q; cases q; exact ⟨(o.free h).1, hc⟩
    · rw [mset_ne ha] at q
      exact ⟨(o.cell a d q).1, (o.cell a d q).2.keep fun b x _ r => same_upd h b x r⟩
  · obtain ⟨x, y, z⟩ := o.kept a u' h0 h1 h2
    have na := ne_of_none x h
    exact ⟨by rw [upd_ne na]; exact x, y, by rw [mset_ne na]; exact z⟩
/-- a cell is changed -/
theorem Ok.put (o : Ok K B N F H) {p : Addr} {u : HO} {c d : Cell} (h : F p = some c) (hx : ∀ xs, H p ≠ some (.xd xs)) (hc : CellIn K N (upd H p u) p d) : Ok K B N (mset F p d) (upd H p u) := by
  have hn := (o.cell p c h).1
  have hk : ∀ b x, b ≠ p → H b = some x → upd H p u b = some x := fun b x e r => by rw [upd_ne e]; exact r
  refine ⟨fun b x e => hk b x (fun z => by rw [z, hn] at e; cases e) (o.sub b x e), fun a e q => ?_, fun a u' h0 h1 h2 => ?_, o.low⟩
  · by_cases ha : a = p
    · subst ha; rw [mset_same] at q; cases q; exact ⟨hn, hc⟩
    · rw [mset_ne ha] at q
      refine ⟨(o.cell a e q).1, (o.cell a e q).2.keep fun b x hb r => hk b x ?_ r⟩
      rintro rfl
      rcases hb with z | ⟨xs, rfl⟩
      · exact ha z.symm
      · exact hx xs r
  · obtain ⟨x, y, z⟩ := o.kept a u' h0 h1 h2
    have na : a ≠ p := fun w => by rw [w, h] at z; cases z
    exact ⟨hk a u' na x, y, by rw [mset_ne na]; exact z⟩
theorem Ok.less (o : Ok K B N F H) {F' : MH} (h : ∀ a c, F' a = some c → F a = some c) : Ok K B N F' H := by
  refine ⟨o.sub, fun a c q => o.cell a c (h a c q), fun a u' h0 h1 h2 => ?_, o.low⟩
  obtain ⟨x, y, z⟩ := o.kept a u' h0 h1 h2
  refine ⟨x, y, ?_⟩
  cases e : F' a with
  | none => rfl
  | some c => rw [h a c e] at z; cases z
/-- a cell is no more told -/
theorem Ok.drop (o : Ok K B N F H) (p : Addr) : Ok K B N (mdel F p) H := o.less fun a c q => by
  by_cases ha : a = p
  · rw [ha, mdel_same] at q; cases q
  · rw [mdel_ne ha] at q; exact q
/-- a list cell stands still from now on -/
theorem Ok.freeze (o : Ok K B N F H) {p : Addr} {vs : List Val} (h : F p = some (.lst vs)) : ∃ N', Same N N' ∧ Ok K B N' (mdel F p) H ∧ Dv K N' (.lst vs) (.ref p) := by
  obtain ⟨hn, xs, hx, d⟩ := o.cell p _ h
  have e := same_upd (u := .lst xs) hn
  refine ⟨upd N p (.lst xs), e, ⟨fun b x q => ?_, fun a c q => ?_, fun a u' h0 h1 h2 => ?_, o.low.trans e⟩, .lst upd_same (d.mono e)⟩
  · by_cases hb : b = p
    · subst hb; rw [upd_same] at q; rw [← q]; exact hx
    · rw [upd_ne hb] at q; exact o.sub b x q
  · have ha : a ≠ p := fun z => by rw [z, mdel_same] at q; cases q
    rw [mdel_ne ha] at q
    exact ⟨by rw [upd_ne ha]; exact (o.cell a c q).1, (o.cell a c q).2.mono e⟩
  · obtain ⟨x, y, z⟩ := o.kept a u' h0 h1 h2
    have na : a ≠ p := fun w => by rw [w, h] at z; cases z
    exact ⟨x, by rw [upd_ne na]; exact y, by rw [mdel_ne na]; exact z⟩
theorem Ok.none (K : PySem.W.Frag) (H : Hp) : Ok K ⟨H, fun _ => Option.none, H⟩ H (fun _ => Option.none) H := ⟨Same.refl H, fun _ _ h => (nomatch h), fun a o h h1 _ => ⟨h, h1, rfl⟩, Same.refl H⟩
/-- the moment itself as the base -/
theorem Ok.here (o : Ok K B N F H) : Ok K ⟨N, F, H⟩ N F H := ⟨o.sub, o.cell, fun _ _ h h1 h2 => ⟨h, h1, h2⟩, Same.refl N⟩
theorem Ok.trans {C : Bs} (o : Ok K B C.N C.F C.H) (o' : Ok K C N F H) : Ok K B N F H := ⟨o'.sub, o'.cell, fun a u h h1 h2 => let ⟨x, y, z⟩ := o.kept a u h h1 h2; o'.kept a u x y z, o.low.trans o'.low⟩
end

/-! ### the slots -/
abbrev St1 := List (Option Val)
structure Sl (K : PySem.W.Frag) (N : Hp) (σ : St1) (τ : L2.St) : Prop where
  len : σ.length = τ.length
  get : ∀ (i : Nat) (v : Val), σ[i]? = some (some v) → ∃ x, τ[i]? = some (some x) ∧ Dv K N v x
section
variable {K : PySem.W.Frag} {N N' : Hp} {σ : St1} {τ : L2.St}
theorem Sl.mono (e : Same N N') (h : Sl K N σ τ) : Sl K N' σ τ := ⟨h.len, fun i v q => let ⟨x, a, b⟩ := h.get i v q; ⟨x, a, b.mono e⟩⟩
theorem Sl.set (h : Sl K N σ τ) (i : Nat) {v : Val} {x : V} (d : Dv K N v x) : Sl K N (σ.set i (some v)) (τ.set i (some x)) := by
  refine ⟨by rw [List.length_set, List.length_set, h.len], fun j w q => ?_⟩
  by_cases hj : i = j
  · subst hj
    by_cases hl : i < σ.length
    · rw [List.getElem?_set_self hl] at q
      cases q
      exact ⟨x, List.getElem?_set_self (by rw [← h.len]; exact hl), d⟩
    · rw [List.getElem?_eq_none (by rw [List.length_set]; omega)] at q
      cases q
  · rw [List.getElem?_set_ne hj] at q ⊢
    exact h.get j w q
theorem Sl.del (h : Sl K N σ τ) (i : Nat) (o : Option V) : Sl K N (σ.set i none) (τ.set i o) := by
  refine ⟨by rw [List.length_set, List.length_set, h.len], fun j w q => ?_⟩
  by_cases hj : i = j
  · subst hj
    by_cases hl : i < σ.length
    · rw [List.getElem?_set_self hl] at q
      cases q
    · rw [List.getElem?_eq_none (by rw [List.length_set]; omega)] at q
      cases q
  · rw [List.getElem?_set_ne hj] at q ⊢
    exact h.get j w q
end

/-! ### wishes -/
abbrev Q1 := Val → MH → Prop
abbrev X1 := Addr → List (Str × Val) → MH → Prop
abbrev XS := Addr → List (Str × Val) → St1 → MH → Prop
abbrev Spec := List Val → MH → Q1 → X1 → Prop

/-- how a wish over told values is met at the heap -/
def Post (K : PySem.W.Frag) (B : Bs) (N : Hp) (Q0 : Q1) (Q : VK) : Prop := ∀ v x N' F' H', Same N N' → Ok K B N' F' H' → Dv K N' v x → Q0 v F' → Q x H'
def XRep (K : PySem.W.Frag) (N H : Hp) (fs : List (Str × Val)) (d : Option Addr) : Prop := (d = none ∧ fs = []) ∨ ∃ dd xs, fs ≠ [] ∧ d = some dd ∧ H dd = some (.xd xs) ∧ Dfs K N fs xs
def PostX (K : PySem.W.Frag) (B : Bs) (N : Hp) (E0 : X1) (E : XK) : Prop := ∀ C fs d N' F' H', Same N N' → Ok K B N' F' H' → XRep K N' H' fs d → E0 C fs F' → E (.ref C) d H'

def lift2 (K : PySem.W.Frag) (r : Val → Val → MH → Q1 → Prop) : R2 := fun x y H Q => ∃ B N F a b Q0, Ok K B N F H ∧ Dv K N a x ∧ Dv K N b y ∧ r a b F Q0 ∧ Post K B N Q0 Q
def lift1 (K : PySem.W.Frag) (r : Val → MH → Q1 → Prop) : V → Hp → VK → Prop := fun x H Q => ∃ B N F a Q0, Ok K B N F H ∧ Dv K N a x ∧ r a F Q0 ∧ Post K B N Q0 Q
def liftN (K : PySem.W.Frag) (r : List Val → MH → Q1 → Prop) : List V → Hp → VK → Prop := fun xs H Q => ∃ B N F as Q0, Ok K B N F H ∧ Dvs K N as xs ∧ r as F Q0 ∧ Post K B N Q0 Q
def liftM (K : PySem.W.Frag) (r : Val → List Val → MH → Q1 → Prop) : V → List V → Hp → VK → Prop := fun x xs H Q => ∃ B N F a as Q0, Ok K B N F H ∧ Dv K N a x ∧ Dvs K N as xs ∧ r a as F Q0 ∧ Post K B N Q0 Q
def liftSp (K : PySem.W.Frag) (sp : Spec) : Sp := fun xs H Q E => ∃ B N F as Q0 E0, Ok K B N F H ∧ Dvs K N as xs ∧ sp as F Q0 E0 ∧ Post K B N Q0 Q ∧ PostX K B N E0 E
def liftW (K : PySem.W.Frag) (B : Bs) (W : XS) : WX := fun cls d τ H => ∃ C fs N F σ, cls = .ref C ∧ Ok K B N F H ∧ XRep K N H fs d ∧ Sl K N σ τ ∧ W C fs σ F
theorem Post.mono {K : PySem.W.Frag} {B : Bs} {N N' : Hp} {Q0 : Q1} {Q : VK} (e : Same N N') (h : Post K B N Q0 Q) : Post K B N' Q0 Q := fun v x N2 F2 H2 e2 => h v x N2 F2 H2 (e.trans e2)
theorem Post.at {K : PySem.W.Frag} {B : Bs} {N H : Hp} {F : MH} {Q0 : Q1} {Q : VK} (h : Post K B N Q0 Q) (o : Ok K B N F H) {v : Val} {x : V} (d : Dv K N v x) (q : Q0 v F) : Q x H := h v x N F H (Same.refl N) o d q
end Bv

/-! Operators over told values: what they ask, what they give. -/
namespace Bv
open PySem L2

section
variable {K : PySem.W.Frag} {B : Bs} {N H : Hp} {F : MH}
theorem Dv.list {vs : List Val} {x : V} (o : Same N H) (h : Dv K N (.lst vs) x) : ∃ p xs, x = .ref p ∧ H p = some (.lst xs) ∧ Dvs K N vs xs := by
  cases h with
  | lst h d => exact ⟨_, _, rfl, o _ _ h, d⟩
theorem Dv.tuple {vs : List Val} {x : V} (o : Same N H) (h : Dv K N (.tup vs) x) : ∃ p xs, x = .ref p ∧ H p = some (.tup xs) ∧ Dvs K N vs xs := by
  cases h with
  | tup h d => exact ⟨_, _, rfl, o _ _ h, d⟩
/-- a new list, a new tuple that stand still -/
theorem Post.newL {Q0 : Q1} {Q : VK} (h : Post K B N Q0 Q) (o : Ok K B N F H) {vs : List Val} {xs : List V} (d : Dvs K N vs xs) (q : Q0 (.lst vs) F) : ∀ p, H p = none → Q (.ref p) (upd H p (.lst xs)) := fun p hp => by
  obtain ⟨e, o'⟩ := o.still (u := .lst xs) hp
  exact h _ _ _ F _ e o' (.lst upd_same (d.mono e)) q
theorem Post.newT {Q0 : Q1} {Q : VK} (h : Post K B N Q0 Q) (o : Ok K B N F H) {vs : List Val} {xs : List V} (d : Dvs K N vs xs) (q : Q0 (.tup vs) F) : ∀ p, H p = none → Q (.ref p) (upd H p (.tup xs)) := fun p hp => by
  obtain ⟨e, o'⟩ := o.still (u := .tup xs) hp
  exact h _ _ _ F _ e o' (.tup upd_same (d.mono e)) q
/-- a new list as a cell -/
theorem Post.newC {Q0 : Q1} {Q : VK} (h : Post K B N Q0 Q) (o : Ok K B N F H) {vs : List Val} {xs : List V} (d : Dvs K N vs xs) (q : ∀ p, F p = none → Q0 (.ref p) (mset F p (.lst vs))) : ∀ p, H p = none → Q (.ref p) (upd H p (.lst xs)) := fun p hp => by
  exact h _ _ _ _ _ (Same.refl N) (o.new (c := .lst vs) hp ⟨xs, upd_same, d⟩) (.ref p) (q p (o.free hp).2)
end

/-! ### flat values, data -/
def flat : Val → Bool
  | .non => true
  | .bl _ => true
  | .int _ => true
  | .str _ => true
  | _ => false
def eqF : Val → Val → Bool
  | .non, .non => true
  | .bl a, .bl b => a == b
  | .bl a, .int b => (if a then 1 else 0) == b
  | .int a, .bl b => a == (if b then 1 else 0)
  | .int a, .int b => a == b
  | .str a, .str b => a == b
  | _, _ => false
def inL (x : Val) (vs : List Val) : Bool := vs.any fun y => eqF y x
section
variable {K : PySem.W.Frag} {N : Hp}
theorem Dv.flat {v : Val} {x : V} (h : Dv K N v x) (f : flat v = true) : flatV x = true := by
  cases h <;> first | rfl | cases f
theorem Dvs.flat : ∀ {vs : List Val} {xs : List V}, Dvs K N vs xs → vs.all Bv.flat = true → xs.all flatV = true
  | _, _, .nil, _ => rfl
  | _, _, .cons h t, f => by
    rw [List.all_cons, Bool.and_eq_true] at f ⊢
    exact ⟨h.flat f.1, t.flat f.2⟩
theorem Dv.eqF {v w : Val} {x y : V} (h : Dv K N v x) (h2 : Dv K N w y) (f : Bv.flat v = true) (f2 : Bv.flat w = true) : eqV x y = Bv.eqF v w := by
  cases h <;> cases h2 <;> first | rfl | exact absurd f Bool.false_ne_true | exact absurd f2 Bool.false_ne_true
theorem Dvs.inL {v : Val} {x : V} (h : Dv K N v x) (f : Bv.flat v = true) : ∀ {vs : List Val} {xs : List V}, Dvs K N vs xs → vs.all Bv.flat = true → inV x xs = Bv.inL v vs
  | _, _, .nil, _ => rfl
  | _, _, .cons a t, g => by
    rw [List.all_cons, Bool.and_eq_true] at g
    have i := Dvs.inL h f t g.2
    unfold inV Bv.inL at i ⊢
    rw [List.any_cons, List.any_cons, i, Dv.eqF a h g.1 f]
end
def toPD : Val → PyData
  | .non => .none
  | .bl b => .bool b
  | .int i => .int i
  | .str x => .str x
  | .tup vs => .tuple (vs.attach.map fun ⟨v, _⟩ => toPD v)
  | .lst vs => .list (vs.attach.map fun ⟨v, _⟩ => toPD v)
  | .ref _ => .none
  | .ty _ => .none
theorem toPD_tup (vs : List Val) : toPD (.tup vs) = .tuple (vs.map toPD) := by rw [toPD]; simp
theorem toPD_lst (vs : List Val) : toPD (.lst vs) = .list (vs.map toPD) := by rw [toPD]; simp
/-- data, at most so deep -/
def okD : Nat → Val → Bool
  | _, .non => true
  | _, .bl _ => true
  | _, .int _ => true
  | _, .str x => x.cps.all (· < 0x110000)
  | n + 1, .tup vs => vs.all (okD n)
  | n + 1, .lst vs => vs.all (okD n)
  | _, _ => false

theorem depthAll_le {n : Nat} : ∀ {ds : List PyData}, (∀ d ∈ ds, d.depth ≤ n) → PyData.depthAll ds ≤ n
  | [], _ => by simp [PyData.depthAll]
  | d :: ds, h => by
    have h1 := h d List.mem_cons_self
    have h2 := depthAll_le (n := n) (ds := ds) fun e he => h e (List.mem_cons_of_mem _ he)
    simp only [PyData.depthAll]
    omega
theorem canAll : ∀ {ds : List PyData}, (∀ d ∈ ds, d.canLay0 = true) → PyData.canLayAll0 ds = true
  | [], _ => by simp [PyData.canLayAll0]
  | d :: ds, h => by
    simp only [PyData.canLayAll0, Bool.and_eq_true]
    exact ⟨h d List.mem_cons_self, canAll fun e he => h e (List.mem_cons_of_mem _ he)⟩
theorem okD_pd : ∀ {n : Nat} {v : Val}, okD n v = true → (toPD v).depth ≤ n ∧ (toPD v).canLay0 = true
  | n, .non, _ => by cases n <;> simp [toPD, PyData.depth, PyData.canLay0]
  | n, .bl _, _ => by cases n <;> simp [toPD, PyData.depth, PyData.canLay0]
  | n, .int _, _ => by cases n <;> simp [toPD, PyData.depth, PyData.canLay0]
  | n, .str x, h => by
    have h' : x.cps.all (· < 0x110000) = true := by cases n <;> exact h
    refine ⟨?_, ?_⟩
    · simp [toPD, PyData.depth]
    · rw [toPD, PyData.canLay0]
      exact h'
  | 0, .tup _, h => by simp [okD] at h
  | 0, .lst _, h => by simp [okD] at h
  | n + 1, .tup vs, h => by
    have h : vs.all (okD n) = true := h
    rw [toPD_tup]
    refine ⟨?_, ?_⟩
    · rw [PyData.depth]
      refine Nat.succ_le_succ (depthAll_le fun d hd => ?_)
      obtain ⟨v, hv, rfl⟩ := List.mem_map.mp hd
      exact (okD_pd (n := n) (List.all_eq_true.mp h v hv)).1
    · rw [PyData.canLay0]
      refine canAll fun d hd => ?_
      obtain ⟨v, hv, rfl⟩ := List.mem_map.mp hd
      exact (okD_pd (n := n) (List.all_eq_true.mp h v hv)).2
  | n + 1, .lst vs, h => by
    have h : vs.all (okD n) = true := h
    rw [toPD_lst]
    refine ⟨?_, ?_⟩
    · rw [PyData.depth]
      refine Nat.succ_le_succ (depthAll_le fun d hd => ?_)
      obtain ⟨v, hv, rfl⟩ := List.mem_map.mp hd
      exact (okD_pd (n := n) (List.all_eq_true.mp h v hv)).1
    · rw [PyData.canLay0]
      refine canAll fun d hd => ?_
      obtain ⟨v, hv, rfl⟩ := List.mem_map.mp hd
      exact (okD_pd (n := n) (List.all_eq_true.mp h v hv)).2
  | n, .ref _, h => by cases n <;> simp [okD] at h
  | n, .ty _, h => by cases n <;> simp [okD] at h
theorem okD_shaped {v : Val} (h : okD 60 v = true) : SeqAt.shaped (toPD v) = true := by
  obtain ⟨h1, h2⟩ := okD_pd h
  unfold SeqAt.shaped
  rw [h2, decide_eq_true (show (toPD v).depth ≤ 64 by omega)]
  rfl
mutual
theorem Dv.dp {K : PySem.W.Frag} {N H : Hp} (o : Same N H) : ∀ {n : Nat} {v : Val} {x : V}, Dv K N v x → okD n v = true → Dp K H x (toPD v)
  | _, _, _, .non, _ => by rw [toPD]; exact .non
  | _, _, _, .bl b, _ => by rw [toPD]; exact .bl b
  | _, _, _, .int i, _ => by rw [toPD]; exact .int i
  | _, _, _, .str x, _ => by rw [toPD]; exact .str x
  | n, _, _, .ref a, h => by cases n <;> simp [okD] at h
  | n, _, _, .ty a, h => by cases n <;> simp [okD] at h
  | 0, _, _, .tup _ _, h => by simp [okD] at h
  | 0, _, _, .lst _ _, h => by simp [okD] at h
  | n + 1, _, _, .tup r t, h => by rw [toPD_tup]; exact .tup (.inl (.inl (o _ _ r))) (Dvs.dp o (n := n) t h)
  | n + 1, _, _, .lst r t, h => by rw [toPD_lst]; exact .lst (.inl (.inl (o _ _ r))) (Dvs.dp o (n := n) t h)
theorem Dvs.dp {K : PySem.W.Frag} {N H : Hp} (o : Same N H) : ∀ {n : Nat} {vs : List Val} {xs : List V}, Dvs K N vs xs → vs.all (okD n) = true → DpAll K H xs (vs.map toPD)
  | _, _, _, .nil, _ => .nil
  | _, _, _, .cons h t, g => by
    rw [List.all_cons, Bool.and_eq_true] at g
    exact .cons (Dv.dp o h g.1) (Dvs.dp o t g.2)
end
/-- a cell's list, as it stands -/
def rdF (F : MH) : Val → Val
  | .ref p => match F p with
    | some (.lst vs) => .lst vs
    | some (.scr vs) => .lst vs
    | _ => .ref p
  | v => v
theorem rdF_dp {K : PySem.W.Frag} {B : Bs} {N H : Hp} {F : MH} (o : Ok K B N F H) {v : Val} {x : V} (d : Dv K N v x) (h : okD 60 (rdF F v) = true) : Dp K H x (toPD (rdF F v)) := by
  cases v with
  | ref p =>
    cases d
    have er : rdF F (.ref p) = (match F p with | some (.lst vs) => Val.lst vs | some (.scr vs) => Val.lst vs | _ => .ref p) := rfl
    rw [er] at h ⊢
    cases e : F p with
    | none => rw [e] at h; simp [okD] at h
    | some c =>
      rw [e] at h
      cases c with
      | lst vs =>
        obtain ⟨_, xs, hx, dd⟩ := o.cell p _ e
        show Dp K H (.ref p) (toPD (.lst vs))
        rw [toPD_lst]
        exact .lst (.inl (.inl hx)) (Dvs.dp o.sub (n := 59) dd h)
      | scr vs =>
        obtain ⟨_, ob, xs, hx, dd⟩ := o.cell p _ e
        show Dp K H (.ref p) (toPD (.lst vs))
        rw [toPD_lst]
        exact .lst (.inl (.inr ⟨ob, hx⟩)) (Dvs.dp o.sub (n := 59) dd h)
      | _ => simp [okD] at h
  | _ => exact Dv.dp o.sub d h

/-! ### dicts by text keys -/
def kget (kvs : List (Str × Val)) (k : Str) : Option Val := (kvs.find? fun kv => decide (kv.1 = k)).map (·.2)
def kput (kvs : List (Str × Val)) (k : Str) (v : Val) : List (Str × Val) :=
  if (kvs.any fun kv => decide (kv.1 = k)) = true then kvs.map (fun kv => if kv.1 = k then (kv.1, v) else kv) else kvs ++ [(k, v)]
def kdrop (kvs : List (Str × Val)) (k : Str) : List (Str × Val) := kvs.filter fun kv => decide (kv.1 ≠ k)
section
variable {K : PySem.W.Frag} {N : Hp}
theorem Dkv.get {k : Str} : ∀ {kvs : List (Str × Val)} {xs : List (Key × V)}, Dkv K N kvs xs → (∀ v, kget kvs k = some v → ∃ x, valV xs (Sum.inr k : Key) = some x ∧ Dv K N v x) ∧ (kget kvs k = none → valV xs (Sum.inr k : Key) = none)
  | _, _, .nil => ⟨fun v h => (by simp [kget] at h), fun _ => rfl⟩
  | _, _, .cons (a := p) (b := q) h t => by
    obtain ⟨i1, i2⟩ := Dkv.get (k := k) t
    obtain ⟨pk, pv⟩ := p
    obtain ⟨qk, qv⟩ := q
    obtain ⟨e, d⟩ := h
    simp only at e d
    subst e
    by_cases hk : pk = k
    · subst hk
      refine ⟨fun v h => ?_, fun h => ?_⟩
      · simp [kget, List.find?_cons] at h
        subst h
        exact ⟨qv, valV_pos rfl, d⟩
      · simp [kget, List.find?_cons] at h
    · have hk' : ¬ (Sum.inr pk : Key) = Sum.inr k := fun z => hk (Sum.inr.inj z)
      rw [valV_neg hk']
      exact ⟨fun v h => i1 v (by rw [← h]; simp [kget, List.find?_cons, hk]), fun h => i2 (by rw [← h]; simp [kget, List.find?_cons, hk])⟩
theorem Dkv.length {kvs : List (Str × Val)} {xs : List (Key × V)} (h : Dkv K N kvs xs) : kvs.length = xs.length := Paired.length h
theorem Dkv.any {k : Str} : ∀ {kvs : List (Str × Val)} {xs : List (Key × V)}, Dkv K N kvs xs → (xs.any fun kv => decide (kv.1 = (Sum.inr k : Key))) = kvs.any fun kv => decide (kv.1 = k)
  | _, _, .nil => rfl
  | _, _, .cons h t => by
    rw [List.any_cons, List.any_cons, Dkv.any t, h.1]
    congr 1
    simp
theorem Dkv.map {k : Str} {v : Val} {x : V} (d : Dv K N v x) : ∀ {kvs : List (Str × Val)} {xs : List (Key × V)}, Dkv K N kvs xs → Dkv K N (kvs.map (fun kv => if kv.1 = k then (kv.1, v) else kv)) (xs.map (fun kv => if kv.1 = (Sum.inr k : Key) then (kv.1, x) else kv))
  | _, _, .nil => .nil
  | _, _, .cons (a := p) (b := q) h t => by
    rw [List.map_cons, List.map_cons]
    refine .cons ?_ (Dkv.map d t)
    by_cases hk : p.1 = k
    · rw [if_pos hk, if_pos (by rw [h.1, hk])]
      exact ⟨h.1, d⟩
    · rw [if_neg hk, if_neg (by rw [h.1]; simpa using hk)]
      exact h
theorem Dkv.append : ∀ {a c : List (Str × Val)} {b d : List (Key × V)}, Dkv K N a b → Dkv K N c d → Dkv K N (a ++ c) (b ++ d)
  | _, _, _, _, .nil, h => h
  | _, _, _, _, .cons h t, h2 => .cons h (Dkv.append t h2)
theorem Dkv.put {k : Str} {v : Val} {x : V} (d : Dv K N v x) {kvs : List (Str × Val)} {xs : List (Key × V)} (h : Dkv K N kvs xs) : Dkv K N (kput kvs k v) (putK xs (Sum.inr k : Key) x) := by
  unfold kput putK
  rw [Dkv.any h]
  split
  · exact Dkv.map d h
  · exact Dkv.append h (.cons ⟨rfl, d⟩ .nil)
theorem Dkv.drop {k : Str} : ∀ {kvs : List (Str × Val)} {xs : List (Key × V)}, Dkv K N kvs xs → Dkv K N (kdrop kvs k) (dropK xs (Sum.inr k : Key))
  | _, _, .nil => .nil
  | _, _, .cons (a := p) (b := q) h t => by
    unfold kdrop dropK
    rw [List.filter_cons, List.filter_cons]
    by_cases hk : p.1 = k
    · rw [if_neg (by simp [hk]), if_neg (by simp [h.1, hk])]
      exact Dkv.drop t
    · rw [if_pos (by simp [hk]), if_pos (by simp [h.1, hk])]
      exact .cons h (Dkv.drop t)
theorem Dkv.keys : ∀ {kvs : List (Str × Val)} {xs : List (Key × V)}, Dkv K N kvs xs → xs.map (·.1) = (kvs.map (·.1)).map (Sum.inr : Str → Key)
  | _, _, .nil => rfl
  | _, _, .cons h t => by rw [List.map_cons, List.map_cons, List.map_cons, Dkv.keys t, h.1]
end
end Bv

/-! The operators' own rules over told values. -/
namespace Bv
open PySem L2 PyProof.Rows

/-- the items of a list, still or a cell -/
def lsOf (F : MH) : Val → Option (List Val)
  | .lst vs => some vs
  | .ref p => match F p with
    | some (.lst vs) => some vs
    | some (.scr vs) => some vs
    | _ => none
  | _ => none
theorem lsOf_ok {K : PySem.W.Frag} {B : Bs} {N H : Hp} {F : MH} (o : Ok K B N F H) {v : Val} {x : V} {vs : List Val} (d : Dv K N v x) (h : lsOf F v = some vs) : ∃ p xs, x = .ref p ∧ Rd H p (.lst xs) ∧ Dvs K N vs xs := by
  cases v with
  | lst ws =>
    cases h
    obtain ⟨p, xs, e, h1, h2⟩ := d.list o.sub
    exact ⟨p, xs, e, .inl h1, h2⟩
  | ref p =>
    cases d
    have h : (match F p with | some (.lst vs) => some vs | some (.scr vs) => some vs | _ => none) = some vs := h
    cases e : F p with
    | none => rw [e] at h; cases h
    | some c =>
      rw [e] at h
      cases c with
      | lst ws =>
        cases h
        obtain ⟨_, xs, hx, dd⟩ := o.cell p _ e
        exact ⟨p, xs, rfl, .inl hx, dd⟩
      | scr ws =>
        cases h
        obtain ⟨_, ob, xs, hx, dd⟩ := o.cell p _ e
        exact ⟨p, xs, rfl, .inr ⟨ob, hx⟩, dd⟩
      | _ => cases h
  | _ => cases h

def DivOk (i j : Int) : Prop := j ≠ 0 ∧ Builtin.divisionGoesByPylong i j = false
def addS (a b : Val) (F : MH) (Q : Q1) : Prop :=
  match a, b with
  | .int i, .int j => Q (.int (i + j)) F
  | .str x, .str y => x.length + y.length ≤ sizeLine ∧ Q (.str (x ++ y)) F
  | .tup xs, .tup ys => xs.length + ys.length ≤ sizeLine ∧ Q (.tup (xs ++ ys)) F
  | a, b => match lsOf F a, lsOf F b with
    | some xs, some ys => xs.length + ys.length ≤ sizeLine ∧ Q (.lst (xs ++ ys)) F
    | _, _ => False
def subS : Val → Val → MH → Q1 → Prop
  | .int i, .int j, F, Q => Q (.int (i - j)) F
  | _, _, _, _ => False
def mulS : Val → Val → MH → Q1 → Prop
  | .int i, .int j, F, Q => IntMulOk i j ∧ Q (.int (i * j)) F
  | .lst xs, .int k, F, Q => -(2 ^ 63) ≤ k ∧ k < 2 ^ 63 ∧ xs.length * k.toNat ≤ sizeLine ∧ Q (.lst (List.replicate k.toNat xs).flatten) F
  | .str x, .int k, F, Q => -(2 ^ 63) ≤ k ∧ k ≤ 1 ∧ Q (.str (if k < 1 then Str.empty else x)) F
  | _, _, _, _ => False
def fdivS : Val → Val → MH → Q1 → Prop
  | .int i, .int j, F, Q => DivOk i j ∧ Q (.int (i.fdiv j)) F
  | _, _, _, _ => False
def modS : Val → Val → MH → Q1 → Prop
  | .int i, .int j, F, Q => j ≠ 0 ∧ Q (.int (i.fmod j)) F
  | _, _, _, _ => False
def powS : Val → Val → MH → Q1 → Prop
  | .int i, .int j, F, Q => CPow i j ∧ Q (.int (i ^ j.toNat)) F
  | _, _, _, _ => False
def shrS : Val → Val → MH → Q1 → Prop
  | .int i, .int j, F, Q => 0 ≤ j ∧ Q (.int (i / 2 ^ j.toNat)) F
  | _, _, _, _ => False
def andS : Val → Val → MH → Q1 → Prop
  | .int i, .int j, F, Q => j = 1 ∧ Q (.int (i % 2)) F
  | _, _, _, _ => False
def shlS : Val → Val → MH → Q1 → Prop
  | .int i, .int j, F, Q => i = 1 ∧ 0 ≤ j ∧ j ≤ 1000 ∧ Q (.int (2 ^ j.toNat)) F
  | _, _, _, _ => False
def binS : Operator → Val → Val → MH → Q1 → Prop
  | .Add => addS
  | .Sub => subS
  | .Mult => mulS
  | .FloorDiv => fdivS
  | .Mod => modS
  | .Pow => powS
  | .RShift => shrS
  | .BitAnd => andS
  | .LShift => shlS
  | _ => fun _ _ _ _ => False

section
variable {X : Cx}
theorem op_mulA : OpR X (binaryOp .Mult) (rI IntMulOk fun i j => .int (i * j)) := opI fun _ _ _ _ _ _ _ hc q => mul_int q hc
theorem op_fdivA : OpR X (binaryOp .FloorDiv) (rI DivOk fun i j => .int (i.fdiv j)) := opI fun _ _ _ _ _ _ _ hc q => floordiv_int hc.1 q (.inl hc.2)
theorem inv_rdL {pins : List (Addr × Obj)} {σ : L2.St} {H : Hp} {s : Shared} {l : Addr} {xs : List V} (I : Inv X pins σ H s) (h : Rd H l (.lst xs)) :
    ∃ (its : List Value) (n : Nat), Vals xs its ∧ s.heap.get? l = some { cls := .type "list", data := .seq its.toArray n } := by
  obtain ⟨_, its, n, r, e⟩ := h.ok I.hok
  exact ⟨its, n, r, e⟩
/-- list + list, the script's too -/
def rCatR : R2 := fun x y H Q => ∃ l b xs zs, x = .ref l ∧ y = .ref b ∧ Rd H l (.lst xs) ∧ Rd H b (.lst zs) ∧ xs.length + zs.length ≤ sizeLine ∧ ∀ p, H p = none → Q (.ref p) (upd H p (.lst (xs ++ zs)))
theorem op_catR : OpR X (binaryOp .Add) rCatR := by
  rintro pins s σ H x y v u Q I rx ry ⟨l, b, xs, zs, rfl, rfl, hl, hb, hz, q⟩
  obtain rfl : v = .ref l := rx
  obtain rfl : u = .ref b := ry
  obtain ⟨us, n, ru, e1⟩ := inv_rdL I hl
  obtain ⟨ws, m, rw, e2⟩ := inv_rdL I hb
  have lu := ru.length
  have lw := rw.length
  refine PySem.P.add_list e1 e2 ?_ (by simp; omega)
  have J := I.lnew (t' := s.toks) (ru.append rw) (by rw [List.length_append]; exact hz)
  refine ⟨.ref _, _, ?_, rfl, q _ I.fresh⟩
  simpa using J
theorem addS_ok : OpR X (binaryOp .Add) (lift2 X.K addS) := by
  rintro pins s σ H x y v u Q I rx ry ⟨B, N, F, a, b, Q0, o, da, db, h, post⟩
  unfold addS at h
  split at h
  · cases da; cases db
    exact op_add pins s σ H _ _ v u Q I rx ry ⟨_, _, rfl, rfl, post.at o (.int _) h⟩
  · cases da; cases db
    exact op_add_str pins s σ H _ _ v u Q I rx ry ⟨_, _, rfl, rfl, h.1, post.at o (.str _) h.2⟩
  · obtain ⟨p, xs, rfl, s1, d1⟩ := da.tuple o.sub
    obtain ⟨q, ys, rfl, s2, d2⟩ := db.tuple o.sub
    rename_i vs ws _ _
    refine op_catA pins s σ H _ _ v u Q I rx ry ⟨_, _, _, _, rfl, rfl, .of s1, .of s2, by rw [← d1.length, ← d2.length]; exact h.1, fun e => ?_, fun _ e => ?_, fun _ _ => post.newT o (d1.append d2) h.2⟩
    · subst e
      cases d1
      exact post.at o db h.2
    · subst e
      cases d2
      have h2 := h.2
      rw [List.append_nil] at h2
      exact post.at o da h2
  · split at h
    · rename_i e1 e2
      obtain ⟨p, xs, rfl, r1, d1⟩ := lsOf_ok o da e1
      obtain ⟨q, ys, rfl, r2, d2⟩ := lsOf_ok o db e2
      exact op_catR pins s σ H _ _ v u Q I rx ry ⟨_, _, _, _, rfl, rfl, r1, r2, by rw [← d1.length, ← d2.length]; exact h.1, post.newL o (d1.append d2) h.2⟩
    · exact h.elim
theorem subS_ok : OpR X (binaryOp .Sub) (lift2 X.K subS) := by
  rintro pins s σ H x y v u Q I rx ry ⟨B, N, F, a, b, Q0, o, da, db, h, post⟩
  unfold subS at h
  split at h
  · cases da; cases db
    exact op_sub pins s σ H _ _ v u Q I rx ry ⟨_, _, rfl, rfl, post.at o (.int _) h⟩
  · exact h.elim
theorem Dvs.rep {K : PySem.W.Frag} {N : Hp} {vs : List Val} {xs : List V} (d : Dvs K N vs xs) : ∀ n : Nat, Dvs K N (List.replicate n vs).flatten (List.replicate n xs).flatten
  | 0 => by simpa using Dvs.nil
  | n + 1 => by
    rw [List.replicate_succ, List.replicate_succ, List.flatten_cons, List.flatten_cons]
    exact d.append (Dvs.rep d n)
theorem mulS_ok : OpR X (binaryOp .Mult) (lift2 X.K mulS) := by
  rintro pins s σ H x y v u Q I rx ry ⟨B, N, F, a, b, Q0, o, da, db, h, post⟩
  unfold mulS at h
  split at h
  · cases da; cases db
    exact op_mulA pins s σ H _ _ v u Q I rx ry ⟨_, _, rfl, rfl, h.1, post.at o (.int _) h.2⟩
  · obtain ⟨p, xs, rfl, r1, d1⟩ := da.list o.sub
    cases db
    obtain ⟨h1, h2, h3, h4⟩ := h
    exact op_rep pins s σ H _ _ v u Q I rx ry ⟨_, _, _, rfl, rfl, r1, h1, h2, by rw [← d1.length]; exact h3, post.newL o (d1.rep _) h4⟩
  · rename_i z k
    cases da; cases db
    obtain ⟨t, rfl⟩ := rx
    obtain ⟨t2, rfl⟩ := ry
    obtain ⟨h1, h2, h3⟩ := h
    have e1 : decide (k < -(2 ^ 63 : Int)) = false := decide_eq_false (by omega)
    have e2 : decide (k ≥ 2 ^ 63) = false := decide_eq_false (by omega)
    by_cases hk : k < 1
    · rw [if_pos hk] at h3
      exact PySem.P.mul_str_none hk (by omega) ⟨.str Str.empty, H, I.tok _, ⟨_, rfl⟩, post.at o (.str _) h3⟩
    · have k1 : k = 1 := by omega
      subst k1
      rw [if_neg (by omega)] at h3
      refine PySem.P.mul_str (by rw [e1, e2]; rfl) (fun _ h => by simp at h) (fun _ h => by simp at h) ?_
      rw [if_neg (by omega), if_pos (by simp)]
      exact ⟨.str z, H, I, ⟨t, rfl⟩, post.at o (.str _) h3⟩
  · exact h.elim
theorem fdivS_ok : OpR X (binaryOp .FloorDiv) (lift2 X.K fdivS) := by
  rintro pins s σ H x y v u Q I rx ry ⟨B, N, F, a, b, Q0, o, da, db, h, post⟩
  unfold fdivS at h
  split at h
  · cases da; cases db
    exact op_fdivA pins s σ H _ _ v u Q I rx ry ⟨_, _, rfl, rfl, h.1, post.at o (.int _) h.2⟩
  · exact h.elim
theorem modS_ok : OpR X (binaryOp .Mod) (lift2 X.K modS) := by
  rintro pins s σ H x y v u Q I rx ry ⟨B, N, F, a, b, Q0, o, da, db, h, post⟩
  unfold modS at h
  split at h
  · cases da; cases db
    exact op_modN pins s σ H _ _ v u Q I rx ry ⟨_, _, rfl, rfl, h.1, post.at o (.int _) h.2⟩
  · exact h.elim
theorem powS_ok : OpR X (binaryOp .Pow) (lift2 X.K powS) := by
  rintro pins s σ H x y v u Q I rx ry ⟨B, N, F, a, b, Q0, o, da, db, h, post⟩
  unfold powS at h
  split at h
  · cases da; cases db
    exact op_pow pins s σ H _ _ v u Q I rx ry ⟨_, _, rfl, rfl, h.1, post.at o (.int _) h.2⟩
  · exact h.elim
theorem shrS_ok : OpR X (binaryOp .RShift) (lift2 X.K shrS) := by
  rintro pins s σ H x y v u Q I rx ry ⟨B, N, F, a, b, Q0, o, da, db, h, post⟩
  unfold shrS at h
  split at h
  · cases da; cases db
    exact op_shr pins s σ H _ _ v u Q I rx ry ⟨_, _, rfl, rfl, h.1, post.at o (.int _) h.2⟩
  · exact h.elim
theorem andS_ok : OpR X (binaryOp .BitAnd) (lift2 X.K andS) := by
  rintro pins s σ H x y v u Q I rx ry ⟨B, N, F, a, b, Q0, o, da, db, h, post⟩
  unfold andS at h
  split at h
  · cases da; cases db
    obtain ⟨rfl, h⟩ := h
    exact op_andM pins s σ H _ _ v u Q I rx ry ⟨_, 1, rfl, rfl, post.at o (.int _) h⟩
  · exact h.elim
theorem shlS_ok : OpR X (binaryOp .LShift) (lift2 X.K shlS) := by
  rintro pins s σ H x y v u Q I rx ry ⟨B, N, F, a, b, Q0, o, da, db, h, post⟩
  unfold shlS at h
  split at h
  · rename_i i j
    cases da; cases db
    obtain ⟨rfl, h0, h1, h⟩ := h
    exact op_oneShl pins s σ H _ _ v u Q I rx ry ⟨j.toNat, rfl, by rw [Int.toNat_of_nonneg h0], by omega, post.at o (.int _) h⟩
  · exact h.elim
theorem lift2_no {f : Value → Value → Sem Value} : OpR X f (lift2 X.K fun _ _ _ _ => False) := by
  rintro pins s σ H x y v u Q I rx ry ⟨B, N, F, a, b, Q0, o, da, db, h, post⟩
  exact h.elim
theorem binS_ok : ∀ op : Operator, OpR X (binaryOp op) (lift2 X.K (binS op))
  | .Add => addS_ok
  | .Sub => subS_ok
  | .Mult => mulS_ok
  | .FloorDiv => fdivS_ok
  | .Mod => modS_ok
  | .Pow => powS_ok
  | .RShift => shrS_ok
  | .BitAnd => andS_ok
  | .LShift => shlS_ok
  | .MatMult | .Div | .BitOr | .BitXor => lift2_no
end

/-! ### comparisons -/
def ltS (g : Int → Int → Bool) : Val → Val → MH → Q1 → Prop
  | .int i, .int j, F, Q => Q (.bl (g i j)) F
  | _, _, _, _ => False
def eqS (a b : Val) (F : MH) (Q : Bool → Prop) : Prop := okD 60 (rdF F a) = true ∧ okD 60 (rdF F b) = true ∧ Q (PyData.eqv (toPD (rdF F a)) (toPD (rdF F b)))
/-- is a in b -/
def inS (a b : Val) (F : MH) (Q : Bool → Prop) : Prop :=
  match a, b with
  | .str y, .str z => ∃ c : Nat, y = ⟨#[c]⟩ ∧ Q (decide (c ∈ z.cps.toList))
  | a, .tup vs => flat a = true ∧ vs.all flat = true ∧ Q (inL a vs)
  | a, b => match lsOf F b with
    | some vs => flat a = true ∧ vs.all flat = true ∧ Q (inL a vs)
    | none => match a, b with
      | .str k, .ref p => match F p with
        | some (.dict kvs) => Q (kget kvs k).isSome
        | some (.lck _ kvs) => Q (kget kvs k).isSome
        | _ => False
      | _, _ => False
def isNS : Val → Bool
  | .non => true
  | _ => false
def isS (a b : Val) (Q : Bool → Prop) : Prop := match b with
  | .non => Q (isNS a)
  | .bl c => match a with
    | .bl d => Q (d == c)
    | _ => False
  | _ => False
def cmpS (op : CmpOp) (a b : Val) (F : MH) (Q : Q1) : Prop :=
  match op with
  | .Eq => eqS a b F fun k => Q (.bl k) F
  | .NotEq => eqS a b F fun k => Q (.bl (!k)) F
  | .Lt => ltS (fun i j => decide (i < j)) a b F Q
  | .LtE => ltS (fun i j => decide (i ≤ j)) a b F Q
  | .Gt => ltS (fun i j => decide (j < i)) a b F Q
  | .GtE => ltS (fun i j => decide (j ≤ i)) a b F Q
  | .Is => isS a b fun k => Q (.bl k) F
  | .IsNot => isS a b fun k => Q (.bl (!k)) F
  | .In => inS a b F fun k => Q (.bl k) F
  | .NotIn => inS a b F fun k => Q (.bl (!k)) F
section
variable {X : Cx}
theorem Dv.isN {K : PySem.W.Frag} {N : Hp} {v : Val} {x : V} (h : Dv K N v x) : decide (x = .non) = isNS v := by
  cases h <;> first | rfl | exact decide_eq_false (fun z => nomatch z)
end
end Bv

/-! Comparisons, subscripts, slices over told values. -/
namespace Bv
open PySem L2 PyProof.Rows
section
variable {X : Cx}
theorem ltS_ok {op : CmpOp} {g : Int → Int → Bool} (h0 : OpR X (compareOp op) (rI0 fun i j => .bl (g i j))) : OpR X (compareOp op) (lift2 X.K (ltS g)) := by
  rintro pins s σ H x y v u Q I rx ry ⟨B, N, F, a, b, Q0, o, da, db, h, post⟩
  unfold ltS at h
  split at h
  · cases da; cases db
    exact h0 pins s σ H _ _ v u Q I rx ry ⟨_, _, rfl, rfl, post.at o (.bl _) h⟩
  · exact h.elim
theorem eqS_ok (hu : X.A.units + 64 < cLine) : OpR X (compareOp .Eq) (lift2 X.K (cmpS .Eq)) := by
  rintro pins s σ H x y v u Q I rx ry ⟨B, N, F, a, b, Q0, o, da, db, h, post⟩
  obtain ⟨h1, h2, h3⟩ := h
  exact op_eqD hu pins s σ H _ _ v u Q I rx ry ⟨_, _, rdF_dp o da h1, rdF_dp o db h2, okD_shaped h1, okD_shaped h2, post.at o (.bl _) h3⟩
theorem neS_ok (hu : X.A.units + 64 < cLine) : OpR X (compareOp .NotEq) (lift2 X.K (cmpS .NotEq)) := by
  rintro pins s σ H x y v u Q I rx ry ⟨B, N, F, a, b, Q0, o, da, db, h, post⟩
  obtain ⟨h1, h2, h3⟩ := h
  exact op_neD hu pins s σ H _ _ v u Q I rx ry ⟨_, _, rdF_dp o da h1, rdF_dp o db h2, okD_shaped h1, okD_shaped h2, post.at o (.bl _) h3⟩
theorem isS_ok : OpR X (compareOp .Is) (lift2 X.K (cmpS .Is)) := by
  rintro pins s σ H x y v u Q I rx ry ⟨B, N, F, a, b, Q0, o, da, db, h, post⟩
  cases b <;> first | exact h.elim | skip
  · cases db
    have h : Q0 (.bl (isNS a)) F := h
    rw [← da.isN] at h
    exact op_isN pins s σ H _ _ v u Q I rx ry ⟨rfl, post.at o (.bl _) h⟩
  · cases a <;> first | exact h.elim | skip
    cases da; cases db; cases rx; cases ry
    exact PyProof.Rows.is_bool ⟨.bl _, H, I, rfl, post.at o (.bl _) h⟩
theorem isnotS_ok : OpR X (compareOp .IsNot) (lift2 X.K (cmpS .IsNot)) := by
  rintro pins s σ H x y v u Q I rx ry ⟨B, N, F, a, b, Q0, o, da, db, h, post⟩
  cases b <;> first | exact h.elim | skip
  · cases db
    have h : Q0 (.bl (!isNS a)) F := h
    rw [← da.isN] at h
    exact op_notN pins s σ H _ _ v u Q I rx ry ⟨rfl, post.at o (.bl _) h⟩
  · cases a <;> first | exact h.elim | skip
    cases da; cases db; cases rx; cases ry
    exact PyProof.Rows.isnot_bool ⟨.bl _, H, I, rfl, post.at o (.bl _) h⟩
/-- a dict that is read: a cell, locked or not -/
def dcOf (F : MH) (p : Addr) : Option (List (Str × Val)) :=
  match F p with
  | some (.dict kvs) => some kvs
  | some (.lck _ kvs) => some kvs
  | _ => none
theorem dcOf_ok {K : PySem.W.Frag} {B : Bs} {N H : Hp} {F : MH} (o : Ok K B N F H) {p : Addr} {kvs : List (Str × Val)} (h : dcOf F p = some kvs) : ∃ xs, Rd H p (.dK xs) ∧ Dkv K N kvs xs := by
  unfold dcOf at h
  cases e : F p with
  | none => rw [e] at h; cases h
  | some c =>
    rw [e] at h
    cases c with
    | dict ws =>
      cases h
      obtain ⟨_, xs, hx, dd⟩ := o.cell p _ e
      exact ⟨xs, .inl hx, dd⟩
    | lck u ws =>
      cases h
      obtain ⟨_, hx, ob, xs, hu, dd⟩ := o.cell p _ e
      subst hu
      exact ⟨xs, .inr ⟨ob, hx⟩, dd⟩
    | _ => cases h
theorem dcOf_get {K : PySem.W.Frag} {B : Bs} {N H : Hp} {F : MH} (o : Ok K B N F H) {p : Addr} {kvs : List (Str × Val)} (h : dcOf F p = some kvs) (k : Str) :
    ∃ r : Option V, DGet H p (.str k) r ∧ r.isSome = (kget kvs k).isSome ∧ ∀ v, kget kvs k = some v → ∃ x, r = some x ∧ Dv K N v x := by
  obtain ⟨xs, r, d⟩ := dcOf_ok o h
  obtain ⟨i1, i2⟩ := Dkv.get (k := k) d
  refine ⟨valV xs (Sum.inr k : Key), .inl ⟨xs, Sum.inr k, r, rfl, rfl⟩, ?_, i1⟩
  cases e : kget kvs k with
  | none => rw [i2 e]; rfl
  | some v =>
    obtain ⟨x, e2, _⟩ := i1 v e
    rw [e2]; rfl
theorem inS_cases {a b : Val} {F : MH} {Q : Bool → Prop} (h : inS a b F Q) :
    (∃ (c : Nat) (z : Str), a = .str ⟨#[c]⟩ ∧ b = .str z ∧ Q (decide (c ∈ z.cps.toList))) ∨ (∃ vs, b = .tup vs ∧ flat a = true ∧ vs.all flat = true ∧ Q (inL a vs)) ∨
    (∃ vs, lsOf F b = some vs ∧ flat a = true ∧ vs.all flat = true ∧ Q (inL a vs)) ∨ ∃ k p kvs, a = .str k ∧ b = .ref p ∧ dcOf F p = some kvs ∧ Q (kget kvs k).isSome := by
  unfold inS at h
  split at h
  · obtain ⟨c, rfl, q⟩ := h
    exact .inl ⟨c, _, rfl, rfl, q⟩
  · exact .inr (.inl ⟨_, rfl, h⟩)
  · split at h
    · rename_i e
      exact .inr (.inr (.inl ⟨_, e, h⟩))
    · split at h
      · rename_i k p _ _ _
        cases e : F p with
        | none => rw [e] at h; exact h.elim
        | some c =>
          rw [e] at h
          cases c with
          | dict ws => exact .inr (.inr (.inr ⟨_, _, ws, rfl, rfl, by unfold dcOf; rw [e], h⟩))
          | lck u ws => exact .inr (.inr (.inr ⟨_, _, ws, rfl, rfl, by unfold dcOf; rw [e], h⟩))
          | _ => exact h.elim
      · exact h.elim
theorem sql_of {K : PySem.W.Frag} {H : Hp} {p : Addr} {xs : List V} (h : Rd H p (.lst xs)) : SqL K H p xs := .inl h
theorem inS_ok (hu : X.A.units + 64 < cLine) : OpR X (compareOp .In) (lift2 X.K (cmpS .In)) := by
  rintro pins s σ H x y v u Q I rx ry ⟨B, N, F, a, b, Q0, o, da, db, h, post⟩
  have h : inS a b F (fun k => Q0 (.bl k) F) := h
  rcases inS_cases h with ⟨c, z, rfl, rfl, q⟩ | ⟨vs, rfl, fa, fv, q⟩ | ⟨vs, e, fa, fv, q⟩ | ⟨k, p, kvs, rfl, rfl, e, q⟩
  · cases da; cases db
    exact op_in_sign pins s σ H _ _ v u Q I rx ry ⟨c, z, rfl, rfl, post.at o (.bl _) q⟩
  · obtain ⟨p, xs, rfl, s1, d1⟩ := db.tuple o.sub
    refine op_in_seq pins s σ H _ _ v u Q I rx ry ⟨p, xs, rfl, .inr (.of s1), da.flat fa, d1.flat fv, ?_⟩
    rw [Dvs.inL da fa d1 fv]
    exact post.at o (.bl _) q
  · obtain ⟨p, xs, rfl, r1, d1⟩ := lsOf_ok o db e
    refine op_in_seq pins s σ H _ _ v u Q I rx ry ⟨p, xs, rfl, .inl (sql_of r1), da.flat fa, d1.flat fv, ?_⟩
    rw [Dvs.inL da fa d1 fv]
    exact post.at o (.bl _) q
  · cases da; cases db
    obtain rfl : u = .ref p := ry
    obtain ⟨r, g, e1, _⟩ := dcOf_get o e k
    exact d_in (by omega) I g rx fun s' I' => ⟨.bl r.isSome, H, I', rfl, post.at o (.bl _) (by rw [e1]; exact q)⟩
theorem notinS_ok (hu : X.A.units + 64 < cLine) : OpR X (compareOp .NotIn) (lift2 X.K (cmpS .NotIn)) := by
  rintro pins s σ H x y v u Q I rx ry ⟨B, N, F, a, b, Q0, o, da, db, h, post⟩
  have h : inS a b F (fun k => Q0 (.bl (!k)) F) := h
  rcases inS_cases h with ⟨c, z, rfl, rfl, q⟩ | ⟨vs, rfl, fa, fv, q⟩ | ⟨vs, e, fa, fv, q⟩ | ⟨k, p, kvs, rfl, rfl, e, q⟩
  · cases da; cases db
    exact op_notIn_sign pins s σ H _ _ v u Q I rx ry ⟨c, z, rfl, rfl, post.at o (.bl _) q⟩
  · obtain ⟨p, xs, rfl, s1, d1⟩ := db.tuple o.sub
    refine op_notIn_seq pins s σ H _ _ v u Q I rx ry ⟨p, xs, rfl, .inr (.of s1), da.flat fa, d1.flat fv, ?_⟩
    rw [if_pos rfl, Dvs.inL da fa d1 fv]
    exact post.at o (.bl _) q
  · obtain ⟨p, xs, rfl, r1, d1⟩ := lsOf_ok o db e
    refine op_notIn_seq pins s σ H _ _ v u Q I rx ry ⟨p, xs, rfl, .inl (sql_of r1), da.flat fa, d1.flat fv, ?_⟩
    rw [if_pos rfl, Dvs.inL da fa d1 fv]
    exact post.at o (.bl _) q
  · cases da; cases db
    obtain rfl : u = .ref p := ry
    obtain ⟨r, g, e1, _⟩ := dcOf_get o e k
    exact d_notIn (by omega) I g rx fun s' I' => ⟨.bl (!r.isSome), H, I', rfl, post.at o (.bl _) (by rw [e1]; exact q)⟩
theorem cmpS_ok (hu : X.A.units + 64 < cLine) : ∀ op : CmpOp, OpR X (compareOp op) (lift2 X.K (cmpS op))
  | .Eq => eqS_ok hu
  | .NotEq => neS_ok hu
  | .Lt => ltS_ok op_lt
  | .LtE => ltS_ok op_le
  | .Gt => ltS_ok op_gt
  | .GtE => ltS_ok op_ge
  | .Is => isS_ok
  | .IsNot => isnotS_ok
  | .In => inS_ok hu
  | .NotIn => notinS_ok hu

/-! ### a[i], a[i:j] -/
def atS (vs : List Val) (i : Int) (F : MH) (Q : Q1) : Prop := match atI vs i with
  | some v => Q v F
  | none => False
def ixS (a i : Val) (F : MH) (Q : Q1) : Prop :=
  match a, i with
  | .tup vs, .int i => atS vs i F Q
  | .str z, .int i => match atI z.cps.toList i with
    | some c => z.length ≤ sizeLine ∧ Q (.str ⟨#[c]⟩) F
    | none => False
  | a, .int i => match lsOf F a with
    | some vs => atS vs i F Q
    | none => False
  | .ref p, .str k => match dcOf F p with
    | some kvs => match kget kvs k with
      | some v => Q v F
      | none => False
    | none => False
  | _, _ => False
theorem Dvs.at {K : PySem.W.Frag} {N : Hp} {vs : List Val} {xs : List V} (d : Dvs K N vs xs) {i : Int} {v : Val} (h : atI vs i = some v) : ∃ x, atI xs i = some x ∧ Dv K N v x := by
  unfold atI at h ⊢
  rw [← d.length]
  cases e : ixN vs.length i with
  | none => rw [e] at h; cases h
  | some j =>
    rw [e] at h
    exact d.get (i := j) h
theorem atS_some {vs : List Val} {i : Int} {F : MH} {Q : Q1} (h : atS vs i F Q) : ∃ v, atI vs i = some v ∧ Q v F := by
  unfold atS at h
  cases e : atI vs i with
  | none => rw [e] at h; exact h.elim
  | some v => rw [e] at h; exact ⟨v, rfl, h⟩
theorem ixS_cases {a i : Val} {F : MH} {Q : Q1} (h : ixS a i F Q) :
    (∃ vs i' v, a = .tup vs ∧ i = .int i' ∧ atI vs i' = some v ∧ Q v F) ∨ (∃ z i' c, a = .str z ∧ i = .int i' ∧ atI z.cps.toList i' = some c ∧ z.length ≤ sizeLine ∧ Q (.str ⟨#[c]⟩) F) ∨
    (∃ vs i' v, lsOf F a = some vs ∧ i = .int i' ∧ atI vs i' = some v ∧ Q v F) ∨ ∃ p k kvs v, a = .ref p ∧ i = .str k ∧ dcOf F p = some kvs ∧ kget kvs k = some v ∧ Q v F := by
  unfold ixS at h
  split at h
  · obtain ⟨v, e, q⟩ := atS_some h
    exact .inl ⟨_, _, v, rfl, rfl, e, q⟩
  · split at h
    · rename_i e
      exact .inr (.inl ⟨_, _, _, rfl, rfl, e, h⟩)
    · exact h.elim
  · split at h
    · rename_i e
      obtain ⟨v, e2, q⟩ := atS_some h
      exact .inr (.inr (.inl ⟨_, _, v, e, rfl, e2, q⟩))
    · exact h.elim
  · split at h
    · rename_i e
      split at h
      · rename_i e2
        exact .inr (.inr (.inr ⟨_, _, _, _, rfl, rfl, e, e2, h⟩))
      · exact h.elim
    · exact h.elim
  · exact h.elim
/-- d[k], as a subscript by values -/
theorem ix_dict (hu : X.A.units + 1 < cLine) : IxR X (fun x y H Q => ∃ a v, x = .ref a ∧ DGet H a y (some v) ∧ Q v H) := by
  rintro value slice pins s σ H x y v u Q I rx ry ⟨a, z, rfl, g, q⟩ hs
  obtain rfl : v = .ref a := rx
  have hT := dict_typeIs I g
  unfold subscriptTail
  refine wpAny_bind ?_
  rw [getitemInPython_of_ne hT.not_modules]
  refine wpAny_bind (wpAny_specialOf hT PySem.F.slot_dict_getitem.lookup ?_)
  have fin : wpAny (model X.prog X.w) X.A (subscripted slice false (.ref a) u) (fun r s3 => wpAny (model X.prog X.w) X.A (letTemporaryGo value (.ref a) r >>= fun _ => pure r) (EP X pins σ Q) X.xe s3) X.xe s := by
    rw [hs]
    exact wpAny_operating (d_getItem hu I g ry fun w' s3 I3 rw' => wpAny_bind (wpAny_letTemporaryGo (wpAny_pure ⟨z, H, I3, rw', q⟩)))
  first
    | exact wpAny_pure (wpAny_bind fin)
    | exact wpAny_bind (wpAny_pure (wpAny_bind fin))
    | exact wpAny_bind fin
theorem ixS_ok (hu : X.A.units + 64 < cLine) : IxR X (lift2 X.K ixS) := by
  rintro value slice pins s σ H x y v u Q I rx ry ⟨B, N, F, a, b, Q0, o, da, db, h, post⟩ hs
  rcases ixS_cases h with ⟨vs, i, w, rfl, rfl, e, q⟩ | ⟨z, i, c, rfl, rfl, e, hz, q⟩ | ⟨vs, i, w, el, rfl, e, q⟩ | ⟨p, k, kvs, w, rfl, rfl, e, e2, q⟩
  · cases db
    obtain ⟨p, xs, rfl, s1, d1⟩ := da.tuple o.sub
    obtain ⟨x', ex, dx⟩ := d1.at e
    exact ix_tup value slice pins s σ H _ _ v u Q I rx ry ⟨p, xs, i, x', rfl, rfl, .of s1, ex, post.at o dx q⟩ hs
  · cases da; cases db
    exact ix_str value slice pins s σ H _ _ v u Q I rx ry ⟨z, i, c, rfl, rfl, hz, e, post.at o (.str _) q⟩ hs
  · cases db
    obtain ⟨p, xs, rfl, r1, d1⟩ := lsOf_ok o da el
    obtain ⟨x', ex, dx⟩ := d1.at e
    exact ix_list value slice pins s σ H _ _ v u Q I rx ry ⟨p, xs, i, x', rfl, rfl, sql_of r1, ex, post.at o dx q⟩ hs
  · cases da; cases db
    obtain ⟨r, g, _, e3⟩ := dcOf_get o e k
    obtain ⟨x', rfl, dx⟩ := e3 w e2
    exact ix_dict (by omega) value slice pins s σ H _ _ v u Q I rx ry ⟨p, x', rfl, g, post.at o dx q⟩ hs
def cut {α : Type} (xs : List α) (lo hi : Option Int) : List α := (xs.drop (HT.sIx xs.length 0 lo)).take (HT.sIx xs.length xs.length hi - HT.sIx xs.length 0 lo)
theorem Dvs.cut {K : PySem.W.Frag} {N : Hp} {vs : List Val} {xs : List V} (d : Dvs K N vs xs) (lo hi : Option Int) : Dvs K N (Bv.cut vs lo hi) (cutV xs lo hi) := by
  unfold Bv.cut cutV
  rw [← d.length]
  exact (d.drop _).take _
theorem cut_whole {α : Type} {xs : List α} {lo hi : Option Int} (h : HT.sIx xs.length 0 lo = 0 ∧ HT.sIx xs.length xs.length hi = xs.length) : cut xs lo hi = xs := by
  unfold cut
  rw [h.1, h.2, List.drop_zero, Nat.sub_zero, List.take_length]
def slS (a : Val) (lo hi : Option Int) (F : MH) (Q : Q1) : Prop :=
  match a with
  | .tup vs => Q (.tup (cut vs lo hi)) F
  | .str z => z.length ≤ sizeLine ∧ Q (.str (cutS z lo hi)) F
  | a => match lsOf F a with
    | some vs => Q (.lst (cut vs lo hi)) F
    | none => False
/-- a[::-1] of a list -/
def revS (a : Val) (k : Option Int) (F : MH) (Q : Q1) : Prop := k = some (-1) ∧ match lsOf F a with
  | some vs => Q (.lst vs.reverse) F
  | none => False
theorem Dvs.reverse {K : PySem.W.Frag} {N : Hp} : ∀ {vs : List Val} {xs : List V}, Dvs K N vs xs → Dvs K N vs.reverse xs.reverse
  | _, _, .nil => .nil
  | _, _, .cons h t => by
    rw [List.reverse_cons, List.reverse_cons]
    exact (Dvs.reverse t).append (.cons h .nil)
def tRev (K : PySem.W.Frag) (te : TE) (ts : TO) : TE := fun σ H Q => te σ H fun x H1 => ts σ H1 fun k H2 => ∃ B N F a Q0, Ok K B N F H2 ∧ Dv K N a x ∧ revS a k F Q0 ∧ Post K B N Q0 Q
theorem pe_rev {e st : Expr} {te : TE} {ts : TO} {p2 pos : Pos} (he : PE X e te) (hs : PO X (some st) ts) : PE X (.Subscript e (.Slice none none (some st) p2) pos) (tRev X.K te ts) := by
  refine ⟨fun pins s σ H Q I h => ?_⟩
  refine Subscript_ (thn (he.run pins s σ H _ I h) fun v s1 ⟨x, H1, I1, r1, q1⟩ => ?_)
  refine wpAny_Slice ?_
  rw [evalPart_none]
  refine wpAny_pure (wpAny_pure (thn (hs.run pins s1 σ H1 _ I1 q1) fun vu s3 ⟨u, H3, I3, pu, q3⟩ => ?_))
  obtain ⟨B, N, F, a, Q0, o, da, ⟨rfl, q⟩, post⟩ := q3
  have I4 : Inv X pins σ H3 { s3 with heap := s3.heap.push { cls := .type "slice", data := .fields #[.none, .none, vu] } } := I3.kept (t' := s3.toks) fun b ob q => Heap.get?_push_of_some _ q
  have hg : ∃ T id, typeLookup (.type T) "__getitem__" = pure (some (.builtin id)) ∧ Shared.TypeIs { s3 with heap := s3.heap.push { cls := .type "slice", data := .fields #[.none, .none, vu] } } v T ∧ wpAny (model X.prog X.w) X.A (getItem v (.ref s3.heap.objs.size)) (EP X pins σ Q) X.xe { s3 with heap := s3.heap.push { cls := .type "slice", data := .fields #[.none, .none, vu] } } := by
    cases e1 : lsOf F a with
    | none => rw [e1] at q; exact q.elim
    | some vs =>
      rw [e1] at q
      obtain ⟨p, xs, rfl, hr, d1⟩ := lsOf_ok o da e1
      cases r1
      obtain ⟨its, r, ht, hz⟩ := I4.list (sql_of hr)
      have hlen := r.length
      refine ⟨"list", _, slot_list_getitem.lookup, ht.isList.typeIs, ?_⟩
      refine wpAny_getItem_list_slice ht.isList (Heap.IsSliceOf.new ..) .none .none pu (by decide) ?_ (by rw [List.size_toArray] <;> omega)
      rw [PySem.W.krv_pick]
      refine ⟨.ref _, _, I4.laid (t' := s3.toks) (o := .lst xs.reverse) (fun b ob q => Heap.get?_push_of_some _ q) (Nat.le_refl _) ?_, rfl, post.newL o d1.reverse q _ (I4.hok.fresh (Nat.le_refl _))⟩
      exact ⟨by rw [List.length_reverse]; exact hz, _, 0, r.reverse, Heap.get?_push_size _ rfl⟩
  obtain ⟨T, id, hT, ht, hg⟩ := hg
  show wpAny (model X.prog X.w) X.A (subscriptTail e (.Slice none none (some st) p2) v (.ref s3.heap.objs.size)) (EP X pins σ Q) X.xe _
  exact tail_any (ops := [v, .ref s3.heap.objs.size]) ht hT hg (by with_unfolding_all rfl)
def liftSl (K : PySem.W.Frag) : V → Option Int → Option Int → Hp → VK → Prop := fun x lo hi H Q => ∃ B N F a Q0, Ok K B N F H ∧ Dv K N a x ∧ slS a lo hi F Q0 ∧ Post K B N Q0 Q
theorem slS_ok : SlR X (liftSl X.K) := by
  rintro pins s σ H x v vl vu lo hi sl Q I rx hs pl pu ⟨B, N, F, a, Q0, o, da, h, post⟩
  unfold slS at h
  split at h
  · obtain ⟨p, xs, rfl, s1, d1⟩ := da.tuple o.sub
    refine sl_tupA pins s σ H _ v vl vu lo hi sl Q I rx hs pl pu ⟨p, xs, rfl, .of s1, fun e => ?_, fun _ => post.newT o (d1.cut lo hi) h⟩
    rw [← d1.length] at e
    rw [cut_whole e] at h
    exact post.at o da h
  · cases da
    exact sl_str pins s σ H _ v vl vu lo hi sl Q I rx hs pl pu ⟨_, rfl, h.1, post.at o (.str _) h.2⟩
  · split at h
    · rename_i e
      obtain ⟨p, xs, rfl, r1, d1⟩ := lsOf_ok o da e
      exact sl_list pins s σ H _ v vl vu lo hi sl Q I rx hs pl pu ⟨p, xs, rfl, sql_of r1, post.newL o (d1.cut lo hi) h⟩
    · exact h.elim
end
end Bv

/-! Built-in functions over told values; the one sorting of texts. -/
namespace Bv
open PySem L2 PyProof.Rows

/-! ### texts in order -/
def ltT (a b : Str) : Bool := decide (a.cps.toList < b.cps.toList)
theorem str_ext {a b : Str} (h : a.cps.toList = b.cps.toList) : a = b := by
  cases a; cases b
  simp only at h
  rw [Array.toList_inj] at h
  rw [h]
theorem ltT_irr (a : Str) : ltT a a = false := decide_eq_false (List.lt_irrefl _)
theorem ltT_trans {a b c : Str} (h : ltT a b = true) (h2 : ltT b c = true) : ltT a c = true :=
  decide_eq_true (List.lt_trans (of_decide_eq_true h) (of_decide_eq_true h2))
theorem ltT_tri {a b : Str} (h : ltT a b = false) (h2 : ltT b a = false) : a = b :=
  str_ext (List.le_antisymm (of_decide_eq_false h2) (of_decide_eq_false h))
theorem ltT_asym {a b : Str} (h : ltT a b = true) : ltT b a = false := by
  cases e : ltT b a with
  | false => rfl
  | true => rw [← ltT_irr a, ltT_trans h e]
/-- a ≤ b, b ≤ c: a ≤ c -/
theorem leT_trans {a b c : Str} (h : ltT b a = false) (h2 : ltT c b = false) : ltT c a = false := by
  cases e : ltT c a with
  | false => rfl
  | true =>
    cases e2 : ltT a b with
    | true => rw [← h2, ltT_trans e e2]
    | false => rw [ltT_tri e2 h] at e; rw [← h2, e]
def insS (x : Str) : List Str → List Str
  | [] => [x]
  | y :: r => if ltT y x then y :: insS x r else x :: y :: r
def sortS : List Str → List Str
  | [] => []
  | x :: r => insS x (sortS r)
def Asc (l : List Str) : Prop := l.Pairwise fun a b => ltT b a = false
theorem insS_perm (x : Str) : ∀ l, (insS x l).Perm (x :: l)
  | [] => List.Perm.refl _
  | y :: r => by
    unfold insS
    split
    · exact ((insS_perm x r).cons y).trans (List.Perm.swap x y r)
    · exact List.Perm.refl _
theorem sortS_perm : ∀ l, (sortS l).Perm l
  | [] => List.Perm.refl _
  | x :: r => (insS_perm x (sortS r)).trans ((sortS_perm r).cons x)
theorem insS_asc (x : Str) : ∀ l, Asc l → Asc (insS x l)
  | [], _ => by unfold insS Asc; simp
  | y :: r, h => by
    unfold insS
    obtain ⟨h1, h2⟩ := List.pairwise_cons.mp h
    split
    · rename_i e
      refine List.pairwise_cons.mpr ⟨fun z hz => ?_, insS_asc x r h2⟩
      rcases List.mem_cons.mp ((insS_perm x r).mem_iff.mp hz) with rfl | hz
      · exact ltT_asym e
      · exact h1 z hz
    · rename_i e
      have e : ltT y x = false := by simpa using e
      refine List.pairwise_cons.mpr ⟨fun z hz => ?_, h⟩
      rcases List.mem_cons.mp hz with rfl | hz
      · exact e
      · exact leT_trans e (h1 z hz)
theorem sortS_asc : ∀ l, Asc (sortS l)
  | [] => List.Pairwise.nil
  | x :: r => insS_asc x _ (sortS_asc r)
theorem asc_unique : ∀ {l m : List Str}, Asc l → Asc m → l.Perm m → l = m
  | [], m, _, _, p => (List.Perm.nil_eq p)
  | x :: r, [], _, _, p => (List.Perm.eq_nil p)
  | x :: r, y :: s, h1, h2, p => by
    obtain ⟨a1, a2⟩ := List.pairwise_cons.mp h1
    obtain ⟨b1, b2⟩ := List.pairwise_cons.mp h2
    have hx : x ∈ y :: s := p.mem_iff.mp List.mem_cons_self
    have hy : y ∈ x :: r := p.mem_iff.mpr List.mem_cons_self
    have e : x = y := by
      rcases List.mem_cons.mp hx with e | hx
      · exact e
      · rcases List.mem_cons.mp hy with e | hy
        · exact e.symm
        · exact ltT_tri (b1 x hx) (a1 y hy)
    subst e
    rw [asc_unique a2 b2 (List.Perm.cons_inv p)]
theorem risingS_asc : ∀ (p : Str) (l : List Str), risingS p l = true → (∀ q ∈ l, ltT q p = false) ∧ Asc l
  | p, [], _ => ⟨fun q h => (nomatch h), List.Pairwise.nil⟩
  | p, x :: r, h => by
    unfold risingS at h
    rw [Bool.and_eq_true] at h
    obtain ⟨h1, h2⟩ := h
    have e : ltT x p = false := by
      have q : Spec.ltCps x.cps.toList p.cps.toList = false := by simpa using h1
      rw [ltCps_eq] at q
      exact q
    obtain ⟨i1, i2⟩ := risingS_asc x r h2
    refine ⟨fun q hq => ?_, List.pairwise_cons.mpr ⟨i1, i2⟩⟩
    rcases List.mem_cons.mp hq with rfl | hq
    · exact e
    · exact leT_trans e (i1 q hq)
theorem sortedS_is {xs ys : List Str} (p : ys.Perm xs) (h : sortedS ys = true) : ys = sortS xs := by
  refine asc_unique ?_ (sortS_asc xs) (p.trans (sortS_perm xs).symm)
  cases ys with
  | nil => exact List.Pairwise.nil
  | cons x r =>
    obtain ⟨i1, i2⟩ := risingS_asc x r h
    exact List.pairwise_cons.mpr ⟨i1, i2⟩
theorem sortS_length (l : List Str) : (sortS l).length = l.length := (sortS_perm l).length_eq
theorem mem_sortS {l : List Str} {x : Str} : x ∈ sortS l ↔ x ∈ l := (sortS_perm l).mem_iff
theorem sortS_of_asc {l : List Str} (h : Asc l) : sortS l = l := asc_unique (sortS_asc l) h (sortS_perm l)
theorem sortS_eq_of_perm {l m : List Str} (h : l.Perm m) : sortS l = sortS m := asc_unique (sortS_asc l) (sortS_asc m) (((sortS_perm l).trans h).trans (sortS_perm m).symm)

/-! ### lists of one kind -/
def asStrs : List Val → Option (List Str)
  | [] => some []
  | .str x :: r => (asStrs r).map (x :: ·)
  | _ :: _ => none
def asBls : List Val → Option (List Bool)
  | [] => some []
  | .bl x :: r => (asBls r).map (x :: ·)
  | _ :: _ => none
theorem asStrs_map : ∀ ss : List Str, asStrs (ss.map Val.str) = some ss
  | [] => rfl
  | s :: r => by
    show (asStrs (r.map Val.str)).map (s :: ·) = some (s :: r)
    rw [asStrs_map r]; rfl
theorem asBls_map : ∀ ss : List Bool, asBls (ss.map Val.bl) = some ss
  | [] => rfl
  | s :: r => by
    show (asBls (r.map Val.bl)).map (s :: ·) = some (s :: r)
    rw [asBls_map r]; rfl
theorem asStrs_eq : ∀ {vs : List Val} {ss : List Str}, asStrs vs = some ss → vs = ss.map Val.str
  | [], ss, h => by cases h; rfl
  | v :: r, ss, h => by
    cases v <;> first | (cases h; done) | skip
    rename_i x
    have h : (asStrs r).map (x :: ·) = some ss := h
    cases e : asStrs r with
    | none => rw [e] at h; cases h
    | some t => rw [e] at h; cases h; rw [asStrs_eq e]; rfl
theorem asBls_eq : ∀ {vs : List Val} {ss : List Bool}, asBls vs = some ss → vs = ss.map Val.bl
  | [], ss, h => by cases h; rfl
  | v :: r, ss, h => by
    cases v <;> first | (cases h; done) | skip
    rename_i x
    have h : (asBls r).map (x :: ·) = some ss := h
    cases e : asBls r with
    | none => rw [e] at h; cases h
    | some t => rw [e] at h; cases h; rw [asBls_eq e]; rfl

/-! ### what they give -/
/-- a new list: told by its items, or a cell -/
def newLs : Bool → List Val → MH → Q1 → Prop
  | true, vs, F, Q => ∀ p, F p = none → Q (.ref p) (mset F p (.lst vs))
  | false, vs, F, Q => Q (.lst vs) F
theorem Post.newLs {K : PySem.W.Frag} {B : Bs} {N H : Hp} {F : MH} {Q0 : Q1} {Q : VK} {m : Bool} (h : Post K B N Q0 Q) (o : Ok K B N F H) {vs : List Val} {xs : List V} (d : Dvs K N vs xs) (q : Bv.newLs m vs F Q0) : ∀ p, H p = none → Q (.ref p) (upd H p (.lst xs)) := by
  cases m with
  | true => exact h.newC o d q
  | false => exact h.newL o d q

inductive Bi where
  | len | abs | int | str | sorted (m : Bool) | list (m : Bool) | all | any | tuple | max2 | dict
def lenS (a : Val) (F : MH) (Q : Q1) : Prop := match a with
  | .str z => z.length ≤ sizeLine ∧ Q (.int z.length) F
  | .tup vs => Q (.int vs.length) F
  | a => match lsOf F a with
    | some vs => Q (.int vs.length) F
    | none => match a with
      | .ref p => match F p with
        | some (.dict kvs) => Q (.int kvs.length) F
        | _ => False
      | _ => False
def intS (a : Val) (F : MH) (Q : Q1) : Prop := match a with
  | .int i => Q (.int i) F
  | .bl k => Q (.int (if k then 1 else 0)) F
  | .str x => match PySem.intText? x with
    | some n => x.length ≤ 640 ∧ Q (.int n) F
    | none => False
  | _ => False
def sortedF (m : Bool) (a : Val) (F : MH) (Q : Q1) : Prop := match lsOf F a with
  | some vs => match asStrs vs with
    | some ss => ss.length < 64 ∧ newLs m ((sortS ss).map Val.str) F Q
    | none => False
  | none => match a with
    | .ref p => match dcOf F p with
      | some kvs => kvs.length < 64 ∧ newLs m ((sortS (kvs.map (·.1))).map Val.str) F Q
      | none => False
    | _ => False
def boolsF (g : List Bool → Bool) (a : Val) (F : MH) (Q : Q1) : Prop := match lsOf F a with
  | some vs => match asBls vs with
    | some bs => Q (.bl (g bs)) F
    | none => False
  | none => False
def listF (m : Bool) (a : Val) (F : MH) (Q : Q1) : Prop := match a with
  | .tup vs => newLs m vs F Q
  | a => match lsOf F a with
    | some vs => newLs m vs F Q
    | none => False
def tupleF (a : Val) (F : MH) (Q : Q1) : Prop := match a with
  | .tup vs => Q (.tup vs) F
  | a => match lsOf F a with
    | some vs => Q (.tup vs) F
    | none => False
/-- pairs of a text and a value -/
def pairsOf : List Val → Option (List (Str × Val))
  | [] => some []
  | .tup [.str k, v] :: r => (pairsOf r).map ((k, v) :: ·)
  | _ :: _ => none
def dictF (a : Val) (F : MH) (Q : Q1) : Prop := match lsOf F a with
  | some vs => match pairsOf vs with
    | some kvs => (kvs.map (·.1)).Nodup ∧ ∀ q, F q = none → Q (.ref q) (mset F q (.dict kvs))
    | none => False
  | none => match a with
    | .ref p => match dcOf F p with
      | some kvs => ∀ q, F q = none → Q (.ref q) (mset F q (.dict kvs))
      | none => False
    | _ => False
def biS : Bi → List Val → MH → Q1 → Prop
  | .len, [a], F, Q => lenS a F Q
  | .abs, [.int i], F, Q => Q (.int (if i < 0 then -i else i)) F
  | .int, [a], F, Q => intS a F Q
  | .str, [.int i], F, Q => i.natAbs.log2 < 1920 ∧ Q (.str (toString i)) F
  | .sorted m, [a], F, Q => sortedF m a F Q
  | .list m, [a], F, Q => listF m a F Q
  | .all, [a], F, Q => boolsF (·.all id) a F Q
  | .any, [a], F, Q => boolsF (·.any id) a F Q
  | .tuple, [a], F, Q => tupleF a F Q
  | .max2, [.int i, .int j], F, Q => Q (.int (if j > i then j else i)) F
  | .dict, [a], F, Q => dictF a F Q
  | _, _, _, _ => False
/-- its name, and what stands behind it -/
def Bi.name : Bi → Str
  | .len => "len" | .abs => "abs" | .int => "int" | .str => "str" | .sorted _ => "sorted" | .list _ => "list" | .all => "all" | .any => "any" | .tuple => "tuple" | .max2 => "max" | .dict => "dict"
def Bi.val : Bi → Value
  | .len => .builtin "len" | .abs => .builtin "abs" | .int => .type "int" | .str => .type "str" | .sorted _ => .builtin "sorted" | .list _ => .type "list" | .all => .builtin "all" | .any => .builtin "any" | .tuple => .type "tuple" | .max2 => .builtin "max" | .dict => .type "dict"
theorem Bi.boot (b : Bi) : bootBuiltins b.name = some b.val := by cases b <;> first | decide +kernel | (rename_i m; cases m <;> decide +kernel)

section
variable {X : Cx}
theorem dvs_one {K : PySem.W.Frag} {N : Hp} {v : Val} {xs : List V} (h : Dvs K N [v] xs) : ∃ x, xs = [x] ∧ Dv K N v x := by
  cases h with
  | cons a t => cases t; exact ⟨_, rfl, a⟩
theorem pairsOf_ok {K : PySem.W.Frag} {N H : Hp} (sub : Same N H) : ∀ {vs : List Val} {kvs : List (Str × Val)} {xs : List V}, pairsOf vs = some kvs → Dvs K N vs xs →
    ∃ (ps : List Addr) (ys : List (Key × V)), xs = ps.map V.ref ∧ Dkv K N kvs ys ∧ Paired (fun p kv => SqT K H p [kV kv.1, kv.2]) ps ys := by
  intro vs
  induction vs with
  | nil =>
    intro kvs xs h d
    cases h; cases d
    exact ⟨[], [], rfl, .nil, .nil⟩
  | cons v r ih =>
    intro kvs xs h d
    unfold pairsOf at h
    split at h
    · rename_i e; cases e
    · rename_i k w r' e
      cases e
      cases d with
      | cons d1 d2 =>
        cases e2 : pairsOf r with
        | none => rw [e2] at h; cases h
        | some l =>
          rw [e2] at h
          cases h
          obtain ⟨ps, ys, rfl, dk, pp⟩ := ih e2 d2
          obtain ⟨p, zs, rfl, s1, dz⟩ := d1.tuple sub
          cases dz with
          | cons z1 zt =>
            cases z1
            obtain ⟨y, rfl, dy⟩ := dvs_one zt
            exact ⟨p :: ps, (Sum.inr k, y) :: ys, rfl, .cons ⟨rfl, dy⟩ dk, .cons (.of s1) pp⟩
    · cases h
theorem putK_new {kvs : List (Key × V)} {k : Key} {v : V} (h : k ∉ kvs.map (·.1)) : putK kvs k v = kvs ++ [(k, v)] := by
  unfold putK
  rw [if_neg]
  intro z
  rw [List.any_eq_true] at z
  obtain ⟨x, hx, e⟩ := z
  exact h (List.mem_map.mpr ⟨x, hx, of_decide_eq_true e⟩)
theorem mergeK_nodup : ∀ {more kvs : List (Key × V)}, ((kvs ++ more).map (·.1)).Nodup → mergeK kvs more = kvs ++ more
  | [], kvs, _ => by show kvs = kvs ++ []; rw [List.append_nil]
  | p :: r, kvs, h => by
    show mergeK (putK kvs p.1 p.2) r = _
    have hp : p.1 ∉ kvs.map (·.1) := fun z => by
      rw [List.map_append, List.nodup_append] at h
      exact h.2.2 _ z p.1 (by rw [List.map_cons]; exact List.mem_cons_self) rfl
    rw [putK_new hp, mergeK_nodup (by rw [List.append_assoc]; exact h), List.append_assoc]
    rfl
theorem Dkv.keysK {K : PySem.W.Frag} {N : Hp} : ∀ {kvs : List (Str × Val)} {ys : List (Key × V)}, Dkv K N kvs ys → ys.map (·.1) = (kvs.map (·.1)).map (Sum.inr : Str → Key)
  | _, _, .nil => rfl
  | _, _, .cons h t => by
    rw [List.map_cons, List.map_cons, List.map_cons, Dkv.keysK t, h.1]
theorem nodup_mapInr {l : List Str} (h : l.Nodup) : (l.map (Sum.inr : Str → Key)).Nodup := by
  rw [List.Nodup, List.pairwise_map]
  exact h.imp fun n e => n (by cases e; rfl)
theorem biS_ok (hc : X.calm = true) : ∀ b : Bi, CallR X b.val (liftN X.K (biS b)) := by
  rintro b pins s σ H xs us Q I r ⟨B, N, F, as, Q0, o, da, h, post⟩
  unfold biS at h
  split at h
  · obtain ⟨x, rfl, d⟩ := dvs_one da
    rename_i a
    unfold lenS at h
    split at h
    · cases d
      exact call_len pins s σ H _ us Q I r ⟨_, _, rfl, ⟨h.1, rfl⟩, post.at o (.int _) h.2⟩
    · obtain ⟨p, ys, rfl, s1, d1⟩ := d.tuple o.sub
      exact call_len pins s σ H _ us Q I r ⟨_, _, rfl, .inr ⟨ys, .of s1, d1.length⟩, post.at o (.int _) h⟩
    · split at h
      · rename_i e
        obtain ⟨p, ys, rfl, s1, d1⟩ := lsOf_ok o d e
        exact call_len pins s σ H _ us Q I r ⟨_, _, rfl, .inl ⟨ys, .inl s1, d1.length⟩, post.at o (.int _) h⟩
      · split at h
        · split at h
          · rename_i kvs e
            cases d
            obtain ⟨_, ys, e2, d2⟩ := o.cell _ _ e
            refine call_lenD pins s σ H _ us Q I r ⟨_, _, rfl, e2, ?_⟩
            rw [← Dkv.length d2]
            exact post.at o (.int _) h
          · exact h.elim
        · exact h.elim
  · obtain ⟨x, rfl, d⟩ := dvs_one da
    cases d
    exact call_abs pins s σ H _ us Q I r ⟨_, rfl, post.at o (.int _) h⟩
  · obtain ⟨x, rfl, d⟩ := dvs_one da
    unfold intS at h
    split at h
    · cases d
      exact call_int1 pins s σ H _ us Q I r (.inl ⟨_, rfl, post.at o (.int _) h⟩)
    · cases d
      exact call_int1 pins s σ H _ us Q I r (.inr ⟨_, rfl, post.at o (.int _) h⟩)
    · cases d
      split at h
      · rename_i e
        exact call_int_str pins s σ H _ us Q I r ⟨_, _, rfl, e, h.1, post.at o (.int _) h.2⟩
      · exact h.elim
    · exact h.elim
  · obtain ⟨x, rfl, d⟩ := dvs_one da
    cases d
    exact call_str_int pins s σ H _ us Q I r ⟨_, rfl, h.1, post.at o (.str _) h.2⟩
  · obtain ⟨x, rfl, d⟩ := dvs_one da
    unfold sortedF at h
    split at h
    · rename_i e
      split at h
      · rename_i e2
        have e3 := asStrs_eq e2
        subst e3
        obtain ⟨p, ys, rfl, s1, d1⟩ := lsOf_ok o d e
        have e4 := d1.strs
        subst e4
        refine cr_sortedS pins s σ H _ us Q I r ⟨p, _, rfl, .inl s1, h.1, fun zs q pz sz hq => ?_⟩
        rw [sortedS_is pz sz]
        exact post.newLs o (Dvs.of_strs _) h.2 q hq
      · exact h.elim
    · split at h
      · split at h
        · rename_i e
          cases d
          obtain ⟨ys, s1, d1⟩ := dcOf_ok o e
          refine call_sortedD hc pins s σ H _ us Q I r ⟨_, ys, _, rfl, s1, Dkv.keys d1, by rw [List.length_map]; exact h.1, fun zs q pz sz hq => ?_⟩
          rw [sortedS_is pz sz]
          exact post.newLs o (Dvs.of_strs _) h.2 q hq
        · exact h.elim
      · exact h.elim
  · obtain ⟨x, rfl, d⟩ := dvs_one da
    unfold listF at h
    split at h
    · obtain ⟨p, ys, rfl, s1, d1⟩ := d.tuple o.sub
      exact call_list_of pins s σ H _ us Q I r ⟨p, ys, rfl, .inr (.of s1), post.newLs o d1 h⟩
    · split at h
      · rename_i e
        obtain ⟨p, ys, rfl, s1, d1⟩ := lsOf_ok o d e
        exact call_list_of pins s σ H _ us Q I r ⟨p, ys, rfl, .inl (.inl s1), post.newLs o d1 h⟩
      · exact h.elim
  · obtain ⟨x, rfl, d⟩ := dvs_one da
    unfold boolsF at h
    split at h
    · rename_i e
      split at h
      · rename_i e2
        have e3 := asBls_eq e2
        subst e3
        obtain ⟨p, ys, rfl, s1, d1⟩ := lsOf_ok o d e
        have e4 := d1.bls
        subst e4
        exact cr_all hc pins s σ H _ us Q I r ⟨p, _, rfl, .inl s1, post.at o (.bl _) h⟩
      · exact h.elim
    · exact h.elim
  · obtain ⟨x, rfl, d⟩ := dvs_one da
    unfold boolsF at h
    split at h
    · rename_i e
      split at h
      · rename_i e2
        have e3 := asBls_eq e2
        subst e3
        obtain ⟨p, ys, rfl, s1, d1⟩ := lsOf_ok o d e
        have e4 := d1.bls
        subst e4
        exact cr_any hc pins s σ H _ us Q I r ⟨p, _, rfl, .inl s1, post.at o (.bl _) h⟩
      · exact h.elim
    · exact h.elim
  · obtain ⟨x, rfl, d⟩ := dvs_one da
    unfold tupleF at h
    split at h
    · obtain ⟨p, ys, rfl, s1, d1⟩ := d.tuple o.sub
      exact call_tuple_of pins s σ H _ us Q I r ⟨p, ys, rfl, .inr ⟨.of s1, post.at o d h⟩⟩
    · split at h
      · rename_i e
        obtain ⟨p, ys, rfl, s1, d1⟩ := lsOf_ok o d e
        exact call_tuple_of pins s σ H _ us Q I r ⟨p, ys, rfl, .inl ⟨.inl s1, post.newT o d1 h⟩⟩
      · exact h.elim
  · cases da with
    | cons a t =>
      obtain ⟨x, rfl, d⟩ := dvs_one t
      cases a; cases d
      exact call_max2 hc pins s σ H _ us Q I r ⟨_, _, rfl, post.at o (.int _) h⟩
  · obtain ⟨x, rfl, d⟩ := dvs_one da
    unfold dictF at h
    split at h
    · rename_i vs e
      split at h
      · rename_i kvs e2
        obtain ⟨p, xs, rfl, r1, d1⟩ := lsOf_ok o d e
        obtain ⟨ps, ys, rfl, dk, pp⟩ := pairsOf_ok o.sub e2 d1
        refine call_dictP hc pins s σ H _ us Q I r ⟨p, ps, ys, rfl, .inl r1, pp, fun q hq => ?_⟩
        rw [mergeK_nodup (by rw [List.nil_append, Dkv.keysK dk]; exact nodup_mapInr h.1), List.nil_append]
        exact post _ _ N _ _ (Same.refl N) (o.new (c := .dict kvs) hq ⟨ys, upd_same, dk⟩) (.ref q) (h.2 q (o.free hq).2)
      · exact h.elim
    · split at h
      · split at h
        · rename_i e
          cases d
          obtain ⟨ys, s1, d1⟩ := dcOf_ok o e
          refine call_dictD pins s σ H _ us Q I r ⟨_, ys, rfl, s1, fun q hq => ?_⟩
          exact post _ _ N _ _ (Same.refl N) (o.new (c := .dict _) hq ⟨ys, upd_same, d1⟩) (.ref q) (h q (o.free hq).2)
        · exact h.elim
      · exact h.elim
  · exact h.elim
end
end Bv

/-! A small tongue for defs: its terms, what they ask. -/
namespace Bv
open PySem L2 PyProof.Rows

/-- where a def stands: the program, what the top has written, how deep calls may go -/
structure Amb where
  P : Program
  w : World
  K : PySem.W.Frag
  mg : Str → Option Value
  base : Heap
  k : Nat

/-- a def of the top, by its promise -/
structure CallR1 (Γ : Amb) (x : Str) where
  sp : Spec
  ok : ∃ (f : Addr) (fd : FuncData) (ps : List Str) (j : Nat), j ≤ Γ.k ∧ Γ.mg x = some (.ref f) ∧ PySem.W.keepIn Γ.K (.ref f) = true ∧ Binds Γ.K fd ps [] ∧ FnOk Γ.P Γ.w Γ.K Γ.mg Γ.base (L2.CX Γ.P Γ.w) j f fd ps (liftSp Γ.K sp)
/-- a method of an own class -/
structure MethR (Γ : Amb) (m : Str) where
  C : Addr
  sp : Spec
  cl : Cls Γ.K C
  ok : ∃ (f : Addr) (fd : FuncData) (ps : List Str) (j : Nat), j ≤ Γ.k ∧ Meth Γ.K C m f ∧ Binds Γ.K fd ps [] ∧ FnOk Γ.P Γ.w Γ.K Γ.mg Γ.base (L2.CX Γ.P Γ.w) j f fd ps (liftSp Γ.K sp)
/-- an own class that is called, by its __init__ -/
structure MkR (Γ : Amb) (x : Str) where
  C : Addr
  sp : Spec
  ok : ∃ (f : Addr) (fd : FuncData) (ps : List Str) (j : Nat), j + 1 ≤ Γ.k ∧ Mk Γ.K C f ∧ Γ.mg x = some (.ref C) ∧ Binds Γ.K fd ps [] ∧ FnOk Γ.P Γ.w Γ.K Γ.mg Γ.base (L2.CX Γ.P Γ.w) j f fd ps (liftSp Γ.K sp)
/-- an attribute of an own class's instances -/
structure FldR (Γ : Amb) (f : Str) where
  C : Addr
  cl : Cls Γ.K C
  no : NoAttr Γ.K C f
/-- a constant of the module -/
structure GlR (Γ : Amb) (x : Str) where
  v : Val
  ok : ∃ u y, Γ.mg x = some u ∧ RelV y u ∧ ∀ N, Dv Γ.K N v y
/-- a class as isinstance's second: what it answers of a type -/
structure IsR (Γ : Amb) (x : Str) where
  c : Value
  v : V
  rel : RelV v c
  cls : ClsV v c
  at_ : Γ.mg x = some c ∨ (Γ.mg x = none ∧ bootBuiltins x = some c ∧ x ≠ "__name__")
  ans : Value → Option Bool
  ok : ∀ t b, ans t = some b → PySem.W.kitOne Γ.K t c = some b
/-- an own class of errors, without __init__, raised with a text -/
structure RaiR (Γ : Amb) (x : Str) where
  C : Addr
  ok : PySem.W.excIn Γ.K C [.type "ValueError", .type "Exception", .type "BaseException", .type "object"] "ValueError.__new__" = true ∧ Γ.mg x = some (.ref C) ∧ PySem.W.keepIn Γ.K (.ref C) = true ∧
    PySem.W.subIn Γ.K (.ref C) (.type "BaseException") = some true ∧ PySem.W.typeIn Γ.K (.ref C) = some (.type "type")
/-- an own error's __init__ that keeps one field -/
def initSp (C : Addr) (f : Str) : Sp := fun vs H Q _ => ∃ a y, vs = [.ref a, y] ∧ H a = some (exo a C none) ∧ ∀ dx, H dx = none → dx ≠ a → Q .non (upd (upd H dx (exd dx [(f, y)])) a (exo a C (some dx)))
/-- an own class of errors whose __init__ keeps one field -/
structure RaiGR (Γ : Amb) (x f : Str) where
  C : Addr
  ok : ∃ (fI : Addr) (fd : FuncData) (ps : List Str) (j : Nat), j + 1 ≤ Γ.k ∧ OexC Γ.K C ∧ PySem.W.findIn Γ.K (.ref C) "__init__" = some (some (.ref fI)) ∧ PySem.W.typeIn Γ.K (.ref fI) = some (.type "function") ∧ Γ.mg x = some (.ref C) ∧ Binds Γ.K fd ps [] ∧
    FnOk Γ.P Γ.w Γ.K Γ.mg Γ.base L2.CX0 j fI fd ps (initSp C f)
/-- a field of an own error -/
structure XflR (Γ : Amb) (f : Str) where
  C : Addr
  xc : XfC Γ.K C
  no : PySem.W.findIn Γ.K (.ref C) f = some none
/-- a class as an except clause names it -/
structure ExR (Γ : Amb) (x : Str) where
  C : Addr
  mg : Γ.mg x = some (.ref C)
  ans : Addr → Option Bool
  ok : ∀ D b, ans D = some b → PySem.W.exmOne Γ.K (.ref D) (.ref C) = some b

/-- a class named -/
structure Cn (Γ : Amb) where
  x : Str
  r : IsR Γ x
/-- what isinstance answers of a type, some classes given -/
def ansL {Γ : Amb} (t : Value) : List (Cn Γ) → Option Bool
  | [] => some false
  | c :: cs => match c.r.ans t, ansL t cs with
    | some a, some b => some (a || b)
    | _, _ => none
/-- methods of built-in types -/
inductive Bm where
  | append | pop | clear | index | join | split | partition | get | dpop | count

/-- a target: a name; names, from a tuple; from a list -/
inductive Tg where
  | nm (i : Nat)
  | tp (is : List Nat)
  | ul (is : List Nat)

mutual
inductive E (Γ : Amb) where
  | var (i : Nat)
  | cst (v : Val)
  | gl (x : Str) (r : GlR Γ x)
  | bin (op : Operator) (a b : E Γ)
  | neg (a : E Γ)
  | not (a : E Γ)
  | cmp (op : CmpOp) (a b : E Γ)
  | chain (op op' : CmpOp) (a b c : E Γ)
  | bool (op : BoolOp) (es : Es Γ)
  | tup (es : Es Γ)
  | lst (m : Bool) (es : Es Γ)
  | dic0
  | dic1 (k v : E Γ)
  | ix (a i : E Γ)
  | sl (a : E Γ) (lo hi : Es Γ)
  | rev (a : E Γ) (k : Es Γ)
  | call (x : Str) (r : CallR1 Γ x) (es : Es Γ)
  | meth (m : Str) (r : MethR Γ m) (o : E Γ) (es : Es Γ)
  | mk (x : Str) (r : MkR Γ x) (es : Es Γ)
  | bi (b : Bi) (es : Es Γ)
  | bm (b : Bm) (o : E Γ) (es : Es Γ)
  | isi (x : Str) (r : IsR Γ x) (a : E Γ)
  | isiT (cs : List (Cn Γ)) (a : E Γ)
  | fld (f : Str) (r : FldR Γ f) (o : E Γ)
  | lc (m : Bool) (elt : E Γ) (t : Tg) (it : It Γ) (cond : Ts Γ)
  | lcK (m : Bool) (elt : E Γ) (t : Tg) (d : E Γ) (cond : Ts Γ)
  | frz (a : E Γ)
  | addL (a b : E Γ)
  | litz (m : Bool) (a b : E Γ)
  | xfl (f : Str) (r : XflR Γ f) (o : E Γ)
inductive Es (Γ : Amb) where
  | nil
  | cons (a : E Γ) (r : Es Γ)
inductive It (Γ : Amb) where
  | lst (e : E Γ)
  | tupl (e : E Γ)
  | str (e : E Γ)
  | rng1 (e : E Γ)
  | rng2 (a b : E Γ)
  | zip2 (a b : E Γ)
  | enum (e : E Γ)
inductive T (Γ : Amb) where
  | val (e : E Γ)
  | cmp (op : CmpOp) (a b : E Γ)
  | chain (op op' : CmpOp) (a b c : E Γ)
  | cmpD (a b : E Γ)
  | dnil (a : E Γ)
  | not (t : T Γ)
  | bool (op : BoolOp) (ts : Ts Γ)
inductive Ts (Γ : Amb) where
  | nil
  | cons (a : T Γ) (r : Ts Γ)
end
mutual
inductive S (Γ : Amb) where
  | asg (t : Tg) (e : E Γ)
  | par (i j : Nat) (a b : E Γ)
  | setI (o i v : E Γ)
  | set2 (o i o2 i2 e : E Γ)
  | dead
  | setF (f : Str) (r : FldR Γ f) (o v : E Γ)
  | aug (i : Nat) (e : E Γ)
  | ex (e : E Γ)
  | ifs (t : T Γ) (a b : Ss Γ)
  | for (t : Tg) (it : It Γ) (body : Ss Γ)
  | forK (t : Tg) (d : E Γ) (body : Ss Γ)
  | forKL (t : Tg) (d : E Γ) (body : Ss Γ)
  | whl (t : T Γ) (body : Ss Γ)
  | ret (e : E Γ)
  | retN
  | rai (x : Str) (r : RaiR Γ x) (e : E Γ)
  | raiG (x f : Str) (r : RaiGR Γ x f) (e : E Γ)
  | tryK (x : Str) (r : ExR Γ x) (i j : Nat) (body : Ss Γ)
  | pass
inductive Ss (Γ : Amb) where
  | nil
  | cons (a : S Γ) (r : Ss Γ)
end

/-! ### what they ask -/
/-- the slots of names forgotten -/
def wipe1 (σ : St1) : List Nat → St1
  | [] => σ
  | v :: vs => (wipe1 σ vs).set v none
def setAll (σ : St1) : List Nat → List Val → St1
  | i :: is, v :: vs => setAll (σ.set i (some v)) is vs
  | _, _ => σ
def bindT (t : Tg) (v : Val) (σ : St1) (F : MH) (k : St1 → Prop) : Prop := match t with
  | .nm i => k (σ.set i (some v))
  | .tp is => match v with
    | .tup vs => vs.length = is.length ∧ k (setAll σ is vs)
    | _ => False
  | .ul is => match lsOf F v with
    | some vs => vs.length = is.length ∧ k (setAll σ is vs)
    | none => False
def Tg.slots : Tg → List Nat
  | .nm i => [i]
  | .tp is => is
  | .ul is => is
def truS (a : Val) (F : MH) (Q : Bool → Prop) : Prop := match a with
  | .non => Q false
  | .bl b => Q b
  | .int i => Q (i != 0)
  | .str z => z.length ≤ sizeLine ∧ Q ((z.length : Int) != 0)
  | .tup vs => Q (!vs.isEmpty)
  | a => match lsOf F a with
    | some vs => Q (!vs.isEmpty)
    | none => False
def Bm.arity : Bm → Nat
  | .append => 1 | .pop => 0 | .clear => 0 | .index => 1 | .join => 1 | .split => 1 | .partition => 1 | .get => 2 | .dpop => 1 | .count => 1
/-- what the receiver must be -/
def recS (b : Bm) (v : Val) (F : MH) : Prop := match b with
  | .append | .pop | .clear => ∃ p vs, v = .ref p ∧ F p = some (.lst vs)
  | .index | .count => ∃ vs, lsOf F v = some vs
  | .join | .split | .partition => ∃ z, v = .str z
  | .get => ∃ p kvs, v = .ref p ∧ dcOf F p = some kvs
  | .dpop => ∃ p kvs, v = .ref p ∧ F p = some (.dict kvs)
def findF (x : Val) : List Val → Option Nat
  | [] => none
  | y :: r => if eqF y x then some 0 else (findF x r).map (· + 1)
def bmS (b : Bm) (v : Val) (as : List Val) (F : MH) (Q : Q1) : Prop := match b, v, as with
  | .append, .ref p, [a] => match F p with
    | some (.lst vs) => vs.length < sizeLine ∧ Q .non (mset F p (.lst (vs ++ [a])))
    | _ => False
  | .pop, .ref p, [] => match F p with
    | some (.lst vs) => match vs[vs.length - 1]? with
      | some y => Q y (mset F p (.lst vs.dropLast))
      | none => False
    | _ => False
  | .clear, .ref p, [] => match F p with
    | some (.lst vs) => Q .non (mset F p (.lst []))
    | _ => False
  | .index, v, [a] => match lsOf F v with
    | some vs => flat a = true ∧ vs.all flat = true ∧ (match findF a vs with
      | some j => Q (.int (j : Nat)) F
      | none => False)
    | none => False
  | .join, .str z, [a] => match lsOf F a with
    | some vs => match asStrs vs with
      | some ss => (ss.map (·.length)).sum + ss.length * z.length ≤ 16777216 ∧ Q (.str (Txt.join z ss)) F
      | none => False
    | none => False
  | .split, .str z, [.str y] => (y.length == 0) = false ∧ z.length + 2 ≤ sizeLine ∧ Q (.lst ((Txt.split z y).map Val.str)) F
  | .partition, .str z, [.str y] => (y.length == 0) = false ∧ z.length ≤ sizeLine ∧ Q (.tup [.str (Txt.partition z y).1, .str (Txt.partition z y).2.1, .str (Txt.partition z y).2.2]) F
  | .get, .ref p, [.str k, d] => match dcOf F p with
    | some kvs => Q ((kget kvs k).getD d) F
    | none => False
  | .dpop, .ref p, [.str k] => match F p with
    | some (.dict kvs) => match kget kvs k with
      | some y => Q y (mset F p (.dict (kdrop kvs k)))
      | none => False
    | _ => False
  | .count, v, [a] => match lsOf F v with
    | some vs => flat a = true ∧ vs.all flat = true ∧ Q (.int ((vs.countP fun y => eqF y a : Nat) : Int)) F
    | none => False
  | _, _, _ => False
/-- the type that isinstance asks of -/
def tyS (K : PySem.W.Frag) (v : Val) (F : MH) (Q : Value → Prop) : Prop := match v with
  | .non => Q (.type "NoneType")
  | .bl _ => Q (.type "bool")
  | .int _ => Q (.type "int")
  | .str _ => Q (.type "str")
  | .tup _ => Q (.type "tuple")
  | .lst _ => Q (.type "list")
  | .ref p => match F p with
    | some (.lst _) => Q (.type "list")
    | some (.scr _) => Q (.type "list")
    | some (.dict _) => Q (.type "dict")
    | some (.exn C _) => ExcC K C ∧ Q (.ref C)
    | _ => False
  | .ty _ => False
def setS (o i v : Val) (F : MH) (Q : MH → Prop) : Prop := match o, i with
  | .ref p, .int j => match F p with
    | some (.lst vs) => match ixN vs.length j with
      | some n => Q (mset F p (.lst (vs.set n v)))
      | none => False
    | _ => False
  | .ref p, .str k => match F p with
    | some (.dict kvs) => kvs.length < sizeLine ∧ Q (mset F p (.dict (kput kvs k v)))
    | _ => False
  | _, _ => False
def putV (f : Str) (v : Val) : List (Str × Val) → List (Str × Val)
  | [] => [(f, v)]
  | (g, u) :: r => if g = f then (g, v) :: r else (g, u) :: putV f v r
/-- a for, item by item; g: what must stand at each turn -/
def forGo (g : MH → Prop) (turn : Val → St1 → MH → (St1 → MH → Prop) → Prop) (Qn : St1 → MH → Prop) : List Val → St1 → MH → Prop
  | [], σ, F => g F ∧ Qn σ F
  | x :: xs, σ, F => g F ∧ turn x σ F (fun σ' F' => forGo g turn Qn xs σ' F')
/-- a comprehension, item by item -/
def lcGo (g : MH → Prop) (turn : Val → MH → (Option Val → MH → Prop) → Prop) (Q : List Val → MH → Prop) : List Val → List Val → MH → Prop
  | [], acc, F => g F ∧ Q acc F
  | x :: xs, acc, F => g F ∧ turn x F (fun r F' => match r with
    | some v => acc.length < sizeLine ∧ lcGo g turn Q xs (acc ++ [v]) F'
    | none => lcGo g turn Q xs acc F')
def charsOf (z : Str) : List Val := z.cps.toList.map fun c => .str ⟨#[c]⟩
def rngV (lo : Int) (n : Nat) : List Val := (List.range n).map fun (i : Nat) => .int (lo + (i : Int))
def enumV (vs : List Val) : List Val := (List.range vs.length).zipWith (fun (i : Nat) v => .tup [.int (i : Int), v]) vs
def zipV (vs ws : List Val) : List Val := vs.zipWith (fun v w => .tup [v, w]) ws

/-- list + list, a new cell -/
def addLS (x y : Val) (F : MH) (Q : Q1) : Prop := match lsOf F x, lsOf F y with
  | some xs, some ys => xs.length + ys.length ≤ sizeLine ∧ newLs true (xs ++ ys) F Q
  | _, _ => False

/-- what a value holds, read through its cells -/
def rdD (F : MH) : Nat → Val → Val
  | 0, v => v
  | n + 1, .ref p => match F p with
    | some (.lst vs) => .lst (vs.map (rdD F n))
    | some (.scr vs) => .lst (vs.map (rdD F n))
    | _ => .ref p
  | n + 1, .tup vs => .tup (vs.map (rdD F n))
  | n + 1, .lst vs => .lst (vs.map (rdD F n))
  | _ + 1, v => v
def neD (a b : Val) (F : MH) (Q : Bool → Prop) : Prop := okD 60 (rdD F 4 a) = true ∧ okD 60 (rdD F 4 b) = true ∧ Q (!PyData.eqv (toPD (rdD F 4 a)) (toPD (rdD F 4 b)))
mutual
def wpE {Γ : Amb} (W : XS) : E Γ → St1 → MH → Q1 → Prop
  | .var i, σ, F, Q => match σ[i]? with
    | some (some v) => Q v F
    | _ => False
  | .cst v, _, F, Q => Q v F
  | .gl _ r, _, F, Q => Q r.v F
  | .bin op a b, σ, F, Q => wpE W a σ F fun x F1 => wpE W b σ F1 fun y F2 => binS op x y F2 Q
  | .neg a, σ, F, Q => wpE W a σ F fun x F1 => match x with
    | .int i => Q (.int (-i)) F1
    | _ => False
  | .not a, σ, F, Q => wpE W a σ F fun x F1 => match x with
    | .bl b => Q (.bl (!b)) F1
    | _ => False
  | .cmp op a b, σ, F, Q => wpE W a σ F fun x F1 => wpE W b σ F1 fun y F2 => cmpS op x y F2 Q
  | .chain op op' a b c, σ, F, Q => wpE W a σ F fun x F1 => wpE W b σ F1 fun y F2 => cmpS op x y F2 fun z F3 => match z with
    | .bl true => wpE W c σ F3 fun w F4 => cmpS op' y w F4 Q
    | .bl false => Q (.bl false) F3
    | _ => False
  | .bool op es, σ, F, Q => wpBl W op es σ F Q
  | .tup es, σ, F, Q => wpEs W es σ F fun vs F1 => vs.length ≤ sizeLine ∧ Q (.tup vs) F1
  | .lst m es, σ, F, Q => wpEs W es σ F fun vs F1 => vs.length ≤ sizeLine ∧ newLs m vs F1 Q
  | .dic0, σ, F, Q => ∀ p, F p = none → Q (.ref p) (mset F p (.dict []))
  | .dic1 k v, σ, F, Q => wpE (fun _ _ _ _ => False) k σ F fun x F1 => wpE (fun _ _ _ _ => False) v σ F1 fun y F2 => match x with
    | .str s => ∀ p, F p = none → F2 p = none → Q (.ref p) (mset F2 p (.dict [(s, y)]))
    | _ => False
  | .ix a i, σ, F, Q => wpE W a σ F fun x F1 => wpE W i σ F1 fun y F2 => ixS x y F2 Q
  | .sl a lo hi, σ, F, Q => wpE W a σ F fun x F1 => wpP W lo σ F1 fun l F2 => wpP W hi σ F2 fun h F3 => slS x l h F3 Q
  | .rev a k, σ, F, Q => wpE W a σ F fun x F1 => wpP W k σ F1 fun l F2 => revS x l F2 Q
  | .call _ r es, σ, F, Q => wpEs W es σ F fun vs F1 => r.sp vs F1 Q fun C fs F2 => W C fs σ F2
  | .meth m r o es, σ, F, Q => wpE W o σ F fun x F1 => match x with
    | .ref p => match F1 p with
      | some (.inst C fs) => C = r.C ∧ fs.lookup m = none ∧ wpEs W es σ F1 fun vs F2 => r.sp (.ref p :: vs) F2 Q fun C fs F3 => W C fs σ F3
      | _ => False
    | _ => False
  | .mk _ r es, σ, F, Q => wpEs W es σ F fun vs F1 => ∀ p, F1 p = none → r.sp (.ref p :: vs) (mset F1 p (.inst r.C [])) (fun v F2 => isNS v = true ∧ Q (.ref p) F2) fun _ _ _ => False
  | .bi b es, σ, F, Q => wpEs W es σ F fun vs F1 => biS b vs F1 Q
  | .bm b o es, σ, F, Q => wpE W o σ F fun x F1 => recS b x F1 ∧ wpEs W es σ F1 fun vs F2 => bmS b x vs F2 Q
  | .isi _ r a, σ, F, Q => wpE W a σ F fun x F1 => tyS Γ.K x F1 fun t => match r.ans t with
    | some b => Q (.bl b) F1
    | none => False
  | .isiT cs a, σ, F, Q => cs.length ≤ 20 ∧ wpE W a σ F fun x F1 => tyS Γ.K x F1 fun t => match ansL t cs with
    | some b => Q (.bl b) F1
    | none => False
  | .xfl f r o, σ, F, Q => wpE W o σ F fun x F1 => match x with
    | .ref p => match F1 p with
      | some (.exn C fs) => C = r.C ∧ match fs.lookup f with
        | some v => Q v F1
        | none => False
      | _ => False
    | _ => False
  | .fld f r o, σ, F, Q => wpE W o σ F fun x F1 => match x with
    | .ref p => match F1 p with
      | some (.inst C fs) => C = r.C ∧ match fs.lookup f with
        | some v => Q v F1
        | none => False
      | _ => False
    | _ => False
  | .lc m elt t it cond, σ, F, Q => wpIt W it σ F fun items g F1 =>
      lcGo g (fun x F2 k => bindT t x (wipe1 σ t.slots) F2 fun σ' => wpCs (fun _ _ _ _ => False) cond σ' F2 fun b F3 => match b with
        | true => wpE (fun _ _ _ _ => False) elt σ' F3 fun v F4 => k (some v) F4
        | false => k none F3) (fun vs F2 => newLs m vs F2 Q) items [] F1
  | .lcK m elt t d cond, σ, F, Q => ∃ p kvs, F p = some (.dict kvs) ∧ ∀ u, wpE (fun _ _ _ _ => False) d σ (mset F p (.lck u kvs)) fun x F1 => (match x with | .ref q => q = p | _ => False) ∧
      lcGo (fun F => F p = some (.lck u kvs)) (fun x F2 k => bindT t x (wipe1 σ t.slots) F2 fun σ' => wpCs (fun _ _ _ _ => False) cond σ' F2 fun b F3 => match b with
        | true => wpE (fun _ _ _ _ => False) elt σ' F3 fun v F4 => k (some v) F4
        | false => k none F3) (fun vs F2 => newLs m vs F2 fun v F3 => F3 p = some (.lck u kvs) ∧ Q v (mset F3 p (.dict kvs))) (kvs.map fun kv => .str kv.1) [] F1
  | .frz a, σ, F, Q => wpE W a σ F fun x F1 => match x with
    | .ref p => match F1 p with
      | some (.lst vs) => Q (.lst vs) (mdel F1 p)
      | _ => False
    | _ => False
  | .litz m a b, σ, F, Q => wpE W a σ F fun x F1 => wpE W b σ F1 fun y F2 => match lsOf F2 x, lsOf F2 y with
    | some vs, some ws => newLs m (zipV vs ws) F2 Q
    | _, _ => False
  | .addL a b, σ, F, Q => wpE W a σ F fun x F1 => wpE W b σ F1 fun y F2 => addLS x y F2 Q
def wpEs {Γ : Amb} (W : XS) : Es Γ → St1 → MH → (List Val → MH → Prop) → Prop
  | .nil, _, F, Q => Q [] F
  | .cons a r, σ, F, Q => wpE W a σ F fun x F1 => wpEs W r σ F1 fun vs F2 => Q (x :: vs) F2
/-- a slice's bound -/
def wpP {Γ : Amb} (W : XS) : Es Γ → St1 → MH → (Option Int → MH → Prop) → Prop
  | .nil, _, F, Q => Q none F
  | .cons a _, σ, F, Q => wpE W a σ F fun x F1 => match x with
    | .int i => Q (some i) F1
    | _ => False
/-- and, or as values (bools) -/
def wpBl {Γ : Amb} (W : XS) (op : BoolOp) : Es Γ → St1 → MH → Q1 → Prop
  | .nil, _, _, _ => False
  | .cons a .nil, σ, F, Q => wpE W a σ F Q
  | .cons a (.cons b r), σ, F, Q => wpE W a σ F fun x F1 => match op, x with
    | .And, .bl true => wpBl W op (.cons b r) σ F1 Q
    | .And, .bl false => Q (.bl false) F1
    | .Or, .bl true => Q (.bl true) F1
    | .Or, .bl false => wpBl W op (.cons b r) σ F1 Q
    | _, _ => False
/-- a test -/
def wpT {Γ : Amb} (W : XS) : T Γ → St1 → MH → (Bool → MH → Prop) → Prop
  | .val e, σ, F, Q => wpE W e σ F fun x F1 => truS x F1 fun b => Q b F1
  | .cmp op a b, σ, F, Q => wpE W a σ F fun x F1 => wpE W b σ F1 fun y F2 => cmpS op x y F2 fun z F3 => match z with
    | .bl k => Q k F3
    | _ => False
  | .chain op op' a b c, σ, F, Q => wpE W a σ F fun x F1 => wpE W b σ F1 fun y F2 => cmpS op x y F2 fun z F3 => match z with
    | .bl true => wpE W c σ F3 fun w F4 => cmpS op' y w F4 fun z F5 => match z with
      | .bl k => Q k F5
      | _ => False
    | .bl false => Q false F3
    | _ => False
  | .dnil a, σ, F, Q => wpE W a σ F fun x F1 => match x with
    | .ref p => match F1 p with
      | some (.dict kvs) => Q kvs.isEmpty F1
      | _ => False
    | _ => False
  | .cmpD a b, σ, F, Q => wpE W a σ F fun x F1 => wpE W b σ F1 fun y F2 => neD x y F2 fun k => Q k F2
  | .not a, σ, F, Q => wpT W a σ F fun b F1 => Q (!b) F1
  | .bool op es, σ, F, Q => wpTs W op es σ F Q
def wpTs {Γ : Amb} (W : XS) (op : BoolOp) : Ts Γ → St1 → MH → (Bool → MH → Prop) → Prop
  | .nil, _, _, _ => False
  | .cons a .nil, σ, F, Q => wpT W a σ F Q
  | .cons a (.cons b r), σ, F, Q => wpT W a σ F fun x F1 => match op, x with
    | .And, true => wpTs W op (.cons b r) σ F1 Q
    | .And, false => Q false F1
    | .Or, true => Q true F1
    | .Or, false => wpTs W op (.cons b r) σ F1 Q
/-- a comprehension's tests: none, or one -/
def wpCs {Γ : Amb} (W : XS) : Ts Γ → St1 → MH → (Bool → MH → Prop) → Prop
  | .nil, _, F, Q => Q true F
  | .cons a _, σ, F, Q => wpT W a σ F Q
def wpIt {Γ : Amb} (W : XS) : It Γ → St1 → MH → (List Val → (MH → Prop) → MH → Prop) → Prop
  | .lst e, σ, F, Q => wpE W e σ F fun x F1 => match lsOf F1 x with
    | some vs => Q vs (fun F => lsOf F x = some vs) F1
    | none => False
  | .tupl e, σ, F, Q => wpE W e σ F fun x F1 => match x with
    | .tup vs => Q vs (fun _ => True) F1
    | _ => False
  | .str e, σ, F, Q => wpE W e σ F fun x F1 => match x with
    | .str z => Q (charsOf z) (fun _ => True) F1
    | _ => False
  | .rng1 e, σ, F, Q => wpE W e σ F fun x F1 => match x with
    | .int j => -(2 ^ 62) ≤ j ∧ j < 2 ^ 62 ∧ Q (rngV 0 j.toNat) (fun _ => True) F1
    | _ => False
  | .rng2 a b, σ, F, Q => wpE W a σ F fun x F1 => wpE W b σ F1 fun y F2 => match x, y with
    | .int i, .int j => (-(2 ^ 62) ≤ i ∧ i < 2 ^ 62 ∧ -(2 ^ 62) ≤ j ∧ j < 2 ^ 62) ∧ Q (rngV i (j - i).toNat) (fun _ => True) F2
    | _, _ => False
  | .zip2 a b, σ, F, Q => wpE W a σ F fun x F1 => wpE W b σ F1 fun y F2 => match lsOf F2 x, lsOf F2 y with
    | some vs, some ws => Q (zipV vs ws) (fun F => lsOf F x = some vs ∧ lsOf F y = some ws) F2
    | _, _ => False
  | .enum e, σ, F, Q => wpE W e σ F fun x F1 => match lsOf F1 x with
    | some vs => Q (enumV vs) (fun F => lsOf F x = some vs) F1
    | none => False
end
mutual
def wpS {Γ : Amb} (W : XS) : S Γ → St1 → MH → (St1 → MH → Prop) → Q1 → Prop
  | .asg t e, σ, F, Qn, _ => wpE W e σ F fun v F1 => bindT t v σ F1 fun σ' => Qn σ' F1
  | .par i j a b, σ, F, Qn, _ => wpE W a σ F fun v F1 => wpE W b σ F1 fun w F2 => Qn ((σ.set i (some v)).set j (some w)) F2
  | .setI o i v, σ, F, Qn, _ => wpE W v σ F fun z F1 => wpE W o σ F1 fun x F2 => wpE W i σ F2 fun y F3 => setS x y z F3 fun F4 => Qn σ F4
  | .set2 o i o2 i2 e, σ, F, Qn, _ => wpE W e σ F fun z F1 => match z with
    | .tup [a, b] => wpE W o σ F1 fun x F2 => wpE W i σ F2 fun y F3 => setS x y a F3 fun F4 => wpE W o2 σ F4 fun x2 F5 => wpE W i2 σ F5 fun y2 F6 => setS x2 y2 b F6 fun F7 => Qn σ F7
    | _ => False
  | .dead, _, _, _, _ => False
  | .setF f r o v, σ, F, Qn, _ => wpE W v σ F fun z F1 => wpE W o σ F1 fun x F2 => match x with
    | .ref p => match F2 p with
      | some (.inst C fs) => C = r.C ∧ fs.length < 1000 ∧ Qn σ (mset F2 p (.inst C (putV f z fs)))
      | _ => False
    | _ => False
  | .aug i e, σ, F, Qn, _ => match σ[i]? with
    | some (some (.int a)) => wpE W e σ F fun y F1 => match y with
      | .int b => Qn (σ.set i (some (.int (a + b)))) F1
      | _ => False
    | _ => False
  | .ex e, σ, F, Qn, _ => wpE W e σ F fun _ F1 => Qn σ F1
  | .ifs t a b, σ, F, Qn, Qr => wpT W t σ F fun k F1 => match k with
    | true => wpB W a σ F1 Qn Qr
    | false => wpB W b σ F1 Qn Qr
  | .for t it body, σ, F, Qn, Qr => wpIt W it σ F fun items g F1 => forGo g (fun x σ F2 k => bindT t x σ F2 fun σ' => wpB W body σ' F2 k Qr) Qn items σ F1
  | .forK t d body, σ, F, Qn, Qr => ∃ p kvs, F p = some (.dict kvs) ∧ ∀ u, wpE (fun _ _ _ _ => False) d σ (mset F p (.lck u kvs)) fun x F1 => (match x with | .ref q => q = p | _ => False) ∧
      forGo (fun F => F p = some (.lck u kvs)) (fun x σ F2 k => bindT t x σ F2 fun σ' => wpB (fun _ _ _ _ => False) body σ' F2 k fun v F3 => F3 p = some (.lck u kvs) ∧ Qr v (mset F3 p (.dict kvs)))
        (fun σ' F3 => F3 p = some (.lck u kvs) ∧ Qn σ' (mset F3 p (.dict kvs))) (kvs.map fun kv => .str kv.1) σ F1
  | .forKL t d body, σ, F, Qn, Qr => (∃ p kvs, F p = some (.dict kvs) ∧ ∀ u, wpE (fun _ _ _ _ => False) d σ (mset F p (.lck u kvs)) fun x F1 => (match x with | .ref q => q = p | _ => False) ∧
      forGo (fun F => F p = some (.lck u kvs)) (fun x σ F2 k => bindT t x σ F2 fun σ' => wpB (fun _ _ _ _ => False) body σ' F2 k fun v F3 => F3 p = some (.lck u kvs) ∧ Qr v (mset F3 p (.dict kvs)))
        (fun σ' F3 => F3 p = some (.lck u kvs) ∧ Qn σ' (mset F3 p (.dict kvs))) (kvs.map fun kv => .str kv.1) σ F1) ∨
      ∃ p u kvs, F p = some (.lck u kvs) ∧ wpE (fun _ _ _ _ => False) d σ F fun x F1 => (match x with | .ref q => q = p | _ => False) ∧
        forGo (fun F => F p = some (.lck u kvs)) (fun x σ F2 k => bindT t x σ F2 fun σ' => wpB (fun _ _ _ _ => False) body σ' F2 k Qr) Qn (kvs.map fun kv => .str kv.1) σ F1
  | .whl t body, σ, F, Qn, Qr => ∃ I : Nat → St1 → MH → Prop, (∃ m, I m σ F) ∧ ∀ m σ F, I m σ F → wpT W t σ F fun k F1 => match k with
    | true => wpB W body σ F1 (fun σ' F' => ∃ m', m' < m ∧ I m' σ' F') Qr
    | false => Qn σ F1
  | .ret e, σ, F, _, Qr => wpE W e σ F Qr
  | .retN, _, F, _, Qr => Qr .non F
  | .rai _ r e, σ, F, _, _ => wpE W e σ F fun _ F1 => W r.C [] σ F1
  | .raiG _ f r e, σ, F, _, _ => wpE W e σ F fun v F1 => W r.C [(f, v)] σ F1
  | .tryK _ r i j body, σ, F, Qn, Qr => wpB (fun C fs σ F => match r.ans C with
    | some true => ∀ p, F p = none → Qn ((σ.set j (some (.ref p))).set i none) (mset F p (.exn C fs))
    | some false => W C fs σ F
    | none => False) body σ F Qn Qr
  | .pass, σ, F, Qn, _ => Qn σ F
def wpB {Γ : Amb} (W : XS) : Ss Γ → St1 → MH → (St1 → MH → Prop) → Q1 → Prop
  | .nil, σ, F, Qn, _ => Qn σ F
  | .cons s r, σ, F, Qn, Qr => wpS W s σ F (fun σ' F' => wpB W r σ' F' Qn Qr) Qr
end

example {Γ : Amb} (W : XS) (i : Nat) (σ : St1) (F : MH) (Q : Q1) : wpE W (.neg (.var i) : E Γ) σ F Q = wpE W (.var i : E Γ) σ F fun x F1 => match x with
    | .int i => Q (.int (-i)) F1
    | _ => False := rfl
end Bv

/-! Whether a term of the tongue says what a piece of the program's text says. -/
namespace Bv
open PySem L2 PyProof.Rows

/-- where a text stands: the names by slot, the scope, which names' cells are the frame's own -/
structure Mc where
  N : List Str
  sc : Scope
  fc : Str → Bool

def visB (sc : Scope) (x : Str) : Bool := match sc.names.lookup x with
  | some .local => true
  | some .cell => true
  | some .free => true
  | _ => false
def glB (sc : Scope) (x : Str) : Bool := match sc.names.lookup x with
  | some .globalImplicit => true
  | _ => false
def strB (a b : Str) : Bool := decide (a = b)
def nmB (x : Str) : Bool := !strB x "__debug__" && !strB x "__classdict__" && !strB x "__name__"
def slotB (N : List Str) (i : Nat) (x : Str) : Bool := match N[i]? with
  | some y => strB y x
  | none => false
def locB (M : Mc) (x : Str) : Bool := match M.sc.names.lookup x with
  | some .local => true
  | some .cell => M.fc x
  | _ => false
/-- no star, no set, no slice -/
def plainB : Expr → Bool
  | .Starred .. => false
  | .Set .. => false
  | .Slice .. => false
  | _ => true
def baseB : Expr → Bool
  | .Call (.Name _ _) [] [] _ => false
  | _ => true
/-- a plain truth is asked of it -/
def truB : Expr → Bool
  | .UnaryOp .. => false
  | .BoolOp .. => false
  | .IfExp .. => false
  | .Compare .. => false
  | _ => true
def mC : Val → Const → Bool
  | .int i, .int j => decide (i = j)
  | .bl b, .bool c => decide (b = c)
  | .non, .none => true
  | .str x, .str y => strB x y
  | _, _ => false
def Bm.nm : Bm → Str
  | .append => "append" | .pop => "pop" | .clear => "clear" | .index => "index" | .join => "join" | .split => "split" | .partition => "partition" | .get => "get" | .dpop => "pop" | .count => "count"
def mNames (M : Mc) : List Nat → List Expr → Bool
  | [], [] => true
  | i :: is, .Name x _ :: es => slotB M.N i x && locB M x && mNames M is es
  | _, _ => false
def mTg (M : Mc) : Tg → Expr → Bool
  | .nm i, .Name x _ => slotB M.N i x && locB M x
  | .tp is, .Tuple es _ _ => mNames M is es
  | .ul is, .Tuple es _ _ => mNames M is es
  | _, _ => false
def ownOf (N : List Str) (t : Tg) : List (Str × Nat) := t.slots.map fun i => (N.getD i Str.empty, i)
def blkB (N : List Str) (sc scope : Scope) (own : List (Str × Nat)) : Bool := blkC N sc scope own
def Mc.blk (M : Mc) (scope : Scope) : Mc := ⟨M.N, relS scope M.sc, fun x => scope.names.lookup x == some .cell⟩
def opB (a b : Operator) : Bool := decide (a = b)
def cmB (a b : CmpOp) : Bool := decide (a = b)
def boB (a b : BoolOp) : Bool := decide (a = b)

/-- pairs go to a tuple of names -/
def tgB {Γ : Amb} (it : It Γ) (tg : Expr) : Bool := match it with
  | .zip2 _ _ => (match tg with
    | .Tuple .. => true
    | _ => false)
  | .enum _ => (match tg with
    | .Tuple .. => true
    | _ => false)
  | _ => true
/-- the names of classes -/
def mCs {Γ : Amb} (M : Mc) : List (Cn Γ) → List Expr → Bool
  | [], [] => true
  | c :: cs, .Name z _ :: zs => strB c.x z && glB M.sc z && nmB z && mCs M cs zs
  | _, _ => false
mutual
def mE {Γ : Amb} (M : Mc) : E Γ → Expr → Bool
  | .var i, e => match e with
    | .Name x _ => slotB M.N i x && visB M.sc x && nmB x
    | _ => false
  | .cst v, e => match e with
    | .Constant c _ _ => mC v c
    | _ => false
  | .gl x _, e => match e with
    | .Name y _ => strB x y && glB M.sc x && nmB x
    | _ => false
  | .bin op a b, e => match e with
    | .BinOp l op' r _ => opB op op' && mE M a l && mE M b r
    | _ => false
  | .neg a, e => match e with
    | .UnaryOp .USub x _ => mE M a x
    | _ => false
  | .not a, e => match e with
    | .UnaryOp .Not x _ => mE M a x
    | _ => false
  | .cmp op a b, e => match e with
    | .Compare l [op'] [r] _ => cmB op op' && mE M a l && mE M b r
    | _ => false
  | .chain op op2 a b c, e => match e with
    | .Compare l [op', op2'] [r, r2] _ => cmB op op' && cmB op2 op2' && mE M a l && mE M b r && mE M c r2
    | _ => false
  | .bool op es, e => match e with
    | .BoolOp op' vs _ => boB op op' && mEs M es vs && decide (2 ≤ vs.length)
    | _ => false
  | .tup es, e => match e with
    | .Tuple vs _ _ => mEs M es vs
    | _ => false
  | .lst _ es, e => match e with
    | .List vs _ => mEs M es vs
    | _ => false
  | .dic0, e => match e with
    | .Dict [] [] _ => true
    | _ => false
  | .dic1 k v, e => match e with
    | .Dict [some k'] [v'] _ => mE M k k' && mE M v v'
    | _ => false
  | .ix a i, e => match e with
    | .Subscript x y _ => mE M a x && mE M i y
    | _ => false
  | .sl a lo hi, e => match e with
    | .Subscript x (.Slice l h none _) _ => mE M a x && mP M lo l && mP M hi h
    | _ => false
  | .rev a k, e => match e with
    | .Subscript x (.Slice none none (some st) _) _ => mE M a x && mP M k (some st)
    | _ => false
  | .call x _ es, e => match e with
    | .Call (.Name y _) args [] _ => strB x y && glB M.sc x && nmB x && mEs M es args && !args.isEmpty
    | _ => false
  | .meth m _ o es, e => match e with
    | .Call (.Attribute o' m' ap) args [] p => strB m m' && mE M o o' && baseB o' && mEs M es args && decide (args.length < 29) && (ap.endLine == p.line)
    | _ => false
  | .mk x _ es, e => match e with
    | .Call (.Name y _) args [] _ => strB x y && glB M.sc x && nmB x && mEs M es args
    | _ => false
  | .bi b es, e => match e with
    | .Call (.Name y _) args [] _ => strB b.name y && glB M.sc y && nmB y && mEs M es args && !args.isEmpty
    | _ => false
  | .bm b o es, e => match e with
    | .Call (.Attribute o' m' ap) args [] p => strB b.nm m' && mE M o o' && baseB o' && mEs M es args && decide (args.length = b.arity) && (ap.endLine == p.line)
    | _ => false
  | .isi x _ a, e => match e with
    | .Call (.Name y _) [a', .Name z _] [] _ => strB "isinstance" y && glB M.sc y && strB x z && glB M.sc z && nmB z && mE M a a'
    | _ => false
  | .isiT cs a, e => match e with
    | .Call (.Name y _) [a', .Tuple zs _ _] [] _ => strB "isinstance" y && glB M.sc y && mCs M cs zs && mE M a a'
    | _ => false
  | .xfl f _ o, e => match e with
    | .Attribute o' f' _ => strB f f' && mE M o o' && baseB o'
    | _ => false
  | .fld f _ o, e => match e with
    | .Attribute o' f' _ => strB f f' && mE M o o' && baseB o'
    | _ => false
  | .lc _ elt t it cond, e => match e with
    | .ListComp elt' [⟨tg, iter, ifs, 0⟩] scope _ => blkB M.N M.sc scope (ownOf M.N t) && tgB it tg && mIt M it iter && mTg (M.blk scope) t tg && mTs (M.blk scope) cond ifs && decide (ifs.length ≤ 1) && mE (M.blk scope) elt elt'
    | _ => false
  | .lcK _ elt t d cond, e => match e with
    | .ListComp elt' [⟨tg, iter, ifs, 0⟩] scope _ => blkB M.N M.sc scope (ownOf M.N t) && mE M d iter && mTg (M.blk scope) t tg && mTs (M.blk scope) cond ifs && decide (ifs.length ≤ 1) && mE (M.blk scope) elt elt'
    | _ => false
  | .frz a, e => mE M a e
  | .litz _ a b, e => match e with
    | .Call (.Name y1 _) [.Call (.Name y _) [x, z] [] _] [] _ => strB "list" y1 && glB M.sc y1 && (strB "zip" y && glB M.sc y && mE M a x && mE M b z)
    | _ => false
  | .addL a b, e => match e with
    | .BinOp l op' r _ => opB .Add op' && mE M a l && mE M b r
    | _ => false
def mEs {Γ : Amb} (M : Mc) : Es Γ → List Expr → Bool
  | .nil, es => es.isEmpty
  | .cons a r, es => match es with
    | e :: rest => mE M a e && mEs M r rest
    | [] => false
def mP {Γ : Amb} (M : Mc) : Es Γ → Option Expr → Bool
  | .nil, e => e.isNone
  | .cons a r, e => match e with
    | some x => mE M a x
    | none => false
def mIt {Γ : Amb} (M : Mc) : It Γ → Expr → Bool
  | .lst a, e => mE M a e
  | .tupl a, e => mE M a e
  | .str a, e => mE M a e
  | .rng1 a, e => match e with
    | .Call (.Name y _) [x] [] _ => strB "range" y && glB M.sc y && mE M a x
    | _ => false
  | .rng2 a b, e => match e with
    | .Call (.Name y _) [x, z] [] _ => strB "range" y && glB M.sc y && mE M a x && mE M b z
    | _ => false
  | .zip2 a b, e => match e with
    | .Call (.Name y _) [x, z] [] _ => strB "zip" y && glB M.sc y && mE M a x && mE M b z
    | _ => false
  | .enum a, e => match e with
    | .Call (.Name y _) [x] [] _ => strB "enumerate" y && glB M.sc y && mE M a x
    | _ => false
def mT {Γ : Amb} (M : Mc) : T Γ → Expr → Bool
  | .val a, e => truB e && mE M a e
  | .cmp op a b, e => match e with
    | .Compare l [op'] [r] _ => cmB op op' && mE M a l && mE M b r
    | _ => false
  | .chain op op2 a b c, e => match e with
    | .Compare l [op', op2'] [r, r2] _ => cmB op op' && cmB op2 op2' && mE M a l && mE M b r && mE M c r2
    | _ => false
  | .dnil a, e => match e with
    | .Compare l [op'] [.Dict [] [] _] _ => cmB .Eq op' && mE M a l
    | _ => false
  | .cmpD a b, e => match e with
    | .Compare l [op'] [r] _ => cmB .NotEq op' && mE M a l && mE M b r
    | _ => false
  | .not a, e => match e with
    | .UnaryOp .Not x _ => mT M a x
    | _ => false
  | .bool op ts, e => match e with
    | .BoolOp op' vs _ => boB op op' && mTs M ts vs && decide (1 ≤ vs.length)
    | _ => false
def mTs {Γ : Amb} (M : Mc) : Ts Γ → List Expr → Bool
  | .nil, es => es.isEmpty
  | .cons a r, es => match es with
    | e :: rest => mT M a e && mTs M r rest
    | [] => false
end
def isComp : Expr → Bool
  | .ListComp .. => true
  | .SetComp .. => true
  | .DictComp .. => true
  | _ => false
/-- may the value be a tuple's display that is stored the other way round -/
def isTup : Expr → Bool
  | .Tuple vs _ _ => !vs.all (foldedForSure 8)
  | _ => false
def swB (M : Mc) (y : Str) (py : Pos) : Expr → Bool
  | .ListComp _ _ scope p => M.sc.names.lookup y == some .local && (py.line == p.line) && !(scope.names.any fun (n, k) => n == y && (k == .local || k == .cell))
  | _ => false
def parB (M : Mc) (x y : Str) (px py : Pos) (a b : Expr) : Bool :=
  M.sc.names.lookup x == some .local && M.sc.names.lookup y == some .local && !strB x y && (px.line == py.line) && plainB a && plainB b && !(foldedForSure 8 a && foldedForSure 8 b) && !(constantsAlone 8 a && constantsAlone 8 b)
def isLc {Γ : Amb} : E Γ → Bool
  | .lc .. => true
  | .lcK .. => true
  | _ => false
mutual
def mS {Γ : Amb} (M : Mc) : S Γ → Stmt → Bool
  | .asg t e, s => match s with
    | .Assign [tg] v _ => mTg M t tg && mE M e v && (match tg with
      | .Name y py => !isComp v || (M.sc.names.lookup y == some .cell || (isLc e && swB M y py v))
      | _ => !isComp v && !isTup v)
    | _ => false
  | .par i j a b, s => match s with
    | .Assign [.Tuple [.Name x px, .Name y py] _ _] (.Tuple [a', b'] _ _) _ => slotB M.N i x && slotB M.N j y && decide (i ≠ j) && parB M x y px py a' b' && mE M a a' && mE M b b'
    | _ => false
  | .setI o i v, s => match s with
    | .Assign [.Subscript o' i' _] v' _ => mE M o o' && mE M i i' && mE M v v'
    | _ => false
  | .set2 o i o2 i2 v, s => match s with
    | .Assign [.Tuple [.Subscript o' i' _, .Subscript o2' i2' _] _ _] v' _ => mE M o o' && mE M i i' && mE M o2 o2' && mE M i2 i2' && mE M v v' && !isComp v'
    | _ => false
  | .dead, _ => true
  | .setF f _ o v, s => match s with
    | .Assign [.Attribute o' f' _] v' _ => strB f f' && mE M o o' && mE M v v'
    | _ => false
  | .aug i e, s => match s with
    | .AugAssign (.Name x _) .Add e' _ => slotB M.N i x && locB M x && mE M e e'
    | _ => false
  | .ex e, s => match s with
    | .Expr e' _ => mE M e e' && !isComp e'
    | _ => false
  | .ifs t a b, s => match s with
    | .If t' a' b' _ => mT M t t' && mB M a a' && mB M b b'
    | _ => false
  | .for t it body, s => match s with
    | .For tg iter body' [] _ => mTg M t tg && tgB it tg && mIt M it iter && mB M body body'
    | _ => false
  | .forK t d body, s => match s with
    | .For tg iter body' [] _ => mTg M t tg && mE M d iter && mB M body body'
    | _ => false
  | .forKL t d body, s => match s with
    | .For tg iter body' [] _ => mTg M t tg && mE M d iter && mB M body body'
    | _ => false
  | .whl t body, s => match s with
    | .While t' body' [] _ => mT M t t' && mB M body body'
    | _ => false
  | .ret e, s => match s with
    | .Return (some e') _ => mE M e e'
    | _ => false
  | .retN, s => match s with
    | .Return none _ => true
    | _ => false
  | .raiG x _ _ a, s => match s with
    | .Raise (some (.Call (.Name y _) [a'] [] _)) none _ => strB x y && glB M.sc y && nmB y && mE M a a'
    | _ => false
  | .rai x _ a, s => match s with
    | .Raise (some (.Call (.Name y _) [a'] [] _)) none _ => strB x y && glB M.sc y && nmB y && mE M a a'
    | _ => false
  | .tryK x _ i j body, s => match s with
    | .Try body' [.ExceptHandler (some (.Name y _)) (some n) [.Assign [.Name z _] (.Name n' _) _] _] [] [] _ =>
      strB x y && glB M.sc y && nmB y && slotB M.N i n && strB n n' && (M.sc.names.lookup n == some .local) && nmB n && slotB M.N j z && (M.sc.names.lookup z == some .local) && decide (i ≠ j) && mB M body body'
    | _ => false
  | .pass, s => match s with
    | .Pass _ => true
    | _ => false
def mB {Γ : Amb} (M : Mc) : Ss Γ → List Stmt → Bool
  | .nil, s => s.isEmpty
  | .cons a r, s => match s with
    | st :: rest => mS M a st && mB M r rest
    | [] => false
end
end Bv

/-! What the text's form alone gives. -/
namespace Bv
open PySem L2 PyProof.Rows

theorem star_plain {e : Expr} (h : plainB e = true) (es : List Expr) (env : Env) : starEach (e :: es) env = (false, eval e env) :: starEach es env := by
  cases e <;> first | rfl | cases h
theorem noset_plain {e : Expr} (h : plainB e = true) (env : Env) (x : Value) : foldedSetIterable e env x = pure x := by
  cases e <;> first | rfl | cases h
theorem marks_plain {e : Expr} (h : plainB e = true) (op : CmpOp) : behindInMarks op e = false := by
  cases e <;> first | rfl | cases h
theorem ix_plain {e : Expr} (h : plainB e = true) (o i : Value) : subscripted e false o i = operate [o, i] (getItem o i) := by
  cases e <;> first | rfl | cases h
theorem base_plain {o : Expr} (h : baseB o = true) (f : Str) (env : Env) (w : Sem Value) : attributeBase o f env w = w := by
  unfold attributeBase
  split
  · cases h
  · rfl
theorem tru_plain {e : Expr} (h : truB e = true) (env : Env) (whole : Sem Value) : isTrue e env whole = (do let v ← whole; standAt e.pos; holding [v] (truthy v)) := by
  cases e <;> first | rfl | cases h
/-- no star in a row of arguments -/
def plainsB (es : List Expr) : Bool := es.all plainB
theorem stars_plain : ∀ {es : List Expr}, plainsB es = true → ∀ env, (starEach es env).all (fun x => !x.1) = true
  | [], _, _ => rfl
  | e :: es, h, env => by
    unfold plainsB at h
    rw [List.all_cons, Bool.and_eq_true] at h
    rw [star_plain h.1, List.all_cons, stars_plain h.2]
    rfl
theorem back_any : ∀ (pos : Pos) {l : List (Bool × Sem Value)}, l.all (fun x => !x.1) = true → (backTo pos l).any (·.1) = false
  | _, [], _ => rfl
  | pos, (b, t) :: r, h => by
    rw [List.all_cons, Bool.and_eq_true] at h
    have hb : b = false := by simpa using h.1
    subst hb
    show (false || (backTo pos r).any (·.1)) = false
    rw [back_any pos h.2]
    rfl
theorem back_all : ∀ (pos : Pos) {l : List (Bool × Sem Value)}, l.all (fun x => !x.1) = true → (backTo pos l).all (fun x => !x.1) = true
  | _, [], _ => rfl
  | pos, (b, t) :: r, h => by
    rw [List.all_cons, Bool.and_eq_true] at h
    have hb : b = false := by simpa using h.1
    subst hb
    show (true && (backTo pos r).all (fun x => !x.1)) = true
    rw [back_all pos h.2]
    rfl
theorem few_plain {es : List Expr} (h : plainsB es = true) (hl : es.length < 29) (pos : Pos) (env : Env) :
    ((backTo pos (starEach es env)).all (fun x => !x.1) && (backToKw pos (keywordEach [] env)).all (fun x => x.1.isSome) && decide (es.length + ([] : List Keyword).length + (if ([] : List Keyword).isEmpty then 0 else 1) < 30)) = true := by
  rw [back_all pos (stars_plain h env)]
  have e : decide (es.length + ([] : List Keyword).length + (if ([] : List Keyword).isEmpty then 0 else 1) < 30) = true := decide_eq_true (by simp; omega)
  rw [e]
  rfl
theorem call_form {o : Expr} {m : Str} {ap pos : Pos} {es : List Expr} {env : Env} (hb : baseB o = true) (h : plainsB es = true) (hl : es.length < 29) (hline : (ap.endLine == pos.line) = true) :
    eval (.Call (.Attribute o m ap) es [] pos) env = (do
      let ov ← eval o env
      standAt ap.atName
      let (f, first) ← holding [ov] (getMethod ov m (do return (← importBound o env).getD true))
      callWith pos f first (backTo pos (starEach es env)) (backToKw pos (keywordEach [] env))) := by
  have hf : methodCallForm (es.length + ([] : List Keyword).length) (backTo pos (starEach es env)) (backToKw pos (keywordEach [] env)) = true := by
    unfold methodCallForm
    exact few_plain h hl pos env
  show (do
    let ov ← attributeBase o m env (eval o env)
    standAt ap.atName
    methodCall o m ap pos env ov (es.length + ([] : List Keyword).length) (backTo pos (starEach es env)) (backToKw pos (keywordEach [] env))) = _
  rw [base_plain hb]
  unfold methodCall calleeOf methodCallPos
  rw [hf]
  have hl2 : (!true || ap.endLine == pos.line) = true := by rw [hline]; rfl
  rw [if_pos hl2]
  rfl
end Bv

/-! The tongue is true to the text: expressions. -/
namespace Bv
open PySem L2 PyProof.Rows

structure CxOk (Γ : Amb) (M : Mc) (X : Cx) : Prop where
  P : X.prog = Γ.P
  w : X.w = Γ.w
  K : X.K = Γ.K
  mg : X.mg = Γ.mg
  base : X.base = Γ.base
  room : Room Γ.k X.A
  calm : X.calm = true
  N : X.N = M.N
  nd : X.N.Nodup
  sc : X.env.scope = M.sc
  fn : ∀ x, M.fc x = true → X.fn x = true
def bltNames : List Str := ["len", "abs", "int", "str", "sorted", "list", "all", "any", "tuple", "max", "isinstance", "range", "zip", "enumerate", "dict"]
structure AmbOk (Γ : Amb) : Prop where
  bl : ∀ x ∈ bltNames, Γ.mg x = none

/-- the readings of told wishes -/
def dV (K : PySem.W.Frag) (B : Bs) (w : St1 → MH → Q1 → Prop) : TE := fun τ H Q => ∃ N F σ Q0, Ok K B N F H ∧ Sl K N σ τ ∧ w σ F Q0 ∧ Post K B N Q0 Q
def PostB (K : PySem.W.Frag) (B : Bs) (N : Hp) (Q0 : Bool → MH → Prop) (Q : Bool → Hp → Prop) : Prop := ∀ b N' F' H', Same N N' → Ok K B N' F' H' → Q0 b F' → Q b H'
def PostL (K : PySem.W.Frag) (B : Bs) (N : Hp) (Q0 : List Val → MH → Prop) (Q : List V → Hp → Prop) : Prop := ∀ vs xs N' F' H', Same N N' → Ok K B N' F' H' → Dvs K N' vs xs → Q0 vs F' → Q xs H'
def PostO (K : PySem.W.Frag) (B : Bs) (N : Hp) (Q0 : Option Int → MH → Prop) (Q : Option Int → Hp → Prop) : Prop := ∀ o N' F' H', Same N N' → Ok K B N' F' H' → Q0 o F' → Q o H'
def dT (K : PySem.W.Frag) (B : Bs) (w : St1 → MH → (Bool → MH → Prop) → Prop) : TT := fun τ H Q => ∃ N F σ Q0, Ok K B N F H ∧ Sl K N σ τ ∧ w σ F Q0 ∧ PostB K B N Q0 Q
def dA (K : PySem.W.Frag) (B : Bs) (w : St1 → MH → (List Val → MH → Prop) → Prop) : TA := fun τ H Q => ∃ N F σ Q0, Ok K B N F H ∧ Sl K N σ τ ∧ w σ F Q0 ∧ PostL K B N Q0 Q
def dO (K : PySem.W.Frag) (B : Bs) (w : St1 → MH → (Option Int → MH → Prop) → Prop) : TO := fun τ H Q => ∃ N F σ Q0, Ok K B N F H ∧ Sl K N σ τ ∧ w σ F Q0 ∧ PostO K B N Q0 Q
theorem PostB.mono {K : PySem.W.Frag} {B : Bs} {N N' : Hp} {Q0 : Bool → MH → Prop} {Q : Bool → Hp → Prop} (e : Same N N') (h : PostB K B N Q0 Q) : PostB K B N' Q0 Q := fun b N2 F2 H2 e2 => h b N2 F2 H2 (e.trans e2)
theorem PostL.mono {K : PySem.W.Frag} {B : Bs} {N N' : Hp} {Q0 : List Val → MH → Prop} {Q : List V → Hp → Prop} (e : Same N N') (h : PostL K B N Q0 Q) : PostL K B N' Q0 Q := fun b x N2 F2 H2 e2 => h b x N2 F2 H2 (e.trans e2)
theorem PostO.mono {K : PySem.W.Frag} {B : Bs} {N N' : Hp} {Q0 : Option Int → MH → Prop} {Q : Option Int → Hp → Prop} (e : Same N N') (h : PostO K B N Q0 Q) : PostO K B N' Q0 Q := fun b N2 F2 H2 e2 => h b N2 F2 H2 (e.trans e2)
/-- one part, then what follows -/
theorem dV.bind {K : PySem.W.Frag} {B : Bs} {N H : Hp} {F : MH} {σ : St1} {τ : L2.St} {w : St1 → MH → Q1 → Prop} {k : Q1} {R : VK} (o : Ok K B N F H) (sl : Sl K N σ τ) (h : w σ F k)
    (hk : ∀ v x N' F' H', Same N N' → Ok K B N' F' H' → Sl K N' σ τ → Dv K N' v x → k v F' → R x H') : dV K B w τ H R :=
  ⟨N, F, σ, k, o, sl, h, fun v x N' F' H' e o' d q => hk v x N' F' H' e o' (sl.mono e) d q⟩
theorem dT.bind {K : PySem.W.Frag} {B : Bs} {N H : Hp} {F : MH} {σ : St1} {τ : L2.St} {w : St1 → MH → (Bool → MH → Prop) → Prop} {k : Bool → MH → Prop} {R : Bool → Hp → Prop} (o : Ok K B N F H) (sl : Sl K N σ τ) (h : w σ F k)
    (hk : ∀ b N' F' H', Same N N' → Ok K B N' F' H' → Sl K N' σ τ → k b F' → R b H') : dT K B w τ H R :=
  ⟨N, F, σ, k, o, sl, h, fun b N' F' H' e o' q => hk b N' F' H' e o' (sl.mono e) q⟩
theorem dA.bind {K : PySem.W.Frag} {B : Bs} {N H : Hp} {F : MH} {σ : St1} {τ : L2.St} {w : St1 → MH → (List Val → MH → Prop) → Prop} {k : List Val → MH → Prop} {R : List V → Hp → Prop} (o : Ok K B N F H) (sl : Sl K N σ τ) (h : w σ F k)
    (hk : ∀ vs xs N' F' H', Same N N' → Ok K B N' F' H' → Sl K N' σ τ → Dvs K N' vs xs → k vs F' → R xs H') : dA K B w τ H R :=
  ⟨N, F, σ, k, o, sl, h, fun v x N' F' H' e o' d q => hk v x N' F' H' e o' (sl.mono e) d q⟩
theorem dO.bind {K : PySem.W.Frag} {B : Bs} {N H : Hp} {F : MH} {σ : St1} {τ : L2.St} {w : St1 → MH → (Option Int → MH → Prop) → Prop} {k : Option Int → MH → Prop} {R : Option Int → Hp → Prop} (o : Ok K B N F H) (sl : Sl K N σ τ) (h : w σ F k)
    (hk : ∀ b N' F' H', Same N N' → Ok K B N' F' H' → Sl K N' σ τ → k b F' → R b H') : dO K B w τ H R :=
  ⟨N, F, σ, k, o, sl, h, fun b N' F' H' e o' q => hk b N' F' H' e o' (sl.mono e) q⟩

section
variable {Γ : Amb} {M : Mc} {X : Cx} {B : Bs} {W : XS}
theorem plain_mE : ∀ {M : Mc} (c : E Γ) {e : Expr}, mE M c e = true → plainB e = true
  | M, .frz a, e, h => plain_mE (M := M) a (by unfold mE at h; exact h)
  | M, .var _, e, h | M, .cst _, e, h | M, .gl _ _, e, h | M, .bin _ _ _, e, h | M, .neg _, e, h | M, .not _, e, h | M, .cmp _ _ _, e, h | M, .chain _ _ _ _ _, e, h | M, .bool _ _, e, h | M, .tup _, e, h | M, .lst _ _, e, h | M, .addL _ _, e, h | M, .litz _ _ _, e, h
  | M, .dic0, e, h | M, .dic1 _ _, e, h | M, .ix _ _, e, h | M, .sl _ _ _, e, h | M, .rev _ _, e, h | M, .call _ _ _, e, h | M, .meth _ _ _ _, e, h | M, .mk _ _ _, e, h | M, .bi _ _, e, h | M, .bm _ _ _, e, h | M, .isi _ _ _, e, h | M, .isiT _ _, e, h | M, .fld _ _ _, e, h | M, .xfl _ _ _, e, h
  | M, .lc _ _ _ _ _, e, h | M, .lcK _ _ _ _ _, e, h => by
    unfold mE at h
    split at h <;> first | rfl | cases h
theorem plains_mEs : ∀ {M : Mc} (c : Es Γ) {es : List Expr}, mEs M c es = true → plainsB es = true
  | M, .nil, [], _ => rfl
  | M, .nil, _ :: _, h => by unfold mEs at h; cases h
  | M, .cons a r, [], h => by unfold mEs at h; cases h
  | M, .cons a r, e :: es, h => by
    unfold mEs at h
    simp only [Bool.and_eq_true] at h
    unfold plainsB
    rw [List.all_cons, plain_mE a h.1, Bool.true_and]
    exact plains_mEs r h.2
theorem strB_eq {a b : Str} (h : strB a b = true) : a = b := of_decide_eq_true h
theorem slotB_eq {N : List Str} {i : Nat} {x : Str} (h : slotB N i x = true) : N[i]? = some x := by
  unfold slotB at h
  split at h
  · rename_i e
    rw [e, strB_eq h]
  · cases h
theorem visB_eq {sc : Scope} {x : Str} (h : visB sc x = true) : Vis sc x := by
  unfold visB at h
  split at h <;> first | exact .inl (by assumption) | exact .inr (.inl (by assumption)) | exact .inr (.inr (by assumption)) | cases h
theorem glB_eq {X : Cx} {x : Str} (hs : X.env.scope = M.sc) (h : glB M.sc x = true) : Gl X x := by
  unfold glB at h
  split at h
  · rename_i e
    show X.env.scope.names.lookup x = some .globalImplicit
    rw [hs]
    exact e
  · cases h
theorem locB_eq {x : Str} (hx : CxOk Γ M X) (h : locB M x = true) : Loc X.env.scope x ∧ (X.fn x = true ∨ X.env.scope.names.lookup x = some .local) := by
  unfold locB at h
  rw [hx.sc]
  split at h
  · rename_i e
    exact ⟨.inl e, .inr e⟩
  · rename_i e
    exact ⟨.inr e, .inl (hx.fn x h)⟩
  · cases h
theorem nm1 {x : Str} (h : nmB x = true) : (x == ("__debug__" : Str)) = false ∧ (x == ("__classdict__" : Str)) = false ∧ x ≠ "__name__" := by
  unfold nmB strB at h
  simp only [Bool.and_eq_true, Bool.not_eq_true', decide_eq_false_iff_not] at h
  obtain ⟨⟨h1, h2⟩, h3⟩ := h
  exact ⟨by simpa using h1, by simpa using h2, h3⟩

theorem snd_var {i : Nat} {e : Expr} (h : mE M (.var i : E Γ) e = true) (hx : CxOk Γ M X) : PE X e (dV Γ.K B (wpE W (.var i : E Γ))) := by
  unfold mE at h
  split at h
  · rename_i x pos
    simp only [Bool.and_eq_true] at h
    obtain ⟨⟨h1, h2⟩, h3⟩ := h
    obtain ⟨n1, n2, _⟩ := nm1 h3
    refine ⟨fun pins s τ H Q I hq => ?_⟩
    refine (pe_var (i := i) (by rw [hx.N]; exact slotB_eq h1) (by rw [hx.sc]; exact visB_eq h2) n1 n2).run pins s τ H Q I ?_
    obtain ⟨N, F, σ, Q0, o, sl, w, post⟩ := hq
    have w : (match σ[i]? with | some (some v) => Q0 v F | _ => False) := w
    split at w
    · rename_i v e
      obtain ⟨y, e2, d⟩ := sl.get i v e
      exact ⟨y, e2, post.at o d w⟩
    · exact w.elim
  · cases h
theorem snd_cst {v : Val} {e : Expr} (h : mE M (.cst v : E Γ) e = true) (hx : CxOk Γ M X) : PE X e (dV Γ.K B (wpE W (.cst v : E Γ))) := by
  unfold mE at h
  split at h
  · rename_i c k pos
    have fin : ∀ {x : V} {τ : L2.St} {H : Hp} {Q : VK}, (∀ N, Dv Γ.K N v x) → dV Γ.K B (wpE W (.cst v : E Γ)) τ H Q → Q x H := fun {x τ H Q} d hq => by
      obtain ⟨N, F, σ, Q0, o, sl, w, post⟩ := hq
      exact post.at o (d N) w
    unfold mC at h
    split at h
    · have e := of_decide_eq_true h
      subst e
      exact ⟨fun pins s τ H Q I hq => pe_int.run pins s τ H Q I (fin (fun _ => .int _) hq)⟩
    · have e := of_decide_eq_true h
      subst e
      exact ⟨fun pins s τ H Q I hq => pe_bl.run pins s τ H Q I (fin (fun _ => .bl _) hq)⟩
    · exact ⟨fun pins s τ H Q I hq => pe_non.run pins s τ H Q I (fin (fun _ => .non) hq)⟩
    · have e := strB_eq h
      subst e
      exact ⟨fun pins s τ H Q I hq => pe_str.run pins s τ H Q I (fin (fun _ => .str _) hq)⟩
    · cases h
  · cases h
theorem snd_gl {x : Str} {r : GlR Γ x} {e : Expr} (h : mE M (.gl x r : E Γ) e = true) (hx : CxOk Γ M X) : PE X e (dV Γ.K B (wpE W (.gl x r : E Γ))) := by
  unfold mE at h
  split at h
  · rename_i y pos
    simp only [Bool.and_eq_true] at h
    obtain ⟨⟨h1, h2⟩, h3⟩ := h
    have e := strB_eq h1
    subst e
    obtain ⟨n1, n2, _⟩ := nm1 h3
    obtain ⟨u, z, g, rel, d⟩ := r.ok
    refine ⟨fun pins s τ H Q I hq => ?_⟩
    obtain ⟨N, F, σ, Q0, o, sl, w, post⟩ := hq
    exact (pe_glob (glB_eq hx.sc h2) (by rw [hx.mg]; exact g) rel n1).run pins s τ H Q I (post.at o (d N) w)
  · cases h
theorem snd_bin {op : Operator} {a b : E Γ} {l r : Expr} {pos : Pos} (hx : CxOk Γ M X) (ha : PE X l (dV Γ.K B (wpE W a))) (hb : PE X r (dV Γ.K B (wpE W b))) : PE X (.BinOp l op r pos) (dV Γ.K B (wpE W (.bin op a b))) := by
  refine ⟨fun pins s τ H Q I hq => ?_⟩
  have ho := binS_ok (X := X) op
  rw [hx.K] at ho
  refine (pe_op ho ha hb).run pins s τ H Q I ?_
  obtain ⟨N, F, σ, Q0, o, sl, w, post⟩ := hq
  refine dV.bind o sl w fun v x N1 F1 H1 e1 o1 sl1 d1 w1 => dV.bind o1 sl1 w1 fun v2 x2 N2 F2 H2 e2 o2 _ d2 w2 => ?_
  exact ⟨B, N2, F2, v, v2, Q0, o2, d1.mono e2, d2, w2, post.mono (e1.trans e2)⟩
theorem addLS_ok {X : Cx} : OpR X (binaryOp .Add) (lift2 X.K addLS) := by
  rintro pins s σ H x y v u Q I rx ry ⟨B, N, F, a, b, Q0, o, da, db, h, post⟩
  unfold addLS at h
  split at h
  · rename_i e1 e2
    obtain ⟨p, xs, rfl, r1, d1⟩ := lsOf_ok o da e1
    obtain ⟨q, ys, rfl, r2, d2⟩ := lsOf_ok o db e2
    exact op_catR pins s σ H _ _ v u Q I rx ry ⟨_, _, _, _, rfl, rfl, r1, r2, by rw [← d1.length, ← d2.length]; exact h.1, post.newLs (m := true) o (d1.append d2) h.2⟩
  · exact h.elim
theorem snd_addL {a b : E Γ} {l r : Expr} {pos : Pos} (hx : CxOk Γ M X) (ha : PE X l (dV Γ.K B (wpE W a))) (hb : PE X r (dV Γ.K B (wpE W b))) : PE X (.BinOp l .Add r pos) (dV Γ.K B (wpE W (.addL a b))) := by
  refine ⟨fun pins s τ H Q I hq => ?_⟩
  have ho := addLS_ok (X := X)
  rw [hx.K] at ho
  refine (pe_op ho ha hb).run pins s τ H Q I ?_
  obtain ⟨N, F, σ, Q0, o, sl, w, post⟩ := hq
  refine dV.bind o sl w fun v x N1 F1 H1 e1 o1 sl1 d1 w1 => dV.bind o1 sl1 w1 fun v2 x2 N2 F2 H2 e2 o2 _ d2 w2 => ?_
  exact ⟨B, N2, F2, v, v2, Q0, o2, d1.mono e2, d2, w2, post.mono (e1.trans e2)⟩
theorem snd_neg {a : E Γ} {l : Expr} {pos : Pos} (ha : PE X l (dV Γ.K B (wpE W a))) : PE X (.UnaryOp .USub l pos) (dV Γ.K B (wpE W (.neg a))) := by
  refine ⟨fun pins s τ H Q I hq => ?_⟩
  refine (pe_un un_neg ha).run pins s τ H Q I ?_
  obtain ⟨N, F, σ, Q0, o, sl, w, post⟩ := hq
  refine dV.bind o sl w fun v x N1 F1 H1 e1 o1 sl1 d1 w1 => ?_
  split at w1
  · cases d1
    exact ⟨_, rfl, (post.mono e1).at o1 (.int _) w1⟩
  · exact w1.elim
theorem snd_not {a : E Γ} {l : Expr} {pos : Pos} (ha : PE X l (dV Γ.K B (wpE W a))) : PE X (.UnaryOp .Not l pos) (dV Γ.K B (wpE W (.not a))) := by
  refine ⟨fun pins s τ H Q I hq => ?_⟩
  refine (pe_not ha).run pins s τ H Q I ?_
  obtain ⟨N, F, σ, Q0, o, sl, w, post⟩ := hq
  refine dV.bind o sl w fun v x N1 F1 H1 e1 o1 sl1 d1 w1 => ?_
  split at w1
  · cases d1
    exact ⟨_, rfl, (post.mono e1).at o1 (.bl _) w1⟩
  · exact w1.elim
theorem snd_cmp {op : CmpOp} {a b : E Γ} {l r : Expr} {pos : Pos} (hx : CxOk Γ M X) (hp : plainB r = true) (ha : PE X l (dV Γ.K B (wpE W a))) (hb : PE X r (dV Γ.K B (wpE W b))) : PE X (.Compare l [op] [r] pos) (dV Γ.K B (wpE W (.cmp op a b))) := by
  refine ⟨fun pins s τ H Q I hq => ?_⟩
  have ho := cmpS_ok (X := X) hx.room.units op
  rw [hx.K] at ho
  refine (pe_cmpR ho ha hb (marks_plain hp op)).run pins s τ H Q I ?_
  obtain ⟨N, F, σ, Q0, o, sl, w, post⟩ := hq
  refine dV.bind o sl w fun v x N1 F1 H1 e1 o1 sl1 d1 w1 => dV.bind o1 sl1 w1 fun v2 x2 N2 F2 H2 e2 o2 _ d2 w2 => ?_
  exact ⟨B, N2, F2, v, v2, Q0, o2, d1.mono e2, d2, w2, post.mono (e1.trans e2)⟩
theorem snd_chain {op op2 : CmpOp} {a b c : E Γ} {l r z : Expr} {pos : Pos} (hx : CxOk Γ M X) (hz : plainB z = true) (ha : PE X l (dV Γ.K B (wpE W a))) (hb : PE X r (dV Γ.K B (wpE W b))) (hc : PE X z (dV Γ.K B (wpE W c))) :
    PE X (.Compare l [op, op2] [r, z] pos) (dV Γ.K B (wpE W (.chain op op2 a b c))) := by
  refine ⟨fun pins s τ H Q I hq => ?_⟩
  have ho := cmpS_ok (X := X) hx.room.units op
  have ho2 := cmpS_ok (X := X) hx.room.units op2
  rw [hx.K] at ho ho2
  refine (pe_chain ho ho2 ha hb hc (show lastMarks [op, op2] [r, z] = false from marks_plain hz op2)).run pins s τ H Q I ?_
  obtain ⟨N, F, σ, Q0, o, sl, w, post⟩ := hq
  refine dV.bind o sl w fun v x N1 F1 H1 e1 o1 sl1 d1 w1 => dV.bind o1 sl1 w1 fun v2 x2 N2 F2 H2 e2 o2 sl2 d2 w2 => ?_
  refine ⟨B, N2, F2, v, v2, _, o2, d1.mono e2, d2, w2, fun v3 x3 N3 F3 H3 e3 o3 d3 w3 => ?_⟩
  split at w3
  · cases d3
    refine ⟨true, rfl, ?_⟩
    rw [if_pos rfl]
    refine dV.bind o3 (sl2.mono e3) w3 fun v4 x4 N4 F4 H4 e4 o4 _ d4 w4 => ?_
    exact ⟨B, N4, F4, v2, v4, Q0, o4, d2.mono (e3.trans e4), d4, w4, post.mono (((e1.trans e2).trans e3).trans e4)⟩
  · cases d3
    refine ⟨false, rfl, ?_⟩
    rw [if_neg Bool.false_ne_true]
    exact (post.mono ((e1.trans e2).trans e3)).at o3 (.bl _) w3
  · exact w3.elim
theorem snd_tup {es : Es Γ} {vs : List Expr} {k : Nat} {pos : Pos} (ha : PA X vs (dA Γ.K B (wpEs W es))) : PE X (.Tuple vs k pos) (dV Γ.K B (wpE W (.tup es))) := by
  refine ⟨fun pins s τ H Q I hq => ?_⟩
  refine (pe_tup ha).run pins s τ H Q I ?_
  obtain ⟨N, F, σ, Q0, o, sl, w, post⟩ := hq
  refine dA.bind o sl w fun vs xs N1 F1 H1 e1 o1 sl1 d1 w1 => ?_
  exact ⟨by rw [← d1.length]; exact w1.1, (post.mono e1).newT o1 d1 w1.2⟩
theorem snd_lst {m : Bool} {es : Es Γ} {vs : List Expr} {pos : Pos} (ha : PA X vs (dA Γ.K B (wpEs W es))) : PE X (.List vs pos) (dV Γ.K B (wpE W (.lst m es))) := by
  refine ⟨fun pins s τ H Q I hq => ?_⟩
  refine (pe_lst ha).run pins s τ H Q I ?_
  obtain ⟨N, F, σ, Q0, o, sl, w, post⟩ := hq
  refine dA.bind o sl w fun vs xs N1 F1 H1 e1 o1 sl1 d1 w1 => ?_
  exact ⟨by rw [← d1.length]; exact w1.1, (post.mono e1).newLs o1 d1 w1.2⟩
theorem snd_dic0 {pos : Pos} : PE X (.Dict [] [] pos) (dV Γ.K B (wpE W (.dic0 : E Γ))) := by
  refine ⟨fun pins s τ H Q I hq => ?_⟩
  refine pe_dnewK.run pins s τ H Q I ?_
  obtain ⟨N, F, σ, Q0, o, sl, w, post⟩ := hq
  intro p hp
  exact post _ _ N _ _ (Same.refl N) (o.new (c := .dict []) hp ⟨[], upd_same, .nil⟩) (.ref p) (w p (o.free hp).2)
theorem snd_ix {a i : E Γ} {l r : Expr} {pos : Pos} (hx : CxOk Γ M X) (hp : plainB r = true) (ha : PE X l (dV Γ.K B (wpE W a))) (hb : PE X r (dV Γ.K B (wpE W i))) : PE X (.Subscript l r pos) (dV Γ.K B (wpE W (.ix a i))) := by
  refine ⟨fun pins s τ H Q I hq => ?_⟩
  have ho := ixS_ok (X := X) hx.room.units
  rw [hx.K] at ho
  refine (pe_ix ho ha hb (ix_plain hp)).run pins s τ H Q I ?_
  obtain ⟨N, F, σ, Q0, o, sl, w, post⟩ := hq
  refine dV.bind o sl w fun v x N1 F1 H1 e1 o1 sl1 d1 w1 => dV.bind o1 sl1 w1 fun v2 x2 N2 F2 H2 e2 o2 _ d2 w2 => ?_
  exact ⟨B, N2, F2, v, v2, Q0, o2, d1.mono e2, d2, w2, post.mono (e1.trans e2)⟩
theorem snd_sl {a : E Γ} {lo hi : Es Γ} {l : Expr} {x y : Option Expr} {pos p2 : Pos} (hx : CxOk Γ M X) (ha : PE X l (dV Γ.K B (wpE W a))) (hl : PO X x (dO Γ.K B (wpP W lo))) (hh : PO X y (dO Γ.K B (wpP W hi))) :
    PE X (.Subscript l (.Slice x y none p2) pos) (dV Γ.K B (wpE W (.sl a lo hi))) := by
  refine ⟨fun pins s τ H Q I hq => ?_⟩
  have ho := slS_ok (X := X)
  rw [hx.K] at ho
  refine (pe_slice ho ha hl hh).run pins s τ H Q I ?_
  obtain ⟨N, F, σ, Q0, o, sl, w, post⟩ := hq
  refine dV.bind o sl w fun v x N1 F1 H1 e1 o1 sl1 d1 w1 => dO.bind o1 sl1 w1 fun l2 N2 F2 H2 e2 o2 sl2 w2 => dO.bind o2 sl2 w2 fun h3 N3 F3 H3 e3 o3 _ w3 => ?_
  exact ⟨B, N3, F3, v, Q0, o3, d1.mono (e2.trans e3), w3, post.mono ((e1.trans e2).trans e3)⟩
theorem snd_rev {a : E Γ} {k : Es Γ} {l st : Expr} {pos p2 : Pos} (hx : CxOk Γ M X) (ha : PE X l (dV Γ.K B (wpE W a))) (hl : PO X (some st) (dO Γ.K B (wpP W k))) :
    PE X (.Subscript l (.Slice none none (some st) p2) pos) (dV Γ.K B (wpE W (.rev a k))) := by
  refine ⟨fun pins s τ H Q I hq => ?_⟩
  refine (pe_rev ha hl).run pins s τ H Q I ?_
  obtain ⟨N, F, σ, Q0, o, sl, w, post⟩ := hq
  refine dV.bind o sl w fun v x N1 F1 H1 e1 o1 sl1 d1 w1 => dO.bind o1 sl1 w1 fun l2 N2 F2 H2 e2 o2 sl2 w2 => ?_
  rw [hx.K]
  exact ⟨B, N2, F2, v, Q0, o2, d1.mono e2, w2, post.mono (e1.trans e2)⟩
theorem snd_po_nil : PO X none (dO Γ.K B (wpP W (.nil : Es Γ))) := by
  refine ⟨fun pins s τ H Q I hq => ?_⟩
  obtain ⟨N, F, σ, Q0, o, sl, w, post⟩ := hq
  exact po_none.run pins s τ H Q I (post _ N F H (Same.refl N) o w)
theorem snd_po_some {a : E Γ} {r : Es Γ} {e : Expr} (ha : PE X e (dV Γ.K B (wpE W a))) : PO X (some e) (dO Γ.K B (wpP W (.cons a r))) := by
  refine ⟨fun pins s τ H Q I hq => ?_⟩
  refine (po_some ha).run pins s τ H Q I ?_
  obtain ⟨N, F, σ, Q0, o, sl, w, post⟩ := hq
  refine dV.bind o sl w fun v x N1 F1 H1 e1 o1 sl1 d1 w1 => ?_
  split at w1
  · cases d1
    exact ⟨_, rfl, post _ N1 F1 H1 e1 o1 w1⟩
  · exact w1.elim
theorem snd_pa_nil : PA X [] (dA Γ.K B (wpEs W (.nil : Es Γ))) := by
  refine ⟨fun pos pins s τ H Q I hq => ?_⟩
  obtain ⟨N, F, σ, Q0, o, sl, w, post⟩ := hq
  exact pa_nil.run pos pins s τ H Q I (post _ _ N F H (Same.refl N) o .nil w)
theorem snd_pa_cons {a : E Γ} {r : Es Γ} {e : Expr} {es : List Expr} (hp : plainB e = true) (ha : PE X e (dV Γ.K B (wpE W a))) (hr : PA X es (dA Γ.K B (wpEs W r))) : PA X (e :: es) (dA Γ.K B (wpEs W (.cons a r))) := by
  refine ⟨fun pos pins s τ H Q I hq => ?_⟩
  refine (pa_cons ha hr (star_plain hp es X.env)).run pos pins s τ H Q I ?_
  obtain ⟨N, F, σ, Q0, o, sl, w, post⟩ := hq
  refine dV.bind o sl w fun v x N1 F1 H1 e1 o1 sl1 d1 w1 => dA.bind o1 sl1 w1 fun vs xs N2 F2 H2 e2 o2 _ d2 w2 => ?_
  exact post _ _ N2 F2 H2 (e1.trans e2) o2 (.cons (d1.mono e2) d2) w2
end
end Bv

/-! The tongue is true to the text: calls, methods, attributes. -/
namespace Bv
open PySem L2 PyProof.Rows
section
variable {Γ : Amb} {M : Mc} {X : Cx} {B : Bs} {W : XS}

theorem snd_bool1 {op : BoolOp} {a : E Γ} {l : Expr} {pos : Pos} (ha : PE X l (dV Γ.K B (wpE W a))) : PE X (.BoolOp op [l] pos) (dV Γ.K B (wpBl W op (.cons a .nil))) := pe_one ha
theorem snd_bool {op : BoolOp} {a b : E Γ} {r : Es Γ} {l m : Expr} {rest : List Expr} {pos : Pos} (ha : PE X l (dV Γ.K B (wpE W a))) (hb : PE X (.BoolOp op (m :: rest) pos) (dV Γ.K B (wpBl W op (.cons b r)))) :
    PE X (.BoolOp op (l :: m :: rest) pos) (dV Γ.K B (wpBl W op (.cons a (.cons b r)))) := by
  refine ⟨fun pins s τ H Q I hq => ?_⟩
  cases op with
  | And =>
    refine (pe_and ha hb).run pins s τ H Q I ?_
    obtain ⟨N, F, σ, Q0, o, sl, w, post⟩ := hq
    refine dV.bind o sl w fun v x N1 F1 H1 e1 o1 sl1 d1 w1 => ?_
    cases d1 with
    | bl c =>
      refine ⟨c, rfl, ?_⟩
      cases c with
      | true => exact ⟨N1, F1, σ, Q0, o1, sl1, w1, post.mono e1⟩
      | false => exact (post.mono e1).at o1 (.bl _) w1
    | _ => exact w1.elim
  | Or =>
    refine (pe_or ha hb).run pins s τ H Q I ?_
    obtain ⟨N, F, σ, Q0, o, sl, w, post⟩ := hq
    refine dV.bind o sl w fun v x N1 F1 H1 e1 o1 sl1 d1 w1 => ?_
    cases d1 with
    | bl c =>
      refine ⟨c, rfl, ?_⟩
      cases c with
      | false => exact ⟨N1, F1, σ, Q0, o1, sl1, w1, post.mono e1⟩
      | true => exact (post.mono e1).at o1 (.bl _) w1
    | _ => exact w1.elim
theorem snd_call {x : Str} {r : CallR1 Γ x} {es : Es Γ} {e : Expr} {args : List Expr} {p pos : Pos} (hx : CxOk Γ M X) (tk : Takes X (liftW Γ.K B W)) (hg : glB M.sc x = true) (hn : nmB x = true) (hp : plainsB (e :: args) = true) (ha : PA X (e :: args) (dA Γ.K B (wpEs W es))) :
    PE X (.Call (.Name x p) (e :: args) [] pos) (dV Γ.K B (wpE W (.call x r es))) := by
  refine ⟨fun pins s τ H Q I hq => ?_⟩
  obtain ⟨f, fd, ps, j, hj, hm, hk, hb, F⟩ := r.ok
  obtain ⟨n1, _, _⟩ := nm1 hn
  have F' : FnOk X.prog X.w X.K X.mg X.base (L2.CX X.prog X.w) j f fd ps (liftSp Γ.K r.sp) := by rw [hx.P, hx.w, hx.K, hx.mg, hx.base]; exact F
  have hp' := hp
  unfold plainsB at hp'
  rw [List.all_cons, Bool.and_eq_true] at hp'
  refine (pe_callS F' (hx.room.mono hj) (glB_eq hx.sc hg) (by rw [hx.mg]; exact hm) (by rw [hx.K]; exact hk) (by rw [hx.K]; exact hb) (fun σ => passAt tk σ) ha n1 (star_plain hp'.1 _ _) (back_any _ (stars_plain hp'.2 _))).run pins s τ H Q I ?_
  obtain ⟨N, F0, σ, Q0, o, sl, w, post⟩ := hq
  refine dA.bind o sl w fun vs xs N1 F1 H1 e1 o1 sl1 d1 w1 => ?_
  exact ⟨B, N1, F1, vs, Q0, _, o1, d1, w1, post.mono e1, fun C fs d N2 F2 H2 e2 o2 xr q => ⟨C, fs, N2, F2, σ, rfl, o2, xr, sl1.mono e2, q⟩⟩

def tMethA (C : Addr) (m : Str) (sp : Sp) (E : L2.St → XK) (ta : TE) (t : TA) : TE := fun σ H Q => ta σ H fun x H1 => ∃ a dx fs, x = .ref a ∧ H1 a = some (.ins C dx fs) ∧ fs.lookup m = none ∧ t σ H1 fun vs H2 => sp (.ref a :: vs) H2 Q (E σ)
theorem pe_methA {CX : CXT} {k : Nat} {C f : Addr} {fd : FuncData} {ps : List Str} {sp : Sp} {E : L2.St → XK} {m : Str} {o e : Expr} {es : List Expr} {ta : TE} {t : TA} {apos pos : Pos} {pl : Sem Bool} (he : PE X o ta) (c : Cls X.K C) (hm : Meth X.K C m f) (F : FnOk X.prog X.w X.K X.mg X.base CX k f fd ps sp) (hr : Room k X.A) (hb : Binds X.K fd ps []) (hx : ∀ σ, PassesAt CX X σ (E σ)) (ha : PA X (e :: es) t)
    (hst : starEach (e :: es) X.env = (false, eval e X.env) :: starEach es X.env) (hpl : (backTo pos (starEach es X.env)).any (·.1) = false)
    (ht : eval (.Call (.Attribute o m apos) (e :: es) [] pos) X.env = (do
      let ov ← eval o X.env
      standAt apos.atName
      let (f, first) ← holding [ov] (getMethod ov m pl)
      callWith pos f first (backTo pos (starEach (e :: es) X.env)) (backToKw pos (keywordEach [] X.env)))) :
    PE X (.Call (.Attribute o m apos) (e :: es) [] pos) (tMethA C m sp E ta t) := by
  refine ⟨fun pins s σ H Q I h => ?_⟩
  refine PySem.W.methodCall_KW (pl := pl) (thn (he.run pins s σ H _ I h) fun u s1 ⟨x, H1, I1, rx, a, dx, fs, ex, ea, l, q⟩ => ?_) ht
  subst ex
  obtain rfl : u = Value.ref a := rx
  refine getmeth_ok I1 ea c hm l ?_
  refine PySem.W.callWith_K (first := [.ref a]) (h₀ := X.base) I.ok.mod.kin hm.kp (thn (ha.run pos pins s1 σ H1 _ I1 q) fun us s2 ⟨vs, H2, I2, r, q2⟩ => ⟨I2.kIn, ?_⟩) hst hpl
  exact run_fnS (us := .ref a :: us) (vs := .ref a :: vs) F hr hb (hx σ) I2 (.cons rfl r) q2
theorem pe_methA0 {CX : CXT} {k : Nat} {C f : Addr} {fd : FuncData} {ps : List Str} {sp : Sp} {E : L2.St → XK} {m : Str} {o : Expr} {ta : TE} {apos pos : Pos} {pl : Sem Bool} (he : PE X o ta) (c : Cls X.K C) (hm : Meth X.K C m f) (F : FnOk X.prog X.w X.K X.mg X.base CX k f fd ps sp) (hr : Room k X.A) (hb : Binds X.K fd ps []) (hx : ∀ σ, PassesAt CX X σ (E σ))
    (ht : eval (.Call (.Attribute o m apos) [] [] pos) X.env = (do
      let ov ← eval o X.env
      standAt apos.atName
      let (f, first) ← holding [ov] (getMethod ov m pl)
      callWith pos f first (backTo pos (starEach [] X.env)) (backToKw pos (keywordEach [] X.env)))) :
    PE X (.Call (.Attribute o m apos) [] [] pos) (tMethA C m sp E ta tNil) := by
  refine ⟨fun pins s σ H Q I h => ?_⟩
  refine PySem.W.methodCall_KW (pl := pl) (thn (he.run pins s σ H _ I h) fun u s1 ⟨x, H1, I1, rx, a, dx, fs, ex, ea, l, q⟩ => ?_) ht
  subst ex
  obtain rfl : u = Value.ref a := rx
  refine getmeth_ok I1 ea c hm l ?_
  exact PySem.W.callWith_K0 (first := [.ref a]) I1.kIn hm.kp (run_fnS (us := [.ref a]) (vs := [.ref a]) F hr hb (hx σ) I1 (.cons rfl .nil) q)
theorem Dfs.lookup {K : PySem.W.Frag} {N : Hp} {f : Str} : ∀ {fs : List (Str × Val)} {xs : List (Str × V)}, Dfs K N fs xs → (∀ v, fs.lookup f = some v → ∃ x, xs.lookup f = some x ∧ Dv K N v x) ∧ (fs.lookup f = none → xs.lookup f = none)
  | _, _, .nil => ⟨fun _ h => (nomatch h), fun _ => rfl⟩
  | _, _, .cons (a := p) (b := q) h t => by
    obtain ⟨i1, i2⟩ := Dfs.lookup (f := f) t
    obtain ⟨p1, p2⟩ := p
    obtain ⟨q1, q2⟩ := q
    obtain ⟨e, d⟩ := h
    cases e
    rw [List.lookup_cons, List.lookup_cons]
    cases hq : (f == p1) with
    | true =>
      simp only
      refine ⟨fun v hv => ?_, fun hv => nomatch hv⟩
      cases hv
      exact ⟨q2, rfl, d⟩
    | false => exact ⟨i1, i2⟩
theorem snd_meth {m : Str} {r : MethR Γ m} {oc : E Γ} {es : Es Γ} {oe e : Expr} {args : List Expr} {ap pos : Pos} (hx : CxOk Γ M X) (tk : Takes X (liftW Γ.K B W)) (hbs : baseB oe = true) (hl : (e :: args).length < 29) (hline : (ap.endLine == pos.line) = true) (hp : plainsB (e :: args) = true)
    (ho : PE X oe (dV Γ.K B (wpE W oc))) (ha : PA X (e :: args) (dA Γ.K B (wpEs W es))) : PE X (.Call (.Attribute oe m ap) (e :: args) [] pos) (dV Γ.K B (wpE W (.meth m r oc es))) := by
  refine ⟨fun pins s τ H Q I hq => ?_⟩
  obtain ⟨f, fd, ps, j, hj, hm, hb, F⟩ := r.ok
  have F' : FnOk X.prog X.w X.K X.mg X.base (L2.CX X.prog X.w) j f fd ps (liftSp Γ.K r.sp) := by rw [hx.P, hx.w, hx.K, hx.mg, hx.base]; exact F
  have hp' := hp
  unfold plainsB at hp'
  rw [List.all_cons, Bool.and_eq_true] at hp'
  refine (pe_methA (E := WE (liftW Γ.K B W)) ho (by rw [hx.K]; exact r.cl) (by rw [hx.K]; exact hm) F' (hx.room.mono hj) (by rw [hx.K]; exact hb) (fun σ => passAt tk σ) ha (star_plain hp'.1 _ _) (back_any _ (stars_plain hp'.2 _)) (call_form hbs hp hl hline)).run pins s τ H Q I ?_
  obtain ⟨N, F0, σ, Q0, o, sl, w, post⟩ := hq
  refine dV.bind o sl w fun v x N1 F1 H1 e1 o1 sl1 d1 w1 => ?_
  split at w1
  · rename_i p
    split at w1
    · rename_i C fs ec
      obtain ⟨rfl, w2, w3⟩ := w1
      cases d1
      obtain ⟨_, dx, xs, hh, dd⟩ := o1.cell p _ ec
      refine ⟨p, dx, xs, rfl, hh, (Dfs.lookup dd).2 w2, dA.bind o1 sl1 w3 fun vs ys N2 F2 H2 e2 o2 sl2 d2 w4 => ?_⟩
      exact ⟨B, N2, F2, _, Q0, _, o2, .cons (.ref p) d2, w4, post.mono (e1.trans e2), fun C fs d N3 F3 H3 e3 o3 xr q => ⟨C, fs, N3, F3, σ, rfl, o3, xr, sl2.mono e3, q⟩⟩
    · exact w1.elim
  · exact w1.elim
theorem snd_meth0 {m : Str} {r : MethR Γ m} {oc : E Γ} {oe : Expr} {ap pos : Pos} (hx : CxOk Γ M X) (tk : Takes X (liftW Γ.K B W)) (hbs : baseB oe = true) (hline : (ap.endLine == pos.line) = true)
    (ho : PE X oe (dV Γ.K B (wpE W oc))) : PE X (.Call (.Attribute oe m ap) [] [] pos) (dV Γ.K B (wpE W (.meth m r oc .nil))) := by
  refine ⟨fun pins s τ H Q I hq => ?_⟩
  obtain ⟨f, fd, ps, j, hj, hm, hb, F⟩ := r.ok
  have F' : FnOk X.prog X.w X.K X.mg X.base (L2.CX X.prog X.w) j f fd ps (liftSp Γ.K r.sp) := by rw [hx.P, hx.w, hx.K, hx.mg, hx.base]; exact F
  refine (pe_methA0 (E := WE (liftW Γ.K B W)) ho (by rw [hx.K]; exact r.cl) (by rw [hx.K]; exact hm) F' (hx.room.mono hj) (by rw [hx.K]; exact hb) (fun σ => passAt tk σ) (call_form hbs (rfl : plainsB [] = true) (by decide) hline)).run pins s τ H Q I ?_
  obtain ⟨N, F0, σ, Q0, o, sl, w, post⟩ := hq
  refine dV.bind o sl w fun v x N1 F1 H1 e1 o1 sl1 d1 w1 => ?_
  split at w1
  · rename_i p
    split at w1
    · rename_i C fs ec
      obtain ⟨rfl, w2, w3⟩ := w1
      cases d1
      obtain ⟨_, dx, xs, hh, dd⟩ := o1.cell p _ ec
      refine ⟨p, dx, xs, rfl, hh, (Dfs.lookup dd).2 w2, ?_⟩
      exact ⟨B, N1, F1, _, Q0, _, o1, .cons (.ref p) .nil, w3, post.mono e1, fun C fs d N3 F3 H3 e3 o3 xr q => ⟨C, fs, N3, F3, σ, rfl, o3, xr, sl1.mono e3, q⟩⟩
    · exact w1.elim
  · exact w1.elim
/-- a new instance -/
theorem make_ok {C : Addr} {sp : Spec} {N H : Hp} {F : MH} {vs : List Val} {xs : List V} {Q0 : Q1} {Q : VK} (o : Ok Γ.K B N F H) (d : Dvs Γ.K N vs xs) (post : Post Γ.K B N Q0 Q)
    (w : ∀ p, F p = none → sp (.ref p :: vs) (mset F p (.inst C [])) (fun v F2 => isNS v = true ∧ Q0 (.ref p) F2) fun _ _ _ => False) :
    ∀ x dx, H x = none → H dx = none → dx ≠ x → liftSp Γ.K sp (.ref x :: (xs ++ [])) (upd (upd H dx (.own x)) x (.ins C dx [])) (fun v H2 => v = .non ∧ Q (.ref x) H2) E0 := fun x dx hx hd hn => by
  have o1 := o.grow (same_upd (u := .own x) hd)
  have hx1 : upd H dx (.own x) x = none := by rw [upd_ne hn.symm]; exact hx
  have o2 := o1.new (u := .ins C dx []) (c := .inst C []) hx1 ⟨dx, [], upd_same, .nil⟩
  refine ⟨B, N, mset F x (.inst C []), _, _, _, o2, .cons (.ref x) (by rw [List.append_nil]; exact d), w x (o.free hx).2, fun v y N' F' H' e o3 dy q => ?_, fun _ _ _ _ _ _ _ _ _ q => q.elim⟩
  obtain ⟨q1, q2⟩ := q
  cases dy with
  | non => exact ⟨rfl, (post.mono e).at o3 (.ref x) q2⟩
  | _ => exact absurd q1 (by simp [isNS])
theorem snd_mk {x : Str} {r : MkR Γ x} {es : Es Γ} {e : Expr} {args : List Expr} {p pos : Pos} (hx : CxOk Γ M X) (hg : glB M.sc x = true) (hn : nmB x = true) (hp : plainsB (e :: args) = true) (ha : PA X (e :: args) (dA Γ.K B (wpEs W es))) :
    PE X (.Call (.Name x p) (e :: args) [] pos) (dV Γ.K B (wpE W (.mk x r es))) := by
  refine ⟨fun pins s τ H Q I hq => ?_⟩
  obtain ⟨f, fd, ps, j, hj, hmk, hm, hb, F⟩ := r.ok
  obtain ⟨n1, _, _⟩ := nm1 hn
  have F' : FnOk X.prog X.w X.K X.mg X.base (L2.CX X.prog X.w) j f fd ps (liftSp Γ.K r.sp) := by rw [hx.P, hx.w, hx.K, hx.mg, hx.base]; exact F
  have hp' := hp
  unfold plainsB at hp'
  rw [List.all_cons, Bool.and_eq_true] at hp'
  refine (pe_make (dvs := []) (ds := []) (by rw [hx.K]; exact hmk) F' (hx.room.mono hj) (glB_eq hx.sc hg) (by rw [hx.mg]; exact hm) (by rw [hx.K]; exact hb) .nil passL ha n1 (star_plain hp'.1 _ _) (back_any _ (stars_plain hp'.2 _))).run pins s τ H Q I ?_
  obtain ⟨N, F0, σ, Q0, o, sl, w, post⟩ := hq
  refine dA.bind o sl w fun vs xs N1 F1 H1 e1 o1 sl1 d1 w1 => ?_
  exact make_ok o1 d1 (post.mono e1) w1
theorem snd_mk0 {x : Str} {r : MkR Γ x} {p pos : Pos} (hx : CxOk Γ M X) (hg : glB M.sc x = true) (hn : nmB x = true) :
    PE X (.Call (.Name x p) [] [] pos) (dV Γ.K B (wpE W (.mk x r .nil))) := by
  refine ⟨fun pins s τ H Q I hq => ?_⟩
  obtain ⟨f, fd, ps, j, hj, hmk, hm, hb, F⟩ := r.ok
  obtain ⟨n1, _, _⟩ := nm1 hn
  have F' : FnOk X.prog X.w X.K X.mg X.base (L2.CX X.prog X.w) j f fd ps (liftSp Γ.K r.sp) := by rw [hx.P, hx.w, hx.K, hx.mg, hx.base]; exact F
  refine (pe_make0 (dvs := []) (ds := []) (by rw [hx.K]; exact hmk) F' (hx.room.mono hj) (glB_eq hx.sc hg) (by rw [hx.mg]; exact hm) (by rw [hx.K]; exact hb) .nil passL n1).run pins s τ H Q I ?_
  obtain ⟨N, F0, σ, Q0, o, sl, w, post⟩ := hq
  exact make_ok o .nil post w
theorem snd_bi {b : Bi} {es : Es Γ} {e : Expr} {args : List Expr} {p pos : Pos} (hx : CxOk Γ M X) (ga : AmbOk Γ) (hg : glB M.sc b.name = true) (hn : nmB b.name = true) (hp : plainsB (e :: args) = true) (ha : PA X (e :: args) (dA Γ.K B (wpEs W es))) :
    PE X (.Call (.Name b.name p) (e :: args) [] pos) (dV Γ.K B (wpE W (.bi b es))) := by
  refine ⟨fun pins s τ H Q I hq => ?_⟩
  obtain ⟨n1, _, n3⟩ := nm1 hn
  have hp' := hp
  unfold plainsB at hp'
  rw [List.all_cons, Bool.and_eq_true] at hp'
  have hc := biS_ok hx.calm b
  rw [hx.K] at hc
  have hm : X.mg b.name = none := by
    rw [hx.mg]
    exact ga.bl _ (by cases b with | sorted m => exact (by decide : ("sorted" : Str) ∈ bltNames) | list m => exact (by decide : ("list" : Str) ∈ bltNames) | _ => decide)
  have fin : tCB (liftN Γ.K (biS b)) (dA Γ.K B (wpEs W es)) τ H Q := by
    obtain ⟨N, F0, σ, Q0, o, sl, w, post⟩ := hq
    refine dA.bind o sl w fun vs xs N1 F1 H1 e1 o1 sl1 d1 w1 => ?_
    exact ⟨B, N1, F1, vs, Q0, o1, d1, w1, post.mono e1⟩
  have hv := b.boot
  cases b with
  | int => exact (pe_callTy hc (glB_eq hx.sc hg) hm hv ha n3 n1 (star_plain hp'.1 _ _) (back_any _ (stars_plain hp'.2 _))).run pins s τ H Q I fin
  | str => exact (pe_callTy hc (glB_eq hx.sc hg) hm hv ha n3 n1 (star_plain hp'.1 _ _) (back_any _ (stars_plain hp'.2 _))).run pins s τ H Q I fin
  | list m => exact (pe_callTy hc (glB_eq hx.sc hg) hm hv ha n3 n1 (star_plain hp'.1 _ _) (back_any _ (stars_plain hp'.2 _))).run pins s τ H Q I fin
  | tuple => exact (pe_callTy hc (glB_eq hx.sc hg) hm hv ha n3 n1 (star_plain hp'.1 _ _) (back_any _ (stars_plain hp'.2 _))).run pins s τ H Q I fin
  | dict => exact (pe_callTy hc (glB_eq hx.sc hg) hm hv ha n3 n1 (star_plain hp'.1 _ _) (back_any _ (stars_plain hp'.2 _))).run pins s τ H Q I fin
  | _ => exact (pe_callB hc (glB_eq hx.sc hg) hm hv ha n3 n1 (star_plain hp'.1 _ _) (back_any _ (stars_plain hp'.2 _))).run pins s τ H Q I fin
theorem snd_xfl {f : Str} {r : XflR Γ f} {oc : E Γ} {oe : Expr} {pos : Pos} (hx : CxOk Γ M X) (hbs : baseB oe = true) (ho : PE X oe (dV Γ.K B (wpE W oc))) : PE X (.Attribute oe f pos) (dV Γ.K B (wpE W (.xfl f r oc))) := by
  refine ⟨fun pins s τ H Q I hq => ?_⟩
  obtain ⟨N, F0, σ, Q0, o, sl, w, post⟩ := hq
  refine attr_of (base_plain hbs _ _ _) (thn (ho.run pins s τ H (fun y H1 => ∃ p C fs v N1 F1, y = .ref p ∧ Same N N1 ∧ Ok Γ.K B N1 F1 H1 ∧ F1 p = some (.exn C fs) ∧ C = r.C ∧ fs.lookup f = some v ∧ Q0 v F1) I ?_) ?_)
  · refine dV.bind o sl w fun v x N1 F1 H1 e1 o1 sl1 d1 w1 => ?_
    split at w1
    · rename_i p
      split at w1
      · rename_i C fs ec
        obtain ⟨rfl, w1⟩ := w1
        split at w1
        · rename_i v ev
          cases d1
          exact ⟨p, _, fs, v, N1, F1, rfl, e1, o1, ec, rfl, ev, w1⟩
        · exact w1.elim
      · exact w1.elim
    · exact w1.elim
  · rintro u s1 ⟨y, H1, I1, ry, p, C, fs, v, N1, F1, rfl, e1, o1, ec, rfl, ev, w1⟩
    obtain rfl : u = Value.ref p := ry
    obtain ⟨_, hc⟩ := o1.cell p _ ec
    rcases hc with ⟨rfl, _⟩ | ⟨dd, xs, _, h, hd, dfs⟩
    · cases ev
    obtain ⟨⟨oe, vs, hget, hz, hv⟩, _, _⟩ := (show ObjOk X.prog X.w H1 s1.heap p (ExG (.ref r.C) (some dd) p) from I1.hok p _ h)
    obtain ⟨mA, hns, hr⟩ := (show ObjOk X.prog X.w H1 s1.heap dd (.xd xs) from I1.hok dd _ hd)
    obtain ⟨od, hod, hl⟩ := lookIn_ns hns
    obtain ⟨y, hy, dy⟩ := (Dfs.lookup dfs).1 v ev
    obtain ⟨u, hu, ru⟩ := RelO.some_of (v := y) (o := mA f) (by rw [← hy]; exact hr f)
    have J : PySem.W.InstAt s1.heap p oe r.C (some od) := ⟨hget, hz.1, by unfold PySem.W.notCls; rw [hv] <;> rfl, by rw [hz.2]; exact hod⟩
    have T : XfC X.K r.C := by rw [hx.K]; exact r.xc
    exact HandSPX.exc_get I1.kIn J T.ga T.gg T.exC (PySem.W.findObj_own T.hdC (by rw [hx.K]; exact r.no) rfl (by rw [hl, hu])) (handed_of ru) ⟨y, H1, I1.tok _, ru, (post.mono e1).at o1 dy w1⟩
theorem snd_fld {f : Str} {r : FldR Γ f} {oc : E Γ} {oe : Expr} {pos : Pos} (hx : CxOk Γ M X) (hbs : baseB oe = true) (ho : PE X oe (dV Γ.K B (wpE W oc))) : PE X (.Attribute oe f pos) (dV Γ.K B (wpE W (.fld f r oc))) := by
  refine ⟨fun pins s τ H Q I hq => ?_⟩
  refine (pe_fld ho (base_plain hbs _ _ _)).run pins s τ H Q I ?_
  obtain ⟨N, F0, σ, Q0, o, sl, w, post⟩ := hq
  refine dV.bind o sl w fun v x N1 F1 H1 e1 o1 sl1 d1 w1 => ?_
  split at w1
  · rename_i p
    split at w1
    · rename_i C fs ec
      obtain ⟨rfl, w1⟩ := w1
      split at w1
      · rename_i v ev
        cases d1
        obtain ⟨_, dx, xs, hh, dd⟩ := o1.cell p _ ec
        obtain ⟨y, hy, dy⟩ := (Dfs.lookup dd).1 v ev
        exact ⟨p, r.C, dx, xs, y, rfl, hh, by rw [hx.K]; exact r.cl, by rw [hx.K]; exact r.no, hy, (post.mono e1).at o1 dy w1⟩
      · exact w1.elim
    · exact w1.elim
  · exact w1.elim
theorem snd_frz {a : E Γ} {e : Expr} (ha : PE X e (dV Γ.K B (wpE W a))) : PE X e (dV Γ.K B (wpE W (.frz a))) := by
  refine ⟨fun pins s τ H Q I hq => ?_⟩
  refine ha.run pins s τ H Q I ?_
  obtain ⟨N, F0, σ, Q0, o, sl, w, post⟩ := hq
  refine dV.bind o sl w fun v x N1 F1 H1 e1 o1 sl1 d1 w1 => ?_
  split at w1
  · rename_i p
    split at w1
    · rename_i vs ec
      cases d1
      obtain ⟨N2, e2, o2, d2⟩ := o1.freeze ec
      exact post _ _ N2 _ _ (e1.trans e2) o2 d2 w1
    · exact w1.elim
  · exact w1.elim
end
end Bv

/-! The tongue is true to the text: methods of built-in types, isinstance, a dict's display, tests. -/
namespace Bv
open PySem L2 PyProof.Rows
section
variable {K : PySem.W.Frag} {B : Bs} {N H : Hp} {F : MH}
theorem Ok.putL (o : Ok K B N F H) {p : Addr} {vs ws : List Val} {ys : List V} (ec : F p = some (.lst vs)) (d : Dvs K N ws ys) : Ok K B N (mset F p (.lst ws)) (upd H p (.lst ys)) := by
  obtain ⟨_, xs, hx, _⟩ := o.cell p _ ec
  exact o.put ec (fun xs' e => by rw [hx] at e; cases e) ⟨ys, upd_same, d⟩
theorem Ok.putD (o : Ok K B N F H) {p : Addr} {vs ws : List (Str × Val)} {ys : List (Key × V)} (ec : F p = some (.dict vs)) (d : Dkv K N ws ys) : Ok K B N (mset F p (.dict ws)) (upd H p (.dK ys)) := by
  obtain ⟨_, xs, hx, _⟩ := o.cell p _ ec
  exact o.put ec (fun xs' e => by rw [hx] at e; cases e) ⟨ys, upd_same, d⟩
theorem findF_ok {x : Val} {y : V} (d : Dv K N x y) (f : flat x = true) : ∀ {vs : List Val} {xs : List V} {j : Nat}, Dvs K N vs xs → vs.all flat = true → findF x vs = some j →
    ∃ z, xs[j]? = some z ∧ eqV z y = true ∧ ∀ (m : Nat) (z' : V), m < j → xs[m]? = some z' → eqV z' y = false
  | _, _, _, .nil, _, h => by cases h
  | _, _, j, .cons (v := v) (x := a) h t, g, hj => by
    rw [List.all_cons, Bool.and_eq_true] at g
    unfold findF at hj
    split at hj
    · rename_i e
      cases hj
      exact ⟨a, rfl, by rw [h.eqF d g.1 f]; exact e, fun m z' hm => absurd hm (Nat.not_lt_zero _)⟩
    · rename_i e
      obtain ⟨i, hi, rfl⟩ := Option.map_eq_some_iff.mp hj
      obtain ⟨z, h1, h2, h3⟩ := findF_ok d f t g.2 hi
      refine ⟨z, by simpa using h1, h2, fun m z' hm hz => ?_⟩
      cases m with
      | zero =>
        simp at hz
        subst hz
        rw [h.eqF d g.1 f]
        simpa using e
      | succ m => exact h3 m z' (by omega) (by simpa using hz)
end
section
variable {Γ : Amb} {M : Mc} {X : Cx} {B : Bs} {W : XS}
/-- a built-in's method of the told kind -/
def mtS (K : PySem.W.Frag) (b : Bm) : V → List V → Hp → VK → Prop := liftM K fun x as F Q => bmS b x as F Q
theorem sq_rd {K : PySem.W.Frag} {H : Hp} {p : Addr} {xs : List V} (h : Rd H p (.lst xs)) : SqL K H p xs := .inl h
theorem bmS_append {a : Val} {as : List Val} {F : MH} {Q : Q1} (h : bmS .append a as F Q) : ∃ p y vs, a = .ref p ∧ as = [y] ∧ F p = some (.lst vs) ∧ vs.length < sizeLine ∧ Q .non (mset F p (.lst (vs ++ [y]))) := by
  rcases as with _ | ⟨y, _ | ⟨z, t⟩⟩ <;> cases a <;> first | exact (show False from h).elim | skip
  rename_i p
  have h : (match F p with
    | some (.lst vs) => vs.length < sizeLine ∧ Q .non (mset F p (.lst (vs ++ [y])))
    | _ => False) := h
  split at h
  · rename_i vs ec
    exact ⟨p, y, vs, rfl, rfl, ec, h.1, h.2⟩
  · exact h.elim
theorem mtS_append : MtR X "list.append" (mtS X.K .append) := by
  rintro pins s σ H x xs v us Q I rx rs ⟨B, N, F, a, as, Q0, o, d, ds, w, post⟩
  obtain ⟨p, y, vs, rfl, rfl, ec, w1, w2⟩ := bmS_append w
  obtain ⟨z, rfl, dy⟩ := dvs_one ds
  cases d
  obtain ⟨_, ys, hx, dd⟩ := o.cell p _ ec
  exact mt_append pins s σ H _ _ v us Q I rx rs ⟨p, ys, z, rfl, rfl, hx, by rw [← dd.length]; exact w1, post _ _ N _ _ (Same.refl N) (o.putL ec (dd.append (.cons dy .nil))) .non w2⟩
theorem bmS_pop {a : Val} {as : List Val} {F : MH} {Q : Q1} (h : bmS .pop a as F Q) : ∃ p y vs, a = .ref p ∧ as = [] ∧ F p = some (.lst vs) ∧ vs[vs.length - 1]? = some y ∧ Q y (mset F p (.lst vs.dropLast)) := by
  rcases as with _ | ⟨y, t⟩ <;> cases a <;> first | exact (show False from h).elim | skip
  rename_i p
  have h : (match F p with
    | some (.lst vs) => match vs[vs.length - 1]? with
      | some y => Q y (mset F p (.lst vs.dropLast))
      | none => False
    | _ => False) := h
  split at h
  · rename_i vs ec
    split at h
    · rename_i y ey
      exact ⟨p, y, vs, rfl, rfl, ec, ey, h⟩
    · exact h.elim
  · exact h.elim
theorem mtS_pop : MtR X "list.pop" (mtS X.K .pop) := by
  rintro pins s σ H x xs v us Q I rx rs ⟨B, N, F, a, as, Q0, o, d, ds, w, post⟩
  obtain ⟨p, y, vs, rfl, rfl, ec, w1, w2⟩ := bmS_pop w
  cases ds
  cases d
  obtain ⟨_, ys, hx, dd⟩ := o.cell p _ ec
  obtain ⟨z, hz, dz⟩ := dd.get w1
  exact mt_pop pins s σ H _ _ v us Q I rx rs ⟨p, ys, z, rfl, rfl, hx, by rw [← dd.length]; exact hz, post _ _ N _ _ (Same.refl N) (o.putL ec dd.dropLast) dz w2⟩
theorem bmS_clear {a : Val} {as : List Val} {F : MH} {Q : Q1} (h : bmS .clear a as F Q) : ∃ p vs, a = .ref p ∧ as = [] ∧ F p = some (.lst vs) ∧ Q .non (mset F p (.lst [])) := by
  rcases as with _ | ⟨y, t⟩ <;> cases a <;> first | exact (show False from h).elim | skip
  rename_i p
  have h : (match F p with
    | some (.lst vs) => Q .non (mset F p (.lst []))
    | _ => False) := h
  split at h
  · rename_i vs ec
    exact ⟨p, vs, rfl, rfl, ec, h⟩
  · exact h.elim
theorem mtS_clear : MtR X "list.clear" (mtS X.K .clear) := by
  rintro pins s σ H x xs v us Q I rx rs ⟨B, N, F, a, as, Q0, o, d, ds, w, post⟩
  obtain ⟨p, vs, rfl, rfl, ec, w2⟩ := bmS_clear w
  cases ds
  cases d
  obtain ⟨_, ys, hx, dd⟩ := o.cell p _ ec
  exact mt_clear pins s σ H _ _ v us Q I rx rs ⟨p, ys, rfl, rfl, hx, post _ _ N _ _ (Same.refl N) (o.putL ec .nil) .non w2⟩
theorem bmS_index {a : Val} {as : List Val} {F : MH} {Q : Q1} (h : bmS .index a as F Q) : ∃ y vs j, as = [y] ∧ lsOf F a = some vs ∧ flat y = true ∧ vs.all flat = true ∧ findF y vs = some j ∧ Q (.int (j : Nat)) F := by
  rcases as with _ | ⟨y, _ | ⟨z, t⟩⟩
  · cases a <;> exact (show False from h).elim
  · have h : (match lsOf F a with
      | some vs => flat y = true ∧ vs.all flat = true ∧ (match findF y vs with
        | some j => Q (.int (j : Nat)) F
        | none => False)
      | none => False) := by cases a <;> exact h
    split at h
    · rename_i vs ec
      obtain ⟨h1, h2, h3⟩ := h
      split at h3
      · rename_i j ej
        exact ⟨y, vs, j, rfl, ec, h1, h2, ej, h3⟩
      · exact h3.elim
    · exact h.elim
  · cases a <;> exact (show False from h).elim
theorem mtS_index : MtR X "list.index" (mtS X.K .index) := by
  rintro pins s σ H x xs v us Q I rx rs ⟨B, N, F, a, as, Q0, o, d, ds, w, post⟩
  obtain ⟨y, vs, j, rfl, ec, f1, f2, ej, w2⟩ := bmS_index w
  obtain ⟨z, rfl, dy⟩ := dvs_one ds
  obtain ⟨p, ys, rfl, hr, dd⟩ := lsOf_ok o d ec
  obtain ⟨z2, h1, h2, h3⟩ := findF_ok dy f1 dd f2 ej
  exact mt_index pins s σ H _ _ v us Q I rx rs ⟨p, ys, z, j, z2, rfl, rfl, .inl hr, dy.flat f1, dd.flat f2, h1, h2, h3, post.at o (.int _) w2⟩
theorem bmS_count {a : Val} {as : List Val} {F : MH} {Q : Q1} (h : bmS .count a as F Q) : ∃ y vs, as = [y] ∧ lsOf F a = some vs ∧ flat y = true ∧ vs.all flat = true ∧ Q (.int ((vs.countP fun z => eqF z y : Nat) : Int)) F := by
  rcases as with _ | ⟨y, _ | ⟨z, t⟩⟩
  · cases a <;> exact (show False from h).elim
  · have h : (match lsOf F a with
      | some vs => flat y = true ∧ vs.all flat = true ∧ Q (.int ((vs.countP fun z => eqF z y : Nat) : Int)) F
      | none => False) := by cases a <;> exact h
    split at h
    · rename_i vs ec
      exact ⟨y, vs, rfl, ec, h.1, h.2.1, h.2.2⟩
    · exact h.elim
  · cases a <;> exact (show False from h).elim
theorem count_vals {K : PySem.W.Frag} {N : Hp} {y : Val} {z : V} {u : Value} (dy : Dv K N y z) (fy : flat y = true) (rz : RelV z u) : ∀ {vs : List Val} {xs : List V} {us : List Value}, Dvs K N vs xs → vs.all flat = true → Vals xs us → us.countP (eqU z) = vs.countP fun w => eqF w y
  | _, _, _, .nil, _, .nil => rfl
  | _, _, _, .cons h t, g, .cons r rr => by
    rw [List.all_cons, Bool.and_eq_true] at g
    rw [List.countP_cons, List.countP_cons, count_vals dy fy rz t g.2 rr, eqU_of r (h.flat g.1), h.eqF dy g.1 fy]
theorem mtS_count : MtR X "list.count" (mtS X.K .count) := by
  rintro pins s σ H x xs v us Q I rx rs ⟨B, N, F, a, as, Q0, o, d, ds, w, post⟩
  obtain ⟨y, vs, rfl, ec, f1, f2, w2⟩ := bmS_count w
  obtain ⟨z, rfl, dy⟩ := dvs_one ds
  obtain ⟨p, ys, rfl, hr, dd⟩ := lsOf_ok o d ec
  cases rx
  cases rs with
  | cons ry rt =>
    rename_i uy ut
    cases rt
    obtain ⟨its, rv, ⟨⟨cls, dd0, data, sl⟩, n, ho, hc, hdn, hd⟩, hlen⟩ := I.list (show SqL X.K H p ys from .inl hr)
    simp only at hc hd
    subst hc hd
    refine call_meets PySem.F.slot_list_count ⟨_, ho, rfl⟩ PySem.F.entry_list_count (PySem.F.args_list_count_2 _ _)
      (SeqAt.list_countAt p its.toArray n dd0 sl uy (eqU z)) ⟨ho, fun u' hu' => mem_eqAt ry (dy.flat f1) rv (dd.flat f2) u' (by simpa using hu'), ?_⟩
    have e : its.toArray.toList.countP (eqU z) = vs.countP fun w => eqF w y := by
      rw [show its.toArray.toList = its from rfl]
      exact count_vals dy f1 ry dd f2 rv
    rw [e]
    exact ⟨.int ((vs.countP fun w => eqF w y : Nat) : Int), H, I.tok _, ⟨_, rfl⟩, post.at o (.int _) w2⟩
theorem bmS_join {a : Val} {as : List Val} {F : MH} {Q : Q1} (h : bmS .join a as F Q) : ∃ z y ss, a = .str z ∧ as = [y] ∧ lsOf F y = some (ss.map Val.str) ∧ (ss.map (·.length)).sum + ss.length * z.length ≤ 16777216 ∧ Q (.str (Txt.join z ss)) F := by
  rcases as with _ | ⟨y, _ | ⟨z, t⟩⟩ <;> cases a <;> first | exact (show False from h).elim | skip
  rename_i z
  have h : (match lsOf F y with
    | some vs => match asStrs vs with
      | some ss => (ss.map (·.length)).sum + ss.length * z.length ≤ 16777216 ∧ Q (.str (Txt.join z ss)) F
      | none => False
    | none => False) := h
  split at h
  · rename_i vs ec
    split at h
    · rename_i ss es
      have e := asStrs_eq es
      subst e
      exact ⟨z, y, ss, rfl, rfl, ec, h.1, h.2⟩
    · exact h.elim
  · exact h.elim
theorem mtS_join : MtR X "str.join" (mtS X.K .join) := by
  rintro pins s σ H x xs v us Q I rx rs ⟨B, N, F, a, as, Q0, o, d, ds, w, post⟩
  obtain ⟨z, y, ss, rfl, rfl, ec, w1, w2⟩ := bmS_join w
  obtain ⟨y2, rfl, dy⟩ := dvs_one ds
  obtain ⟨p, ys, rfl, hr, dd⟩ := lsOf_ok o dy ec
  have e := dd.strs
  subst e
  cases d
  exact mt_join pins s σ H _ _ v us Q I rx rs ⟨z, p, ss, rfl, rfl, .inl (.inl hr), w1, post.at o (.str _) w2⟩
theorem bmS_split {a : Val} {as : List Val} {F : MH} {Q : Q1} (h : bmS .split a as F Q) : ∃ z y, a = .str z ∧ as = [.str y] ∧ (y.length == 0) = false ∧ z.length + 2 ≤ sizeLine ∧ Q (.lst ((Txt.split z y).map Val.str)) F := by
  rcases as with _ | ⟨y, _ | ⟨z, t⟩⟩ <;> cases a <;> first | exact (show False from h).elim | (cases y <;> exact (show False from h).elim) | skip
  cases y <;> first | exact (show False from h).elim | skip
  exact ⟨_, _, rfl, rfl, h⟩
theorem mtS_split : MtR X "str.split" (mtS X.K .split) := by
  rintro pins s σ H x xs v us Q I rx rs ⟨B, N, F, a, as, Q0, o, d, ds, w, post⟩
  obtain ⟨z, y, rfl, rfl, w1, w2, w3⟩ := bmS_split w
  obtain ⟨y2, rfl, dy⟩ := dvs_one ds
  cases dy
  cases d
  exact mt_split pins s σ H _ _ v us Q I rx rs ⟨z, y, rfl, rfl, w1, w2, post.newL o (Dvs.of_strs _) w3⟩
theorem bmS_partition {a : Val} {as : List Val} {F : MH} {Q : Q1} (h : bmS .partition a as F Q) : ∃ z y, a = .str z ∧ as = [.str y] ∧ (y.length == 0) = false ∧ z.length ≤ sizeLine ∧ Q (.tup [.str (Txt.partition z y).1, .str (Txt.partition z y).2.1, .str (Txt.partition z y).2.2]) F := by
  rcases as with _ | ⟨y, _ | ⟨z, t⟩⟩ <;> cases a <;> first | exact (show False from h).elim | (cases y <;> exact (show False from h).elim) | skip
  cases y <;> first | exact (show False from h).elim | skip
  exact ⟨_, _, rfl, rfl, h⟩
theorem mtS_partition : MtR X "str.partition" (mtS X.K .partition) := by
  rintro pins s σ H x xs v us Q I rx rs ⟨B, N, F, a, as, Q0, o, d, ds, w, post⟩
  obtain ⟨z, y, rfl, rfl, w1, w2, w3⟩ := bmS_partition w
  obtain ⟨y2, rfl, dy⟩ := dvs_one ds
  cases dy
  cases d
  exact mt_partition pins s σ H _ _ v us Q I rx rs ⟨z, y, rfl, rfl, w1, w2, post.newT o (.cons (.str _) (.cons (.str _) (.cons (.str _) .nil))) w3⟩
def Bm.ty : Bm → String
  | .append => "list" | .pop => "list" | .clear => "list" | .index => "list" | .count => "list" | .join => "str" | .split => "str" | .partition => "str" | .get => "dict" | .dpop => "dict"
theorem rec_ty {b : Bm} {T : String} (hT : b.ty = T) {N H : Hp} {F : MH} {v : Val} {x : V} (o : Ok Γ.K B N F H) (d : Dv Γ.K N v x) (h : recS b v F) (hb : T ≠ "dict") : tyV Γ.K T x H := by
  subst hT
  cases b <;> first | exact absurd rfl hb | skip
  · obtain ⟨p, vs, rfl, ec⟩ := h
    cases d
    obtain ⟨_, xs, hx, _⟩ := o.cell p _ ec
    exact .inl ⟨rfl, xs, .inl (.inl hx)⟩
  · obtain ⟨p, vs, rfl, ec⟩ := h
    cases d
    obtain ⟨_, xs, hx, _⟩ := o.cell p _ ec
    exact .inl ⟨rfl, xs, .inl (.inl hx)⟩
  · obtain ⟨p, vs, rfl, ec⟩ := h
    cases d
    obtain ⟨_, xs, hx, _⟩ := o.cell p _ ec
    exact .inl ⟨rfl, xs, .inl (.inl hx)⟩
  · obtain ⟨vs, ec⟩ := h
    obtain ⟨p, xs, rfl, hx, _⟩ := lsOf_ok o d ec
    exact .inl ⟨rfl, xs, .inl hx⟩
  · obtain ⟨z, rfl⟩ := h
    cases d
    rfl
  · obtain ⟨z, rfl⟩ := h
    cases d
    rfl
  · obtain ⟨z, rfl⟩ := h
    cases d
    rfl
  · obtain ⟨vs, ec⟩ := h
    obtain ⟨p, xs, rfl, hx, _⟩ := lsOf_ok o d ec
    exact .inl ⟨rfl, xs, .inl hx⟩
theorem snd_bm0 {b : Bm} {T id : String} {oc : E Γ} {oe : Expr} {ap pos : Pos} (hx : CxOk Γ M X) (pa : PlainAttrs T) (slot : Slot T b.nm id) (hty : typeOf (.builtin id) = pure (.type "method_descriptor")) (hm : MtR X id (mtS X.K b))
    (hT : b.ty = T) (hd : T ≠ "dict") (hbs : baseB oe = true) (hline : (ap.endLine == pos.line) = true)
    (ho : PE X oe (dV Γ.K B (wpE W oc))) : PE X (.Call (.Attribute oe b.nm ap) [] [] pos) (dV Γ.K B (wpE W (.bm b oc .nil))) := by
  refine ⟨fun pins s τ H Q I hq => ?_⟩
  refine (pe_bm0 pa slot hty hm ho (base_plain hbs _ _ _) hline).run pins s τ H Q I ?_
  obtain ⟨N, F0, σ, Q0, o, sl, w, post⟩ := hq
  refine dV.bind o sl w fun v x N1 F1 H1 e1 o1 sl1 d1 w1 => ?_
  rw [hx.K]
  exact ⟨rec_ty hT o1 d1 w1.1 hd, B, N1, F1, v, [], Q0, o1, d1, .nil, w1.2, post.mono e1⟩
theorem snd_bm1 {b : Bm} {T id : String} {oc : E Γ} {es : Es Γ} {oe e : Expr} {args : List Expr} {ap pos : Pos} (hx : CxOk Γ M X) (pa : PlainAttrs T) (slot : Slot T b.nm id) (hty : typeOf (.builtin id) = pure (.type "method_descriptor")) (hm : MtR X id (mtS X.K b))
    (hT : b.ty = T) (hd : T ≠ "dict") (hbs : baseB oe = true) (hline : (ap.endLine == pos.line) = true) (hp : plainsB (e :: args) = true) (hl : (e :: args).length < 29)
    (ho : PE X oe (dV Γ.K B (wpE W oc))) (ha : PA X (e :: args) (dA Γ.K B (wpEs W es))) : PE X (.Call (.Attribute oe b.nm ap) (e :: args) [] pos) (dV Γ.K B (wpE W (.bm b oc es))) := by
  refine ⟨fun pins s τ H Q I hq => ?_⟩
  have hp' := hp
  unfold plainsB at hp'
  rw [List.all_cons, Bool.and_eq_true] at hp'
  refine (pe_bm pa slot hty hm ho ha (base_plain hbs _ _ _) (few_plain hp hl _ _) hline (star_plain hp'.1 _ _) (back_any _ (stars_plain hp'.2 _))).run pins s τ H Q I ?_
  obtain ⟨N, F0, σ, Q0, o, sl, w, post⟩ := hq
  refine dV.bind o sl w fun v x N1 F1 H1 e1 o1 sl1 d1 w1 => ?_
  rw [hx.K]
  refine ⟨rec_ty hT o1 d1 w1.1 hd, dA.bind o1 sl1 w1.2 fun vs xs N2 F2 H2 e2 o2 sl2 d2 w2 => ?_⟩
  exact ⟨B, N2, F2, v, vs, Q0, o2, d1.mono e2, d2, w2, post.mono (e1.trans e2)⟩
theorem dcOf_isD {N H : Hp} {F : MH} (o : Ok Γ.K B N F H) {p : Addr} {kvs : List (Str × Val)} (h : dcOf F p = some kvs) : IsD H p := by
  obtain ⟨xs, r, _⟩ := dcOf_ok o h
  exact .inl ⟨xs, r⟩
theorem bmS_get {a : Val} {as : List Val} {F : MH} {Q : Q1} (h : bmS .get a as F Q) : ∃ p k dflt kvs, a = .ref p ∧ as = [.str k, dflt] ∧ dcOf F p = some kvs ∧ Q ((kget kvs k).getD dflt) F := by
  rcases as with _ | ⟨y, _ | ⟨z, _ | ⟨t, tt⟩⟩⟩ <;> cases a <;> first | exact (show False from h).elim | (cases y <;> exact (show False from h).elim) | skip
  cases y <;> first | exact (show False from h).elim | skip
  rename_i p k
  have h : (match dcOf F p with
    | some kvs => Q ((kget kvs k).getD z) F
    | none => False) := h
  split at h
  · rename_i kvs ec
    exact ⟨p, k, z, kvs, rfl, rfl, ec, h⟩
  · exact h.elim
theorem m2_of {oe a b : Expr} {m : Str} {ap pos : Pos} (hbs : baseB oe = true) (hline : (ap.endLine == pos.line) = true) (ha : plainB a = true) (hb : plainB b = true) : M2 X oe m ap a b pos where
  base := base_plain hbs _ _ _
  few := few_plain (es := [a, b]) (by unfold plainsB; simp [ha, hb]) (by simp) _ _
  line := hline
  trees := by rw [star_plain ha, star_plain hb]; rfl
theorem m1_of {oe a : Expr} {m : Str} {ap pos : Pos} (hbs : baseB oe = true) (hline : (ap.endLine == pos.line) = true) (ha : plainB a = true) : M1 X oe m ap a pos where
  base := base_plain hbs _ _ _
  few := few_plain (es := [a]) (by unfold plainsB; simp [ha]) (by simp) _ _
  line := hline
  trees := by rw [star_plain ha]; rfl
theorem snd_get {oc a b : E Γ} {oe x y : Expr} {ap pos : Pos} (hx : CxOk Γ M X) (hbs : baseB oe = true) (hline : (ap.endLine == pos.line) = true) (hpa : plainB x = true) (hpb : plainB y = true)
    (ho : PE X oe (dV Γ.K B (wpE W oc))) (ha : PE X x (dV Γ.K B (wpE W a))) (hb : PE X y (dV Γ.K B (wpE W b))) : PE X (.Call (.Attribute oe "get" ap) [x, y] [] pos) (dV Γ.K B (wpE W (.bm .get oc (.cons a (.cons b .nil))))) := by
  refine ⟨fun pins s τ H Q I hq => ?_⟩
  refine (pe_dget2 (by have := hx.room.units; omega) ho ha hb (m2_of hbs hline hpa hpb)).run pins s τ H Q I ?_
  obtain ⟨N, F0, σ, Q0, o, sl, w, post⟩ := hq
  refine dV.bind o sl w fun v z N1 F1 H1 e1 o1 sl1 d1 w1 => ?_
  obtain ⟨⟨p, kvs, rfl, ec⟩, w2⟩ := w1
  cases d1
  refine ⟨p, rfl, dcOf_isD o1 ec, dV.bind o1 sl1 w2 fun v2 z2 N2 F2 H2 e2 o2 sl2 d2 w3 => dV.bind o2 sl2 w3 fun v3 z3 N3 F3 H3 e3 o3 sl3 d3 w4 => ?_⟩
  obtain ⟨p', k, dflt, kvs', e4, e5, ec', w5⟩ := bmS_get w4
  cases e4
  cases e5
  obtain ⟨xs, hr, dd⟩ := dcOf_ok o3 ec'
  obtain ⟨g1, g2⟩ := Dkv.get (k := k) dd
  cases d2
  cases hk : kget kvs' k with
  | none =>
    refine ⟨none, .inl ⟨xs, Sum.inr k, hr, rfl, (g2 hk).symm⟩, ?_⟩
    rw [hk] at w5
    exact (post.mono ((e1.trans e2).trans e3)).at o3 d3 w5
  | some u =>
    obtain ⟨y', hy, dy⟩ := g1 u hk
    refine ⟨some y', .inl ⟨xs, Sum.inr k, hr, rfl, hy.symm⟩, ?_⟩
    rw [hk] at w5
    exact (post.mono ((e1.trans e2).trans e3)).at o3 dy w5
theorem bmS_dpop {a : Val} {as : List Val} {F : MH} {Q : Q1} (h : bmS .dpop a as F Q) : ∃ p k kvs y, a = .ref p ∧ as = [.str k] ∧ F p = some (.dict kvs) ∧ kget kvs k = some y ∧ Q y (mset F p (.dict (kdrop kvs k))) := by
  rcases as with _ | ⟨y, _ | ⟨z, t⟩⟩ <;> cases a <;> first | exact (show False from h).elim | (cases y <;> exact (show False from h).elim) | skip
  cases y <;> first | exact (show False from h).elim | skip
  rename_i p k
  have h : (match F p with
    | some (.dict kvs) => match kget kvs k with
      | some y => Q y (mset F p (.dict (kdrop kvs k)))
      | none => False
    | _ => False) := h
  split at h
  · rename_i kvs ec
    split at h
    · rename_i y ey
      exact ⟨p, k, kvs, y, rfl, rfl, ec, ey, h⟩
    · exact h.elim
  · exact h.elim
theorem snd_dpop {oc a : E Γ} {oe x : Expr} {ap pos : Pos} (hx : CxOk Γ M X) (hbs : baseB oe = true) (hline : (ap.endLine == pos.line) = true) (hpa : plainB x = true)
    (ho : PE X oe (dV Γ.K B (wpE W oc))) (ha : PE X x (dV Γ.K B (wpE W a))) : PE X (.Call (.Attribute oe "pop" ap) [x] [] pos) (dV Γ.K B (wpE W (.bm .dpop oc (.cons a .nil)))) := by
  refine ⟨fun pins s τ H Q I hq => ?_⟩
  refine (pe_dpop1 ho ha (m1_of hbs hline hpa)).run pins s τ H Q I ?_
  obtain ⟨N, F0, σ, Q0, o, sl, w, post⟩ := hq
  refine dV.bind o sl w fun v z N1 F1 H1 e1 o1 sl1 d1 w1 => ?_
  obtain ⟨⟨p, kvs, rfl, ec⟩, w2⟩ := w1
  cases d1
  refine ⟨p, rfl, dcOf_isD o1 (by unfold dcOf; rw [ec]), dV.bind o1 sl1 w2 fun v2 z2 N2 F2 H2 e2 o2 sl2 d2 w3 => ?_⟩
  obtain ⟨p', k, kvs', y, e4, e5, ec', ey, w5⟩ := bmS_dpop w3
  cases e4
  cases e5
  obtain ⟨_, xs, hh, dd⟩ := o2.cell p _ ec'
  obtain ⟨g1, _⟩ := Dkv.get (k := k) dd
  obtain ⟨y', hy, dy⟩ := g1 y ey
  cases d2
  exact ⟨xs, Sum.inr k, y', hh, rfl, hy, post _ _ N2 _ _ (e1.trans e2) (o2.putD ec' (Dkv.drop dd)) dy w5⟩
end
end Bv

/-! The tongue is true to the text: isinstance, a dict's display, tests, targets, iterables. -/
namespace Bv
open PySem L2 PyProof.Rows
section
variable {Γ : Amb} {M : Mc} {X : Cx} {B : Bs} {W : XS}
section
open PySem.W
variable {prog : Program} {w : World} {A : Around} {E : Value → Shared → Prop} {K : Frag} {x D : Addr} {ox : Obj} {od : Option Obj}
theorem find_cls {a g : Value} {nm : Str} (hc : (clsIn K D).isSome = true) (h1 : findIn K (.ref D) nm = some (some a)) (h2 : specialIn K a "__get__" = some (some g)) (h3 : takesIn K a = some true) : findObj K D od nm = some (.bind g a) := by
  obtain ⟨cd, e⟩ := Option.isSome_iff_exists.mp hc
  unfold findObj
  rw [e, Option.bind_some, h1, Option.bind_some]
  simp [h2, h3]
theorem class_of_exn {T : Shared} {R : Option Value → Shared → Prop} (ex : L2.ExcC K D) (hK : K.In T.heap) (J : InstAt T.heap x ox D od) (q : R (some (.ref D)) { T with toks := T.toks + 1 }) : wpAny (model prog w) A (getAttr? (.ref x) "__class__") R E T := by
  have e0 : findObj K D od "__class__" = some (.bind (.builtin "getset_descriptor.__get__") (.builtin "object.__class__")) :=
    find_cls (by obtain ⟨cd, e, _⟩ := any_some ex.hd; rw [e]; rfl) ex.ha ex.hn ex.ht
  obtain ⟨h0, g0, d0, t0, o0⟩ := T
  have K0 := J.type (M := model prog w)
  have K1 := looks_findIn (M := model prog w) hK ex.hg
  have K2 := looks_findIn (M := model prog w) hK ex.hk
  have K3 := looks_find (M := model prog w) hK J e0
  have K4 : Looks (model prog w) h0 (isInstance (.ref x) (.type "BaseException")) true := K0.andThen (looks_subIn hK ex.hs)
  have n0 : (false && onTheHeap (Value.builtin "BaseException.__getattribute__")) = false := rfl
  have n2 : (Value.builtin "BaseException.__getattribute__" == Value.builtin "object.__getattribute__") = false := by decide +kernel
  have n1 : (onTheHeap (Value.ref D) && Value.builtin "BaseException.__getattribute__" == Value.builtin "object.__getattribute__") = false := by rw [n2]; rfl
  unfold getAttr? getAttrBy? getAttrBy
  refine wpAny_bind (wpAny_mkText (wpAny_bind (wpAny_attempt (wpAny_holding (wpAny_bind (K0.at (wpAny_bind (K1.at ?_))))))))
  refine (show wpAny _ _ (if (onTheHeap (Value.ref D) && Value.builtin "BaseException.__getattribute__" == Value.builtin "object.__getattribute__") = true then _ else _) _ _ _ from ?_)
  rw [n1, if_neg (show ¬ (false = true) from Bool.false_ne_true)]
  unfold getAttrByItsOwn hookBefore
  refine wpAny_bind ?_; rw [if_pos (show onTheHeap (Value.ref D) = true from rfl)]; refine K2.at ?_
  refine wpAny_bind (wpAny_attempt (wpAny_holding (A := A) ?_))
  unfold callGetattribute; rw [n0, if_neg (show ¬ (false = true) from Bool.false_ne_true)]
  unfold boundAndCalled; rw [PySem.F.excAttr_ValueError.ga.bind (.ref x)]
  refine wpAny_bind (wpAny_pure (wpAny_call (codeAny_call_builtin PySem.F.excAttr_ValueError.ga.plain PySem.F.entry_bexc_ga ?_)))
  refine @check_slot (model prog w) _ _ ⟨h0, g0, d0, t0 + 1, o0⟩ "BaseException.__getattribute__" "BaseException" "__getattribute__" (.ref x) [.str "__class__" t0] [] _ (by decide +kernel) (by decide +kernel) K4 (PySem.F.args_bexc_ga (.ref x) (.str "__class__" t0)) ?_
  unfold Builtin.«object.__getattribute__»
  refine wpAny_bind (wpAny_of_eq (a := ((Value.ref x : Value), [Value.str "__class__" t0])) (by first | rfl | (simp only [slotArgs]; rfl)) (wpAny_bind (wpAny_pure (wpAny_bind (K0.at (wpAny_bind (K3.at ?_)))))))
  show wpAny _ _ (holding [Value.builtin "object.__class__"] (call (.builtin "getset_descriptor.__get__") [.builtin "object.__class__", .ref x, .ref D]) >>= ret) _ _ _
  refine wpAny_bind (wpAny_holding (wpAny_call (class_get (s := ⟨h0, g0, d0, t0 + 1, o0⟩) (ox := ox) (od := od) hK J ex.hm (wpAny_pure ?_))))
  show wpAny _ _ (handedOut (.ref D)) _ _ _
  rw [handedOut_of (v := .ref D) rfl]
  first
    | exact wpAny_pure (wpAny_pure q)
    | exact wpAny_pure q
    | exact wpAny_pure (wpAny_bind (wpAny_pure (wpAny_pure q)))
theorem kitx_exn (ex : L2.ExcC K D) : KitX K (.ref x) (.ref D) (fun h => InstAt h x ox D od) :=
  let Z := handS_kitx_exc (x := x) (ox := ox) ex.hg ex.hk ex.hs ex.hd ex.ha ex.hn ex.ht ex.hm
  { ty := fun _ _ _ I => I.type, it := fun _ _ X I => by
      obtain ⟨cd, e, _⟩ := any_some ex.hd
      unfold clsIn at e
      split at e
      · rename_i ho
        intro A' Q' E' s' k q
        unfold isType loadHead
        exact wpAny_bind (wpAny_loadPart (k _ _ (X _ _ ho)) (wpAny_pure q))
      · cases e
    ne := Z.ne, ca := fun X I k => class_of_exn ex X I k }
end
theorem exn_inst {Γ : Amb} {X : Cx} {pins : List (Addr × Obj)} {τ : L2.St} {N H : Hp} {s : Shared} {C p : Addr} {fs : List (Str × Val)} (I : Inv X pins τ H s) (h : CellIn Γ.K N H p (.exn C fs)) : ∃ oe od, PySem.W.InstAt s.heap p oe C od := by
  rcases h with ⟨_, h⟩ | ⟨dd, xs, _, h, hd, _⟩
  · obtain ⟨⟨oe, vs, hget, hz, hv⟩, _, _⟩ := (show ObjOk X.prog X.w H s.heap p (ExG (.ref C) none p) from I.hok p _ h)
    exact ⟨oe, none, hget, hz.1, by unfold PySem.W.notCls; rw [hv] <;> rfl, by rw [hz.2]; exact True.intro⟩
  · obtain ⟨⟨oe, vs, hget, hz, hv⟩, _, _⟩ := (show ObjOk X.prog X.w H s.heap p (ExG (.ref C) (some dd) p) from I.hok p _ h)
    obtain ⟨mA, hns, _⟩ := (show ObjOk X.prog X.w H s.heap dd (.xd xs) from I.hok dd _ hd)
    obtain ⟨od, ho, _⟩ := lookIn_ns hns
    exact ⟨oe, some od, hget, hz.1, by unfold PySem.W.notCls; rw [hv] <;> rfl, by rw [hz.2]; exact ho⟩
def isiR (Γ : Amb) {x : Str} (r : IsR Γ x) : List V → Hp → VK → Prop := fun xs H Q => ∃ B N F a y Q0, xs = [y, r.v] ∧ Ok Γ.K B N F H ∧ Dv Γ.K N a y ∧ (tyS Γ.K a F fun t => match r.ans t with
    | some b => Q0 (.bl b) F
    | none => False) ∧ Post Γ.K B N Q0 Q
theorem isi_ok {x : Str} (r : IsR Γ x) (hK : X.K = Γ.K) : CallR X (.builtin "isinstance") (isiR Γ r) := by
  rintro pins s σ H xs us Q I rv ⟨B, N, F, a, y, Q0, rfl, o, d, w, post⟩
  have fin : ∀ t : Value, TyX Γ.K H y t → (match r.ans t with
    | some b => Q0 (.bl b) F
    | none => False) → wpAny (model X.prog X.w) X.A (call (.builtin "isinstance") us) (EP X pins σ Q) X.xe s := fun t ty hq => by
    split at hq
    · rename_i b eb
      exact call_isi pins s σ H _ us Q I rv ⟨y, r.v, t, r.c, b, rfl, r.cls, by rw [hK]; exact ty, by rw [hK]; exact r.ok t b eb, post.at o (.bl _) hq⟩
    · exact hq.elim
  unfold tyS at w
  split at w
  · cases d; exact fin _ (.base .non) w
  · cases d; exact fin _ (.base (.bl _)) w
  · cases d; exact fin _ (.base (.int _)) w
  · cases d; exact fin _ (.base (.str _)) w
  · obtain ⟨p, xs, rfl, h, _⟩ := d.tuple o.sub
    exact fin _ (.base (.tup h)) w
  · obtain ⟨p, xs, rfl, h, _⟩ := d.list o.sub
    exact fin _ (.base (.lst h)) w
  · rename_i p
    cases d
    split at w
    · rename_i ec
      obtain ⟨_, xs, h, _⟩ := o.cell p _ ec
      exact fin _ (.base (.lst h)) w
    · rename_i ec
      obtain ⟨_, ob, xs, h, _⟩ := o.cell p _ ec
      exact fin _ (.base (.frz h)) w
    · rename_i ec
      obtain ⟨_, xs, h, _⟩ := o.cell p _ ec
      exact fin _ (.base (.dK h)) w
    · rename_i C fs ec
      obtain ⟨ex, w⟩ := w
      split at w
      · rename_i b eb
        obtain ⟨_, h⟩ := o.cell p _ ec
        obtain ⟨oe, od, J⟩ := exn_inst I h
        obtain ⟨u1, u2, rfl, r1, r2⟩ := vals2 rv
        have e2 := r.cls.eq r2
        subst e2
        cases (show u1 = Value.ref p from r1)
        exact PySem.W.kia_one (kitx_exn (od := od) ex) (by rw [← hK]; exact I.kIn) J (r.ok _ b eb) (fun z => nomatch z) fun tk => ⟨.bl b, H, I.tok tk, rfl, post.at o (.bl _) w⟩
      · exact w.elim
    · exact w.elim
  · exact w.elim
theorem pe_cls {x : Str} (r : IsR Γ x) {p : Pos} (hx : CxOk Γ M X) (hg : glB M.sc x = true) (hn : nmB x = true) : PE X (.Name x p) (tC r.v) := by
  obtain ⟨n1, _, n3⟩ := nm1 hn
  rcases r.at_ with h | ⟨h1, h2, _⟩
  · exact pe_glob (glB_eq hx.sc hg) (by rw [hx.mg]; exact h) r.rel n1
  · exact pe_bltn (glB_eq hx.sc hg) (by rw [hx.mg]; exact h1) h2 r.rel n3 n1
theorem snd_isi {x : Str} {r : IsR Γ x} {a : E Γ} {ae : Expr} {p p2 pos : Pos} (hx : CxOk Γ M X) (ga : AmbOk Γ) (hg0 : glB M.sc "isinstance" = true) (hg : glB M.sc x = true) (hn : nmB x = true) (hp : plainB ae = true) (ha : PE X ae (dV Γ.K B (wpE W a))) :
    PE X (.Call (.Name "isinstance" p) [ae, .Name x p2] [] pos) (dV Γ.K B (wpE W (.isi x r a))) := by
  refine ⟨fun pins s τ H Q I hq => ?_⟩
  have hps : plainsB [ae, .Name x p2] = true := by unfold plainsB; simp [hp]; rfl
  have h2 : PA X [.Name x p2] (tCons (tC r.v) tNil) := pa_cons (pe_cls r hx hg hn) pa_nil
  refine (pe_callB (isi_ok r hx.K) (glB_eq hx.sc hg0) (by rw [hx.mg]; exact ga.bl _ (by decide)) (by decide +kernel) (pa_cons ha h2 (star_plain hp _ _)) (by decide) (by decide) (star_plain hp _ _) (back_any _ (stars_plain (by rfl) _))).run pins s τ H Q I ?_
  obtain ⟨N, F0, σ, Q0, o, sl, w, post⟩ := hq
  refine dV.bind o sl w fun v y N1 F1 H1 e1 o1 sl1 d1 w1 => ?_
  exact ⟨B, N1, F1, v, y, Q0, rfl, o1, d1, w1, post.mono e1⟩
/-- isinstance's second: a tuple of classes, just laid -/
def isiTR (Γ : Amb) (cs : List (Cn Γ)) : List V → Hp → VK → Prop := fun xs H Q => ∃ B N F a y tp Q0, xs = [y, .ref tp] ∧ Ok Γ.K B N F H ∧ Dv Γ.K N a y ∧ H tp = some (.tup (cs.map (·.r.v))) ∧ (tyS Γ.K a F fun t => match ansL t cs with
    | some b => Q0 (.bl b) F
    | none => False) ∧ Post Γ.K B N Q0 Q
theorem ansL_ok {t : Value} : ∀ {cs : List (Cn Γ)} {b : Bool}, ansL t cs = some b → PySem.W.kitAny Γ.K t (cs.map (·.r.c)) = some b
  | [], b, h => h
  | c :: cs, b, h => by
    unfold ansL at h
    split at h
    · rename_i a1 b1 e1 e2
      cases h
      refine kitAny_cons (c.r.ok t _ e1) (fun h => ?_) (fun h => by rw [h]; rfl)
      rw [ansL_ok e2, h]
      rfl
    · cases h
theorem clsV_all : ∀ (cs : List (Cn Γ)), Paired ClsV (cs.map (·.r.v)) (cs.map (·.r.c))
  | [] => .nil
  | c :: cs => .cons c.r.cls (clsV_all cs)
theorem isiT_ok (cs : List (Cn Γ)) (hK : X.K = Γ.K) : CallR X (.builtin "isinstance") (isiTR Γ cs) := by
  rintro pins s σ H xs us Q I rv ⟨B, N, F, a, y, tp, Q0, rfl, o, d, hT, w, post⟩
  have fin : ∀ t : Value, TyX Γ.K H y t → (match ansL t cs with
    | some b => Q0 (.bl b) F
    | none => False) → wpAny (model X.prog X.w) X.A (call (.builtin "isinstance") us) (EP X pins σ Q) X.xe s := fun t ty hq => by
    split at hq
    · rename_i b eb
      exact call_isiT pins s σ H _ us Q I rv ⟨y, tp, _, t, _, b, rfl, hT, clsV_all cs, by rw [hK]; exact ty, by rw [hK]; exact ansL_ok eb, post.at o (.bl _) hq⟩
    · exact hq.elim
  unfold tyS at w
  split at w
  · cases d; exact fin _ (.base .non) w
  · cases d; exact fin _ (.base (.bl _)) w
  · cases d; exact fin _ (.base (.int _)) w
  · cases d; exact fin _ (.base (.str _)) w
  · obtain ⟨p, xs, rfl, h, _⟩ := d.tuple o.sub
    exact fin _ (.base (.tup h)) w
  · obtain ⟨p, xs, rfl, h, _⟩ := d.list o.sub
    exact fin _ (.base (.lst h)) w
  · rename_i p
    cases d
    split at w
    · rename_i ec
      obtain ⟨_, xs, h, _⟩ := o.cell p _ ec
      exact fin _ (.base (.lst h)) w
    · rename_i ec
      obtain ⟨_, ob, xs, h, _⟩ := o.cell p _ ec
      exact fin _ (.base (.frz h)) w
    · rename_i ec
      obtain ⟨_, xs, h, _⟩ := o.cell p _ ec
      exact fin _ (.base (.dK h)) w
    · rename_i C fs ec
      obtain ⟨ex, w⟩ := w
      split at w
      · rename_i b eb
        obtain ⟨_, h⟩ := o.cell p _ ec
        obtain ⟨oe, odx, J⟩ := exn_inst I h
        obtain ⟨u1, u2, rfl, r1, r2⟩ := vals2 rv
        cases (show u2 = Value.ref tp from r2)
        cases (show u1 = Value.ref p from r1)
        obtain ⟨_, its, rv2, o2, h1, h2, n, h3⟩ := (show ObjOk X.prog X.w H s.heap tp (.tup (cs.map (·.r.v))) from I.hok tp _ hT)
        have e3 := ClsV.all (clsV_all cs) rv2
        subst e3
        obtain ⟨oc, od, dt, sl⟩ := o2
        simp only at h2 h3
        subst h2 h3
        exact PySem.W.kia_tup (kitx_exn (od := odx) ex) (by rw [← hK]; exact I.kIn) J h1 (ansL_ok eb) (fun z => nomatch z) fun tk => ⟨.bl b, H, I.tok tk, rfl, post.at o (.bl _) w⟩
      · exact w.elim
    · exact w.elim
  · exact w.elim
def tClsL : List V → TA
  | [] => tNil
  | v :: r => tCons (tC v) (tClsL r)
theorem mCs_plain : ∀ {cs : List (Cn Γ)} {zs : List Expr}, mCs M cs zs = true → plainsB zs = true
  | [], [], _ => rfl
  | c :: cs, z :: zs, h => by
    unfold mCs at h
    split at h
    · cases ‹_ :: _ = []›
    · rename_i e1 e2
      cases e1; cases e2
      simp only [Bool.and_eq_true] at h
      have := mCs_plain h.2
      unfold plainsB at this ⊢
      rw [List.all_cons, this]
      rfl
    · cases h
  | [], _ :: _, h => by unfold mCs at h; cases h
  | _ :: _, [], h => by unfold mCs at h; cases h
theorem pa_cls (hx : CxOk Γ M X) : ∀ {cs : List (Cn Γ)} {zs : List Expr}, mCs M cs zs = true → PA X zs (tClsL (cs.map (·.r.v)))
  | [], [], _ => pa_nil
  | c :: cs, z :: zs, h => by
    unfold mCs at h
    split at h
    · cases ‹_ :: _ = []›
    · rename_i e1 e2
      cases e1; cases e2
      simp only [Bool.and_eq_true] at h
      obtain ⟨⟨⟨h1, h2⟩, h3⟩, h4⟩ := h
      have e := strB_eq h1
      subst e
      exact pa_cons (pe_cls c.r hx h2 h3) (pa_cls hx h4)
    · cases h
  | [], _ :: _, h => by unfold mCs at h; cases h
  | _ :: _, [], h => by unfold mCs at h; cases h
theorem tClsL_run {σ : L2.St} {H : Hp} {Q : List V → Hp → Prop} : ∀ {vs : List V}, Q vs H → tClsL vs σ H Q
  | [], h => h
  | v :: r, h => show tClsL r σ H fun xs H1 => Q (v :: xs) H1 from tClsL_run (vs := r) h
theorem snd_isiT {cs : List (Cn Γ)} {a : E Γ} {ae : Expr} {zs : List Expr} {k : Nat} {p p2 pos : Pos} (hx : CxOk Γ M X) (ga : AmbOk Γ) (hg0 : glB M.sc "isinstance" = true) (hz : mCs M cs zs = true) (hp : plainB ae = true) (ha : PE X ae (dV Γ.K B (wpE W a))) :
    PE X (.Call (.Name "isinstance" p) [ae, .Tuple zs k p2] [] pos) (dV Γ.K B (wpE W (.isiT cs a))) := by
  refine ⟨fun pins s τ H Q I hq => ?_⟩
  have h2 : PA X [.Tuple zs k p2] (tCons _ tNil) := pa_cons (pe_tup (pa_cls hx hz)) pa_nil
  refine (pe_callB (isiT_ok cs hx.K) (glB_eq hx.sc hg0) (by rw [hx.mg]; exact ga.bl _ (by decide)) (by decide +kernel) (pa_cons ha h2 (star_plain hp _ _)) (by decide) (by decide) (star_plain hp _ _) (back_any _ (stars_plain (by rfl) _))).run pins s τ H Q I ?_
  obtain ⟨N, F0, σ, Q0, o, sl, w, post⟩ := hq
  obtain ⟨hlen, w⟩ := w
  refine dV.bind o sl w fun v y N1 F1 H1 e1 o1 sl1 d1 w1 => ?_
  refine tClsL_run ⟨?_, fun tp hp' => ?_⟩
  · rw [List.length_map, sizeLine_eq]
    omega
  · obtain ⟨e2, o2⟩ := o1.still (u := .tup (cs.map (·.r.v))) hp'
    exact ⟨B, _, F1, v, y, tp, Q0, rfl, o2, d1.mono e2, upd_same, w1, post.mono (e1.trans e2)⟩
end
end Bv

/-! The tongue is true to the text: tests, a dict's display, moments within a block. -/
namespace Bv
open PySem L2 PyProof.Rows
abbrev noX : XS := fun _ _ _ _ => False
theorem Dvs.isEmpty {K : PySem.W.Frag} {N : Hp} {vs : List Val} {xs : List V} (h : Dvs K N vs xs) : xs.isEmpty = vs.isEmpty := by
  cases h <;> rfl
section
variable {K : PySem.W.Frag} {B C : Bs} {N H : Hp} {F : MH}
theorem truS_ok {a : Val} {x : V} {Q : Bool → Prop} (o : Ok K B N F H) (d : Dv K N a x) (h : truS a F Q) : ∃ k, TruV K x H k ∧ Q k := by
  unfold truS at h
  split at h
  · cases d; exact ⟨_, rfl, h⟩
  · cases d; exact ⟨_, rfl, h⟩
  · cases d; exact ⟨_, rfl, h⟩
  · cases d; exact ⟨_, ⟨h.1, rfl⟩, h.2⟩
  · obtain ⟨p, xs, rfl, hp, dd⟩ := d.tuple o.sub
    exact ⟨_, .inr (.inl ⟨xs, .inl (.inl hp), by rw [dd.isEmpty]⟩), h⟩
  · split at h
    · rename_i vs e
      obtain ⟨p, xs, rfl, hp, dd⟩ := lsOf_ok o d e
      exact ⟨_, .inl ⟨xs, .inl hp, by rw [dd.isEmpty]⟩, h⟩
    · exact h.elim
/-- the base does not keep what stands at p -/
def Bs.free (B : Bs) (p : Addr) : Prop := ∀ o, B.H p = some o → B.N p = Option.none → B.F p = Option.none → False
theorem Ok.free_of (o : Ok K B N F H) {p : Addr} (h : H p = Option.none) : B.free p := fun u h0 h1 h2 => by
  have := (o.kept p u h0 h1 h2).1
  rw [h] at this
  cases this
/-- what nobody tells is changed -/
theorem Ok.side (o : Ok K B N F H) {p : Addr} {u : HO} (hf : B.free p) (hN : N p = Option.none) (hF : F p = Option.none) (hx : ∀ xs, H p ≠ some (.xd xs)) : Ok K B N F (upd H p u) := by
  refine ⟨fun b x e => ?_, fun a c q => ⟨(o.cell a c q).1, (o.cell a c q).2.keep fun b x hb r => ?_⟩, fun a u' h0 h1 h2 => ?_, o.low⟩
  · have : b ≠ p := fun z => by rw [z, hN] at e; cases e
    rw [upd_ne this]
    exact o.sub b x e
  · have : b ≠ p := by
      intro z
      rcases hb with z2 | ⟨xs, z2⟩
      · rw [← z2, z, hF] at q; cases q
      · rw [z, z2] at r
        exact hx xs r
    rw [upd_ne this]
    exact r
  · obtain ⟨x, y, z⟩ := o.kept a u' h0 h1 h2
    have : a ≠ p := fun w => by rw [w] at h0 h1 h2; exact hf u' h0 h1 h2
    rw [upd_ne this]
    exact ⟨x, y, z⟩
/-- what stands untold becomes a cell -/
theorem Ok.tell (o : Ok K B N F H) {p : Addr} {c : Cell} (hf : B.free p) (hN : N p = Option.none) (hF : F p = Option.none) (hc : CellIn K N H p c) : Ok K B N (mset F p c) H := by
  refine ⟨o.sub, fun a d q => ?_, fun a u' h0 h1 h2 => ?_, o.low⟩
  · by_cases ha : a = p
    · subst ha; rw [mset_same] at q; cases q; exact ⟨hN, hc⟩
    · rw [mset_ne ha] at q; exact o.cell a d q
  · obtain ⟨x, y, z⟩ := o.kept a u' h0 h1 h2
    have : a ≠ p := fun w => by rw [w] at h0 h1 h2; exact hf u' h0 h1 h2
    exact ⟨x, y, by rw [mset_ne this]; exact z⟩
/-- .. or stands still from now on -/
theorem Ok.tellN (o : Ok K B N F H) {p : Addr} {u : HO} (hf : B.free p) (hN : N p = Option.none) (hF : F p = Option.none) (hu : H p = some u) : Same N (upd N p u) ∧ Ok K B (upd N p u) F H := by
  have e := same_upd (u := u) hN
  refine ⟨e, fun b x q => ?_, fun a c q => ?_, fun a u' h0 h1 h2 => ?_, o.low.trans e⟩
  · by_cases hb : b = p
    · subst hb; rw [upd_same] at q; rw [← q]; exact hu
    · rw [upd_ne hb] at q; exact o.sub b x q
  · have ha : a ≠ p := fun z => by rw [z, hF] at q; cases q
    exact ⟨by rw [upd_ne ha]; exact (o.cell a c q).1, (o.cell a c q).2.mono e⟩
  · obtain ⟨x, y, z⟩ := o.kept a u' h0 h1 h2
    have : a ≠ p := fun w => by rw [w] at h0 h1 h2; exact hf u' h0 h1 h2
    exact ⟨x, by rw [upd_ne this]; exact y, z⟩
end
section
variable {Γ : Amb} {M : Mc} {X : Cx} {B : Bs} {W : XS}
theorem takes_no {K : PySem.W.Frag} {C : Bs} : Takes X (liftW K C noX) := fun u s' ⟨_, _, _, _, _, _, _, _, _, _, _, _, _, _, _, _, w⟩ => by
  obtain ⟨_, _, _, _, _, _, _, _, _, f⟩ := w
  exact f.elim
/-- at some base -/
def dVx (K : PySem.W.Frag) (w : St1 → MH → Q1 → Prop) : TE := fun τ H Q => ∃ C, dV K C w τ H Q
def dTx (K : PySem.W.Frag) (w : St1 → MH → (Bool → MH → Prop) → Prop) : TT := fun τ H Q => ∃ C, dT K C w τ H Q
theorem pe_x {e : Expr} {w : St1 → MH → Q1 → Prop} (h : ∀ C, PE X e (dV Γ.K C w)) : PE X e (dVx Γ.K w) := ⟨fun pins s τ H Q I ⟨C, q⟩ => (h C).run pins s τ H Q I q⟩
theorem pts_x {es : List Expr} {w : St1 → MH → (Bool → MH → Prop) → Prop} (h : ∀ C, PTs X es (dT Γ.K C w)) : PTs X es (dTx Γ.K w) := ⟨fun pins s τ H Q I ⟨C, q⟩ => (h C).run pins s τ H Q I q⟩

theorem snd_t_val {a : E Γ} {e : Expr} (hx : CxOk Γ M X) (he : truB e = true) (ha : PE X e (dV Γ.K B (wpE W a))) : PT X e (dT Γ.K B (wpT W (.val a))) := by
  refine ⟨fun pins s τ H Q I hq => ?_⟩
  refine (pt_truth ha fun w => tru_plain he X.env w).run pins s τ H Q I ?_
  obtain ⟨N, F, σ, Q0, o, sl, w, post⟩ := hq
  refine dV.bind o sl w fun v x N1 F1 H1 e1 o1 sl1 d1 w1 => ?_
  obtain ⟨k, t, q⟩ := truS_ok o1 d1 w1
  exact ⟨k, by rw [hx.K]; exact t, post k N1 F1 H1 e1 o1 q⟩
theorem snd_t_cmp {op : CmpOp} {a b : E Γ} {l r : Expr} {pos : Pos} (hx : CxOk Γ M X) (hp : plainB r = true) (ha : PE X l (dV Γ.K B (wpE W a))) (hb : PE X r (dV Γ.K B (wpE W b))) : PT X (.Compare l [op] [r] pos) (dT Γ.K B (wpT W (.cmp op a b))) := by
  refine ⟨fun pins s τ H Q I hq => ?_⟩
  have ho := cmpS_ok (X := X) hx.room.units op
  rw [hx.K] at ho
  refine (pt_cmpR ho ha hb (marks_plain hp op)).run pins s τ H Q I ?_
  obtain ⟨N, F, σ, Q0, o, sl, w, post⟩ := hq
  refine dV.bind o sl w fun v x N1 F1 H1 e1 o1 sl1 d1 w1 => dV.bind o1 sl1 w1 fun v2 x2 N2 F2 H2 e2 o2 _ d2 w2 => ?_
  refine ⟨B, N2, F2, v, v2, _, o2, d1.mono e2, d2, w2, fun v3 x3 N3 F3 H3 e3 o3 d3 q3 => ?_⟩
  split at q3
  · cases d3
    exact ⟨_, rfl, post _ N3 _ H3 ((e1.trans e2).trans e3) o3 q3⟩
  · exact q3.elim
theorem rdD_dp {K : PySem.W.Frag} {B : Bs} {N H : Hp} {F : MH} (o : Ok K B N F H) : ∀ (n k : Nat) {v : Val} {x : V}, Dv K N v x → okD k (rdD F n v) = true → Dp K H x (toPD (rdD F n v))
  | 0, k, v, x, d, h => Dv.dp o.sub d h
  | n + 1, k, v, x, d, h => by
    have hall : ∀ {k : Nat} {vs : List Val} {xs : List V}, Dvs K N vs xs → (vs.map (rdD F n)).all (okD k) = true → DpAll K H xs ((vs.map (rdD F n)).map toPD) := by
      intro k vs
      induction vs with
      | nil => intro xs d _; cases d; exact .nil
      | cons v vs ih =>
        intro xs d h
        cases d with
        | cons d1 d2 =>
          rw [List.map_cons, List.all_cons, Bool.and_eq_true] at h
          rw [List.map_cons, List.map_cons]
          exact .cons (rdD_dp o n k d1 h.1) (ih d2 h.2)
    have hl : ∀ {a : Addr} {vs : List Val} {xs : List V}, SqL K H a xs → Dvs K N vs xs → okD k (.lst (vs.map (rdD F n))) = true → Dp K H (.ref a) (toPD (.lst (vs.map (rdD F n)))) := by
      intro a vs xs r t h
      cases k with
      | zero => simp [okD] at h
      | succ k => rw [toPD_lst]; exact .lst r (hall (k := k) t h)
    cases v with
    | ref p =>
      cases d
      have er : rdD F (n + 1) (.ref p) = (match F p with | some (.lst vs) => Val.lst (vs.map (rdD F n)) | some (.scr vs) => Val.lst (vs.map (rdD F n)) | _ => .ref p) := by
        first
          | (rw [rdD]; done)
          | (rw [rdD]; rcases F p with _ | c; rfl; cases c <;> rfl)
      rw [er] at h ⊢
      cases e : F p with
      | none => rw [e] at h; cases k <;> simp [okD] at h
      | some c =>
        rw [e] at h
        cases c with
        | lst vs =>
          obtain ⟨_, xs, hx, dd⟩ := o.cell p _ e
          exact hl (.inl (.inl hx)) dd h
        | scr vs =>
          obtain ⟨_, ob, xs, hx, dd⟩ := o.cell p _ e
          exact hl (.inl (.inr ⟨ob, hx⟩)) dd h
        | _ => cases k <;> simp [okD] at h
    | tup vs =>
      cases d with
      | tup r t =>
        have er : rdD F (n + 1) (.tup vs) = .tup (vs.map (rdD F n)) := by rw [rdD]
        rw [er] at h ⊢
        cases k with
        | zero => simp [okD] at h
        | succ k => rw [toPD_tup]; exact .tup (.inl (.inl (o.sub _ _ r))) (hall (k := k) t h)
    | lst vs =>
      cases d with
      | lst r t =>
        have er : rdD F (n + 1) (.lst vs) = .lst (vs.map (rdD F n)) := by rw [rdD]
        rw [er] at h ⊢
        exact hl (.inl (.inl (o.sub _ _ r))) t h
    | _ => exact Dv.dp o.sub d h
theorem neD_ok {X : Cx} (hu : X.A.units + 64 < cLine) : OpR X (compareOp .NotEq) (lift2 X.K fun a b F Q => neD a b F fun k => Q (.bl k) F) := by
  rintro pins s σ H x y v u Q I rx ry ⟨B, N, F, a, b, Q0, o, da, db, h, post⟩
  obtain ⟨h1, h2, h3⟩ := h
  exact op_neD hu pins s σ H _ _ v u Q I rx ry ⟨_, _, rdD_dp o 4 60 da h1, rdD_dp o 4 60 db h2, okD_shaped h1, okD_shaped h2, post.at o (.bl _) h3⟩
theorem op_eq_nil {X : Cx} (hu : X.A.units < cLine) : OpR X (compareOp .Eq) (fun x y H Q => ∃ a b ks, x = .ref a ∧ y = .ref b ∧ H a = some (.dK ks) ∧ H b = some (.dK []) ∧ Q (.bl ks.isEmpty) H) := by
  intro pins s σ H x y v u Q I rx ry h
  obtain ⟨a, b, ks, rfl, rfl, ea, eb, q⟩ := h
  obtain rfl : v = Value.ref a := rx
  obtain rfl : u = Value.ref b := ry
  obtain ⟨_, ya, va, ra, da⟩ := (show ObjOk X.prog X.w H s.heap a (.dK ks) from I.hok a _ ea)
  obtain ⟨_, yb, vb, rb, db⟩ := (show ObjOk X.prog X.w H s.heap b (.dK []) from I.hok b _ eb)
  cases rb
  refine PySem.W.keq_eq (knd := mixKind X.prog X.w) (r := true) ya yb da db hu (fun h => ?_) (fin_bl I q ?_)
  · have : va = [] := by simpa using h
    subst this
    exact .nil
  · cases ra with
    | nil => rfl
    | cons _ _ => rfl
theorem snd_t_dnil {a : E Γ} {l : Expr} {pos dp : Pos} (hx : CxOk Γ M X) (ha : PE X l (dV Γ.K B (wpE W a))) : PT X (.Compare l [.Eq] [.Dict [] [] dp] pos) (dT Γ.K B (wpT W (.dnil a))) := by
  refine ⟨fun pins s τ H Q I hq => ?_⟩
  refine (pt_cmpR (op_eq_nil (X := X) (Nat.lt_of_le_of_lt (Nat.le_add_right _ _) hx.room.units)) ha pe_dnewK rfl).run pins s τ H Q I ?_
  obtain ⟨N, F, σ, Q0, o, sl, w, post⟩ := hq
  refine dV.bind o sl w fun v x N1 F1 H1 e1 o1 sl1 d1 w1 => ?_
  split at w1
  · rename_i p
    cases d1
    split at w1
    · rename_i kvs ek
      obtain ⟨_, xs, hxs, dd⟩ := o1.cell p _ ek
      intro q hq
      obtain ⟨e2, o2⟩ := o1.still (u := .dK []) hq
      have hne : p ≠ q := fun z => by rw [z, hq] at hxs; cases hxs
      refine ⟨p, q, xs, rfl, rfl, by rw [upd_ne hne]; exact hxs, upd_same, ?_⟩
      have ei : xs.isEmpty = kvs.isEmpty := by
        have := dd.length
        cases kvs <;> cases xs <;> simp_all
      exact ⟨xs.isEmpty, rfl, post _ _ _ _ (e1.trans e2) o2 (by rw [ei]; exact w1)⟩
    · exact w1.elim
  · exact w1.elim
theorem snd_t_cmpD {a b : E Γ} {l r : Expr} {pos : Pos} (hx : CxOk Γ M X) (hp : plainB r = true) (ha : PE X l (dV Γ.K B (wpE W a))) (hb : PE X r (dV Γ.K B (wpE W b))) : PT X (.Compare l [.NotEq] [r] pos) (dT Γ.K B (wpT W (.cmpD a b))) := by
  refine ⟨fun pins s τ H Q I hq => ?_⟩
  have ho := neD_ok (X := X) hx.room.units
  rw [hx.K] at ho
  refine (pt_cmpR ho ha hb (marks_plain hp .NotEq)).run pins s τ H Q I ?_
  obtain ⟨N, F, σ, Q0, o, sl, w, post⟩ := hq
  refine dV.bind o sl w fun v x N1 F1 H1 e1 o1 sl1 d1 w1 => dV.bind o1 sl1 w1 fun v2 x2 N2 F2 H2 e2 o2 _ d2 w2 => ?_
  refine ⟨B, N2, F2, v, v2, fun z F3 => match z with | .bl k => Q0 k F3 | _ => False, o2, d1.mono e2, d2, w2, fun v3 x3 N3 F3 H3 e3 o3 d3 q3 => ?_⟩
  cases v3 <;> first | exact q3.elim | skip
  cases d3
  exact ⟨_, rfl, post _ N3 _ H3 ((e1.trans e2).trans e3) o3 q3⟩
theorem snd_t_chain {op op2 : CmpOp} {a b c : E Γ} {l r z : Expr} {pos : Pos} (hx : CxOk Γ M X) (hz : plainB z = true) (ha : PE X l (dV Γ.K B (wpE W a))) (hb : PE X r (dV Γ.K B (wpE W b))) (hc : PE X z (dV Γ.K B (wpE W c))) :
    PT X (.Compare l [op, op2] [r, z] pos) (dT Γ.K B (wpT W (.chain op op2 a b c))) := by
  refine ⟨fun pins s τ H Q I hq => ?_⟩
  have ho := cmpS_ok (X := X) hx.room.units op
  have ho2 := cmpS_ok (X := X) hx.room.units op2
  rw [hx.K] at ho ho2
  refine (pt_chain ho ho2 ha hb hc (show lastMarks [op, op2] [r, z] = false from marks_plain hz op2)).run pins s τ H Q I ?_
  obtain ⟨N, F, σ, Q0, o, sl, w, post⟩ := hq
  refine dV.bind o sl w fun v x N1 F1 H1 e1 o1 sl1 d1 w1 => dV.bind o1 sl1 w1 fun v2 x2 N2 F2 H2 e2 o2 sl2 d2 w2 => ?_
  refine ⟨B, N2, F2, v, v2, _, o2, d1.mono e2, d2, w2, fun v3 x3 N3 F3 H3 e3 o3 d3 w3 => ?_⟩
  split at w3
  · cases d3
    refine ⟨true, rfl, ?_⟩
    rw [if_pos rfl]
    refine dV.bind o3 (sl2.mono e3) w3 fun v4 x4 N4 F4 H4 e4 o4 _ d4 w4 => ?_
    refine ⟨B, N4, F4, v2, v4, _, o4, d2.mono (e3.trans e4), d4, w4, fun v5 x5 N5 F5 H5 e5 o5 d5 q5 => ?_⟩
    split at q5
    · cases d5
      exact ⟨_, rfl, post _ N5 _ H5 ((((e1.trans e2).trans e3).trans e4).trans e5) o5 q5⟩
    · exact q5.elim
  · cases d3
    refine ⟨false, rfl, ?_⟩
    rw [if_neg Bool.false_ne_true]
    exact ⟨false, rfl, post false N3 F3 H3 ((e1.trans e2).trans e3) o3 w3⟩
  · exact w3.elim
theorem snd_t_not {a : T Γ} {l : Expr} {pos : Pos} (ha : PT X l (dT Γ.K B (wpT W a))) : PT X (.UnaryOp .Not l pos) (dT Γ.K B (wpT W (.not a))) := by
  refine ⟨fun pins s τ H Q I hq => ?_⟩
  refine (pt_not ha).run pins s τ H Q I ?_
  obtain ⟨N, F, σ, Q0, o, sl, w, post⟩ := hq
  exact ⟨N, F, σ, _, o, sl, w, fun b N1 F1 H1 e1 o1 q1 => post _ N1 F1 H1 e1 o1 q1⟩
theorem snd_w1 {op : BoolOp} {a : T Γ} {l : Expr} {pos : Pos} (ha : PT X l (dT Γ.K B (wpT W a))) : PW X (.BoolOp op [l] pos) (dT Γ.K B (wpTs W op (.cons a .nil))) := by
  cases op with
  | And => exact pw_and1 ha
  | Or => exact pw_or1 ha
theorem snd_w {op : BoolOp} {a b : T Γ} {r : Ts Γ} {l m : Expr} {rest : List Expr} {pos : Pos} (ha : PT X l (dT Γ.K B (wpT W a))) (hb : PW X (.BoolOp op (m :: rest) pos) (dT Γ.K B (wpTs W op (.cons b r)))) :
    PW X (.BoolOp op (l :: m :: rest) pos) (dT Γ.K B (wpTs W op (.cons a (.cons b r)))) := by
  refine ⟨fun wh pins s τ H Q I hq => ?_⟩
  cases op with
  | And =>
    refine (pw_and ha hb).run wh pins s τ H Q I ?_
    obtain ⟨N, F, σ, Q0, o, sl, w, post⟩ := hq
    refine dT.bind o sl w fun c N1 F1 H1 e1 o1 sl1 w1 => ?_
    cases c with
    | true => exact ⟨N1, F1, σ, Q0, o1, sl1, w1, post.mono e1⟩
    | false => exact post _ N1 F1 H1 e1 o1 w1
  | Or =>
    refine (pw_or ha hb).run wh pins s τ H Q I ?_
    obtain ⟨N, F, σ, Q0, o, sl, w, post⟩ := hq
    refine dT.bind o sl w fun c N1 F1 H1 e1 o1 sl1 w1 => ?_
    cases c with
    | false => exact ⟨N1, F1, σ, Q0, o1, sl1, w1, post.mono e1⟩
    | true => exact post _ N1 F1 H1 e1 o1 w1
/-- {k: v} -/
theorem snd_dic1 {k v : E Γ} {ke ve : Expr} {pos : Pos} (hk : ∀ C, PE X ke (dV Γ.K C (wpE noX k))) (hv : ∀ C, PE X ve (dV Γ.K C (wpE noX v))) : PE X (.Dict [some ke] [ve] pos) (dV Γ.K B (wpE W (.dic1 k v))) := by
  refine ⟨fun pins s τ H Q I hq => ?_⟩
  refine (pe_disp (pps_cons (pe_x hk) (pe_x hv) pps_nil) rfl rfl (fun z => nomatch z) (Nat.le_add_left 1 14)).run pins s τ H Q I ?_
  obtain ⟨N, F, σ, Q0, o, sl, w, post⟩ := hq
  intro p hp
  obtain ⟨hN, hF⟩ := o.free hp
  have o0 := o.grow (same_upd (u := .dK []) hp)
  refine ⟨⟨N, F, upd H p (.dK [])⟩, dV.bind o0.here sl w fun x y N1 F1 H1 e1 o1 sl1 d1 w1 => ⟨⟨N1, F1, H1⟩, dV.bind o1.here sl1 w1 fun x2 y2 N2 F2 H2 e2 o2 sl2 d2 w2 => ?_⟩⟩
  obtain ⟨k1, k2, k3⟩ := o1.kept p _ upd_same hN hF
  obtain ⟨j1, j2, j3⟩ := o2.kept p _ k1 k2 k3
  cases d1 with
  | str s1 =>
    refine ⟨j1, [(Sum.inr s1, y2)], rfl, Nat.le_add_left 1 14, ?_⟩
    have o3 : Ok Γ.K B N2 F2 H2 := (o0.trans o1).trans o2
    have o4 := (o3.side (u := .dK [(Sum.inr s1, y2)]) (o.free_of hp) j2 j3 (fun xs z => by rw [j1] at z; cases z)).tell (c := .dict [(s1, x2)]) (o.free_of hp) j2 j3 ⟨_, upd_same, .cons ⟨rfl, d2⟩ .nil⟩
    exact post _ _ N2 _ _ (e1.trans e2) o4 (.ref p) (w2 p hF j3)
  | _ => exact w2.elim
end
end Bv

/-! The tongue is true to the text: targets, iterables, comprehensions. -/
/-! list(zip(xs, ys)) of two lists. -/
namespace LiZ
open PySem PySem.Spec PyProof.Rows L2
theorem nolen_zip : typeLookup (.type "zip") "__len__" = pure none := by rw [typeLookup_type, builtinLookup_eq_fast]; kernel_rfl
theorem nohint_zip : typeLookup (.type "zip") "__length_hint__" = pure none := by rw [typeLookup_type, builtinLookup_eq_fast]; kernel_rfl
/-- the zip's own things, at turn i, while the list at S is filled -/
def LzSt (z TI TO i1 i2 l1 l2 S : Addr) (xs ys : Array Value) (i : Nat) (h : Heap) : Prop :=
  IsPair h TI (.ref i1) (.ref i2) ∧ h.IsListIter i1 l1 i ∧ h.IsListIter i2 l2 i ∧ h.IsList l1 xs ∧ h.IsList l2 ys ∧
    ((IsZip h z TI TO .none ∧ ∃ a b, IsPair h TO a b) ∨ ∃ T f oT, IsZipHeld h z TI TO T f ∧ h.get? T = some oT ∧ T ≠ z ∧ T ≠ i1 ∧ T ≠ i2 ∧ T ≠ S)
structure LzOff (z TI TO i1 i2 l1 l2 S : Addr) : Prop where
  z : z ≠ S
  TI : TI ≠ S
  TO : TO ≠ S
  i1 : i1 ≠ S
  i2 : i2 ≠ S
  l1 : l1 ≠ S
  l2 : l2 ≠ S
theorem LzSt.keep {z TI TO i1 i2 l1 l2 S : Addr} {xs ys : Array Value} {i : Nat} {h h' : Heap} (st : LzSt z TI TO i1 i2 l1 l2 S xs ys i h) (D : LzOff z TI TO i1 i2 l1 l2 S) (hk : ∀ b o, b ≠ S → h.get? b = some o → h'.get? b = some o) : LzSt z TI TO i1 i2 l1 l2 S xs ys i h' := by
  obtain ⟨hTI, h1, h2, hl1, hl2, hz⟩ := st
  refine ⟨hk _ _ D.TI hTI, h1.at fun o e => hk _ o D.i1 e, h2.at fun o e => hk _ o D.i2 e, hl1.at fun o e => hk _ o D.l1 e, hl2.at fun o e => hk _ o D.l2 e, ?_⟩
  rcases hz with ⟨hz, a, b, hTO⟩ | ⟨T, f, oT, hz, hT, r1, r2, r3, r4⟩
  · exact .inl ⟨hk _ _ D.z hz, a, b, hk _ _ D.TO hTO⟩
  · exact .inr ⟨T, f, oT, hk _ _ D.z hz, hk _ _ r4 hT, r1, r2, r3, r4⟩
structure LzG (xs ys : Array Value) (lo : Addr) (h : Heap) (as : List Addr) : Prop where
  rise : as.Pairwise (· < ·)
  above : ∀ a ∈ as, lo < a
  pairs : ∀ (j : Nat) (a : Addr), as[j]? = some a → ∃ x y, xs[j]? = some x ∧ ys[j]? = some y ∧ h.get? a = some { cls := .type "tuple", data := .seq #[x, y] }
theorem LzG.there {xs ys : Array Value} {lo : Addr} {h : Heap} {as : List Addr} (g : LzG xs ys lo h as) {a : Addr} (ha : a ∈ as) : a < h.objs.size := by
  obtain ⟨j, hj⟩ := List.mem_iff_getElem?.mp ha
  obtain ⟨_, _, _, _, e⟩ := g.pairs j a hj
  exact Heap.lt_size e
section
variable {prog : Program} {w : World} {A : Around} {s : Shared} {z TI TO i1 i2 l1 l2 S : Addr} {xs ys : Array Value}
theorem lz_item {i : Nat} {x y : Value} {E : Value → Shared → Prop} {Q : Option Value → Shared → Prop} (D : ZipApart z TI TO i1 i2 l1 l2) (hst : LzSt z TI TO i1 i2 l1 l2 S xs ys i s.heap) (hS : S < s.heap.objs.size) (ex : xs[i]? = some x) (ey : ys[i]? = some y)
    (hQ : ∀ h', LzSt z TI TO i1 i2 l1 l2 S xs ys (i + 1) h' → h'.get? s.heap.objs.size = some { cls := .type "tuple", data := .seq #[x, y] } → h'.objs.size = s.heap.objs.size + 1 →
      (∀ b o, b ≠ z → b ≠ TO → b ≠ i1 → b ≠ i2 → s.heap.get? b = some o → h'.get? b = some o) → Q (some (.ref s.heap.objs.size)) { s with heap := h' }) :
    wpAny (model prog w) A (pyNext (.ref z)) Q E s := by
  obtain ⟨hTI, h1, h2, hl1, hl2, hz⟩ := hst
  have lt : ∀ {c o}, s.heap.get? c = some o → s.heap.objs.size ≠ c := fun e => Nat.ne_of_gt (Heap.lt_size e)
  have n1 : s.heap.objs.size ≠ i1 := let ⟨_, e, _⟩ := h1; lt e
  have n2 : s.heap.objs.size ≠ i2 := let ⟨_, e, _⟩ := h2; lt e
  rcases hz with ⟨hz, a, b, hTO⟩ | ⟨T, f, oT, hz, hT, r1, r2, r3, r4⟩
  · refine wpAny_pyNext_zip_item D hz hTI hTO h1 h2 hl1 hl2 ex ey fun h' a1 a2 a3 a4 a5 a6 hk => ?_
    exact hQ h' ⟨hk _ _ D.TIz D.TITO D.TIi1 D.TIi2 hTI, a3, a4, hl1.at fun o e => hk _ o D.l1z D.l1TO D.l1i1 D.l1i2 e, hl2.at fun o e => hk _ o D.l2z D.l2TO D.l2i1 D.l2i2 e,
        .inr ⟨s.heap.objs.size, false, _, a1, a5, lt hz, n1, n2, Nat.ne_of_gt hS⟩⟩ a5 a6 hk
  · refine wpAny_pyNext_zip_item_held D hz hT hTI h1 h2 hl1 hl2 ex ey fun h' a1 a3 a4 a5 a6 hk => ?_
    exact hQ h' ⟨hk _ _ D.TIz D.TIi1 D.TIi2 hTI, a3, a4, hl1.at fun o e => hk _ o D.l1z D.l1i1 D.l1i2 e, hl2.at fun o e => hk _ o D.l2z D.l2i1 D.l2i2 e,
        .inr ⟨T, true, oT, a1, hk _ _ r1 r2 r3 hT, r1, r2, r3, r4⟩⟩ a5 a6 fun c o c1 _ c3 c4 e => hk c o c1 c3 c4 e
theorem lz_done {i : Nat} {E : Value → Shared → Prop} {Q : Option Value → Shared → Prop} (hh : A.handled = none) (D : ZipApart z TI TO i1 i2 l1 l2) (hst : LzSt z TI TO i1 i2 l1 l2 S xs ys i s.heap) (hend : xs[i]? = none ∨ ys[i]? = none)
    (hQ : ∀ h', (∀ b o, b ≠ z → b ≠ TO → b ≠ i1 → b ≠ i2 → s.heap.get? b = some o → h'.get? b = some o) → Q none { s with heap := h' }) : wpAny (model prog w) A (pyNext (.ref z)) Q E s := by
  obtain ⟨hTI, h1, h2, hl1, hl2, hz⟩ := hst
  rcases hz with ⟨hz, a, b, hTO⟩ | ⟨T, f, oT, hz, hT, r1, r2, r3, r4⟩
  · exact wpAny_pyNext_zip_end hh D hz hTI hTO h1 h2 hl1 hl2 hend hQ
  · exact wpAny_pyNext_zip_end_held hh D hz hT hTI h1 h2 hl1 hl2 hend fun h' hk => hQ h' fun c o c1 _ c3 c4 e => hk c o c1 c3 c4 e
theorem lz_loop {R : Result → Shared → Prop} (hh : A.handled = none) (D : ZipApart z TI TO i1 i2 l1 l2) (O : LzOff z TI TO i1 i2 l1 l2 S) (hzS : z < S ∧ TO < S ∧ i1 < S ∧ i2 < S) (hn : min xs.size ys.size ≤ sizeLine) (res : Value) {h₁ : Heap}
    (hR : ∀ h' acc c as, (∀ b o, b ≠ S → b ≠ z → b ≠ TO → b ≠ i1 → b ≠ i2 → h₁.get? b = some o → h'.get? b = some o) → h'.get? S = some { cls := .type "list", dict := none, data := .seq acc c, slots := #[] } → as.length = min xs.size ys.size → LzG xs ys S h' as →
      acc.toList = as.map Value.ref → R (.ok (.ret res)) { s with heap := h' }) :
    ∀ (k i : Nat) (h : Heap) (c : Nat) (acc : Array Value) (as : List Addr), min xs.size ys.size - i = k → i ≤ min xs.size ys.size → LzSt z TI TO i1 i2 l1 l2 S xs ys i h → (∀ b o, b ≠ S → b ≠ z → b ≠ TO → b ≠ i1 → b ≠ i2 → h₁.get? b = some o → h.get? b = some o) →
      h.get? S = some { cls := .type "list", dict := none, data := .seq acc c, slots := #[] } → acc.toList = as.map Value.ref → as.length = i → LzG xs ys S h as →
      codeAny (model prog w) A (.builtin "list.extend.loop" ⟨[.ref S, .ref z, res], []⟩) R { s with heap := h } := by
  obtain ⟨q1, q2, q3, q4⟩ := hzS
  intro k
  induction k with
  | zero =>
    intro i h c acc as hk hi hst hkeep hS hacc hal hG
    have hin : i = min xs.size ys.size := by omega
    refine codeAny_builtin PySem.F.entry_extend_loop ?_
    rw [Around.under_plainId PySem.F.plain_extend_loop _]
    show wpAny _ A.in1 (pyNext (.ref z) >>= _) _ _ _
    have hend : xs[i]? = none ∨ ys[i]? = none := by
      rcases Nat.le_total xs.size ys.size with h | h
      · exact .inl (Array.getElem?_eq_none (by rw [hin, Nat.min_eq_left h]; exact Nat.le_refl _))
      · exact .inr (Array.getElem?_eq_none (by rw [hin, Nat.min_eq_right h]; exact Nat.le_refl _))
    refine wpAny_bind (lz_done (s := { s with heap := h }) (A := A.in1) hh D hst hend fun h' he => ?_)
    refine wpAny_pure (hR h' acc c as (fun b o h1 h2 h3 h4 h5 e => he b o h2 h3 h4 h5 (hkeep b o h1 h2 h3 h4 h5 e)) (he S _ O.z.symm O.TO.symm O.i1.symm O.i2.symm hS) (by omega) ⟨hG.rise, hG.above, fun j a hj => ?_⟩ hacc)
    obtain ⟨x, y, e1, e2, e3⟩ := hG.pairs j a hj
    have ha := hG.above a (List.mem_of_getElem? hj)
    exact ⟨x, y, e1, e2, he a _ (Nat.ne_of_gt (Nat.lt_trans q1 ha)) (Nat.ne_of_gt (Nat.lt_trans q2 ha)) (Nat.ne_of_gt (Nat.lt_trans q3 ha)) (Nat.ne_of_gt (Nat.lt_trans q4 ha)) e3⟩
  | succ k ih =>
    intro i h c acc as hk hi hst hkeep hS hacc hal hG
    have hlt : i < min xs.size ys.size := by omega
    have hix : i < xs.size := Nat.lt_of_lt_of_le hlt (Nat.min_le_left ..)
    have hiy : i < ys.size := Nat.lt_of_lt_of_le hlt (Nat.min_le_right ..)
    have ex := Array.getElem?_eq_getElem hix
    have ey := Array.getElem?_eq_getElem hiy
    have hsz : acc.size = i := by rw [← Array.length_toList, hacc, List.length_map, hal]
    have hSl : S < h.objs.size := Heap.lt_size hS
    refine codeAny_builtin PySem.F.entry_extend_loop ?_
    rw [Around.under_plainId PySem.F.plain_extend_loop _]
    show wpAny _ A.in1 (pyNext (.ref z) >>= _) _ _ _
    refine wpAny_bind (lz_item (s := { s with heap := h }) D hst hSl ex ey fun h' hst' ht hz hkp => ?_)
    dsimp only at ht hz hkp ⊢
    have hS' := hkp S _ O.z.symm O.TO.symm O.i1.symm O.i2.symm hS
    have up : ∀ b o, b ≠ S → h'.get? b = some o → (h'.update S (Obj.mapSeq (·.push (Value.ref h.objs.size)))).get? b = some o := fun b o hb e => (Heap.get?_update_other _ _ (Ne.symm hb)).trans e
    show wpAny _ A.in1 (updateSeq S (·.push (Value.ref h.objs.size)) >>= _) _ _ _
    refine wpAny_bind ?_
    refine wpAny_updateSeq hS' rfl (wpAny_pure ⟨plainId_quiet PySem.F.plain_extend_loop _, ih (i + 1) _ _ (acc.push (Value.ref h.objs.size)) (as ++ [h.objs.size]) (by omega) hlt (hst'.keep O up)
      (fun b o h1 h2 h3 h4 h5 e => up b o h1 (hkp b o h2 h3 h4 h5 (hkeep b o h1 h2 h3 h4 h5 e))) (Heap.get?_update_self _ hS' rfl) (by rw [Array.toList_push, hacc, List.map_append]; rfl) (by rw [List.length_append, hal]; rfl) ⟨?_, ?_, ?_⟩⟩) (by rw [hsz]; omega) (by show (acc.push (Value.ref h.objs.size)).size ≤ sizeLine + 1; rw [Array.size_push, hsz]; omega)
    · refine List.pairwise_append.mpr ⟨hG.rise, List.pairwise_singleton _ _, fun a ha b hb => ?_⟩
      rw [List.mem_singleton.mp hb]
      exact hG.there ha
    · intro a ha
      rcases List.mem_append.mp ha with ha | ha
      · exact hG.above a ha
      · rw [List.mem_singleton.mp ha]; exact hSl
    · intro j b hj
      rcases Nat.lt_trichotomy j as.length with h1 | h1 | h1
      · rw [List.getElem?_append_left h1] at hj
        obtain ⟨x', y', e1, e2, e3⟩ := hG.pairs j b hj
        have hb := hG.above b (List.mem_of_getElem? hj)
        exact ⟨x', y', e1, e2, up b _ (Nat.ne_of_gt hb) (hkp b _ (Nat.ne_of_gt (Nat.lt_trans q1 hb)) (Nat.ne_of_gt (Nat.lt_trans q2 hb)) (Nat.ne_of_gt (Nat.lt_trans q3 hb)) (Nat.ne_of_gt (Nat.lt_trans q4 hb)) e3)⟩
      · subst h1
        have hb : h.objs.size = b := by simpa using hj
        subst hb
        exact ⟨_, _, by rw [hal]; exact ex, by rw [hal]; exact ey, up _ _ (Nat.ne_of_gt hSl) ht⟩
      · have hnone : (as ++ [h.objs.size])[j]? = none := List.getElem?_eq_none (by rw [List.length_append, List.length_singleton]; omega)
        rw [hnone] at hj; cases hj
theorem lz_extend {R : Result → Shared → Prop} (hh : A.handled = none) (D : ZipApart z TI TO i1 i2 l1 l2) (O : LzOff z TI TO i1 i2 l1 l2 S) (hzS : z < S ∧ TO < S ∧ i1 < S ∧ i2 < S) (hn : min xs.size ys.size ≤ sizeLine) (res : Value) (c₀ : Nat) (hz : IsZip s.heap z TI TO .none) (hst : LzSt z TI TO i1 i2 l1 l2 S xs ys 0 s.heap)
    (hS : s.heap.get? S = some { cls := .type "list", data := .seq #[] c₀ })
    (hR : ∀ h' acc c as, (∀ b o, b ≠ S → b ≠ z → b ≠ TO → b ≠ i1 → b ≠ i2 → s.heap.get? b = some o → h'.get? b = some o) → h'.get? S = some { cls := .type "list", dict := none, data := .seq acc c, slots := #[] } → as.length = min xs.size ys.size → LzG xs ys S h' as →
      acc.toList = as.map Value.ref → R (.ok (.ret res)) { s with heap := h' }) :
    wpAny (model prog w) A.in1 (Builtin.List.listExtendWith (.ref S) (.ref z) res)
      (fun fin s' => match fin with | .done f => R (.ok f) s' | .again c' => c'.quiet = true ∧ codeAny (model prog w) A c' R s') (fun e s' => R (.error e) s') s := by
  have hT : s.TypeIs (.ref z) "zip" := ⟨_, hz, rfl⟩
  unfold Builtin.List.listExtendWith
  refine wpAny_bind (wpAny_typeOf hT ?_)
  have h1 : Builtin.List.listSameRef (.ref S) (.ref z) = false := by simp [Builtin.List.listSameRef, O.z.symm]
  have h2 : (Value.type "zip" == Value.type "list") = false := by decide
  have h3 : (Value.type "zip" == Value.type "tuple") = false := by decide
  simp only [h1, h2, h3, Bool.or_false, Bool.false_eq_true, if_false]
  refine wpAny_bind (wpAny_pyIter_zip hz ?_)
  refine wpAny_bind (wpAny_holding ?_)
  unfold Builtin.List.listLengthHint
  refine wpAny_bind (wpAny_specialOf hT nolen_zip ?_)
  show wpAny _ A.in1 (specialOf (Value.ref z) (Str.ofString "__length_hint__") >>= _) _ _ _
  refine wpAny_bind (wpAny_specialOf hT nohint_zip ?_)
  refine wpAny_pure ?_
  show wpAny _ A.in1 (rule "list.extend.makes-room" >>= fun _ => Builtin.List.listTouch (.ref S) >>= fun _ =>
    again (.builtin "list.extend.loop" ⟨[.ref S, .ref z, res], []⟩)) _ _ _
  refine wpAny_bind (wpAny_rule ?_)
  refine wpAny_bind ?_
  show wpAny _ A.in1 (updateSeq S (·.push .none) >>= fun _ => updateSeq S (·.pop)) _ _ _
  refine wpAny_bind (wpAny_updateSeq hS rfl ?_)
  have hS₂ := Heap.get?_update_self (Obj.mapSeq (·.push Value.none)) hS rfl
  refine wpAny_updateSeq (hz := by seq_fits) hS₂ rfl ?_
  have hS₃ := Heap.get?_update_self (Obj.mapSeq (·.pop)) hS₂ rfl
  have oth : ∀ b o, b ≠ S → s.heap.get? b = some o → ((s.heap.update S (Obj.mapSeq (·.push Value.none))).update S (Obj.mapSeq (·.pop))).get? b = some o :=
    fun b o hb e => (Heap.get?_update_other _ _ (Ne.symm hb)).trans ((Heap.get?_update_other _ _ (Ne.symm hb)).trans e)
  exact wpAny_pure ⟨plainId_quiet PySem.F.plain_extend_loop _, lz_loop (s := s) (h₁ := s.heap) hh D O hzS hn res hR (min xs.size ys.size) 0 _ _ #[] [] (Nat.sub_zero _) (Nat.zero_le _)
    (hst.keep O oth) (fun b o hb _ _ _ _ e => oth b o hb e) hS₃ rfl rfl ⟨List.Pairwise.nil, (fun _ ha => nomatch ha), (fun j a hj => by simp at hj)⟩⟩
/-- list(z), z a zip just made of the lists at l1 and l2 -/
theorem lz_call {E : Value → Shared → Prop} {Q : Value → Shared → Prop} (hh : A.handled = none) (D : ZipApart z TI TO i1 i2 l1 l2) (hn : min xs.size ys.size ≤ sizeLine) (hz : IsZip s.heap z TI TO .none) (hst : ∀ S, S = s.heap.objs.size → LzSt z TI TO i1 i2 l1 l2 S xs ys 0 s.heap)
    (hQ : ∀ h' acc c as, (∀ b o, b ≠ z → b ≠ TO → b ≠ i1 → b ≠ i2 → s.heap.get? b = some o → h'.get? b = some o) → h'.get? s.heap.objs.size = some { cls := .type "list", dict := none, data := .seq acc c, slots := #[] } → as.length = min xs.size ys.size → LzG xs ys s.heap.objs.size h' as →
      acc.toList = as.map Value.ref → Q (.ref s.heap.objs.size) { s with heap := h' }) :
    wpAny (model prog w) A (call (.type "list") [.ref z]) Q E s := by
  obtain ⟨hTI, ⟨o1, e1, _⟩, ⟨o2, e2, _⟩, ⟨o3, e3, _⟩, ⟨o4, e4, _⟩, hz'⟩ := hst _ rfl
  have hTO : ∃ o, s.heap.get? TO = some o := by
    rcases hz' with ⟨_, a, b, hTO⟩ | ⟨T, f, oT, hz2, _⟩
    · exact ⟨_, hTO⟩
    · have e : s.heap.get? z = some _ := hz
      have e' : s.heap.get? z = some _ := hz2
      rw [e'] at e
      cases e
  obtain ⟨o5, e5⟩ := hTO
  have O : LzOff z TI TO i1 i2 l1 l2 s.heap.objs.size := ⟨Nat.ne_of_lt (Heap.lt_size hz), Nat.ne_of_lt (Heap.lt_size hTI), Nat.ne_of_lt (Heap.lt_size e5), Nat.ne_of_lt (Heap.lt_size e1), Nat.ne_of_lt (Heap.lt_size e2), Nat.ne_of_lt (Heap.lt_size e3), Nat.ne_of_lt (Heap.lt_size e4)⟩
  refine callType_codes (Q₁ := fun obj s₁ => obj = .ref s.heap.objs.size ∧ s₁ = { s with heap := s.heap.push { cls := .type "list", data := .seq #[] } }) PySem.F.called_list (PySem.F.typeCall_list_1 _) PySem.F.entry_list_init
    (code_list_new _ ⟨rfl, rfl⟩) fun obj s₁ h₁ => ?_
  obtain ⟨rfl, rfl⟩ := h₁
  have hS : (s.heap.push { cls := .type "list", data := .seq #[] }).get? s.heap.objs.size = some { cls := .type "list", data := .seq #[] } := Heap.get?_push_size _ rfl
  refine ⟨⟨_, hS, rfl⟩, PySem.F.args_list_init_2 _ _, ?_⟩
  show wpAny _ _ (do let old ← Builtin.List.listItems (.ref s.heap.objs.size); Builtin.List.listUpdate (.ref s.heap.objs.size) (fun _ => #[]); letGo old.toList.reverse; Builtin.List.listExtendWith (.ref s.heap.objs.size) (.ref z) .none) _ _ _
  refine wpAny_bind ?_
  unfold Builtin.List.listItems
  refine wpAny_bind (wpAny_seqItems hS rfl (wpAny_pure ?_))
  show wpAny _ _ (updateSeq s.heap.objs.size (fun _ => #[]) >>= fun _ => letGo (#[] : Array Value).toList.reverse >>= fun _ => Builtin.List.listExtendWith (.ref s.heap.objs.size) (.ref z) .none) _ _ _
  refine wpAny_bind (wpAny_updateSeq hS rfl ?_)
  have hS2 := Heap.get?_update_self (Obj.mapSeq (fun _ => (#[] : Array Value))) hS rfl
  refine wpAny_bind (wpAny_letGo ?_)
  have up : ∀ b o, b ≠ s.heap.objs.size → s.heap.get? b = some o → ((s.heap.push { cls := .type "list", data := .seq #[] }).update s.heap.objs.size (Obj.mapSeq (fun _ => (#[] : Array Value)))).get? b = some o := fun b o hb e =>
    (Heap.get?_update_other _ _ (Ne.symm hb)).trans (Heap.get?_push_of_some _ e)
  exact lz_extend (A := A.in1) (s := { s with heap := (s.heap.push { cls := .type "list", data := .seq #[] }).update s.heap.objs.size (Obj.mapSeq (fun _ => (#[] : Array Value))) }) (R := wants (fun r s₂ => r = .none ∧ Q (.ref s.heap.objs.size) s₂) E) hh D O
    ⟨Heap.lt_size hz, Heap.lt_size e5, Heap.lt_size e1, Heap.lt_size e2⟩ hn .none _ (up _ _ O.z hz) ((hst _ rfl).keep O up) hS2
    fun h' acc c as hk hS' hl hG hacc => ⟨rfl, hQ h' acc c as (fun b o b1 b2 b3 b4 e => hk b o (Nat.ne_of_lt (Heap.lt_size e)) b1 b2 b3 b4 (up b o (Nat.ne_of_lt (Heap.lt_size e)) e)) hS' hl hG hacc⟩
end
/-- pairs put at their addresses -/
def putP : Hp → List Addr → List (V × V) → Hp
  | H, a :: as, p :: ps => putP (upd H a (.tup [p.1, p.2])) as ps
  | H, _, _ => H
theorem putP_off {b : Addr} : ∀ (as : List Addr) (ps : List (V × V)) (H : Hp), b ∉ as → putP H as ps b = H b
  | [], _, _, _ => rfl
  | _ :: _, [], _, _ => rfl
  | a :: as, p :: ps, H, h => by
    show putP (upd H a (.tup [p.1, p.2])) as ps b = H b
    rw [putP_off as ps _ (fun z => h (List.mem_cons_of_mem _ z)), upd_ne (fun z => h (by rw [z]; exact List.mem_cons_self))]
theorem putP_at : ∀ (as : List Addr) (ps : List (V × V)) (H : Hp), as.length = ps.length → as.Nodup → Paired (fun (t : Addr) (p : V × V) => putP H as ps t = some (.tup [p.1, p.2])) as ps
  | [], [], _, _, _ => .nil
  | [], _ :: _, _, h, _ => by cases h
  | _ :: _, [], _, h, _ => by cases h
  | a :: as, p :: ps, H, h, hn => by
    have hn' := List.nodup_cons.mp hn
    have ih := putP_at as ps (upd H a (.tup [p.1, p.2])) (Nat.succ.inj h) hn'.2
    refine .cons ?_ ih
    show putP (upd H a (.tup [p.1, p.2])) as ps a = some (.tup [p.1, p.2])
    rw [putP_off as ps _ hn'.1, upd_same]
def rZipL (K : PySem.W.Frag) : List V → Hp → VK → Prop := fun vs H Q => ∃ (a b : Addr) (xs ys : List V), vs = [.ref a, .ref b] ∧ SqL K H a xs ∧ SqL K H b ys ∧
  ∀ (p : Addr) (ts : List Addr), H p = none → (∀ t ∈ ts, H t = none) → p ∉ ts → ts.Nodup → ts.length = (xs.zip ys).length → Q (.ref p) (upd (putP H ts (xs.zip ys)) p (.lst (ts.map V.ref)))
def tListZip (K : PySem.W.Frag) (ta : TA) : TE := fun σ H Q => ta σ H fun vs H1 => rZipL K vs H1 Q
section
variable {X : Cx} {e e2 : Expr} {ta : TA} {p p2 pos pos2 : Pos}
theorem zip_laid {pins : List (Addr × Obj)} {σ : L2.St} {H : Hp} {s : Shared} {h' : Heap} {S : Addr} {xs ys : List V} {us ws : List Value} {acc : Array Value} {c : Nat} {as : List Addr} (I : Inv X pins σ H s) (rx : Vals xs us) (ry : Vals ys ws) (hz : (xs.zip ys).length ≤ sizeLine) (hS0 : s.heap.objs.size ≤ S)
    (hk : ∀ b o, s.heap.get? b = some o → h'.get? b = some o) (hS : h'.get? S = some { cls := .type "list", dict := none, data := .seq acc c, slots := #[] }) (hl : as.length = (xs.zip ys).length) (hG : LzG us.toArray ws.toArray S h' as) (hacc : acc.toList = as.map Value.ref) :
    H S = none ∧ (∀ t ∈ as, H t = none) ∧ S ∉ as ∧ as.Nodup ∧ Inv X pins σ (upd (putP H as (xs.zip ys)) S (.lst (as.map V.ref))) { s with heap := h' } := by
  have hSn : S ∉ as := fun z => Nat.lt_irrefl _ (hG.above _ z)
  have nd : as.Nodup := List.Pairwise.imp (fun {a b} (h : a < b) => Nat.ne_of_lt h) hG.rise
  have new : ∀ t ∈ as, H t = none := fun t ht => I.hok.fresh (Nat.le_of_lt (Nat.lt_of_le_of_lt hS0 (hG.above t ht)))
  have newS : H S = none := I.hok.fresh hS0
  have atP := putP_at as (xs.zip ys) H hl nd
  have off : ∀ b, b ∉ as → b ≠ S → upd (putP H as (xs.zip ys)) S (.lst (as.map V.ref)) b = H b := fun b h1 h2 => by rw [upd_ne h2, putP_off as _ _ h1]
  have low : ∀ b o, s.heap.get? b = some o → b ∉ as ∧ b ≠ S := fun b o e => ⟨fun z => absurd (Nat.lt_of_lt_of_le (Heap.lt_size e) hS0) (Nat.not_lt.mpr (Nat.le_of_lt (hG.above b z))), Nat.ne_of_lt (Nat.lt_of_lt_of_le (Heap.lt_size e) hS0)⟩
  have kp : ∀ b u, H b = some u → (upd (putP H as (xs.zip ys)) S (.lst (as.map V.ref))) b = some u := fun b u e => by
    rw [off b (fun z => by rw [new b z] at e; cases e) (fun z => by rw [z, newS] at e; cases e)]
    exact e
  refine ⟨newS, new, hSn, nd, ?_⟩
  refine I.call' (s' := { s with heap := h' }) (ch := []) rfl ⟨fun b o q _ _ _ => hk b o q, fun b o q _ _ _ => ⟨o.slots, hk b o q⟩, fun b o q n _ => ?_, fun b o q _ => ⟨o, hk b o q⟩, fun b xs q => kp b _ q, fun b o u q => kp b _ q, fun b ps q => ⟨#[], by rw [kp b _ q]; simp⟩⟩ (fun b u q => ?_) I.bare fun b z => by simp at z
  · obtain ⟨z1, z2⟩ := low b o q
    rw [off b z1 z2]
    exact n
  · by_cases hb2 : b = S
    · rw [hb2] at q ⊢
      rw [upd_same] at q
      cases q
      refine ⟨by rw [List.length_map]; omega, acc.toList, c, by rw [hacc]; exact LiI.vals_refs as, ?_⟩
      rw [Array.toArray_toList]
      exact hS
    · by_cases hb : b ∈ as
      · rw [upd_ne hb2] at q
        obtain ⟨j, pk, e1, e2, e3⟩ := LiI.paired_ix atP hb
        rw [e3] at q
        cases q
        obtain ⟨x, y, f1, f2, f3⟩ := hG.pairs j b e1
        rw [List.getElem?_zip_eq_some] at e2
        obtain ⟨u1, g1, r1⟩ := rx.get e2.1
        obtain ⟨u2, g2, r2⟩ := ry.get e2.2
        have f1' : us[j]? = some x := by simpa using f1
        have f2' : ws[j]? = some y := by simpa using f2
        rw [g1] at f1'
        rw [g2] at f2'
        cases f1'
        cases f2'
        exact ⟨by show 2 ≤ sizeLine; decide, [x, y], .cons r1 (.cons r2 .nil), ⟨_, f3, rfl, _, rfl⟩⟩
      · rw [off b hb hb2] at q
        exact (I.hok b u q).stay (fun d v _ y => hk d v y) (fun d y => kp d _ y) fun d xs y => kp d _ y
theorem pe_listZip (hc : X.calm = true) (hg : Gl X "list") (hm : X.mg "list" = none) (hg2 : Gl X "zip") (hm2 : X.mg "zip" = none) (ha : PA X [e, e2] ta)
    (hs2 : starEach [e, e2] X.env = (false, eval e X.env) :: starEach [e2] X.env := by rfl) (hpl : (backTo pos2 (starEach [e2] X.env)).any (·.1) = false := by rfl)
    (hs : starEach [.Call (.Name "zip" p2) [e, e2] [] pos2] X.env = (false, eval (.Call (.Name "zip" p2) [e, e2] [] pos2) X.env) :: starEach [] X.env := by rfl) :
    PE X (.Call (.Name "list" p) [.Call (.Name "zip" p2) [e, e2] [] pos2] [] pos) (tListZip X.K ta) := by
  refine ⟨fun pins s σ H Q I h => ?_⟩
  refine wpAny_Call_Name_kw (ld_blt I hg hm (by rfl) ?_)
  refine PyProof.Rows.callWith_type1 ?_ hs rfl
  rw [hs]
  show wpAny _ _ (spliced ((false, eval (.Call (.Name "zip" p2) [e, e2] [] pos2) X.env) :: backTo pos (starEach [] X.env))) _ _ s
  refine Calls.spliced_cons ?_
  refine Call_ (ld_blt I hg2 hm2 PyProof.Rows.boot_zip (PyProof.Rows.callWith_type1 (thn (ha.run pos2 pins s σ H _ I h) fun us s1 ⟨vs, H1, I1, r1, q1⟩ => ?_) hs2 hpl))
  obtain ⟨a, b, xs, ys, ex, hqx, hqy, q⟩ := q1
  subst ex
  cases r1 with
  | cons r rr =>
    cases rr with
    | cons r' rr =>
      cases rr
      cases r
      cases r'
      obtain ⟨its, rv, p1, z1⟩ := I1.list hqx
      obtain ⟨its2, rv2, p2', z2⟩ := I1.list hqy
      have la : a < s1.heap.objs.size := p1.lt
      have lb : b < s1.heap.objs.size := p2'.lt
      have len1 := rv.length
      have len2 := rv2.length
      have hmin : min its.toArray.size its2.toArray.size = (xs.zip ys).length := by rw [List.length_zip, List.size_toArray, List.size_toArray, ← len1, ← len2]
      have hle : (xs.zip ys).length ≤ sizeLine := by rw [List.length_zip]; exact Nat.le_trans (Nat.min_le_left _ _) z1
      refine call_zip_2 p1.isList p2'.isList fun h' hz hTI hTO h1 h2 hsz hk => Calls.spliced_nil ?_
      have I2 : Inv X pins σ H1 { s1 with heap := h' } := I1.kept (t' := s1.toks) hk
      refine lz_call (s := { s1 with heap := h' }) (xs := its.toArray) (ys := its2.toArray) (I1.ok.hd hc) (PySem.W.ktu_apart s1.heap.objs.size a b la lb) (by rw [hmin]; exact hle) hz (fun S _ => ⟨hTI, h1, h2, p1.isList.at fun o e => hk _ o e, p2'.isList.at fun o e => hk _ o e, .inl ⟨hz, _, _, hTO⟩⟩) fun h2 acc c as hk2 hS hl hG hacc => ?_
      have nz : ∀ c o, s1.heap.get? c = some o → c ≠ s1.heap.objs.size + 4 ∧ c ≠ s1.heap.objs.size + 3 ∧ c ≠ s1.heap.objs.size ∧ c ≠ s1.heap.objs.size + 1 := fun c o e => by
        have hlt : c < s1.heap.objs.size := Heap.lt_size e
        exact ⟨Nat.ne_of_lt (Nat.lt_of_lt_of_le hlt (Nat.le_add_right _ _)), Nat.ne_of_lt (Nat.lt_of_lt_of_le hlt (Nat.le_add_right _ _)), Nat.ne_of_lt hlt, Nat.ne_of_lt (Nat.lt_of_lt_of_le hlt (Nat.le_add_right _ _))⟩
      obtain ⟨k1, k2, k3, k4, J⟩ := zip_laid (h' := h2) (S := h'.objs.size) I1 rv rv2 hle (by rw [hsz]; exact Nat.le_add_right _ 5) (fun c o e => by
        obtain ⟨n1, n2, n3, n4⟩ := nz c o e
        exact hk2 c o n1 n2 n3 n4 (hk c o e)) hS (hl.trans hmin) hG hacc
      exact ⟨.ref _, _, J, rfl, q _ as k1 k2 k3 k4 (hl.trans hmin)⟩
end
end LiZ
namespace Bv
open PySem L2 PyProof.Rows
theorem wipe_get {τ : L2.St} {j : Nat} : ∀ {vs : List Nat}, (wipe τ vs)[j]? = if j ∈ vs then (τ[j]?).map (fun _ => none) else τ[j]?
  | [] => by simp [wipe]
  | v :: vs => by
    unfold wipe
    rw [List.getElem?_set, wipe_get (vs := vs), wipe_length]
    by_cases h : v = j
    · subst h
      by_cases hl : v < τ.length
      · simp [hl]
      · simp [hl]
    · by_cases h2 : j ∈ vs
      · simp [h, h2]
      · simp [h, h2, Ne.symm h]
theorem wipe_set {τ : L2.St} {i : Nat} {o : Option V} {vs : List Nat} (h : i ∈ vs) : wipe (τ.set i o) vs = wipe τ vs := by
  apply List.ext_getElem?
  intro j
  rw [wipe_get, wipe_get]
  by_cases hj : j ∈ vs
  · rw [if_pos hj, if_pos hj, List.getElem?_set]
    by_cases e : i = j
    · subst e
      by_cases hl : i < τ.length
      · simp [hl]
      · simp [hl]
    · simp [e]
  · rw [if_neg hj, if_neg hj]
    have e : i ≠ j := fun z => hj (z ▸ h)
    rw [List.getElem?_set_ne e]
theorem wipe_wipe {τ : L2.St} {vs : List Nat} : wipe (wipe τ vs) vs = wipe τ vs := by
  apply List.ext_getElem?
  intro j
  rw [wipe_get, wipe_get]
  by_cases hj : j ∈ vs
  · rw [if_pos hj, if_pos hj]
    cases τ[j]? <;> rfl
  · rw [if_neg hj, if_neg hj]
def setAllV : L2.St → List Nat → List V → L2.St
  | τ, i :: is, x :: xs => setAllV (τ.set i (some x)) is xs
  | τ, _, _ => τ
theorem wipe_all {vs : List Nat} : ∀ {is : List Nat} {xs : List V} {τ : L2.St}, (∀ i ∈ is, i ∈ vs) → wipe (setAllV τ is xs) vs = wipe τ vs
  | [], _, _, _ => rfl
  | _ :: _, [], _, _ => rfl
  | i :: is, x :: xs, τ, h => by
    show wipe (setAllV (τ.set i (some x)) is xs) vs = _
    rw [wipe_all fun j hj => h j (List.mem_cons_of_mem _ hj), wipe_set (h i List.mem_cons_self)]
section
variable {K : PySem.W.Frag} {B : Bs} {N H : Hp} {F : MH} {σ : St1} {τ : L2.St}
theorem Sl.setAll : ∀ {is : List Nat} {vs : List Val} {xs : List V} {σ : St1} {τ : L2.St}, Sl K N σ τ → Dvs K N vs xs → Sl K N (setAll σ is vs) (setAllV τ is xs)
  | [], [], _, _, _, h, _ => h
  | [], _ :: _, _, _, _, h, _ => h
  | _ :: _, _, _, _, _, h, .nil => h
  | i :: is, _, _, _, _, h, .cons d t => by
    have := Sl.setAll (is := is) (h.set i d) t
    exact this
theorem Sl.wipe (h : Sl K N σ τ) : ∀ (vs : List Nat), Sl K N (wipe1 σ vs) (L2.wipe τ vs)
  | [] => h
  | v :: vs => (Sl.wipe h vs).del v none
end
/-- where a target's value goes -/
def dG (K : PySem.W.Frag) (t : Tg) : TG := fun x τ H Q => ∃ C N F σ v k, Ok K C N F H ∧ Sl K N σ τ ∧ Dv K N v x ∧ bindT t v σ F k ∧ ∀ σ' τ', Sl K N σ' τ' → wipe τ' t.slots = wipe τ t.slots → k σ' → Q τ' H
def tgsN : List Nat → TGs
  | [] => gNil
  | i :: is => gCons (gName i) (tgsN is)
theorem tgsN_run {H : Hp} {Q : L2.St → Hp → Prop} : ∀ {is : List Nat} {xs : List V} {τ : L2.St}, xs.length = is.length → Q (setAllV τ is xs) H → tgsN is xs τ H Q
  | [], [], _, _, q => ⟨rfl, q⟩
  | [], _ :: _, _, h, _ => nomatch h
  | _ :: _, [], _, h, _ => nomatch h
  | i :: is, x :: xs, τ, h, q => ⟨x, xs, rfl, tgsN_run (is := is) (by simpa using h) q⟩
section
variable {Γ : Amb} {M : Mc} {X : Cx} {B : Bs} {W : XS}
theorem names_len {env : Env} : ∀ {is : List Nat} {es : List Expr}, mNames M is es = true → (assignEach es env).length = is.length ∧ (assignEach es env).findIdx? (·.1) = none
  | [], [], _ => ⟨rfl, rfl⟩
  | i :: is, e :: es, h => by
    unfold mNames at h
    split at h
    · cases ‹_ :: _ = []›
    · rename_i e1 e2
      cases e1; cases e2
      simp only [Bool.and_eq_true] at h
      obtain ⟨h1, h2⟩ := names_len (env := env) h.2
      refine ⟨by show (assignEach es env).length + 1 = _; rw [h1]; rfl, ?_⟩
      show List.findIdx? _ ((false, _) :: assignEach es env) = none
      rw [List.findIdx?_cons, h2]
      rfl
    · cases h
  | [], _ :: _, h => by unfold mNames at h; cases h
  | _ :: _, [], h => by unfold mNames at h; cases h
theorem pgs_names (hx : CxOk Γ M X) : ∀ {is : List Nat} {es : List Expr}, mNames M is es = true → PGs X es (tgsN is)
  | [], [], _ => pgs_nil
  | i :: is, e :: es, h => by
    unfold mNames at h
    split at h
    · cases ‹_ :: _ = []›
    · rename_i e1 e2
      cases e1; cases e2
      simp only [Bool.and_eq_true] at h
      obtain ⟨⟨h1, h2⟩, h3⟩ := h
      obtain ⟨l1, l2⟩ := locB_eq hx h2
      exact pgs_cons (pg_name hx.nd (by rw [hx.N]; exact slotB_eq h1) l1 l2) (pgs_names hx h3)
    · cases h
  | [], _ :: _, h => by unfold mNames at h; cases h
  | _ :: _, [], h => by unfold mNames at h; cases h
theorem pg_x {t : Tg} {tg : Expr} (h : mTg M t tg = true) (hx : CxOk Γ M X) : PG X tg (dG Γ.K t) := by
  refine ⟨fun pins s τ H x u Q I r hq => ?_⟩
  obtain ⟨C, N, F, σ, v, k, o, sl, d, w, post⟩ := hq
  unfold mTg at h
  split at h
  · rename_i i y p
    simp only [Bool.and_eq_true] at h
    obtain ⟨l1, l2⟩ := locB_eq hx h.2
    exact (pg_name hx.nd (by rw [hx.N]; exact slotB_eq h.1) l1 l2).run pins s τ H x u Q I r (post _ _ (sl.set i d) (wipe_set (by simp [Tg.slots])) w)
  · rename_i is es k2 p
    obtain ⟨n1, n2⟩ := names_len (env := X.env) h
    refine (pg_tup hx.calm (pgs_names hx h) n1 n2).run pins s τ H x u Q I r ?_
    unfold bindT at w
    simp only at w
    split at w
    · rename_i vs
      obtain ⟨p, xs, rfl, hp, dd⟩ := d.tuple o.sub
      exact ⟨p, xs, rfl, .inl (.inl hp), by rw [← dd.length]; exact w.1, tgsN_run (by rw [← dd.length]; exact w.1) (post _ _ (sl.setAll dd) (wipe_all fun _ h => h) w.2)⟩
    · exact w.elim
  · rename_i is es k2 p
    obtain ⟨n1, n2⟩ := names_len (env := X.env) h
    refine (pg_unl hx.calm (pgs_names hx h) n1 n2).run pins s τ H x u Q I r ?_
    unfold bindT at w
    simp only at w
    split at w
    · rename_i vs e
      obtain ⟨p, xs, rfl, hp, dd⟩ := lsOf_ok o d e
      exact ⟨p, xs, rfl, .inl hp, by rw [← dd.length]; exact w.1, tgsN_run (by rw [← dd.length]; exact w.1) (post _ _ (sl.setAll dd) (wipe_all fun _ h => h) w.2)⟩
    · exact w.elim
  · cases h
end

/-! ### iterables -/
/-- the walk J gives the told items while g stands -/
structure Tell (K : PySem.W.Frag) (N0 : Hp) (items : List Val) (g : MH → Prop) (J : L2.It) : Prop where
  go : ∀ {C : Bs} {N : Hp} {F : MH} {H : Hp} {i : Nat}, Same N0 N → Ok K C N F H → g F → i < items.length → J.go i H
  stop : ∀ {C : Bs} {N : Hp} {F : MH} {H : Hp}, Same N0 N → Ok K C N F H → g F → J.stop items.length H
  yld : ∀ {C : Bs} {N : Hp} {F : MH} {H : Hp} {i : Nat} {x : V} {H' : Hp}, Same N0 N → Ok K C N F H → g F → J.yld i H x H' → ∀ v, items[i]? = some v → ∃ N', Same N N' ∧ Ok K C N' F H' ∧ Dv K N' v x
section
variable {K : PySem.W.Frag} {N0 : Hp}
theorem tell_list {v : Val} {vs : List Val} {p : Addr} (d : Dv K N0 v (.ref p)) : Tell K N0 vs (fun F => lsOf F v = some vs) (Itl K p) where
  go := fun {C N F H i} e o g hi => by
    obtain ⟨p', xs, ex, hr, dd⟩ := lsOf_ok o (d.mono e) g
    cases ex
    have hl := dd.length
    exact ⟨xs, xs[i]'(by omega), .inl hr, List.getElem?_eq_getElem _⟩
  stop := fun {C N F H} e o g => by
    obtain ⟨p', xs, ex, hr, dd⟩ := lsOf_ok o (d.mono e) g
    cases ex
    exact ⟨xs, .inl hr, Nat.le_of_eq dd.length.symm⟩
  yld := fun {C N F H i x H'} e o g y v' hv => by
    obtain ⟨p', xs, ex, hr, dd⟩ := lsOf_ok o (d.mono e) g
    cases ex
    obtain ⟨rfl, y⟩ := y
    obtain ⟨x', h1, h2⟩ := dd.get hv
    rw [y xs (.inl hr)] at h1
    cases h1
    exact ⟨N, Same.refl N, o, h2⟩
theorem tell_tup {vs : List Val} {p : Addr} (d : Dv K N0 (.tup vs) (.ref p)) : Tell K N0 vs (fun _ => True) (Itt K p) where
  go := fun {C N F H i} e o g hi => by
    obtain ⟨p', xs, ex, hr, dd⟩ := (d.mono e).tuple o.sub
    cases ex
    have hl := dd.length
    exact ⟨xs, xs[i]'(by omega), .of hr, List.getElem?_eq_getElem _⟩
  stop := fun {C N F H} e o g => by
    obtain ⟨p', xs, ex, hr, dd⟩ := (d.mono e).tuple o.sub
    cases ex
    exact ⟨xs, .of hr, Nat.le_of_eq dd.length.symm⟩
  yld := fun {C N F H i x H'} e o g y v' hv => by
    obtain ⟨p', xs, ex, hr, dd⟩ := (d.mono e).tuple o.sub
    cases ex
    obtain ⟨rfl, y⟩ := y
    obtain ⟨x', h1, h2⟩ := dd.get hv
    rw [y xs (.of hr)] at h1
    cases h1
    exact ⟨N, Same.refl N, o, h2⟩
theorem tell_str {z : Str} : Tell K N0 (charsOf z) (fun _ => True) (Its z) where
  go := fun {C N F H i} e o g hi => by
    unfold charsOf at hi
    simp at hi
    exact hi
  stop := fun {C N F H} e o g => by
    unfold charsOf
    show z.cps.size ≤ _
    simp
  yld := fun {C N F H i x H'} e o g y v' hv => by
    obtain ⟨rfl, c, hc, rfl⟩ := y
    unfold charsOf at hv
    rw [List.getElem?_map, Array.getElem?_toList, hc] at hv
    cases hv
    exact ⟨N, Same.refl N, o, .str _⟩
theorem tell_rng {lo : Int} {n : Nat} : Tell K N0 (rngV lo n) (fun _ => True) (Itr lo n) where
  go := fun {C N F H i} e o g hi => by
    unfold rngV at hi
    simp at hi
    exact hi
  stop := fun {C N F H} e o g => by
    unfold rngV
    show n ≤ _
    simp
  yld := fun {C N F H i x H'} e o g y v' hv => by
    obtain ⟨rfl, rfl⟩ := y
    unfold rngV at hv
    rw [List.getElem?_map] at hv
    cases hq : (List.range n)[i]? with
    | none => rw [hq] at hv; cases hv
    | some j =>
      rw [hq] at hv
      cases hv
      obtain ⟨h1, h2⟩ := List.getElem?_eq_some_iff.mp hq
      rw [List.getElem_range] at h2
      subst h2
      exact ⟨N, Same.refl N, o, .int _⟩
theorem tell_enum {v : Val} {vs : List Val} {p : Addr} (d : Dv K N0 v (.ref p)) : Tell K N0 (enumV vs) (fun F => lsOf F v = some vs) (Ite K p) where
  go := fun {C N F H i} e o g hi => by
    obtain ⟨p', xs, ex, hr, dd⟩ := lsOf_ok o (d.mono e) g
    cases ex
    have hl := dd.length
    unfold enumV at hi
    simp at hi
    exact ⟨xs, xs[i]'(by omega), .inl hr, List.getElem?_eq_getElem _⟩
  stop := fun {C N F H} e o g => by
    obtain ⟨p', xs, ex, hr, dd⟩ := lsOf_ok o (d.mono e) g
    cases ex
    refine ⟨xs, .inl hr, ?_⟩
    have hl := dd.length
    unfold enumV
    simp
    omega
  yld := fun {C N F H i x H'} e o g y v' hv => by
    obtain ⟨p', xs, ex, hr, dd⟩ := lsOf_ok o (d.mono e) g
    cases ex
    obtain ⟨T, x0, rfl, hT, rfl, y⟩ := y
    unfold enumV at hv
    rw [List.getElem?_zipWith] at hv
    cases hq : (List.range vs.length)[i]? with
    | none => rw [hq] at hv; cases hv
    | some j =>
      rw [hq] at hv
      cases hw : vs[i]? with
      | none => rw [hw] at hv; cases hv
      | some w =>
        rw [hw] at hv
        cases hv
        obtain ⟨h1, h2⟩ := List.getElem?_eq_some_iff.mp hq
        rw [List.getElem_range] at h2
        subst h2
        obtain ⟨x', k1, k2⟩ := dd.get hw
        rw [y xs (.inl hr)] at k1
        cases k1
        obtain ⟨e2, o2⟩ := o.still (u := .tup [.int (i : Nat), x0]) hT
        exact ⟨_, e2, o2, .tup upd_same (.cons (.int _) (.cons (k2.mono e2) .nil))⟩
theorem tell_zip {v w : Val} {vs ws : List Val} {p q : Addr} (d : Dv K N0 v (.ref p)) (d2 : Dv K N0 w (.ref q)) : Tell K N0 (zipV vs ws) (fun F => lsOf F v = some vs ∧ lsOf F w = some ws) (Itz K p q) where
  go := fun {C N F H i} e o g hi => by
    obtain ⟨p', xs, ex, hr, dd⟩ := lsOf_ok o (d.mono e) g.1
    cases ex
    obtain ⟨p', ys, ex, hr2, dd2⟩ := lsOf_ok o (d2.mono e) g.2
    cases ex
    have hl := dd.length
    have hl2 := dd2.length
    unfold zipV at hi
    simp at hi
    exact ⟨xs, ys, xs[i]'(by omega), ys[i]'(by omega), .inl hr, .inl hr2, List.getElem?_eq_getElem _, List.getElem?_eq_getElem _⟩
  stop := fun {C N F H} e o g => by
    obtain ⟨p', xs, ex, hr, dd⟩ := lsOf_ok o (d.mono e) g.1
    cases ex
    obtain ⟨p', ys, ex, hr2, dd2⟩ := lsOf_ok o (d2.mono e) g.2
    cases ex
    refine ⟨xs, ys, .inl hr, .inl hr2, ?_⟩
    have hl := dd.length
    have hl2 := dd2.length
    unfold zipV
    simp
    omega
  yld := fun {C N F H i x H'} e o g y v' hv => by
    obtain ⟨p', xs, ex, hr, dd⟩ := lsOf_ok o (d.mono e) g.1
    cases ex
    obtain ⟨p', ys, ex, hr2, dd2⟩ := lsOf_ok o (d2.mono e) g.2
    cases ex
    obtain ⟨T, x0, y0, rfl, hT, rfl, y1, y2⟩ := y
    unfold zipV at hv
    rw [List.getElem?_zipWith] at hv
    cases hq : vs[i]? with
    | none => rw [hq] at hv; cases hv
    | some a =>
      rw [hq] at hv
      cases hw : ws[i]? with
      | none => rw [hw] at hv; cases hv
      | some b =>
        rw [hw] at hv
        cases hv
        obtain ⟨x', k1, k2⟩ := dd.get hq
        rw [y1 xs (.inl hr)] at k1
        cases k1
        obtain ⟨x', k1, k3⟩ := dd2.get hw
        rw [y2 ys (.inl hr2)] at k1
        cases k1
        obtain ⟨e2, o2⟩ := o.still (u := .tup [x0, y0]) hT
        exact ⟨_, e2, o2, .tup upd_same (.cons (k2.mono e2) (.cons (k3.mono e2) .nil))⟩
theorem tell_keys {u : HO} {kvs : List (Str × Val)} {xs : List (Key × V)} {p : Addr} {ob : Obj} (hu : u = .frz ob (.dK xs)) (d : Dkv K N0 kvs xs) : Tell K N0 (kvs.map fun kv => .str kv.1) (fun F => F p = some (.lck u kvs)) (Itk p ob xs) where
  go := fun {C N F H i} e o g hi => by
    obtain ⟨_, hh, _⟩ := o.cell p _ g
    subst hu
    rw [List.length_map, d.length] at hi
    exact ⟨hh, hi⟩
  stop := fun {C N F H} e o g => by
    obtain ⟨_, hh, _⟩ := o.cell p _ g
    subst hu
    rw [List.length_map, d.length]
    exact ⟨hh, Nat.le_refl _⟩
  yld := fun {C N F H i x H'} e o g y v' hv => by
    obtain ⟨rfl, k, v, hk, rfl⟩ := y
    refine ⟨N, Same.refl N, o, ?_⟩
    have e1 := d.keys
    have e2 : (xs.map (·.1))[i]? = some k := by rw [List.getElem?_map, hk]; rfl
    rw [e1, List.getElem?_map, List.getElem?_map] at e2
    rw [List.getElem?_map] at hv
    cases hq : kvs[i]? with
    | none => rw [hq] at hv; cases hv
    | some kv =>
      rw [hq] at hv e2
      cases hv
      cases e2
      exact .str _
end
theorem put_ok {K : PySem.W.Frag} {B : Bs} : ∀ (ts : List Addr) (xs ys : List V) (vs ws : List Val) {N H : Hp} {F : MH}, Ok K B N F H → Dvs K N vs xs → Dvs K N ws ys → (∀ t ∈ ts, H t = none) → ts.Nodup → ts.length = (xs.zip ys).length →
    ∃ N', Same N N' ∧ Ok K B N' F (LiZ.putP H ts (xs.zip ys)) ∧ Dvs K N' (zipV vs ws) (ts.map V.ref)
  | ts, [], _, vs, ws, N, H, F, o, d, d2, _, _, hl => by
    cases d
    have : ts = [] := by cases ts with
      | nil => rfl
      | cons _ _ => simp at hl
    subst this
    exact ⟨N, Same.refl N, o, .nil⟩
  | ts, x :: xs, [], vs, ws, N, H, F, o, d, d2, _, _, hl => by
    cases d2
    have : ts = [] := by cases ts with
      | nil => rfl
      | cons _ _ => simp at hl
    subst this
    cases d
    exact ⟨N, Same.refl N, o, .nil⟩
  | [], x :: xs, y :: ys, vs, ws, N, H, F, o, d, d2, _, _, hl => by simp at hl
  | t :: ts, x :: xs, y :: ys, _, _, N, H, F, o, .cons da d, .cons db d2, hn, hnd, hl => by
    obtain ⟨e2, o2⟩ := o.still (u := .tup [x, y]) (hn t (List.mem_cons_self))
    have hnd' := List.nodup_cons.mp hnd
    obtain ⟨N', e3, o3, d3⟩ := put_ok ts xs ys _ _ o2 (d.mono e2) (d2.mono e2) (fun u hu => by
      rw [upd_ne (fun z => hnd'.1 (by rw [← z]; exact hu))]; exact hn u (List.mem_cons_of_mem _ hu)) hnd'.2 (by simpa using hl)
    exact ⟨N', e2.trans e3, o3, .cons (.tup (e3 _ _ upd_same) (.cons ((da.mono e2).mono e3) (.cons ((db.mono e2).mono e3) .nil))) d3⟩
/-- an iterable, read -/
def dI {Γ : Amb} (B : Bs) (W : XS) (it : Bv.It Γ) : TI := fun τ H R => ∃ N F σ Qi, Ok Γ.K B N F H ∧ Sl Γ.K N σ τ ∧ wpIt W it σ F Qi ∧
  ∀ items g N' F' H' J, Same N N' → Ok Γ.K B N' F' H' → Qi items g F' → Tell Γ.K N' items g J → R J H'
section
variable {Γ : Amb} {M : Mc} {X : Cx} {B : Bs} {W : XS} {tg : Expr}
theorem snd_it_lst {a : E Γ} {e : Expr} (hx : CxOk Γ M X) (ha : PE X e (dV Γ.K B (wpE W a))) : PI X tg e (dI B W (.lst a)) := by
  refine ⟨fun pins s τ H R I hq => ?_⟩
  refine (pi_list ha).run pins s τ H R I ?_
  obtain ⟨N, F, σ, Q0, o, sl, w, post⟩ := hq
  rw [hx.K]
  refine dV.bind o sl w fun v x N1 F1 H1 e1 o1 sl1 d1 w1 => ?_
  split at w1
  · rename_i vs ev
    obtain ⟨p, xs, rfl, hr, dd⟩ := lsOf_ok o1 d1 ev
    exact ⟨p, rfl, ⟨xs, .inl hr⟩, post _ _ N1 F1 H1 _ e1 o1 w1 (tell_list d1)⟩
  · exact w1.elim
theorem snd_it_tup {a : E Γ} {e : Expr} (hx : CxOk Γ M X) (ha : PE X e (dV Γ.K B (wpE W a))) : PI X tg e (dI B W (.tupl a)) := by
  refine ⟨fun pins s τ H R I hq => ?_⟩
  refine (pi_tup ha).run pins s τ H R I ?_
  obtain ⟨N, F, σ, Q0, o, sl, w, post⟩ := hq
  rw [hx.K]
  refine dV.bind o sl w fun v x N1 F1 H1 e1 o1 sl1 d1 w1 => ?_
  split at w1
  · rename_i vs
    obtain ⟨p, xs, rfl, hr, dd⟩ := d1.tuple o1.sub
    exact ⟨p, rfl, ⟨xs, .of hr⟩, post _ _ N1 F1 H1 _ e1 o1 w1 (tell_tup d1)⟩
  · exact w1.elim
theorem snd_it_str {a : E Γ} {e : Expr} (ha : PE X e (dV Γ.K B (wpE W a))) : PI X tg e (dI B W (.str a)) := by
  refine ⟨fun pins s τ H R I hq => ?_⟩
  refine (pi_str ha).run pins s τ H R I ?_
  obtain ⟨N, F, σ, Q0, o, sl, w, post⟩ := hq
  refine dV.bind o sl w fun v x N1 F1 H1 e1 o1 sl1 d1 w1 => ?_
  split at w1
  · cases d1
    exact ⟨_, rfl, post _ _ N1 F1 H1 _ e1 o1 w1 tell_str⟩
  · exact w1.elim
theorem snd_it_rng1 {a : E Γ} {e : Expr} {p pos : Pos} (hx : CxOk Γ M X) (ga : AmbOk Γ) (hg : glB M.sc "range" = true) (hp : plainB e = true) (ha : PE X e (dV Γ.K B (wpE W a))) : PI X tg (.Call (.Name "range" p) [e] [] pos) (dI B W (.rng1 a)) := by
  refine ⟨fun pins s τ H R I hq => ?_⟩
  refine (pi_range1 (glB_eq hx.sc hg) (by rw [hx.mg]; exact ga.bl _ (by decide)) (pa_cons ha pa_nil (star_plain hp _ _)) (star_plain hp _ _)).run pins s τ H R I ?_
  obtain ⟨N, F, σ, Q0, o, sl, w, post⟩ := hq
  refine dV.bind o sl w fun v x N1 F1 H1 e1 o1 sl1 d1 w1 => ?_
  split at w1
  · cases d1
    exact ⟨_, rfl, w1.1, w1.2.1, post _ _ N1 F1 H1 _ e1 o1 w1.2.2 tell_rng⟩
  · exact w1.elim
theorem snd_it_rng2 {a b : E Γ} {e e2 : Expr} {p pos : Pos} (hx : CxOk Γ M X) (ga : AmbOk Γ) (hg : glB M.sc "range" = true) (hp : plainB e = true) (hp2 : plainB e2 = true) (ha : PE X e (dV Γ.K B (wpE W a))) (hb : PE X e2 (dV Γ.K B (wpE W b))) :
    PI X tg (.Call (.Name "range" p) [e, e2] [] pos) (dI B W (.rng2 a b)) := by
  refine ⟨fun pins s τ H R I hq => ?_⟩
  refine (pi_range2 (glB_eq hx.sc hg) (by rw [hx.mg]; exact ga.bl _ (by decide)) (pa_cons ha (pa_cons hb pa_nil (star_plain hp2 _ _)) (star_plain hp _ _)) (by rw [star_plain hp, star_plain hp2]; rfl) (star_plain hp2 _ _)).run pins s τ H R I ?_
  obtain ⟨N, F, σ, Q0, o, sl, w, post⟩ := hq
  refine dV.bind o sl w fun v x N1 F1 H1 e1 o1 sl1 d1 w1 => dV.bind o1 sl1 w1 fun v2 x2 N2 F2 H2 e2 o2 sl2 d2 w2 => ?_
  split at w2
  · cases d1
    cases d2
    exact ⟨_, _, rfl, w2.1, post _ _ N2 F2 H2 _ (e1.trans e2) o2 w2.2 tell_rng⟩
  · exact w2.elim
theorem snd_it_zip {a b : E Γ} {e e2 : Expr} {p pos tpos : Pos} {elts : List Expr} {kk : Nat} (hx : CxOk Γ M X) (ga : AmbOk Γ) (hg : glB M.sc "zip" = true) (hp : plainB e = true) (hp2 : plainB e2 = true) (ha : PE X e (dV Γ.K B (wpE W a))) (hb : PE X e2 (dV Γ.K B (wpE W b))) :
    PI X (.Tuple elts kk tpos) (.Call (.Name "zip" p) [e, e2] [] pos) (dI B W (.zip2 a b)) := by
  refine ⟨fun pins s τ H R I hq => ?_⟩
  refine (pi_zip (glB_eq hx.sc hg) (by rw [hx.mg]; exact ga.bl _ (by decide)) (pa_cons ha (pa_cons hb pa_nil (star_plain hp2 _ _)) (star_plain hp _ _)) (star_plain hp _ _) (by rw [star_plain hp2]; rfl)).run pins s τ H R I ?_
  obtain ⟨N, F, σ, Q0, o, sl, w, post⟩ := hq
  rw [hx.K]
  refine dV.bind o sl w fun v x N1 F1 H1 e1 o1 sl1 d1 w1 => dV.bind o1 sl1 w1 fun v2 x2 N2 F2 H2 e2 o2 sl2 d2 w2 => ?_
  split at w2
  · rename_i vs ws ev ew
    obtain ⟨q1, xs, rfl, hr, dd⟩ := lsOf_ok o2 (d1.mono e2) ev
    obtain ⟨q2, ys, rfl, hr2, dd2⟩ := lsOf_ok o2 d2 ew
    exact ⟨q1, q2, xs, ys, rfl, .inl hr, .inl hr2, post _ _ N2 F2 H2 _ (e1.trans e2) o2 w2 (tell_zip (d1.mono e2) d2)⟩
  · exact w2.elim
theorem snd_it_enum {a : E Γ} {e : Expr} {p pos tpos : Pos} {elts : List Expr} {kk : Nat} (hx : CxOk Γ M X) (ga : AmbOk Γ) (hg : glB M.sc "enumerate" = true) (hp : plainB e = true) (ha : PE X e (dV Γ.K B (wpE W a))) :
    PI X (.Tuple elts kk tpos) (.Call (.Name "enumerate" p) [e] [] pos) (dI B W (.enum a)) := by
  refine ⟨fun pins s τ H R I hq => ?_⟩
  refine (pi_enum (glB_eq hx.sc hg) (by rw [hx.mg]; exact ga.bl _ (by decide)) (pa_cons ha pa_nil (star_plain hp _ _)) (star_plain hp _ _)).run pins s τ H R I ?_
  obtain ⟨N, F, σ, Q0, o, sl, w, post⟩ := hq
  rw [hx.K]
  refine dV.bind o sl w fun v x N1 F1 H1 e1 o1 sl1 d1 w1 => ?_
  split at w1
  · rename_i vs ev
    obtain ⟨q1, xs, rfl, hr, dd⟩ := lsOf_ok o1 d1 ev
    exact ⟨q1, xs, rfl, .inl hr, post _ _ N1 F1 H1 _ e1 o1 w1 (tell_enum d1)⟩
  · exact w1.elim
theorem snd_litz {m : Bool} {a b : E Γ} {e e2 : Expr} {p p2 pos pos2 : Pos} (hx : CxOk Γ M X) (ga : AmbOk Γ) (hg1 : glB M.sc "list" = true) (hg : glB M.sc "zip" = true) (hp : plainB e = true) (hp2 : plainB e2 = true) (ha : PE X e (dV Γ.K B (wpE W a))) (hb : PE X e2 (dV Γ.K B (wpE W b))) :
    PE X (.Call (.Name "list" p) [.Call (.Name "zip" p2) [e, e2] [] pos2] [] pos) (dV Γ.K B (wpE W (.litz m a b))) := by
  refine ⟨fun pins s τ H R I hq => ?_⟩
  refine (LiZ.pe_listZip hx.calm (glB_eq hx.sc hg1) (by rw [hx.mg]; exact ga.bl _ (by decide)) (glB_eq hx.sc hg) (by rw [hx.mg]; exact ga.bl _ (by decide)) (pa_cons ha (pa_cons hb pa_nil (star_plain hp2 _ _)) (star_plain hp _ _)) (star_plain hp _ _) (by rw [star_plain hp2]; rfl)).run pins s τ H R I ?_
  obtain ⟨N, F, σ, Q0, o, sl, w, post⟩ := hq
  rw [hx.K]
  refine dV.bind o sl w fun v x N1 F1 H1 e1 o1 sl1 d1 w1 => dV.bind o1 sl1 w1 fun v2 x2 N2 F2 H2 e2 o2 sl2 d2 w2 => ?_
  split at w2
  · rename_i vs ws ev ew
    obtain ⟨q1, xs, rfl, hr, dd⟩ := lsOf_ok o2 (d1.mono e2) ev
    obtain ⟨q2, ys, rfl, hr2, dd2⟩ := lsOf_ok o2 d2 ew
    refine ⟨q1, q2, xs, ys, rfl, .inl hr, .inl hr2, fun p ts hn ht hp hnd hl => ?_⟩
    obtain ⟨N3, e3, o3, d3⟩ := put_ok ts xs ys vs ws o2 dd dd2 ht hnd hl
    exact ((post.mono (e1.trans e2)).mono e3).newLs o3 d3 w2 p (by rw [LiZ.putP_off _ _ _ hp]; exact hn)
  · exact w2.elim
end
end Bv

/-! The tongue is true to the text: comprehensions, and all expressions. -/
namespace Bv
open PySem L2 PyProof.Rows
/-- a comprehension's turn -/
def lcTurn {Γ : Amb} (t : Tg) (cond : Ts Γ) (elt : E Γ) (σ : St1) : Val → MH → (Option Val → MH → Prop) → Prop := fun x F2 k => bindT t x (wipe1 σ t.slots) F2 fun σ' => wpCs noX cond σ' F2 fun b F3 => match b with
        | true => wpE noX elt σ' F3 fun v F4 => k (some v) F4
        | false => k none F3
theorem lc_obl {Γ : Amb} {B : Bs} {N1 : Hp} {F1 : MH} {H1 : Hp} {σ : St1} {τ : L2.St} {items : List Val} {g : MH → Prop} {J : L2.It} {t : Tg} {cond : Ts Γ} {elt : E Γ} {m : Bool} {Q0 : Q1} {Q : VK}
    (o1 : Ok Γ.K B N1 F1 H1) (sl1 : Sl Γ.K N1 σ τ) (tell : Tell Γ.K N1 items g J) (w : lcGo g (lcTurn t cond elt σ) (fun vs F2 => newLs m vs F2 Q0) items [] F1) (post : Post Γ.K B N1 Q0 Q) {vs : List Nat} (hvs : vs = t.slots) :
    ∀ D, H1 D = none → ∃ W : Nat → Nat → Hp → Prop, (∃ m, W 0 m (upd H1 D (.lst []))) ∧ ∀ i m H, W i m H →
      (J.stop i H ∧ Q (.ref D) H) ∨ (J.go i H ∧ ∃ Nx : Hp → Prop, (∀ H', Nx H' → ∃ m', m' < m ∧ W (i + 1) m' H') ∧ ∀ x H', J.yld i H x H' → dG Γ.K t x (wipe τ vs) H' fun σ2 H2 => wipe σ2 vs = wipe τ vs ∧ dTx Γ.K (wpCs noX cond) σ2 H2 fun b H3 =>
        if b = true then dVx Γ.K (wpE noX elt) σ2 H3 fun y H4 => ∃ acc, H4 D = some (.lst acc) ∧ acc.length < sizeLine ∧ Nx (upd H4 D (.lst (acc ++ [y]))) else Nx H3) := by
  intro D hD
  subst hvs
  have hfree := o1.free_of hD
  obtain ⟨hN1, hF1⟩ := o1.free hD
  let P : Nat → Hp → Prop := fun i H => ∃ N F acc xs, Same N1 N ∧ Ok Γ.K B N F H ∧ H D = some (.lst xs) ∧ N D = none ∧ F D = none ∧ Dvs Γ.K N acc xs ∧ lcGo g (lcTurn t cond elt σ) (fun vs F2 => newLs m vs F2 Q0) (items.drop i) acc F
  refine ⟨fun i m H => m = items.length - i ∧ i ≤ items.length ∧ P i H, ⟨items.length, by simp, Nat.zero_le _, N1, F1, [], [], Same.refl _, o1.grow (same_upd hD), upd_same, hN1, hF1, .nil, by simpa using w⟩, ?_⟩
  rintro i m0 H ⟨rfl, hi, N, F, acc, xs, e, o, hd, hN, hF, da, w⟩
  by_cases hlt : i < items.length
  · right
    rw [List.drop_eq_getElem_cons hlt] at w
    unfold lcGo at w
    obtain ⟨hg, w⟩ := w
    refine ⟨tell.go e o hg hlt, P (i + 1), fun H' p' => ⟨items.length - (i + 1), by omega, rfl, hlt, p'⟩, fun x H' y => ?_⟩
    obtain ⟨N2, e2, o2, d2⟩ := tell.yld e o.here hg y _ (List.getElem?_eq_getElem hlt)
    refine ⟨⟨N, F, H⟩, N2, F, wipe1 σ t.slots, _, _, o2, (sl1.mono (e.trans e2)).wipe _, d2, w, fun σ' τ' sl' hw k => ⟨hw.trans wipe_wipe, ?_⟩⟩
    refine ⟨⟨N, F, H⟩, N2, F, σ', _, o2, sl', k, fun b N3 F3 H3 e3 o3 q3 => ?_⟩
    cases b with
    | true =>
      rw [if_pos rfl]
      refine ⟨⟨N, F, H⟩, N3, F3, σ', _, o3, sl'.mono e3, q3, fun v yv N4 F4 H4 e4 o4 d4 q4 => ?_⟩
      obtain ⟨k1, k2, k3⟩ := o4.kept D _ hd hN hF
      refine ⟨xs, k1, by rw [← da.length]; exact q4.1, N4, F4, acc ++ [v], xs ++ [yv], ((e.trans e2).trans e3).trans e4, ?_, upd_same, k2, k3, ?_, q4.2⟩
      · exact (o.trans o4).side hfree k2 k3 (fun zs z => by rw [k1] at z; cases z)
      · exact (da.mono ((e2.trans e3).trans e4)).append (.cons d4 .nil)
    | false =>
      rw [if_neg Bool.false_ne_true]
      obtain ⟨k1, k2, k3⟩ := o3.kept D _ hd hN hF
      exact ⟨N3, F3, acc, xs, (e.trans e2).trans e3, o.trans o3, k1, k2, k3, da.mono (e2.trans e3), q3⟩
  · left
    have ei : i = items.length := by omega
    subst ei
    rw [List.drop_length] at w
    unfold lcGo at w
    obtain ⟨hg, w⟩ := w
    refine ⟨tell.stop e o hg, ?_⟩
    cases m with
    | true =>
      have o' := o.tell (c := .lst acc) hfree hN hF ⟨xs, hd, da⟩
      exact post _ _ N _ H e o' (.ref D) (w D hF)
    | false =>
      obtain ⟨e2, o'⟩ := o.tellN hfree hN hF hd
      exact post _ _ _ _ H (e.trans e2) o' (.lst upd_same (da.mono e2)) w
section
variable {Γ : Amb} {M : Mc} {X : Cx} {B : Bs} {W : XS}
theorem CxOk.blk (hx : CxOk Γ M X) {s : Shared} {H : Hp} {scope : Scope} {C : Addr} {cl : List (Str × Addr)} {fp : List Addr} : CxOk Γ (M.blk scope) (X.blk s H scope (compEnvC scope cl C X.env) fp) :=
  ⟨hx.P, hx.w, hx.K, hx.mg, hx.base, hx.room, hx.calm, hx.N, hx.nd, by show relS scope X.env.scope = relS scope M.sc; rw [hx.sc], fun x h => h⟩
theorem own_slots {N : List Str} {t : Tg} : (ownOf N t).map (·.2) = t.slots := by
  unfold ownOf
  rw [List.map_map]
  show List.map (fun i => i) t.slots = t.slots
  simp
theorem snd_lc {m : Bool} {elt : E Γ} {t : Tg} {it : Bv.It Γ} {cond : Ts Γ} {tg iter ee : Expr} {ifs : List Expr} {scope : Scope} {pos : Pos} (hx : CxOk Γ M X) (hb : blkB M.N M.sc scope (ownOf M.N t) = true) (hp : ∀ x, foldedSetIterable iter X.env x = pure x)
    (hi : PI X tg iter (dI B W it)) (hg : ∀ X', CxOk Γ (M.blk scope) X' → PG X' tg (dG Γ.K t)) (ht : ∀ X', CxOk Γ (M.blk scope) X' → PTs X' ifs (dTx Γ.K (wpCs noX cond))) (he : ∀ X', CxOk Γ (M.blk scope) X' → PE X' ee (dVx Γ.K (wpE noX elt))) :
    PE X (.ListComp ee [⟨tg, iter, ifs, 0⟩] scope pos) (dV Γ.K B (wpE W (.lc m elt t it cond))) := by
  refine ⟨fun pins s τ H Q I hq => ?_⟩
  refine (pe_lc hx.calm hx.nd hi (by rw [hx.N, hx.sc]; exact blkOk_by hb) (fun _ _ _ _ _ => hg _ hx.blk) (fun _ _ _ _ _ => ht _ hx.blk) (fun _ _ _ _ _ => he _ hx.blk) hp).run pins s τ H Q I ?_
  obtain ⟨N, F, σ, Q0, o, sl, w, post⟩ := hq
  exact ⟨N, F, σ, _, o, sl, w, fun items g N1 F1 H1 J e1 o1 w1 tell => lc_obl o1 (sl.mono e1) tell w1 (post.mono e1) own_slots⟩
/-- its obligation, where it is a statement's value -/
theorem lc_read {m : Bool} {elt : E Γ} {t : Tg} {it : Bv.It Γ} {cond : Ts Γ} {τ : L2.St} {H : Hp} {Q : VK} (hq : dV Γ.K B (wpE W (.lc m elt t it cond)) τ H Q) : tLc (dI B W it) (dG Γ.K t) (dTx Γ.K (wpCs noX cond)) (dVx Γ.K (wpE noX elt)) ((ownOf M.N t).map (·.2)) τ H Q := by
  obtain ⟨N, F, σ, Q0, o, sl, w, post⟩ := hq
  exact ⟨N, F, σ, _, o, sl, w, fun items g N1 F1 H1 J e1 o1 w1 tell => lc_obl o1 (sl.mono e1) tell w1 (post.mono e1) own_slots⟩
theorem lock_cell {N H : Hp} {F : MH} {p : Addr} {kvs : List (Str × Val)} (o : Ok Γ.K B N F H) (ec : F p = some (.dict kvs)) : ∃ xs, H p = some (.dK xs) ∧ Dkv Γ.K N kvs xs ∧ ∀ od, Ok Γ.K B N (mset F p (.lck (.frz od (.dK xs)) kvs)) (upd H p (.frz od (.dK xs))) := by
  obtain ⟨_, xs, hh, dd⟩ := o.cell p _ ec
  exact ⟨xs, hh, dd, fun od => o.put ec (fun ys z => by rw [hh] at z; cases z) ⟨upd_same, od, xs, rfl, dd⟩⟩
theorem unlock_cell {N H : Hp} {F : MH} {p : Addr} {kvs : List (Str × Val)} {od : Obj} {xs : List (Key × V)} (o : Ok Γ.K B N F H) (ec : F p = some (.lck (.frz od (.dK xs)) kvs)) : H p = some (.frz od (.dK xs)) ∧ Ok Γ.K B N (mset F p (.dict kvs)) (upd H p (.dK xs)) := by
  obtain ⟨_, hh, o', xs', hu, dd⟩ := o.cell p _ ec
  cases hu
  exact ⟨hh, o.put ec (fun ys z => by rw [hh] at z; cases z) ⟨xs, upd_same, dd⟩⟩
theorem snd_lcK {m : Bool} {elt d : E Γ} {t : Tg} {cond : Ts Γ} {tg iter ee : Expr} {ifs : List Expr} {scope : Scope} {pos : Pos} (hx : CxOk Γ M X) (hb : blkB M.N M.sc scope (ownOf M.N t) = true) (hp : ∀ x, foldedSetIterable iter X.env x = pure x)
    (hi : PE X iter (dV Γ.K B (wpE noX d))) (hg : ∀ X', CxOk Γ (M.blk scope) X' → PG X' tg (dG Γ.K t)) (ht : ∀ X', CxOk Γ (M.blk scope) X' → PTs X' ifs (dTx Γ.K (wpCs noX cond))) (he : ∀ X', CxOk Γ (M.blk scope) X' → PE X' ee (dVx Γ.K (wpE noX elt))) :
    PE X (.ListComp ee [⟨tg, iter, ifs, 0⟩] scope pos) (dV Γ.K B (wpE W (.lcK m elt t d cond))) := by
  refine ⟨fun pins s τ H Q I hq => ?_⟩
  refine (pe_lock (pe_lc hx.calm hx.nd (pi_keys hi) (by rw [hx.N, hx.sc]; exact blkOk_by hb) (fun _ _ _ _ _ => hg _ hx.blk) (fun _ _ _ _ _ => ht _ hx.blk) (fun _ _ _ _ _ => he _ hx.blk) hp)).run pins s τ H Q I ?_
  obtain ⟨N, F, σ, Q0, o, sl, w, post⟩ := hq
  obtain ⟨p, kvs, ec, w⟩ := w
  obtain ⟨xs, hh, dd, lk⟩ := lock_cell o ec
  refine ⟨p, .dK xs, hh, trivial, fun od => ?_⟩
  refine dV.bind (lk od) sl (w (.frz od (.dK xs))) fun v x N1 F1 H1 e1 o1 sl1 d1 w1 => ?_
  obtain ⟨hv, w1⟩ := w1
  split at hv
  · subst hv
    rename_i q
    cases d1
    have hF1 : F1 q = some (.lck (.frz od (.dK xs)) kvs) := by
      cases hk : kvs.map fun kv => Val.str kv.1 with
      | nil => rw [hk] at w1; unfold lcGo at w1; exact w1.1
      | cons a r => rw [hk] at w1; unfold lcGo at w1; exact w1.1
    obtain ⟨_, hh1, _⟩ := o1.cell q _ hF1
    refine ⟨q, od, rfl, .inl ⟨xs, hh1, ?_⟩⟩
    refine lc_obl (m := m) (Q := fun v H' => H' q = some (HO.frz od (HO.dK xs)) ∧ Q v (upd H' q (HO.dK xs))) (Q0 := fun v F3 => F3 q = some (.lck (.frz od (.dK xs)) kvs) ∧ Q0 v (mset F3 q (.dict kvs))) o1 sl1 (tell_keys rfl (dd.mono e1)) w1 (fun v3 x3 N3 F3 H3 e3 o3 d3 q3 => ?_) (own_slots (N := M.N))
    obtain ⟨k1, k2⟩ := unlock_cell o3 q3.1
    exact ⟨k1, post v3 x3 N3 _ _ (e1.trans e3) k2 d3 q3.2⟩
  · exact hv.elim
end
end Bv

/-! The tongue is true to the text: all expressions. -/
namespace Bv
open PySem L2 PyProof.Rows
section
variable {Γ : Amb} (ga : AmbOk Γ)
theorem plain_mIt {M : Mc} {X : Cx} (it : Bv.It Γ) {e : Expr} (h : mIt M it e = true) (x : Value) : foldedSetIterable e X.env x = pure x := by
  cases it with
  | lst a => unfold mIt at h; exact noset_plain (plain_mE a h) _ x
  | tupl a => unfold mIt at h; exact noset_plain (plain_mE a h) _ x
  | str a => unfold mIt at h; exact noset_plain (plain_mE a h) _ x
  | rng1 a => unfold mIt at h; split at h <;> first | rfl | cases h
  | rng2 a b => unfold mIt at h; split at h <;> first | rfl | cases h
  | zip2 a b => unfold mIt at h; split at h <;> first | rfl | cases h
  | enum a => unfold mIt at h; split at h <;> first | rfl | cases h
theorem decEq_of {α : Type} [DecidableEq α] {a b : α} (h : decide (a = b) = true) : a = b := of_decide_eq_true h
theorem pts_dT {X : Cx} {ifs : List Expr} {K : PySem.W.Frag} {w : St1 → MH → (Bool → MH → Prop) → Prop} (h : ∀ C, PTs X ifs (dT K C w)) : PTs X ifs (dTx K w) := ⟨fun pins s τ H Q I ⟨C, q⟩ => (h C).run pins s τ H Q I q⟩
def Es.len : Es Γ → Nat
  | .nil => 0
  | .cons _ r => r.len + 1
theorem mEs_len {M : Mc} : ∀ {es : Es Γ} {vs : List Expr}, mEs M es vs = true → vs.length = es.len
  | .nil, [], _ => rfl
  | .nil, _ :: _, h => by unfold mEs at h; cases h
  | .cons a r, [], h => by unfold mEs at h; cases h
  | .cons a r, e :: vs, h => by
    unfold mEs at h
    simp only [Bool.and_eq_true] at h
    rw [List.length_cons, mEs_len h.2]
    rfl
theorem snd_cs_nil {X : Cx} {B : Bs} {W : XS} : PTs X [] (dT Γ.K B (wpCs W (.nil : Ts Γ))) := by
  refine ⟨fun pins s τ H Q I hq => ?_⟩
  obtain ⟨N, F, σ, Q0, o, sl, w, post⟩ := hq
  exact pts_nil.run pins s τ H Q I (post _ N F H (Same.refl N) o w)
theorem snd_bmG {M : Mc} {X : Cx} {B : Bs} {W : XS} {b : Bm} {o : E Γ} {es : Es Γ} {oe : Expr} {args : List Expr} {ap pos : Pos} (n1 : b ≠ .get) (n2 : b ≠ .dpop) (hx : CxOk Γ M X) (h4 : mEs M es args = true) (hl : args.length = b.arity) (h3 : baseB oe = true) (h6 : (ap.endLine == pos.line) = true)
    (ho : PE X oe (dV Γ.K B (wpE W o))) (ha : PA X args (dA Γ.K B (wpEs W es))) : PE X (.Call (.Attribute oe b.nm ap) args [] pos) (dV Γ.K B (wpE W (.bm b o es))) := by
  have hp := plains_mEs es h4
  rcases args with _ | ⟨x, t⟩
  · have ee : es = .nil := by
      cases es with
      | nil => rfl
      | cons a r => unfold mEs at h4; cases h4
    subst ee
    cases b with
    | pop => exact snd_bm0 (b := .pop) hx F.plainAttrs_list F.slot_list_pop F.type_list_pop mtS_pop rfl (by decide) h3 h6 ho
    | clear => exact snd_bm0 (b := .clear) hx F.plainAttrs_list F.slot_list_clear F.type_list_clear mtS_clear rfl (by decide) h3 h6 ho
    | _ => cases hl
  · have hlt : (x :: t).length < 29 := by
      rw [hl]
      cases b <;> decide
    cases b with
    | append => exact snd_bm1 (b := .append) hx F.plainAttrs_list F.slot_list_append F.type_list_append mtS_append rfl (by decide) h3 h6 hp hlt ho ha
    | index => exact snd_bm1 (b := .index) hx F.plainAttrs_list F.slot_list_index F.type_list_index mtS_index rfl (by decide) h3 h6 hp hlt ho ha
    | count => exact snd_bm1 (b := .count) hx F.plainAttrs_list F.slot_list_count F.type_list_count mtS_count rfl (by decide) h3 h6 hp hlt ho ha
    | join => exact snd_bm1 (b := .join) hx F.plainAttrs_str F.slot_str_join F.type_str_join mtS_join rfl (by decide) h3 h6 hp hlt ho ha
    | split => exact snd_bm1 (b := .split) hx F.plainAttrs_str F.slot_str_split F.type_str_split mtS_split rfl (by decide) h3 h6 hp hlt ho ha
    | partition => exact snd_bm1 (b := .partition) hx F.plainAttrs_str F.slot_str_partition F.type_str_partition mtS_partition rfl (by decide) h3 h6 hp hlt ho ha
    | get => exact absurd rfl n1
    | dpop => exact absurd rfl n2
    | pop => cases hl
    | clear => cases hl
include ga
mutual
theorem sndE : ∀ (c : E Γ) {M : Mc} {X : Cx} {B : Bs} {W : XS} {e : Expr}, mE M c e = true → CxOk Γ M X → Takes X (liftW Γ.K B W) → PE X e (dV Γ.K B (wpE W c))
  | .var i, M, X, B, W, e, h, hx, tk => snd_var h hx
  | .cst v, M, X, B, W, e, h, hx, tk => snd_cst h hx
  | .gl x r, M, X, B, W, e, h, hx, tk => snd_gl h hx
  | .bin op a b, M, X, B, W, e, h, hx, tk => by
    unfold mE at h
    split at h
    · simp only [Bool.and_eq_true] at h
      obtain ⟨⟨h1, h2⟩, h3⟩ := h
      have e1 := of_decide_eq_true h1
      subst e1
      exact snd_bin hx (sndE a h2 hx tk) (sndE b h3 hx tk)
    · cases h
  | .litz m a b, M, X, B, W, e, h, hx, tk => by
    unfold mE at h
    split at h
    · simp only [Bool.and_eq_true] at h
      obtain ⟨⟨h1, h2⟩, ⟨⟨h3, h4⟩, h5⟩, h6⟩ := h
      have e1 := strB_eq h1
      have e2 := strB_eq h3
      subst e1 e2
      exact snd_litz hx ga h2 h4 (plain_mE a h5) (plain_mE b h6) (sndE a h5 hx tk) (sndE b h6 hx tk)
    · cases h
  | .addL a b, M, X, B, W, e, h, hx, tk => by
    unfold mE at h
    split at h
    · simp only [Bool.and_eq_true] at h
      obtain ⟨⟨h1, h2⟩, h3⟩ := h
      have e1 := of_decide_eq_true h1
      subst e1
      exact snd_addL hx (sndE a h2 hx tk) (sndE b h3 hx tk)
    · cases h
  | .neg a, M, X, B, W, e, h, hx, tk => by
    unfold mE at h
    split at h
    · exact snd_neg (sndE a h hx tk)
    · cases h
  | .not a, M, X, B, W, e, h, hx, tk => by
    unfold mE at h
    split at h
    · exact snd_not (sndE a h hx tk)
    · cases h
  | .cmp op a b, M, X, B, W, e, h, hx, tk => by
    unfold mE at h
    split at h
    · simp only [Bool.and_eq_true] at h
      obtain ⟨⟨h1, h2⟩, h3⟩ := h
      have e1 := of_decide_eq_true h1
      subst e1
      exact snd_cmp hx (plain_mE b h3) (sndE a h2 hx tk) (sndE b h3 hx tk)
    · cases h
  | .chain op op2 a b c, M, X, B, W, e, h, hx, tk => by
    unfold mE at h
    split at h
    · simp only [Bool.and_eq_true] at h
      obtain ⟨⟨⟨⟨h1, h2⟩, h3⟩, h4⟩, h5⟩ := h
      have e1 := of_decide_eq_true h1
      subst e1
      have e2 := of_decide_eq_true h2
      subst e2
      exact snd_chain hx (plain_mE c h5) (sndE a h3 hx tk) (sndE b h4 hx tk) (sndE c h5 hx tk)
    · cases h
  | .bool op es, M, X, B, W, e, h, hx, tk => by
    unfold mE at h
    split at h
    · simp only [Bool.and_eq_true] at h
      obtain ⟨⟨h1, h2⟩, h3⟩ := h
      have e1 := of_decide_eq_true h1
      subst e1
      exact sndBl es h2 hx tk (by have := of_decide_eq_true h3; omega)
    · cases h
  | .tup es, M, X, B, W, e, h, hx, tk => by
    unfold mE at h
    split at h
    · exact snd_tup (sndEs es h hx tk)
    · cases h
  | .lst m es, M, X, B, W, e, h, hx, tk => by
    unfold mE at h
    split at h
    · exact snd_lst (sndEs es h hx tk)
    · cases h
  | .dic0, M, X, B, W, e, h, hx, tk => by
    unfold mE at h
    split at h
    · exact snd_dic0
    · cases h
  | .dic1 k v, M, X, B, W, e, h, hx, tk => by
    unfold mE at h
    split at h
    · simp only [Bool.and_eq_true] at h
      exact snd_dic1 (fun C => sndE k h.1 hx takes_no) (fun C => sndE v h.2 hx takes_no)
    · cases h
  | .ix a i, M, X, B, W, e, h, hx, tk => by
    unfold mE at h
    split at h
    · simp only [Bool.and_eq_true] at h
      exact snd_ix hx (plain_mE i h.2) (sndE a h.1 hx tk) (sndE i h.2 hx tk)
    · cases h
  | .sl a lo hi, M, X, B, W, e, h, hx, tk => by
    unfold mE at h
    split at h
    · simp only [Bool.and_eq_true] at h
      exact snd_sl hx (sndE a h.1.1 hx tk) (sndP lo h.1.2 hx tk) (sndP hi h.2 hx tk)
    · cases h
  | .rev a k, M, X, B, W, e, h, hx, tk => by
    unfold mE at h
    split at h
    · simp only [Bool.and_eq_true] at h
      exact snd_rev hx (sndE a h.1 hx tk) (sndP k h.2 hx tk)
    · cases h
  | .call x r es, M, X, B, W, e, h, hx, tk => by
    unfold mE at h
    split at h
    · rename_i y p args pos
      simp only [Bool.and_eq_true] at h
      obtain ⟨⟨⟨⟨h1, h2⟩, h3⟩, h4⟩, h5⟩ := h
      have e1 := strB_eq h1
      subst e1
      have h6 := sndEs es h4 hx tk
      have h7 := plains_mEs es h4
      cases args with
      | nil => cases h5
      | cons a args => exact snd_call hx tk h2 h3 h7 h6
    · cases h
  | .meth m r o es, M, X, B, W, e, h, hx, tk => by
    unfold mE at h
    split at h
    · rename_i o' m' ap args p
      simp only [Bool.and_eq_true] at h
      obtain ⟨⟨⟨⟨⟨h1, h2⟩, h3⟩, h4⟩, h5⟩, h6⟩ := h
      have e1 := strB_eq h1
      subst e1
      have h8 := sndE o h2 hx tk
      have h9 := sndEs es h4 hx tk
      have h7 := plains_mEs es h4
      cases args with
      | nil =>
        cases es with
        | nil => exact snd_meth0 hx tk h3 h6 h8
        | cons a r => unfold mEs at h4; cases h4
      | cons a args => exact snd_meth hx tk h3 (of_decide_eq_true h5) h6 h7 h8 h9
    · cases h
  | .mk x r es, M, X, B, W, e, h, hx, tk => by
    unfold mE at h
    split at h
    · rename_i y p args pos
      simp only [Bool.and_eq_true] at h
      obtain ⟨⟨⟨h1, h2⟩, h3⟩, h4⟩ := h
      have e1 := strB_eq h1
      subst e1
      have h6 := sndEs es h4 hx tk
      have h7 := plains_mEs es h4
      cases args with
      | nil =>
        cases es with
        | nil => exact snd_mk0 hx h2 h3
        | cons a r => unfold mEs at h4; cases h4
      | cons a args => exact snd_mk hx h2 h3 h7 h6
    · cases h
  | .bi b es, M, X, B, W, e, h, hx, tk => by
    unfold mE at h
    split at h
    · rename_i y p args pos
      simp only [Bool.and_eq_true] at h
      obtain ⟨⟨⟨⟨h1, h2⟩, h3⟩, h4⟩, h5⟩ := h
      have e1 := strB_eq h1
      subst e1
      have h6 := sndEs es h4 hx tk
      have h7 := plains_mEs es h4
      cases args with
      | nil => cases h5
      | cons a args => exact snd_bi hx ga h2 h3 h7 h6
    · cases h
  | .bm .append o es, M, X, B, W, e, h, hx, tk => by
    unfold mE at h
    split at h
    · rename_i o' m' ap args p
      simp only [Bool.and_eq_true] at h
      obtain ⟨⟨⟨⟨⟨h1, h2⟩, h3⟩, h4⟩, h5⟩, h6⟩ := h
      have e1 := strB_eq h1
      subst e1
      exact snd_bmG (b := .append) (fun z => nomatch z) (fun z => nomatch z) hx h4 (of_decide_eq_true h5) h3 h6 (sndE o h2 hx tk) (sndEs es h4 hx tk)
    · cases h
  | .bm .pop o es, M, X, B, W, e, h, hx, tk => by
    unfold mE at h
    split at h
    · rename_i o' m' ap args p
      simp only [Bool.and_eq_true] at h
      obtain ⟨⟨⟨⟨⟨h1, h2⟩, h3⟩, h4⟩, h5⟩, h6⟩ := h
      have e1 := strB_eq h1
      subst e1
      exact snd_bmG (b := .pop) (fun z => nomatch z) (fun z => nomatch z) hx h4 (of_decide_eq_true h5) h3 h6 (sndE o h2 hx tk) (sndEs es h4 hx tk)
    · cases h
  | .bm .clear o es, M, X, B, W, e, h, hx, tk => by
    unfold mE at h
    split at h
    · rename_i o' m' ap args p
      simp only [Bool.and_eq_true] at h
      obtain ⟨⟨⟨⟨⟨h1, h2⟩, h3⟩, h4⟩, h5⟩, h6⟩ := h
      have e1 := strB_eq h1
      subst e1
      exact snd_bmG (b := .clear) (fun z => nomatch z) (fun z => nomatch z) hx h4 (of_decide_eq_true h5) h3 h6 (sndE o h2 hx tk) (sndEs es h4 hx tk)
    · cases h
  | .bm .index o es, M, X, B, W, e, h, hx, tk => by
    unfold mE at h
    split at h
    · rename_i o' m' ap args p
      simp only [Bool.and_eq_true] at h
      obtain ⟨⟨⟨⟨⟨h1, h2⟩, h3⟩, h4⟩, h5⟩, h6⟩ := h
      have e1 := strB_eq h1
      subst e1
      exact snd_bmG (b := .index) (fun z => nomatch z) (fun z => nomatch z) hx h4 (of_decide_eq_true h5) h3 h6 (sndE o h2 hx tk) (sndEs es h4 hx tk)
    · cases h
  | .bm .count o es, M, X, B, W, e, h, hx, tk => by
    unfold mE at h
    split at h
    · rename_i o' m' ap args p
      simp only [Bool.and_eq_true] at h
      obtain ⟨⟨⟨⟨⟨h1, h2⟩, h3⟩, h4⟩, h5⟩, h6⟩ := h
      have e1 := strB_eq h1
      subst e1
      exact snd_bmG (b := .count) (fun z => nomatch z) (fun z => nomatch z) hx h4 (of_decide_eq_true h5) h3 h6 (sndE o h2 hx tk) (sndEs es h4 hx tk)
    · cases h
  | .bm .join o es, M, X, B, W, e, h, hx, tk => by
    unfold mE at h
    split at h
    · rename_i o' m' ap args p
      simp only [Bool.and_eq_true] at h
      obtain ⟨⟨⟨⟨⟨h1, h2⟩, h3⟩, h4⟩, h5⟩, h6⟩ := h
      have e1 := strB_eq h1
      subst e1
      exact snd_bmG (b := .join) (fun z => nomatch z) (fun z => nomatch z) hx h4 (of_decide_eq_true h5) h3 h6 (sndE o h2 hx tk) (sndEs es h4 hx tk)
    · cases h
  | .bm .split o es, M, X, B, W, e, h, hx, tk => by
    unfold mE at h
    split at h
    · rename_i o' m' ap args p
      simp only [Bool.and_eq_true] at h
      obtain ⟨⟨⟨⟨⟨h1, h2⟩, h3⟩, h4⟩, h5⟩, h6⟩ := h
      have e1 := strB_eq h1
      subst e1
      exact snd_bmG (b := .split) (fun z => nomatch z) (fun z => nomatch z) hx h4 (of_decide_eq_true h5) h3 h6 (sndE o h2 hx tk) (sndEs es h4 hx tk)
    · cases h
  | .bm .partition o es, M, X, B, W, e, h, hx, tk => by
    unfold mE at h
    split at h
    · rename_i o' m' ap args p
      simp only [Bool.and_eq_true] at h
      obtain ⟨⟨⟨⟨⟨h1, h2⟩, h3⟩, h4⟩, h5⟩, h6⟩ := h
      have e1 := strB_eq h1
      subst e1
      exact snd_bmG (b := .partition) (fun z => nomatch z) (fun z => nomatch z) hx h4 (of_decide_eq_true h5) h3 h6 (sndE o h2 hx tk) (sndEs es h4 hx tk)
    · cases h
  | .bm .get o (.cons a (.cons b .nil)), M, X, B, W, e, h, hx, tk => by
    unfold mE at h
    split at h
    · rename_i o' m' ap args p
      simp only [Bool.and_eq_true] at h
      obtain ⟨⟨⟨⟨⟨h1, h2⟩, h3⟩, h4⟩, h5⟩, h6⟩ := h
      have e1 := strB_eq h1
      subst e1
      rcases args with _ | ⟨x, _ | ⟨y, _ | ⟨z, t⟩⟩⟩
      · simp [mEs] at h4
      · simp [mEs] at h4
      · simp only [mEs, Bool.and_eq_true] at h4
        exact snd_get hx h3 h6 (plain_mE a h4.1) (plain_mE b h4.2.1) (sndE o h2 hx tk) (sndE a h4.1 hx tk) (sndE b h4.2.1 hx tk)
      · simp [mEs] at h4
    · cases h
  | .bm .dpop o (.cons a .nil), M, X, B, W, e, h, hx, tk => by
    unfold mE at h
    split at h
    · rename_i o' m' ap args p
      simp only [Bool.and_eq_true] at h
      obtain ⟨⟨⟨⟨⟨h1, h2⟩, h3⟩, h4⟩, h5⟩, h6⟩ := h
      have e1 := strB_eq h1
      subst e1
      rcases args with _ | ⟨x, _ | ⟨z, t⟩⟩
      · simp [mEs] at h4
      · simp only [mEs, Bool.and_eq_true] at h4
        exact snd_dpop hx h3 h6 (plain_mE a h4.1) (sndE o h2 hx tk) (sndE a h4.1 hx tk)
      · simp [mEs] at h4
    · cases h
  | .bm .get o .nil, M, X, B, W, e, h, hx, tk => by
    unfold mE at h
    split at h
    · rename_i o' m' ap args p
      simp only [Bool.and_eq_true] at h
      have h5 := of_decide_eq_true h.1.2
      have h6 := mEs_len h.1.1.2
      rw [h5] at h6
      simp [Es.len, Bm.arity] at h6
    · cases h
  | .bm .get o (.cons a .nil), M, X, B, W, e, h, hx, tk => by
    unfold mE at h
    split at h
    · rename_i o' m' ap args p
      simp only [Bool.and_eq_true] at h
      have h5 := of_decide_eq_true h.1.2
      have h6 := mEs_len h.1.1.2
      rw [h5] at h6
      simp [Es.len, Bm.arity] at h6
    · cases h
  | .bm .get o (.cons a (.cons b (.cons c r))), M, X, B, W, e, h, hx, tk => by
    unfold mE at h
    split at h
    · rename_i o' m' ap args p
      simp only [Bool.and_eq_true] at h
      have h5 := of_decide_eq_true h.1.2
      have h6 := mEs_len h.1.1.2
      rw [h5] at h6
      simp [Es.len, Bm.arity] at h6
    · cases h
  | .bm .dpop o .nil, M, X, B, W, e, h, hx, tk => by
    unfold mE at h
    split at h
    · rename_i o' m' ap args p
      simp only [Bool.and_eq_true] at h
      have h5 := of_decide_eq_true h.1.2
      have h6 := mEs_len h.1.1.2
      rw [h5] at h6
      simp [Es.len, Bm.arity] at h6
    · cases h
  | .bm .dpop o (.cons a (.cons b r)), M, X, B, W, e, h, hx, tk => by
    unfold mE at h
    split at h
    · rename_i o' m' ap args p
      simp only [Bool.and_eq_true] at h
      have h5 := of_decide_eq_true h.1.2
      have h6 := mEs_len h.1.1.2
      rw [h5] at h6
      simp [Es.len, Bm.arity] at h6
    · cases h
  | .isi x r a, M, X, B, W, e, h, hx, tk => by
    unfold mE at h
    split at h
    · simp only [Bool.and_eq_true] at h
      obtain ⟨⟨⟨⟨⟨h1, h2⟩, h3⟩, h4⟩, h5⟩, h6⟩ := h
      have e1 := strB_eq h1
      subst e1
      have e2 := strB_eq h3
      subst e2
      exact snd_isi hx ga h2 h4 h5 (plain_mE a h6) (sndE a h6 hx tk)
    · cases h
  | .isiT cs a, M, X, B, W, e, h, hx, tk => by
    unfold mE at h
    split at h
    · simp only [Bool.and_eq_true] at h
      obtain ⟨⟨⟨h1, h2⟩, h3⟩, h4⟩ := h
      have e1 := strB_eq h1
      subst e1
      exact snd_isiT hx ga h2 h3 (plain_mE a h4) (sndE a h4 hx tk)
    · cases h
  | .xfl f r o, M, X, B, W, e, h, hx, tk => by
    unfold mE at h
    split at h
    · simp only [Bool.and_eq_true] at h
      obtain ⟨⟨h1, h2⟩, h3⟩ := h
      have e1 := strB_eq h1
      subst e1
      exact snd_xfl hx h3 (sndE o h2 hx tk)
    · cases h
  | .fld f r o, M, X, B, W, e, h, hx, tk => by
    unfold mE at h
    split at h
    · simp only [Bool.and_eq_true] at h
      obtain ⟨⟨h1, h2⟩, h3⟩ := h
      have e1 := strB_eq h1
      subst e1
      exact snd_fld hx h3 (sndE o h2 hx tk)
    · cases h
  | .lc m elt t it cond, M, X, B, W, e, h, hx, tk => by
    unfold mE at h
    split at h
    · simp only [Bool.and_eq_true] at h
      obtain ⟨⟨⟨⟨⟨⟨h1, h2⟩, h3⟩, h4⟩, h5⟩, h6⟩, h7⟩ := h
      have i1 := sndIt it h3 h2 hx tk
      exact snd_lc hx h1 (fun x => plain_mIt it h3 x) i1 (fun X' hx' => pg_x h4 hx') (fun X' hx' => pts_dT fun C => sndCs cond h5 (of_decide_eq_true h6) hx' takes_no) (fun X' hx' => pe_x fun C => sndE elt h7 hx' takes_no)
    · cases h
  | .lcK m elt t d cond, M, X, B, W, e, h, hx, tk => by
    unfold mE at h
    split at h
    · simp only [Bool.and_eq_true] at h
      obtain ⟨⟨⟨⟨⟨h1, h3⟩, h4⟩, h5⟩, h6⟩, h7⟩ := h
      exact snd_lcK hx h1 (fun x => noset_plain (plain_mE d h3) _ x) (sndE d h3 hx takes_no) (fun X' hx' => pg_x h4 hx') (fun X' hx' => pts_dT fun C => sndCs cond h5 (of_decide_eq_true h6) hx' takes_no) (fun X' hx' => pe_x fun C => sndE elt h7 hx' takes_no)
    · cases h
  | .frz a, M, X, B, W, e, h, hx, tk => by
    unfold mE at h
    exact snd_frz (sndE a h hx tk)
theorem sndEs : ∀ (es : Es Γ) {M : Mc} {X : Cx} {B : Bs} {W : XS} {vs : List Expr}, mEs M es vs = true → CxOk Γ M X → Takes X (liftW Γ.K B W) → PA X vs (dA Γ.K B (wpEs W es))
  | .nil, M, X, B, W, vs, h, hx, tk => by
    unfold mEs at h
    cases vs with
    | nil => exact snd_pa_nil
    | cons a r => cases h
  | .cons a r, M, X, B, W, vs, h, hx, tk => by
    unfold mEs at h
    split at h
    · simp only [Bool.and_eq_true] at h
      exact snd_pa_cons (plain_mE a h.1) (sndE a h.1 hx tk) (sndEs r h.2 hx tk)
    · cases h
theorem sndP : ∀ (es : Es Γ) {M : Mc} {X : Cx} {B : Bs} {W : XS} {o : Option Expr}, mP M es o = true → CxOk Γ M X → Takes X (liftW Γ.K B W) → PO X o (dO Γ.K B (wpP W es))
  | .nil, M, X, B, W, o, h, hx, tk => by
    unfold mP at h
    cases o with
    | none => exact snd_po_nil
    | some a => cases h
  | .cons a r, M, X, B, W, o, h, hx, tk => by
    unfold mP at h
    split at h
    · exact snd_po_some (sndE a h hx tk)
    · cases h
theorem sndBl : ∀ (es : Es Γ) {M : Mc} {X : Cx} {B : Bs} {W : XS} {op : BoolOp} {vs : List Expr} {pos : Pos}, mEs M es vs = true → CxOk Γ M X → Takes X (liftW Γ.K B W) → 1 ≤ vs.length → PE X (.BoolOp op vs pos) (dV Γ.K B (wpBl W op es))
  | .nil, M, X, B, W, op, vs, pos, h, hx, tk, hl => by
    unfold mEs at h
    cases vs with
    | nil => cases hl
    | cons a r => cases h
  | .cons a .nil, M, X, B, W, op, vs, pos, h, hx, tk, hl => by
    unfold mEs at h
    split at h
    · rename_i e rest
      simp only [Bool.and_eq_true] at h
      obtain ⟨h1, h2⟩ := h
      unfold mEs at h2
      cases rest with
      | nil => exact snd_bool1 (sndE a h1 hx tk)
      | cons _ _ => cases h2
    · cases h
  | .cons a (.cons b r), M, X, B, W, op, vs, pos, h, hx, tk, hl => by
    unfold mEs at h
    split at h
    · rename_i e rest
      simp only [Bool.and_eq_true] at h
      obtain ⟨h1, h2⟩ := h
      cases rest with
      | nil => unfold mEs at h2; cases h2
      | cons m rest => exact snd_bool (sndE a h1 hx tk) (sndBl (.cons b r) h2 hx tk (by simp))
    · cases h
theorem sndT : ∀ (t : T Γ) {M : Mc} {X : Cx} {B : Bs} {W : XS} {e : Expr}, mT M t e = true → CxOk Γ M X → Takes X (liftW Γ.K B W) → PT X e (dT Γ.K B (wpT W t))
  | .val a, M, X, B, W, e, h, hx, tk => by
    unfold mT at h
    simp only [Bool.and_eq_true] at h
    exact snd_t_val hx h.1 (sndE a h.2 hx tk)
  | .cmp op a b, M, X, B, W, e, h, hx, tk => by
    unfold mT at h
    split at h
    · simp only [Bool.and_eq_true] at h
      obtain ⟨⟨h1, h2⟩, h3⟩ := h
      have e1 := of_decide_eq_true h1
      subst e1
      exact snd_t_cmp hx (plain_mE b h3) (sndE a h2 hx tk) (sndE b h3 hx tk)
    · cases h
  | .chain op op2 a b c, M, X, B, W, e, h, hx, tk => by
    unfold mT at h
    split at h
    · simp only [Bool.and_eq_true] at h
      obtain ⟨⟨⟨⟨h1, h2⟩, h3⟩, h4⟩, h5⟩ := h
      have e1 := of_decide_eq_true h1
      subst e1
      have e2 := of_decide_eq_true h2
      subst e2
      exact snd_t_chain hx (plain_mE c h5) (sndE a h3 hx tk) (sndE b h4 hx tk) (sndE c h5 hx tk)
    · cases h
  | .dnil a, M, X, B, W, e, h, hx, tk => by
    unfold mT at h
    split at h
    · simp only [Bool.and_eq_true] at h
      obtain ⟨h1, h2⟩ := h
      have e1 := of_decide_eq_true h1
      subst e1
      exact snd_t_dnil hx (sndE a h2 hx tk)
    · cases h
  | .cmpD a b, M, X, B, W, e, h, hx, tk => by
    unfold mT at h
    split at h
    · simp only [Bool.and_eq_true] at h
      obtain ⟨⟨h1, h2⟩, h3⟩ := h
      have e1 := of_decide_eq_true h1
      subst e1
      exact snd_t_cmpD hx (plain_mE b h3) (sndE a h2 hx tk) (sndE b h3 hx tk)
    · cases h
  | .not a, M, X, B, W, e, h, hx, tk => by
    unfold mT at h
    split at h
    · exact snd_t_not (sndT a h hx tk)
    · cases h
  | .bool op ts, M, X, B, W, e, h, hx, tk => by
    unfold mT at h
    split at h
    · simp only [Bool.and_eq_true] at h
      obtain ⟨⟨h1, h2⟩, h3⟩ := h
      have e1 := of_decide_eq_true h1
      subst e1
      exact (sndTs ts h2 hx tk (of_decide_eq_true h3)).pt
    · cases h
theorem sndTs : ∀ (ts : Ts Γ) {M : Mc} {X : Cx} {B : Bs} {W : XS} {op : BoolOp} {vs : List Expr} {pos : Pos}, mTs M ts vs = true → CxOk Γ M X → Takes X (liftW Γ.K B W) → 1 ≤ vs.length → PW X (.BoolOp op vs pos) (dT Γ.K B (wpTs W op ts))
  | .nil, M, X, B, W, op, vs, pos, h, hx, tk, hl => by
    unfold mTs at h
    cases vs with
    | nil => cases hl
    | cons a r => cases h
  | .cons a .nil, M, X, B, W, op, vs, pos, h, hx, tk, hl => by
    unfold mTs at h
    split at h
    · rename_i e rest
      simp only [Bool.and_eq_true] at h
      obtain ⟨h1, h2⟩ := h
      unfold mTs at h2
      cases rest with
      | nil => exact snd_w1 (sndT a h1 hx tk)
      | cons _ _ => cases h2
    · cases h
  | .cons a (.cons b r), M, X, B, W, op, vs, pos, h, hx, tk, hl => by
    unfold mTs at h
    split at h
    · rename_i e rest
      simp only [Bool.and_eq_true] at h
      obtain ⟨h1, h2⟩ := h
      cases rest with
      | nil => unfold mTs at h2; cases h2
      | cons m rest => exact snd_w (sndT a h1 hx tk) (sndTs (.cons b r) h2 hx tk (by simp))
    · cases h
theorem sndCs : ∀ (ts : Ts Γ) {M : Mc} {X : Cx} {B : Bs} {W : XS} {ifs : List Expr}, mTs M ts ifs = true → ifs.length ≤ 1 → CxOk Γ M X → Takes X (liftW Γ.K B W) → PTs X ifs (dT Γ.K B (wpCs W ts))
  | .nil, M, X, B, W, ifs, h, hl, hx, tk => by
    unfold mTs at h
    cases ifs with
    | nil => exact snd_cs_nil
    | cons a r => cases h
  | .cons a r, M, X, B, W, ifs, h, hl, hx, tk => by
    unfold mTs at h
    split at h
    · rename_i e rest
      simp only [Bool.and_eq_true] at h
      cases rest with
      | nil => exact pts_one (sndT a h.1 hx tk)
      | cons _ _ => simp at hl
    · cases h
theorem sndIt : ∀ (it : Bv.It Γ) {M : Mc} {X : Cx} {B : Bs} {W : XS} {tg e : Expr}, mIt M it e = true → tgB it tg = true → CxOk Γ M X → Takes X (liftW Γ.K B W) → PI X tg e (dI B W it)
  | .lst a, M, X, B, W, tg, e, h, ht, hx, tk => by
    unfold mIt at h
    exact snd_it_lst hx (sndE a h hx tk)
  | .tupl a, M, X, B, W, tg, e, h, ht, hx, tk => by
    unfold mIt at h
    exact snd_it_tup hx (sndE a h hx tk)
  | .str a, M, X, B, W, tg, e, h, ht, hx, tk => by
    unfold mIt at h
    exact snd_it_str (sndE a h hx tk)
  | .rng1 a, M, X, B, W, tg, e, h, ht, hx, tk => by
    unfold mIt at h
    split at h
    · simp only [Bool.and_eq_true] at h
      obtain ⟨⟨h1, h2⟩, h3⟩ := h
      have e1 := strB_eq h1
      subst e1
      exact snd_it_rng1 hx ga h2 (plain_mE a h3) (sndE a h3 hx tk)
    · cases h
  | .rng2 a b, M, X, B, W, tg, e, h, ht, hx, tk => by
    unfold mIt at h
    split at h
    · simp only [Bool.and_eq_true] at h
      obtain ⟨⟨⟨h1, h2⟩, h3⟩, h4⟩ := h
      have e1 := strB_eq h1
      subst e1
      exact snd_it_rng2 hx ga h2 (plain_mE a h3) (plain_mE b h4) (sndE a h3 hx tk) (sndE b h4 hx tk)
    · cases h
  | .zip2 a b, M, X, B, W, tg, e, h, ht, hx, tk => by
    unfold mIt at h
    split at h
    · simp only [Bool.and_eq_true] at h
      obtain ⟨⟨⟨h1, h2⟩, h3⟩, h4⟩ := h
      have e1 := strB_eq h1
      subst e1
      unfold tgB at ht
      simp only at ht
      split at ht
      · exact snd_it_zip hx ga h2 (plain_mE a h3) (plain_mE b h4) (sndE a h3 hx tk) (sndE b h4 hx tk)
      · cases ht
    · cases h
  | .enum a, M, X, B, W, tg, e, h, ht, hx, tk => by
    unfold mIt at h
    split at h
    · simp only [Bool.and_eq_true] at h
      obtain ⟨⟨h1, h2⟩, h3⟩ := h
      have e1 := strB_eq h1
      subst e1
      unfold tgB at ht
      simp only at ht
      split at ht
      · exact snd_it_enum hx ga h2 (plain_mE a h3) (sndE a h3 hx tk)
      · cases ht
    · cases h
end
end
end Bv

/-! An except clause that keeps the exception; an own error raised with any text. -/
namespace Bv
open PySem PySem.Spec L2 PyProof.Rows
section
variable {X : Cx} {pins : List (Addr × Obj)} {σ : L2.St} {H : Hp} {sI s s' : Shared} {B : Heap}
/-- back on the ground: the exception's own object is told, too -/
theorem landedX {a : Addr} {o : HO} (I : Inv X pins σ H sI) (nb : ∀ b o, sI.heap.get? b = some o → b ∉ frs X.stack → B.get? b = some o) (st : B.StaysIn s'.heap) (up : sI.heap.UpToSlots s'.heap) (os : s'.os = sI.os) (ag : AllBare s'.gens)
    (hp : sI.heap.get? a = none) (hn : H a = none) (new : ObjOk X.prog X.w (upd H a o) s'.heap a o) : Inv X pins σ (upd H a o) s' := by
  have nf : ∀ b ∈ frs X.stack, ∀ o, sI.heap.get? b = some o → ∃ sl, s'.heap.get? b = some { o with slots := sl } := fun b hb o e => by
    obtain ⟨_, o', e', hd⟩ := I.stack.mem hb
    rw [e] at e'; cases e'
    exact up b o e hd
  have J := I.call (ch := []) (h' := s'.heap) (g' := s'.gens) (t' := s'.toks) (d' := s'.drawn) (H' := upd H a o)
    ⟨fun b o e _ hb _ => st b o (nb b o e hb), fun b o e _ hb _ => nf b hb o e, fun b u q n _ => by rw [upd_ne (fun z => by rw [z, hp] at q; cases q)]; exact n, fun b o e _ => by
      by_cases hb : b ∈ frs X.stack
      · obtain ⟨sl, q⟩ := nf b hb o e
        exact ⟨_, q⟩
      · exact ⟨o, st b o (nb b o e hb)⟩, fun b xs q => by rw [upd_ne (ne_of_none q hn)]; exact q, fun b u xs q => by rw [upd_ne (ne_of_none q hn)]; exact q, fun b ps q => ⟨#[], by rw [upd_ne (ne_of_none q hn), q]; simp⟩⟩
    (HOk.laidN ((I.inGround nb).kept st) (fun _ _ e => e) hn new) ag (fun _ z => nomatch z)
  obtain ⟨a1, a2, a3, a4, a5⟩ := s'
  have e5 : a5 = sI.os := os
  subst e5
  exact J
theorem toSuite (I : Inv X pins σ H s) {a : Addr} : Inv (X.suite a (X.pn ++ pins)) [] σ H s :=
  ⟨I.ok.suite _ _, I.os, I.bare, I.base, I.loc, I.cell, I.free, I.freeC, fun p hp => I.pin p (by rw [List.append_nil] at hp; exact hp), I.hok, I.len⟩
theorem ofSuite {a : Addr} (I : Inv (X.suite a (X.pn ++ pins)) [] σ H s) (ok : X.Ok) : Inv X pins σ H s :=
  ⟨ok, I.os, I.bare, I.base, I.loc, I.cell, I.free, I.freeC, fun p hp => I.pin p (by rw [List.append_nil]; exact hp), I.hok, I.len⟩
end
/-- what the clause 'except x as n: z = n' wishes of an exception of the body -/
def wK (K : PySem.W.Frag) (c : Value) (i j : Nat) (Wout : WX) (D : Ends) : WX := fun cls d σ H =>
  ∃ b, PySem.W.exmOne K cls c = some b ∧ (b = true → ∀ a, H a = none → D.nx ((σ.set j (some (.ref a))).set i none) (upd H a (ExG cls d a))) ∧ (b = false → Wout cls d σ H)
section
variable {X : Cx} {x n z : Str} {c : Value} {i j : Nat} {body : List Stmt} {np zp np2 ap pos pos' : Pos} {tb : WX → TS} {Wout : WX}
theorem ps_tryK (hs : X.stack = X.env :: X.outer) (hf : X.env.frame = some X.env.locals) (hN : X.N.Nodup) (hi : X.N[i]? = some n) (hj : X.N[j]? = some z) (hij : i ≠ j) (hln : X.env.kindOf n = some .local) (hlz : X.env.kindOf z = some .local)
    (hd1 : (n == ("__debug__" : Str)) = false) (hd2 : (n == ("__classdict__" : Str)) = false) (hc : Names X x c) (tk : Takes X Wout)
    (hb : ∀ (W : WX) (pn : List (Addr × Obj)) (xe : Value → Shared → Prop), Takes (X.tr pn xe) W → PassesOwn (model X.prog X.w) X.A X.env xe → PSs (X.tr pn xe) body (tb W)) :
    PS X (.Try body [.ExceptHandler (some (.Name x np)) (some n) [.Assign [.Name z zp] (.Name n np2) ap] pos'] [] [] pos) (fun D σ H => tb (wK X.K c i j Wout D) D σ H) := by
  refine ⟨fun pins s σ H D I h => ?_⟩
  have ok := I.ok
  have hfr : X.A.frames = some (X.env :: X.outer) := by rw [ok.frames, hs]
  have hloc : Loc X.env.scope n := .inl hln
  refine wpAny_Try_except ?_
  refine wpAny_mono ((hb (wK X.K c i j Wout D) (X.pn ++ pins) (fun e s₁ => wpAny (model X.prog X.w) X.A (noteFrame e X.env) (fun _ s₂ => wpAny (model X.prog X.w) X.A (setFlight e none) (fun _ s₃ =>
    wpAny (model X.prog X.w) X.A (handleBy e X.env [.ExceptHandler (some (.Name x np)) (some n) [.Assign [.Name z zp] (.Name n np2) ap] pos']) (SP X pins D) X.xe s₃) X.xe s₂) X.xe s₁) (fun u s' xx => ?_) PassesOwn.looking).run [] s σ H D (I.toTry _) h) (fun f s1 hsp => ?_) (fun e s1 he => he)
  · -- the catch
    obtain ⟨a, B, sI, pins', σ', H', cls, d, rfl, J', nb, up, sky, na, os, ag, b, hb1, hyes, hno⟩ := xx
    have J : Inv X pins σ' H' sI := J'.ofTry ok
    have sky' : Sky B (X.env :: X.outer) a (Zc cls d) X.env.locals s'.heap := by rw [← hs]; exact sky
    show wpAny (model X.prog X.w) X.A (noteFrame (.ref a) X.env) _ _ _
    refine Sky.land Zc.steady hfr hf sky' fun h3 fl3 up3 => ?_
    have J3 : Inv X pins σ' H' { s' with heap := h3 } := J.landed nb fl3.1 (up.trans up3) os ag
    obtain ⟨oe3, vs3, he3, hz3, hd3⟩ := fl3.there
    have notFr : ∀ {h : Heap} {o : Obj} {vs : Array Value}, h.FunFrames B (X.env :: X.outer) → h.get? a = some o → o.data = .fields vs → a ∉ frs (X.env :: X.outer) := fun {h o vs} ff e dd hm => by
      obtain ⟨_, o', e', hnf⟩ := ff.mem hm
      rw [e] at e'; cases e'
      exact hnf _ dd
    have nfr := notFr fl3.2.2.1 he3 hd3
    have nL : a ≠ X.env.locals := fun z => nfr (List.mem_filterMap.mpr ⟨X.env, List.mem_cons_self, by rw [hf, z]⟩)
    have nF : a ∉ X.fs := fun hm => by
      obtain ⟨e, he, q⟩ := List.mem_filterMap.mp hm
      exact nfr (List.mem_filterMap.mpr ⟨e, List.mem_cons_of_mem _ he, q⟩)
    have S3 := J3.suite he3 hd3 na nL nF
    refine wpAny_handleBy_cons (codeAny_handlers_test ?_) (by intro q; cases q)
    have LT : PySem.W.Looks (model X.prog X.w) h3 (typeOf (.ref a)) cls := fun A Q E s k q => wpAny_typeOf_ref (k _ _ he3) (by rw [hz3.1]; exact q)
    have LM := PySem.W.exm_one (M := model X.prog X.w) (J3.kIn) LT hb1
    have test : ∀ {Q : Value → Shared → Prop} {E : Value → Shared → Prop}, Q c { s' with heap := h3 } → wpAny (model X.prog X.w) (X.A.mark (some (.ref a))) (eval (.Name x np) X.env) Q E { s' with heap := h3 } := fun {Q E} q => by
      obtain ⟨hg, hdbg, hm | ⟨hm, hv, hnn⟩⟩ := hc
      · exact ld_glob (X := X.suite a ((a, oe3) :: (X.pn ++ pins))) S3 hg hm q hdbg
      · exact ld_blt (X := X.suite a ((a, oe3) :: (X.pn ++ pins))) S3 hg hm hv q hnn hdbg
    refine test (LM.here ?_)
    cases b with
    | true =>
      refine codeAny_handlers_suite_as ?_
      refine HandSPX.lands_againZ fl3 fun h4 fl4 up4 => ?_
      have J4 : Inv X pins σ' H' { s' with heap := h4 } := J.landed nb fl4.1 ((up.trans up3).trans up4) os ag
      obtain ⟨oe4, vs4, he4, hz4, hd4⟩ := fl4.there
      have nI : sI.heap.get? a = none := by
        cases e : sI.heap.get? a with
        | none => rfl
        | some o =>
          have q := nb a o e (by rw [hs]; exact notFr fl4.2.2.1 he4 hd4)
          rw [fl4.2.1] at q
          cases q
      have new : ObjOk X.prog X.w (upd H' a (ExG cls d a)) h4 a (ExG cls d a) := ⟨⟨oe4, vs4, he4, hz4, hd4⟩, ⟨oe4, he4⟩, fun h1 h2 ⟨o, vs, q1, q2, q3⟩ k => ⟨o, vs, k o q1, q2, q3⟩⟩
      have JX : Inv X pins σ' (upd H' a (ExG cls d a)) { s' with heap := h4 } := landedX J nb fl4.1 ((up.trans up3).trans up4) os ag nI na new
      refine store_ok (X := X) (v := .ref a) JX hN hi hloc rfl (fun s5 J5 => ?_) (.inr hln)
      have S5 := toSuite J5 (a := a)
      have hli : i < σ'.length := by rw [J'.len]; exact (List.getElem?_eq_some_iff.mp hi).1
      have PA1 : PSs (X.suite a (X.pn ++ pins)) [.Assign [.Name z zp] (.Name n np2) ap] (tAsg (tVar i) (gName j)) :=
        pss_one (ps_set (X := X.suite a (X.pn ++ pins)) hN hj (.inl hlz) (pe_var (X := X.suite a (X.pn ++ pins)) hi (.inl hln) hd1 hd2) rfl (.inr hlz))
      refine wpAny_mono (PA1.run [] s5 _ _ { nx := fun σ6 H6 => σ6 = (σ'.set i (some (.ref a))).set j (some (.ref a)) ∧ H6 = upd H' a (ExG cls d a), rt := fun _ _ => False } S5 ⟨.ref a, List.getElem?_set_self hli, rfl, rfl⟩) (fun f s6 hsp => ?_) (fun _ _ z => False.elim z)
      cases f with
      | next =>
        obtain ⟨σ6, H6, S6, e6, e7⟩ := hsp
        subst e6 e7
        refine gone_ok (ofSuite S6 ok) hN hi hln fun s7 J7 => ⟨_, _, J7, ?_⟩
        have e8 : (((σ'.set i (some (V.ref a))).set j (some (.ref a))).set i none) = (σ'.set j (some (.ref a))).set i none := by
          rw [List.set_comm _ _ hij, List.set_set]
        rw [e8]
        exact hyes rfl a na
      | brk => obtain ⟨_, _, _, q⟩ := hsp; exact q.elim
      | cont => obtain ⟨_, _, _, q⟩ := hsp; exact q.elim
      | ret u => obtain ⟨_, _, _, _, _, q⟩ := hsp; exact q.elim
    | false =>
      show wpAny _ X.A (handleBy (.ref a) X.env []) _ _ _
      refine wpAny_handleBy_nil ?_
      obtain ⟨k1, k2, k3, oe, vs, T, oT, ts', he, hz, hd, h1, hr⟩ := id fl3
      unfold PySem.passOn
      refine wpAny_bind (wpAny_field he hd h1 ?_)
      rw [if_neg (show ¬ ((Value.ref T == Value.none) = true) from by simp)]
      have fin : wpAny (model X.prog X.w) X.A (setFlight (.ref a) X.env.frame) (fun _ s4 => wpAny (model X.prog X.w) X.A (throw (.ref a) : Sem Flow) (SP X pins D) X.xe s4) X.xe { s' with heap := h3 } := by
        rw [hf]
        refine HandSPX.setFlight_upZ fl3 fun h4 hh4 up4 => wpAny_throw (tk _ _ ?_)
        exact ⟨a, B, sI, pins, σ', H', cls, d, rfl, J, nb, (up.trans up3).trans up4, .inr (.inr (by rw [hs]; exact hh4)), na, os, ag, hno rfl⟩
      first
        | exact wpAny_bind (wpAny_pure (wpAny_bind fin))
        | exact wpAny_bind fin
  · cases f with
    | next =>
      obtain ⟨σ', H', J', q⟩ := hsp
      exact wpAny_execs_nil ⟨σ', H', J'.ofTry ok, q⟩
    | brk =>
      obtain ⟨σ', H', J', q⟩ := hsp
      exact ⟨σ', H', J'.ofTry ok, q⟩
    | cont =>
      obtain ⟨σ', H', J', q⟩ := hsp
      exact ⟨σ', H', J'.ofTry ok, q⟩
    | ret u =>
      obtain ⟨v, σ', H', J', r, q⟩ := hsp
      exact ⟨v, σ', H', J'.ofTry ok, r, q⟩
end
section
variable {X : Cx} {C : Addr} {bmB : List Value} {B newId initId : String}
/-- X(e) -/
theorem pmk_ownE {x : Str} {e : Expr} {te : TE} {p pos : Pos} (F : ExcBaseFacts B newId initId bmB) (q : PySem.W.excIn X.K C bmB newId = true) (gC : X.mg x = some (.ref C)) (kC : PySem.W.keepIn X.K (.ref C) = true) (r : Raises X (.ref C)) (hg : Gl X x)
    (hdb : (x == ("__debug__" : Str)) = false) (hp : plainB e = true) (he : PE X e te) : PMk X (.Call (.Name x p) [e] [] pos) (fun σ H Q => te σ H fun _ H1 => Q (.ref C) none H1) := by
  intro pins s σ H Q I h
  refine wpAny_Call_Name_kw (ld_glob I hg gC ?_ hdb)
  have ha : PA X [e] (tCons te tNil) := pa_cons he pa_nil (star_plain hp _ _)
  refine PySem.W.callWith_K (h₀ := X.base) I.ok.mod.kin kC (thn (ha.run pos pins s σ H (fun vs H1 => match vs with
    | [_] => Q (.ref C) none H1
    | _ => False) I h) fun us s1 hh => ?_) (star_plain hp _ _) rfl
  obtain ⟨vs, H1, I1, r1, hq⟩ := hh
  split at hq
  rotate_left
  · exact hq.elim
  refine ⟨I1.kIn, ?_⟩
  cases r1 with
  | cons ru rn =>
    rename_i u us'
    cases rn
    show wpAny _ _ (call (.ref C) [u]) _ _ _
    obtain ⟨bm, N, nm, qn, bs, hdct, sn, sub, ab, col, dd, k0, k1, k2, k3, k5, mN, hC, hN, hni, T⟩ := exc_obj I1.kIn q
    refine wpAny_call_exc_subT F T hC hN hni (fun h' e hm => ?_) (by show 1 ≤ sizeLine; rw [sizeLine_eq]; omega)
    exact mk_of I1 hm r hq (I1.hok.gone hm.new)
end
end Bv

/-! The tongue is true to the text: statements. -/
namespace Bv
open PySem L2 PyProof.Rows
structure SxOk (Γ : Amb) (M : Mc) (X : Cx) (B : Bs) (W : XS) : Prop where
  cx : CxOk Γ M X
  tk : Takes X (liftW Γ.K B W)
  pass : PassesOwn (model X.prog X.w) X.A X.env X.xe
  hs : X.stack = X.env :: X.outer
  hf : X.env.frame = some X.env.locals
def PostN (K : PySem.W.Frag) (B : Bs) (N : Hp) (Qn : St1 → MH → Prop) (nx : L2.St → Hp → Prop) : Prop := ∀ σ' τ' N' F' H', Same N N' → Ok K B N' F' H' → Sl K N' σ' τ' → Qn σ' F' → nx τ' H'
theorem PostN.mono {K : PySem.W.Frag} {B : Bs} {N N' : Hp} {Q0 : St1 → MH → Prop} {Q : L2.St → Hp → Prop} (e : Same N N') (h : PostN K B N Q0 Q) : PostN K B N' Q0 Q := fun b x N2 F2 H2 e2 => h b x N2 F2 H2 (e.trans e2)
def dS (K : PySem.W.Frag) (B : Bs) (w : St1 → MH → (St1 → MH → Prop) → Q1 → Prop) : TS := fun D τ H => ∃ N F σ Qn Qr, Ok K B N F H ∧ Sl K N σ τ ∧ w σ F Qn Qr ∧ PostN K B N Qn D.nx ∧ Post K B N Qr D.rt
/-! ### changes in place -/
def liftSet (K : PySem.W.Frag) : TSet := fun x y z H Q => ∃ B N F a b c Q0, Ok K B N F H ∧ Dv K N a x ∧ Dv K N b y ∧ Dv K N c z ∧ setS a b c F Q0 ∧ ∀ F' H', Ok K B N F' H' → Q0 F' → Q H'
theorem setS_cases {o i v : Val} {F : MH} {Q : MH → Prop} (h : setS o i v F Q) :
    (∃ p j vs n, o = .ref p ∧ i = .int j ∧ F p = some (.lst vs) ∧ ixN vs.length j = some n ∧ Q (mset F p (.lst (vs.set n v)))) ∨
    ∃ p k kvs, o = .ref p ∧ i = .str k ∧ F p = some (.dict kvs) ∧ kvs.length < sizeLine ∧ Q (mset F p (.dict (kput kvs k v))) := by
  cases o <;> first | exact (show False from h).elim | skip
  rename_i p
  cases i <;> first | exact (show False from h).elim | skip
  · rename_i j
    have h : (match F p with
      | some (.lst vs) => match ixN vs.length j with
        | some n => Q (mset F p (.lst (vs.set n v)))
        | none => False
      | _ => False) := h
    split at h
    · rename_i vs ec
      split at h
      · rename_i n en
        exact .inl ⟨p, j, vs, n, rfl, rfl, ec, en, h⟩
      · exact h.elim
    · exact h.elim
  · rename_i k
    have h : (match F p with
      | some (.dict kvs) => kvs.length < sizeLine ∧ Q (mset F p (.dict (kput kvs k v)))
      | _ => False) := h
    split at h
    · rename_i kvs ec
      exact .inr ⟨p, k, kvs, rfl, rfl, ec, h.1, h.2⟩
    · exact h.elim
section
variable {X : Cx}
theorem setS_ok (hu : X.A.units + 64 < cLine) : PSet X (liftSet X.K) := by
  intro pins s σ H x y z ov iv u Q I rx ry rz ⟨B, N, F, a, b, c, Q0, o, da, db, dc, w, post⟩
  rcases setS_cases w with ⟨p, j, vs, n, rfl, rfl, ec, en, q⟩ | ⟨p, k, kvs, rfl, rfl, ec, el, q⟩
  · cases da
    cases db
    obtain ⟨_, xs, hh, dd⟩ := o.cell p _ ec
    exact set_list pins s σ H _ _ _ ov iv u Q I rx ry rz ⟨p, xs, j, n, rfl, rfl, hh, by rw [← dd.length]; exact en, post _ _ (o.putL ec (dd.set dc n)) q⟩
  · cases da
    cases db
    obtain ⟨_, xs, hh, dd⟩ := o.cell p _ ec
    exact set_dict (by omega) pins s σ H _ _ _ ov iv u Q I rx ry rz ⟨p, _, rfl, .inl ⟨xs, Sum.inr k, hh, rfl, by rw [← dd.length]; exact el, rfl⟩, post _ _ (o.putD ec (Dkv.put dc dd)) q⟩
end
theorem Dfs.put {K : PySem.W.Frag} {N : Hp} {f : Str} {v : Val} {x : V} (d : Dv K N v x) : ∀ {fs : List (Str × Val)} {xs : List (Str × V)}, Dfs K N fs xs → Dfs K N (putV f v fs) (putF f x xs)
  | _, _, .nil => .cons ⟨rfl, d⟩ .nil
  | _, _, .cons (a := p) (b := q) h t => by
    obtain ⟨p1, p2⟩ := p
    obtain ⟨q1, q2⟩ := q
    obtain ⟨e, dd⟩ := h
    cases e
    show Dfs K N (if p1 = f then _ else _) (if p1 = f then _ else _)
    by_cases hp : p1 = f
    · rw [if_pos hp, if_pos hp]
      exact .cons ⟨rfl, d⟩ t
    · rw [if_neg hp, if_neg hp]
      exact .cons ⟨rfl, dd⟩ (Dfs.put d t)
/-! ### forms -/
theorem noswap {e : Expr} (h : isComp e = false) (t : Option Expr) (l : Nat) (env : Env) : swapsWith e t l env = pure false := by
  cases e <;> first | rfl | cases h
theorem noswap_cell {y : Str} {py : Pos} (e : Expr) {env : Env} (h : env.kindOf y = some .cell) (l : Nat) : swapsWith e (some (.Name y py)) l env = pure false := by
  cases e <;> first | rfl | (unfold swapsWith; have e0 : (NameKind.cell == NameKind.local) = false := rfl; simp [h, e0])
theorem fldswap (e : Expr) (o : Expr) (f : Str) (p : Pos) (l : Nat) (env : Env) : swapsWith e (some (.Attribute o f p)) l env = pure false := by
  cases e <;> rfl
theorem subswap (e : Expr) (o i : Expr) (p : Pos) (l : Nat) (env : Env) : swapsWith e (some (.Subscript o i p)) l env = pure false := by
  cases e <;> rfl
theorem nosto_name {x : Str} {p : Pos} (e : Expr) (env : Env) : swappedStores [.Name x p] e env = pure none := by
  cases e <;> rfl
theorem nosto_sub {o i : Expr} {p : Pos} (e : Expr) (env : Env) : swappedStores [.Subscript o i p] e env = pure none := by
  cases e <;> rfl
theorem if_both' {α : Type} {c : Prop} [Decidable c] {a b x : α} (h : a = x) (h2 : b = x) : (if c then a else b) = x := by
  split
  · exact h
  · exact h2
theorem nosto_tup {es : List Expr} {k : Nat} {p : Pos} {e : Expr} (h : isTup e = false) (env : Env) : swappedStores [.Tuple es k p] e env = pure none := by
  cases e <;> first | rfl | skip
  rename_i vs k2 p2
  have h2 : vs.all (foldedForSure 8) = true := by
    unfold isTup at h
    simpa using h
  exact if_both' rfl (if_both' rfl (if_both' rfl ((if_pos h2).trans rfl)))
theorem sub_plain {i : Expr} (h : plainB i = true) (o : Expr) (pos : Pos) (env : Env) (v : Value) : assign (.Subscript o i pos) env v = (do
      let ov ← holding [v] (eval o env)
      let iv ← holding [v, ov] (eval i env)
      standAt pos
      holding [v, ov, iv] (setItem ov iv v)
      release [v, ov, iv] []) := by
  cases i <;> first | rfl | cases h
theorem par_sw {M : Mc} {X : Cx} {x y : Str} {px py pt pt2 : Pos} {kt k2 : Nat} {a b : Expr} (hs : X.env.scope = M.sc) (hk : X.env.scope.kind = .function) (h : parB M x y px py a b = true) :
    M.sc.names.lookup x = some .local ∧ M.sc.names.lookup y = some .local ∧ plainB a = true ∧ plainB b = true ∧ swappedStores [.Tuple [.Name x px, .Name y py] kt pt] (.Tuple [a, b] k2 pt2) X.env = pure (some [x, y]) := by
  unfold parB at h
  simp only [Bool.and_eq_true, Bool.not_eq_true'] at h
  obtain ⟨⟨⟨⟨⟨⟨⟨h1, h2⟩, h3⟩, h4⟩, h5⟩, h6⟩, h7⟩, h8⟩ := h
  have k1 : M.sc.names.lookup x = some .local := by simpa using h1
  have k2' : M.sc.names.lookup y = some .local := by simpa using h2
  refine ⟨k1, k2', h5, h6, ?_⟩
  have e1 : X.env.kindOf x = some .local := by show X.env.scope.names.lookup x = _; rw [hs]; exact k1
  have e2 : X.env.kindOf y = some .local := by show X.env.scope.names.lookup y = _; rw [hs]; exact k2'
  have eb : X.env.blockKind = .function := by unfold Env.blockKind; rw [hk]; rfl
  have hn : x ≠ y := by
    unfold strB at h3
    simpa using h3
  have hl : px.line = py.line := by simpa using h4
  unfold swappedStores
  have s1 : ([a, b].any fun | .Starred .. => true | _ => false) = false := by
    have : ∀ e : Expr, plainB e = true → (match e with | .Starred .. => true | _ => false) = false := fun e h => by cases e <;> first | rfl | cases h
    simp only [List.any_cons, List.any_nil, this a h5, this b h6]
    rfl
  have s2 : ([a, b].all (foldedForSure 8)) = false := by simpa [List.all_cons] using h7
  have s3 : ([a, b].all (constantsAlone 8)) = false := by simpa [List.all_cons] using h8
  have s4 : ([x, y].eraseDups.length != [x, y].length) = false := by
    have : (y == x) = false := by simpa using (Ne.symm hn)
    simp [List.eraseDups_cons, List.filter, this]
  simp only [s1, s2, s3, eb]
  simp [e1, e2, hl, List.filterMap, Expr.pos, s4]
  have c1 : ∀ e : Expr, plainB e = true → ¬ (match e with | .Starred .. => true | _ => false) = true := fun e h => by cases e <;> first | exact Bool.false_ne_true | cases h
  rw [if_neg (fun q => q.elim (c1 a h5) (c1 b h6)), if_pos (by simpa using s4)]
/-! ### a for, a while -/
section
variable {Γ : Amb} {B : Bs}
theorem for_obl {N1 : Hp} {F1 : MH} {H1 : Hp} {σ1 : St1} {τ1 : L2.St} {items : List Val} {g : MH → Prop} {J : L2.It} {t : Tg} {wb : St1 → MH → (St1 → MH → Prop) → Q1 → Prop} {Qn : St1 → MH → Prop} {Qr : Q1} {D : Ends}
    (o1 : Ok Γ.K B N1 F1 H1) (sl1 : Sl Γ.K N1 σ1 τ1) (tell : Tell Γ.K N1 items g J) (w : forGo g (fun x σ F2 k => bindT t x σ F2 fun σ' => wb σ' F2 k Qr) Qn items σ1 F1) (pn : PostN Γ.K B N1 Qn D.nx) (pr : Post Γ.K B N1 Qr D.rt) :
    ∃ W : Nat → Nat → L2.St → Hp → Prop, (∃ m, W 0 m τ1 H1) ∧ ∀ i m τ H, W i m τ H →
      (J.stop i H ∧ D.nx τ H) ∨ (J.go i H ∧ ∃ Nx : L2.St → Hp → Prop, (∀ τ' H', Nx τ' H' → ∃ m', m' < m ∧ W (i + 1) m' τ' H') ∧ ∀ x H', J.yld i H x H' → dG Γ.K t x τ H' fun τ2 H2 => dS Γ.K B wb { D with nx := Nx, ct := Nx, bk := D.nx } τ2 H2) := by
  let P : Nat → L2.St → Hp → Prop := fun i τ H => ∃ N F σ, Same N1 N ∧ Ok Γ.K B N F H ∧ Sl Γ.K N σ τ ∧ forGo g (fun x σ F2 k => bindT t x σ F2 fun σ' => wb σ' F2 k Qr) Qn (items.drop i) σ F
  refine ⟨fun i m τ H => m = items.length - i ∧ i ≤ items.length ∧ P i τ H, ⟨items.length, by simp, Nat.zero_le _, N1, F1, σ1, Same.refl _, o1, sl1, by simpa using w⟩, ?_⟩
  rintro i m0 τ H ⟨rfl, hi, N, F, σ, e, o, sl, w⟩
  by_cases hlt : i < items.length
  · right
    rw [List.drop_eq_getElem_cons hlt] at w
    unfold forGo at w
    obtain ⟨hg, w⟩ := w
    refine ⟨tell.go e o hg hlt, P (i + 1), fun τ' H' p' => ⟨items.length - (i + 1), by omega, rfl, hlt, p'⟩, fun x H' y => ?_⟩
    obtain ⟨N2, e2, o2, d2⟩ := tell.yld e o hg y _ (List.getElem?_eq_getElem hlt)
    refine ⟨B, N2, F, σ, _, _, o2, sl.mono e2, d2, w, fun σ' τ' sl' _ k => ?_⟩
    refine ⟨N2, F, σ', _, _, o2, sl', k, fun σ3 τ3 N3 F3 H3 e3 o3 sl3 q3 => ?_, pr.mono (e.trans e2)⟩
    exact ⟨N3, F3, σ3, (e.trans e2).trans e3, o3, sl3, q3⟩
  · left
    have ei : i = items.length := by omega
    subst ei
    rw [List.drop_length] at w
    unfold forGo at w
    exact ⟨tell.stop e o w.1, pn _ _ N F H e o sl w.2⟩
end
section
variable {Γ : Amb} {M : Mc} {X : Cx} {B : Bs} {W : XS}
theorem snd_asg {t : Tg} {c : E Γ} {tg e : Expr} {pos : Pos} (sx : SxOk Γ M X B W) (hg : mTg M t tg = true) (he : PE X e (dV Γ.K B (wpE W c))) (hs : swapsWithSole [tg] e pos.line X.env = pure false) (hw : swappedStores [tg] e X.env = pure none) (h1 : (assignEach [tg] X.env).map (·.2) = [assign tg X.env]) :
    PS X (.Assign [tg] e pos) (dS Γ.K B (wpS W (.asg t c))) := by
  refine ⟨fun pins s τ H D I hq => ?_⟩
  refine (ps_asg he (pg_x hg sx.cx) hs hw h1).run pins s τ H D I ?_
  obtain ⟨N, F, σ, Qn, Qr, o, sl, w, pn, pr⟩ := hq
  refine dV.bind o sl w fun v x N1 F1 H1 e1 o1 sl1 d1 w1 => ?_
  exact ⟨B, N1, F1, σ, v, _, o1, sl1, d1, w1, fun σ' τ' sl' _ q => pn _ _ N1 F1 H1 e1 o1 sl' q⟩
/-- a comprehension that goes to a name -/
theorem snd_asgLc {m : Bool} {elt : E Γ} {t : Tg} {it : Bv.It Γ} {cond : Ts Γ} {i : Nat} {y : Str} {py : Pos} {tg iter ee : Expr} {ifs : List Expr} {scope : Scope} {pos spos : Pos} (sx : SxOk Γ M X B W) (hi' : slotB M.N i y = true) (hsw : swB M y py (.ListComp ee [⟨tg, iter, ifs, 0⟩] scope pos) = true)
    (hb : blkB M.N M.sc scope (ownOf M.N t) = true) (hp : ∀ x, foldedSetIterable iter X.env x = pure x)
    (hi : PI X tg iter (dI B W it)) (hg : ∀ X', CxOk Γ (M.blk scope) X' → PG X' tg (dG Γ.K t)) (ht : ∀ X', CxOk Γ (M.blk scope) X' → PTs X' ifs (dTx Γ.K (wpCs noX cond))) (he : ∀ X', CxOk Γ (M.blk scope) X' → PE X' ee (dVx Γ.K (wpE noX elt))) :
    PS X (.Assign [.Name y py] (.ListComp ee [⟨tg, iter, ifs, 0⟩] scope pos) spos) (dS Γ.K B (wpS W (.asg (.nm i) (.lc m elt t it cond)))) := by
  refine ⟨fun pins s τ H D I hq => ?_⟩
  have hx := sx.cx
  unfold swB at hsw
  simp only [Bool.and_eq_true] at hsw
  obtain ⟨⟨s1, s2⟩, s3⟩ := hsw
  have hyl : X.env.scope.names.lookup y = some .local := by rw [hx.sc]; simpa using s1
  refine (ps_setLc hx.calm hx.nd (by rw [hx.N]; exact slotB_eq hi') hyl (sw_true I.ok.kind hyl s2 (by simpa using s3)) hi (by rw [hx.N, hx.sc]; exact blkOk_by hb) (fun _ _ _ _ _ => hg _ hx.blk) (fun _ _ _ _ _ => ht _ hx.blk) (fun _ _ _ _ _ => he _ hx.blk) hp).run pins s τ H D I ?_
  obtain ⟨N, F, σ, Qn, Qr, o, sl, w, pn, pr⟩ := hq
  exact lc_read (M := M) (m := m) (Γ := Γ) (B := B) (W := W) ⟨N, F, σ, _, o, sl, w, fun v x N1 F1 H1 e1 o1 d1 q1 => pn _ _ N1 F1 H1 e1 o1 ((sl.mono e1).set i d1) q1⟩
theorem snd_asgLcK {m : Bool} {elt d : E Γ} {t : Tg} {cond : Ts Γ} {i : Nat} {y : Str} {py : Pos} {tg iter ee : Expr} {ifs : List Expr} {scope : Scope} {pos spos : Pos} (sx : SxOk Γ M X B W) (hi' : slotB M.N i y = true) (hsw : swB M y py (.ListComp ee [⟨tg, iter, ifs, 0⟩] scope pos) = true)
    (hb : blkB M.N M.sc scope (ownOf M.N t) = true) (hp : ∀ x, foldedSetIterable iter X.env x = pure x)
    (hi : PE X iter (dV Γ.K B (wpE noX d))) (hg : ∀ X', CxOk Γ (M.blk scope) X' → PG X' tg (dG Γ.K t)) (ht : ∀ X', CxOk Γ (M.blk scope) X' → PTs X' ifs (dTx Γ.K (wpCs noX cond))) (he : ∀ X', CxOk Γ (M.blk scope) X' → PE X' ee (dVx Γ.K (wpE noX elt))) :
    PS X (.Assign [.Name y py] (.ListComp ee [⟨tg, iter, ifs, 0⟩] scope pos) spos) (dS Γ.K B (wpS W (.asg (.nm i) (.lcK m elt t d cond)))) := by
  refine ⟨fun pins s τ H D I hq => ?_⟩
  have hx := sx.cx
  unfold swB at hsw
  simp only [Bool.and_eq_true] at hsw
  obtain ⟨⟨s1, s2⟩, s3⟩ := hsw
  have hyl : X.env.scope.names.lookup y = some .local := by rw [hx.sc]; simpa using s1
  refine (ps_lock (ps_setLc hx.calm hx.nd (by rw [hx.N]; exact slotB_eq hi') hyl (sw_true I.ok.kind hyl s2 (by simpa using s3)) (pi_keys hi) (by rw [hx.N, hx.sc]; exact blkOk_by hb) (fun _ _ _ _ _ => hg _ hx.blk) (fun _ _ _ _ _ => ht _ hx.blk) (fun _ _ _ _ _ => he _ hx.blk) hp)).run pins s τ H D I ?_
  obtain ⟨N, F, σ, Qn, Qr, o, sl, w, pn, pr⟩ := hq
  obtain ⟨p, kvs, ec, w⟩ := w
  obtain ⟨xs, hh, dd, lk⟩ := lock_cell o ec
  refine ⟨p, .dK xs, hh, trivial, fun od => ?_⟩
  refine dV.bind (lk od) sl (w (.frz od (.dK xs))) fun v x N1 F1 H1 e1 o1 sl1 d1 w1 => ?_
  obtain ⟨hv, w1⟩ := w1
  split at hv
  · subst hv
    rename_i q
    cases d1
    have hF1 : F1 q = some (.lck (.frz od (.dK xs)) kvs) := by
      cases hk : kvs.map fun kv => Val.str kv.1 with
      | nil => rw [hk] at w1; unfold lcGo at w1; exact w1.1
      | cons a r => rw [hk] at w1; unfold lcGo at w1; exact w1.1
    obtain ⟨_, hh1, _⟩ := o1.cell q _ hF1
    refine ⟨q, od, rfl, .inl ⟨xs, hh1, ?_⟩⟩
    refine lc_obl (m := m) (Q := fun v H' => gName i v τ H' fun σ' H' => H' q = some (HO.frz od (HO.dK xs)) ∧ D.nx σ' (upd H' q (HO.dK xs))) (Q0 := fun v F3 => F3 q = some (.lck (.frz od (.dK xs)) kvs) ∧ Qn (σ.set i (some v)) (mset F3 q (.dict kvs))) o1 sl1 (tell_keys rfl (dd.mono e1)) w1 (fun v3 x3 N3 F3 H3 e3 o3 d3 q3 => ?_) (own_slots (N := M.N))
    obtain ⟨k1, k2⟩ := unlock_cell o3 q3.1
    exact ⟨k1, pn _ _ N3 _ _ (e1.trans e3) k2 ((sl1.mono e3).set i d3) q3.2⟩
  · exact hv.elim
theorem snd_par {i j : Nat} {a b : E Γ} {x y : Str} {px py pt pt2 pos : Pos} {kt k2 : Nat} {ae be : Expr} (sx : SxOk Γ M X B W) (h1 : slotB M.N i x = true) (h2 : slotB M.N j y = true) (hij : i ≠ j) (hp : parB M x y px py ae be = true) (ha : PE X ae (dV Γ.K B (wpE W a))) (hb : PE X be (dV Γ.K B (wpE W b))) :
    PS X (.Assign [.Tuple [.Name x px, .Name y py] kt pt] (.Tuple [ae, be] k2 pt2) pos) (dS Γ.K B (wpS W (.par i j a b))) := by
  refine ⟨fun pins s τ H D I hq => ?_⟩
  have hx := sx.cx
  obtain ⟨p1, p2, p3, p4, p5⟩ := par_sw (pt := pt) (pt2 := pt2) (kt := kt) (k2 := k2) hx.sc I.ok.kind hp
  refine (ps_par hx.calm hx.nd (by rw [hx.N]; exact slotB_eq h1) (by rw [hx.N]; exact slotB_eq h2) hij (by rw [hx.sc]; exact p1) (by rw [hx.sc]; exact p2) (pa_cons ha (pa_cons hb pa_nil (star_plain p4 _ _)) (star_plain p3 _ _)) p5 rfl).run pins s τ H D I ?_
  obtain ⟨N, F, σ, Qn, Qr, o, sl, w, pn, pr⟩ := hq
  refine dV.bind o sl w fun v x N1 F1 H1 e1 o1 sl1 d1 w1 => dV.bind o1 sl1 w1 fun v2 x2 N2 F2 H2 e2 o2 sl2 d2 w2 => ?_
  exact ⟨x, x2, rfl, pn _ _ N2 F2 H2 (e1.trans e2) o2 ((sl2.set i (d1.mono e2)).set j d2) w2⟩
theorem snd_setI {oc ic vc : E Γ} {oe ie ve : Expr} {p pos : Pos} (sx : SxOk Γ M X B W) (hp : plainB ie = true) (ho : PE X oe (dV Γ.K B (wpE W oc))) (hi : PE X ie (dV Γ.K B (wpE W ic))) (hv : PE X ve (dV Γ.K B (wpE W vc))) :
    PS X (.Assign [.Subscript oe ie p] ve pos) (dS Γ.K B (wpS W (.setI oc ic vc))) := by
  refine ⟨fun pins s τ H D I hq => ?_⟩
  have hx := sx.cx
  refine (ps_asg hv (pg_sub ho hi (setS_ok hx.room.units) (fun v => sub_plain hp _ _ _ v)) (subswap ve oe ie p pos.line X.env) (nosto_sub ve X.env) rfl).run pins s τ H D I ?_
  obtain ⟨N, F, σ, Qn, Qr, o, sl, w, pn, pr⟩ := hq
  refine dV.bind o sl w fun v x N1 F1 H1 e1 o1 sl1 d1 w1 => dV.bind o1 sl1 w1 fun v2 x2 N2 F2 H2 e2 o2 sl2 d2 w2 => dV.bind o2 sl2 w2 fun v3 x3 N3 F3 H3 e3 o3 sl3 d3 w3 => ?_
  rw [hx.K]
  exact ⟨B, N3, F3, v2, v3, v, _, o3, d2.mono e3, d3, d1.mono (e2.trans e3), w3, fun F' H' o' q => pn _ _ N3 F' H' ((e1.trans e2).trans e3) o' sl3 q⟩
theorem if_both {α : Type} {c : Prop} [Decidable c] {a b x : α} (h : a = x) (h2 : b = x) : (if c then a else b) = x := by
  split
  · exact h
  · exact h2
theorem nosto_subs {o i o2 i2 : Expr} {p p2 pt : Pos} {k : Nat} (e : Expr) (env : Env) : swappedStores [.Tuple [.Subscript o i p, .Subscript o2 i2 p2] k pt] e env = pure none := by
  cases e <;> first | rfl | skip
  exact if_both rfl (if_both rfl rfl)
theorem tupswap (e : Expr) (ts : List Expr) (k : Nat) (pt : Pos) (line : Nat) (env : Env) : swapsWithSole [.Tuple ts k pt] e line env = pure false := by cases e <;> rfl
theorem snd_set2 {oc ic o2c i2c vc : E Γ} {oe ie o2e i2e ve : Expr} {p p2 pt pos : Pos} {k : Nat} (sx : SxOk Γ M X B W) (hp : plainB ie = true) (hp2 : plainB i2e = true) (hcomp : isComp ve = false) (ho : PE X oe (dV Γ.K B (wpE W oc))) (hi : PE X ie (dV Γ.K B (wpE W ic))) (ho2 : PE X o2e (dV Γ.K B (wpE W o2c))) (hi2 : PE X i2e (dV Γ.K B (wpE W i2c))) (hv : PE X ve (dV Γ.K B (wpE W vc))) :
    PS X (.Assign [.Tuple [.Subscript oe ie p, .Subscript o2e i2e p2] k pt] ve pos) (dS Γ.K B (wpS W (.set2 oc ic o2c i2c vc))) := by
  refine ⟨fun pins s τ H D I hq => ?_⟩
  have hx := sx.cx
  refine (ps_asg hv (pg_tup hx.calm (pgs_cons (pg_sub ho hi (setS_ok hx.room.units) (fun v => sub_plain hp _ _ _ v)) (pgs_cons (pg_sub ho2 hi2 (setS_ok hx.room.units) (fun v => sub_plain hp2 _ _ _ v)) pgs_nil)) rfl rfl) (tupswap ve _ _ _ pos.line X.env) (nosto_subs ve X.env) rfl).run pins s τ H D I ?_
  obtain ⟨N, F, σ, Qn, Qr, o, sl, w, pn, pr⟩ := hq
  refine dV.bind o sl w fun v x N1 F1 H1 e1 o1 sl1 d1 w1 => ?_
  split at w1
  · rename_i a b
    obtain ⟨q, xs, rfl, hq, dd⟩ := d1.tuple o1.sub
    cases dd with
    | cons da dd =>
      cases dd with
      | cons db dd =>
        cases dd
        refine ⟨q, _, rfl, .inl (.inl hq), rfl, _, _, rfl, ?_⟩
        refine dV.bind o1 sl1 w1 fun v2 x2 N2 F2 H2 e2 o2 sl2 d2 w2 => dV.bind o2 sl2 w2 fun v3 x3 N3 F3 H3 e3 o3 sl3 d3 w3 => ?_
        rw [hx.K]
        refine ⟨B, N3, F3, v2, v3, a, _, o3, d2.mono e3, d3, da.mono (e2.trans e3), w3, fun F' H' o' w' => ?_⟩
        refine ⟨_, _, rfl, ?_⟩
        refine dV.bind o' sl3 w' fun v5 x5 N5 F5 H5 e5 o5 sl5 d5 w5 => dV.bind o5 sl5 w5 fun v6 x6 N6 F6 H6 e6 o6 sl6 d6 w6 => ?_
        refine ⟨B, N6, F6, v5, v6, b, _, o6, d5.mono e6, d6, db.mono (((e2.trans e3).trans e5).trans e6), w6, fun F' H' o' q => ?_⟩
        exact ⟨rfl, pn _ _ N6 F' H' ((((e1.trans e2).trans e3).trans e5).trans e6) o' sl6 q⟩
  · exact w1.elim
theorem snd_dead {st : Stmt} : PS X st (dS Γ.K B (wpS W (.dead : S Γ))) := by
  refine ⟨fun pins s τ H D I hq => ?_⟩
  obtain ⟨N, F, σ, Qn, Qr, o, sl, w, pn, pr⟩ := hq
  exact (show False from w).elim
theorem snd_setF {f : Str} {r : FldR Γ f} {oc vc : E Γ} {oe ve : Expr} {p pos : Pos} (sx : SxOk Γ M X B W) (ho : PE X oe (dV Γ.K B (wpE W oc))) (hv : PE X ve (dV Γ.K B (wpE W vc))) :
    PS X (.Assign [.Attribute oe f p] ve pos) (dS Γ.K B (wpS W (.setF f r oc vc))) := by
  refine ⟨fun pins s τ H D I hq => ?_⟩
  have hx := sx.cx
  refine (ps_fld ho hv (fldswap _ _ _ _ _ _)).run pins s τ H D I ?_
  obtain ⟨N, F, σ, Qn, Qr, o, sl, w, pn, pr⟩ := hq
  refine dV.bind o sl w fun v x N1 F1 H1 e1 o1 sl1 d1 w1 => dV.bind o1 sl1 w1 fun v2 x2 N2 F2 H2 e2 o2 sl2 d2 w2 => ?_
  split at w2
  · rename_i q
    split at w2
    · rename_i C fs ec
      obtain ⟨rfl, wl, w2⟩ := w2
      cases d2
      obtain ⟨_, dx, xs, hh, dd⟩ := o2.cell q _ ec
      refine ⟨q, r.C, dx, xs, rfl, hh, by rw [hx.K]; exact r.cl, by rw [hx.K]; exact r.no, by rw [← Paired.length dd]; exact wl, ?_⟩
      exact pn _ _ N2 _ _ (e1.trans e2) (o2.put (d := .inst r.C (putV f v fs)) ec (fun ys z => by rw [hh] at z; cases z) ⟨dx, _, upd_same, Dfs.put (d1.mono e2) dd⟩) sl2 w2
    · exact w2.elim
  · exact w2.elim
theorem snd_aug {i : Nat} {c : E Γ} {x : Str} {e : Expr} {p pos : Pos} (sx : SxOk Γ M X B W) (h1 : slotB M.N i x = true) (h2 : locB M x = true) (he : PE X e (dV Γ.K B (wpE W c))) : PS X (.AugAssign (.Name x p) .Add e pos) (dS Γ.K B (wpS W (.aug i c))) := by
  refine ⟨fun pins s τ H D I hq => ?_⟩
  have hx := sx.cx
  obtain ⟨l1, l2⟩ := locB_eq hx h2
  refine (ps_aug hx.nd (by rw [hx.N]; exact slotB_eq h1) l1 he ip_add l2).run pins s τ H D I ?_
  obtain ⟨N, F, σ, Qn, Qr, o, sl, w, pn, pr⟩ := hq
  have w : (match σ[i]? with
    | some (some (.int a)) => wpE W c σ F fun y F1 => match y with
      | .int b => Qn (σ.set i (some (.int (a + b)))) F1
      | _ => False
    | _ => False) := w
  split at w
  · rename_i a ea
    obtain ⟨y, hy, dy⟩ := sl.get i _ ea
    cases dy
    refine ⟨_, hy, dV.bind o sl w fun v x N1 F1 H1 e1 o1 sl1 d1 w1 => ?_⟩
    split at w1
    · cases d1
      exact ⟨_, _, rfl, rfl, pn _ _ N1 F1 H1 e1 o1 (sl1.set i (.int _)) w1⟩
    · exact w1.elim
  · exact w.elim
theorem snd_for {t : Tg} {it : Bv.It Γ} {body : Ss Γ} {tg iter : Expr} {bs : List Stmt} {pos : Pos} (sx : SxOk Γ M X B W) (hg : mTg M t tg = true) (hp : ∀ x, foldedSetIterable iter X.env x = pure x) (hi : PI X tg iter (dI B W it)) (hb : PSs X bs (dS Γ.K B (wpB W body))) :
    PS X (.For tg iter bs [] pos) (dS Γ.K B (wpS W (.for t it body))) := by
  refine ⟨fun pins s τ H D I hq => ?_⟩
  have hx := sx.cx
  refine (ps_for sx.pass hx.calm hi (pg_x hg hx) hb hp).run pins s τ H D I ?_
  obtain ⟨N, F, σ, Qn, Qr, o, sl, w, pn, pr⟩ := hq
  exact ⟨N, F, σ, _, o, sl, w, fun items g N1 F1 H1 J e1 o1 w1 tell => for_obl o1 (sl.mono e1) tell w1 (pn.mono e1) (pr.mono e1)⟩
theorem snd_forK {t : Tg} {d : E Γ} {body : Ss Γ} {tg iter : Expr} {bs : List Stmt} {pos : Pos} (sx : SxOk Γ M X B W) (hg : mTg M t tg = true) (hp : ∀ x, foldedSetIterable iter X.env x = pure x) (hi : PE X iter (dV Γ.K B (wpE noX d))) (hb : PSs X bs (dS Γ.K B (wpB noX body))) :
    PS X (.For tg iter bs [] pos) (dS Γ.K B (wpS W (.forK t d body))) := by
  refine ⟨fun pins s τ H D I hq => ?_⟩
  have hx := sx.cx
  refine (ps_lock (ps_for sx.pass hx.calm (pi_keys hi) (pg_x hg hx) hb hp)).run pins s τ H D I ?_
  obtain ⟨N, F, σ, Qn, Qr, o, sl, w, pn, pr⟩ := hq
  obtain ⟨p, kvs, ec, w⟩ := w
  obtain ⟨xs, hh, dd, lk⟩ := lock_cell o ec
  refine ⟨p, .dK xs, hh, trivial, fun od => ?_⟩
  refine dV.bind (lk od) sl (w (.frz od (.dK xs))) fun v x N1 F1 H1 e1 o1 sl1 d1 w1 => ?_
  obtain ⟨hv, w1⟩ := w1
  split at hv
  · subst hv
    rename_i q
    cases d1
    have hF1 : F1 q = some (.lck (.frz od (.dK xs)) kvs) := by
      cases hk : kvs.map fun kv => Val.str kv.1 with
      | nil => rw [hk] at w1; unfold forGo at w1; exact w1.1
      | cons a r => rw [hk] at w1; unfold forGo at w1; exact w1.1
    obtain ⟨_, hh1, _⟩ := o1.cell q _ hF1
    refine ⟨q, od, rfl, .inl ⟨xs, hh1, ?_⟩⟩
    refine for_obl (wb := wpB noX body) (Qr := fun v F3 => F3 q = some (.lck (.frz od (.dK xs)) kvs) ∧ Qr v (mset F3 q (.dict kvs))) (Qn := fun σ' F3 => F3 q = some (.lck (.frz od (.dK xs)) kvs) ∧ Qn σ' (mset F3 q (.dict kvs))) o1 sl1 (tell_keys rfl (dd.mono e1)) w1 (fun σ3 τ3 N3 F3 H3 e3 o3 sl3 q3 => ?_) (fun v3 x3 N3 F3 H3 e3 o3 d3 q3 => ?_)
    · obtain ⟨k1, k2⟩ := unlock_cell o3 q3.1
      exact ⟨k1, pn _ _ N3 _ _ (e1.trans e3) k2 sl3 q3.2⟩
    · obtain ⟨k1, k2⟩ := unlock_cell o3 q3.1
      exact ⟨k1, pr v3 x3 N3 _ _ (e1.trans e3) k2 d3 q3.2⟩
  · exact hv.elim
theorem snd_forKL {t : Tg} {d : E Γ} {body : Ss Γ} {tg iter : Expr} {bs : List Stmt} {pos : Pos} (sx : SxOk Γ M X B W) (hg : mTg M t tg = true) (hp : ∀ x, foldedSetIterable iter X.env x = pure x) (hi : PE X iter (dV Γ.K B (wpE noX d))) (hb : PSs X bs (dS Γ.K B (wpB noX body))) :
    PS X (.For tg iter bs [] pos) (dS Γ.K B (wpS W (.forKL t d body))) := by
  refine ⟨fun pins s τ H D I hq => ?_⟩
  have hx := sx.cx
  obtain ⟨N, F, σ, Qn, Qr, o, sl, w, pn, pr⟩ := hq
  rcases w with w | ⟨p, u, kvs, ec, w⟩
  · exact (snd_forK sx hg hp hi hb).run pins s τ H D I ⟨N, F, σ, Qn, Qr, o, sl, w, pn, pr⟩
  · refine (ps_for sx.pass hx.calm (pi_keys hi) (pg_x hg hx) hb hp).run pins s τ H D I ?_
    refine dV.bind o sl w fun v x N1 F1 H1 e1 o1 sl1 d1 w1 => ?_
    obtain ⟨hv, w1⟩ := w1
    split at hv
    · subst hv
      rename_i q
      cases d1
      have hF1 : F1 q = some (.lck u kvs) := by
        cases hk : kvs.map fun kv => Val.str kv.1 with
        | nil => rw [hk] at w1; unfold forGo at w1; exact w1.1
        | cons a r => rw [hk] at w1; unfold forGo at w1; exact w1.1
      obtain ⟨_, hh1, od, xs, hu, dd⟩ := o1.cell q _ hF1
      subst hu
      refine ⟨q, od, rfl, .inl ⟨xs, hh1, ?_⟩⟩
      exact for_obl (wb := wpB noX body) o1 sl1 (tell_keys rfl dd) w1 (pn.mono e1) (pr.mono e1)
    · exact hv.elim
theorem snd_whl {t : T Γ} {body : Ss Γ} {c : Expr} {bs : List Stmt} {pos : Pos} (sx : SxOk Γ M X B W) (hc : PT X c (dT Γ.K B (wpT W t))) (hb : PSs X bs (dS Γ.K B (wpB W body))) : PS X (.While c bs [] pos) (dS Γ.K B (wpS W (.whl t body))) := by
  refine ⟨fun pins s τ H D I hq => ?_⟩
  refine (ps_while sx.pass hc hb).run pins s τ H D I ?_
  obtain ⟨N, F, σ, Qn, Qr, o, sl, w, pn, pr⟩ := hq
  obtain ⟨J, ⟨m0, j0⟩, step⟩ := w
  refine ⟨fun m τ H => ∃ N1 F1 σ1, Same N N1 ∧ Ok Γ.K B N1 F1 H ∧ Sl Γ.K N1 σ1 τ ∧ J m σ1 F1, ⟨m0, N, F, σ, Same.refl N, o, sl, j0⟩, ?_⟩
  rintro m τ1 H1 ⟨N1, F1, σ1, e1, o1, sl1, j1⟩
  refine dT.bind o1 sl1 (step m σ1 F1 j1) fun b N2 F2 H2 e2 o2 sl2 q2 => ?_
  cases b with
  | true =>
    rw [if_pos rfl]
    refine ⟨fun τ' H' => ∃ m', m' < m ∧ ∃ N3 F3 σ3, Same N N3 ∧ Ok Γ.K B N3 F3 H' ∧ Sl Γ.K N3 σ3 τ' ∧ J m' σ3 F3, fun τ' H' h => h, ?_⟩
    refine ⟨N2, F2, σ1, _, _, o2, sl2, q2, fun σ3 τ3 N3 F3 H3 e3 o3 sl3 q3 => ?_, pr.mono (e1.trans e2)⟩
    obtain ⟨m', hm, j3⟩ := q3
    exact ⟨m', hm, N3, F3, σ3, (e1.trans e2).trans e3, o3, sl3, j3⟩
  | false =>
    rw [if_neg Bool.false_ne_true]
    exact pn _ _ N2 F2 H2 (e1.trans e2) o2 sl2 q2
theorem snd_rai {x : Str} {r : RaiR Γ x} {a : E Γ} {e : Expr} {p p2 pos : Pos} (sx : SxOk Γ M X B W) (hg : glB M.sc x = true) (hn : nmB x = true) (hp : plainB e = true) (he : PE X e (dV Γ.K B (wpE W a))) :
    PS X (.Raise (some (.Call (.Name x p) [e] [] p2)) none pos) (dS Γ.K B (wpS W (.rai x r a))) := by
  refine ⟨fun pins s τ H D I hq => ?_⟩
  have hx := sx.cx
  obtain ⟨q1, q2, q3, q4, q5⟩ := r.ok
  refine (ps_raise hx.calm sx.tk (pmk_ownE F.excBase_ValueError (by rw [hx.K]; exact q1) (by rw [hx.mg]; exact q2) (by rw [hx.K]; exact q3) (raises_own (by rw [hx.K]; exact q4) (by rw [hx.K]; exact q5)) (glB_eq hx.sc hg) (nm1 hn).1 hp he)).run pins s τ H D I ?_
  obtain ⟨N, F, σ, Qn, Qr, o, sl, w, pn, pr⟩ := hq
  refine dV.bind o sl w fun v x N1 F1 H1 e1 o1 sl1 d1 w1 => ?_
  exact ⟨r.C, [], N1, F1, σ, rfl, o1, .inl ⟨rfl, rfl⟩, sl1, w1⟩
theorem snd_raiG {x f : Str} {r : RaiGR Γ x f} {a : E Γ} {e : Expr} {p p2 pos : Pos} (sx : SxOk Γ M X B W) (hg : glB M.sc x = true) (hn : nmB x = true) (hp : plainB e = true) (he : PE X e (dV Γ.K B (wpE W a))) :
    PS X (.Raise (some (.Call (.Name x p) [e] [] p2)) none pos) (dS Γ.K B (wpS W (.raiG x f r a))) := by
  refine ⟨fun pins s τ H D I hq => ?_⟩
  have hx := sx.cx
  obtain ⟨fI, fd, ps, j, hj, T, iC, tI, hm, hb, F1⟩ := r.ok
  have F' : FnOk X.prog X.w X.K X.mg X.base L2.CX0 j fI fd ps (initSp r.C f) := by rw [hx.P, hx.w, hx.K, hx.mg, hx.base]; exact F1
  refine (ps_raise hx.calm sx.tk (pmk_oex (ds := []) (dvs := []) (by rw [hx.K]; exact T) (by rw [hx.K]; exact iC) (by rw [hx.K]; exact tI) F' (hx.room.mono hj) (by rw [hx.K]; exact hb) .nil pass0 (glB_eq hx.sc hg) (by rw [hx.mg]; exact hm) (pa_cons he pa_nil (star_plain hp _ _)) (nm1 hn).1 (star_plain hp _ _) rfl)).run pins s τ H D I ?_
  obtain ⟨N, F, σ, Qn, Qr, o, sl, w, pn, pr⟩ := hq
  refine dV.bind o sl w fun v y N1 F1 H1 e1 o1 sl1 d1 w1 => ?_
  refine ⟨by simp, fun b hb2 => ⟨b, y, rfl, upd_same, fun dx hdx hne => ⟨rfl, dx, [(f, y)], upd_same, ?_, ?_, ?_⟩⟩⟩
  · rw [upd_ne hne, upd_same]
  · rw [upd_ne hne] at hdx; exact hdx
  · rw [upd_ne hne] at hdx
    have eh : upd (del (upd (upd (upd H1 b (exo b r.C none)) dx (exd dx [(f, y)])) b (exo b r.C (some dx))) b) dx (.xd [(f, y)]) = upd H1 dx (.xd [(f, y)]) := by
      funext c
      by_cases h1 : c = dx
      · rw [h1, upd_same, upd_same]
      · rw [upd_ne h1, upd_ne h1]
        by_cases h2 : c = b
        · rw [h2, del_same, hb2]
        · rw [del_ne h2, upd_ne h2, upd_ne h1, upd_ne h2]
    rw [eh]
    exact ⟨r.C, [(f, v)], N1, F1, σ, rfl, o1.grow fun c u hc => by rw [upd_ne (fun z => by rw [z, hdx] at hc; cases hc)]; exact hc, .inr ⟨dx, [(f, y)], by simp, rfl, upd_same, .cons ⟨rfl, d1⟩ .nil⟩, sl1, w1⟩
/-- what a try's body wishes of an exception -/
def tryX {Γ : Amb} {x : Str} (W : XS) (r : ExR Γ x) (i j : Nat) (Qn : St1 → MH → Prop) : XS := fun C fs σ F => match r.ans C with
    | some true => ∀ p, F p = none → Qn ((σ.set j (some (.ref p))).set i none) (mset F p (.exn C fs))
    | some false => W C fs σ F
    | none => False
theorem snd_try {x : Str} {r : ExR Γ x} {i j : Nat} {body : Ss Γ} {n z : Str} {bs : List Stmt} {np zp np2 ap pos pos' : Pos} (sx : SxOk Γ M X B W) (hg : glB M.sc x = true) (hn : nmB x = true) (h1 : slotB M.N i n = true) (h2 : M.sc.names.lookup n = some .local) (h3 : nmB n = true) (h4 : slotB M.N j z = true) (h5 : M.sc.names.lookup z = some .local) (hij : i ≠ j)
    (hb : ∀ (C : Bs) (W' : XS) (X' : Cx), SxOk Γ M X' C W' → PSs X' bs (dS Γ.K C (wpB W' body))) :
    PS X (.Try bs [.ExceptHandler (some (.Name x np)) (some n) [.Assign [.Name z zp] (.Name n np2) ap] pos'] [] [] pos) (dS Γ.K B (wpS W (.tryK x r i j body))) := by
  have hx := sx.cx
  have hcls : Names X x (.ref r.C) := ⟨glB_eq hx.sc hg, (nm1 hn).1, .inl (by rw [hx.mg]; exact r.mg)⟩
  refine ⟨fun pins s τ H D I hq => ?_⟩
  refine (ps_tryK (tb := fun W' D τ H => ∃ C W1, dS Γ.K C (wpB W1 body) D τ H ∧ ∀ cls d τ H, liftW Γ.K C W1 cls d τ H → W' cls d τ H) sx.hs sx.hf hx.nd (by rw [hx.N]; exact slotB_eq h1) (by rw [hx.N]; exact slotB_eq h4) hij
    (by show X.env.scope.names.lookup n = _; rw [hx.sc]; exact h2) (by show X.env.scope.names.lookup z = _; rw [hx.sc]; exact h5) (nm1 h3).1 (nm1 h3).2.1 hcls sx.tk (fun W' pn xe tk pass => ?_)).run pins s τ H D I ?_
  · refine ⟨fun pins s τ H D I ⟨C, W1, q, im⟩ => ?_⟩
    exact (hb C W1 (X.tr pn xe) ⟨⟨hx.P, hx.w, hx.K, hx.mg, hx.base, hx.room, hx.calm, hx.N, hx.nd, hx.sc, hx.fn⟩, tk.imp im, pass, sx.hs, sx.hf⟩).run pins s τ H D I q
  · obtain ⟨N, F, σ, Qn, Qr, o, sl, w, pn, pr⟩ := hq
    refine ⟨⟨N, F, H⟩, tryX W r i j Qn, ⟨N, F, σ, Qn, Qr, o.here, sl, w, fun σ' τ' N' F' H' e o' sl' q => pn _ _ N' F' H' e (o.trans o') sl' q, fun v x N' F' H' e o' d q => pr _ _ N' F' H' e (o.trans o') d q⟩, fun cls d τ2 H2 hl => ?_⟩
    obtain ⟨C, fs, N2, F2, σ2, rfl, o2, xr, sl2, q⟩ := hl
    unfold tryX at q
    split at q
    · rename_i ea
      refine ⟨true, by rw [hx.K]; exact r.ok C _ ea, fun _ a ha => ?_, (by intro z; cases z)⟩
      have e2 : Same N N2 := o2.low
      have hF := (o2.free ha).2
      refine pn _ _ N2 _ _ e2 ?_ ((sl2.set j (.ref a)).del i none) (q a hF)
      refine (o.trans o2).new ha ?_
      rcases xr with ⟨rfl, rfl⟩ | ⟨dd, xs, hne, rfl, hdd, dfs⟩
      · exact .inl ⟨rfl, upd_same⟩
      · exact .inr ⟨dd, xs, hne, upd_same, by rw [upd_ne (ne_of_none hdd ha)]; exact hdd, dfs⟩
    · rename_i ea
      refine ⟨false, by rw [hx.K]; exact r.ok C _ ea, (by intro z; cases z), fun _ => ?_⟩
      exact ⟨C, fs, N2, F2, σ2, rfl, o.trans o2, xr, sl2, q⟩
    · exact q.elim
end
end Bv

/-! The tongue is true to the text: all statements, a def. -/
namespace Bv
open PySem L2 PyProof.Rows
section
variable {Γ : Amb} (ga : AmbOk Γ)
theorem sx_no {M : Mc} {X : Cx} {B : Bs} {W : XS} (sx : SxOk Γ M X B W) : SxOk Γ M X B noX := ⟨sx.cx, takes_no, sx.pass, sx.hs, sx.hf⟩
include ga
mutual
theorem sndS : ∀ (c : S Γ) {M : Mc} {X : Cx} {B : Bs} {W : XS} {s : Stmt}, mS M c s = true → SxOk Γ M X B W → PS X s (dS Γ.K B (wpS W c))
  | .asg t c, M, X, B, W, s, h, sx => by
    unfold mS at h
    split at h
    · rename_i tg v pos
      simp only [Bool.and_eq_true] at h
      obtain ⟨⟨h1, h2⟩, h3⟩ := h
      cases t with
      | nm i =>
        cases tg with
        | Name y py =>
          simp only [Bool.or_eq_true, Bool.and_eq_true, Bool.not_eq_true'] at h3
          rcases h3 with h3 | h3 | ⟨h3, h4⟩
          · exact snd_asg sx h1 (sndE ga c h2 sx.cx sx.tk) (noswap h3 (some (.Name y py)) pos.line X.env) (nosto_name v X.env) rfl
          · exact snd_asg sx h1 (sndE ga c h2 sx.cx sx.tk) (noswap_cell v (by show X.env.scope.names.lookup y = _; rw [sx.cx.sc]; simpa using h3) pos.line) (nosto_name v X.env) rfl
          · have h5 : slotB M.N i y = true := by
              unfold mTg at h1
              simp only [Bool.and_eq_true] at h1
              exact h1.1
            cases c with
            | lc m elt t it cond =>
              unfold mE at h2
              split at h2
              · simp only [Bool.and_eq_true] at h2
                obtain ⟨⟨⟨⟨⟨⟨k1, k2⟩, k3⟩, k4⟩, k5⟩, k6⟩, k7⟩ := h2
                exact snd_asgLc sx h5 h4 k1 (fun x => plain_mIt it k3 x) (sndIt ga it k3 k2 sx.cx sx.tk) (fun X' hx' => pg_x k4 hx') (fun X' hx' => pts_dT fun C => sndCs ga cond k5 (of_decide_eq_true k6) hx' takes_no) (fun X' hx' => pe_x fun C => sndE ga elt k7 hx' takes_no)
              · cases h2
            | lcK m elt t d cond =>
              unfold mE at h2
              split at h2
              · simp only [Bool.and_eq_true] at h2
                obtain ⟨⟨⟨⟨⟨k1, k3⟩, k4⟩, k5⟩, k6⟩, k7⟩ := h2
                exact snd_asgLcK sx h5 h4 k1 (fun x => noset_plain (plain_mE d k3) _ x) (sndE ga d k3 sx.cx takes_no) (fun X' hx' => pg_x k4 hx') (fun X' hx' => pts_dT fun C => sndCs ga cond k5 (of_decide_eq_true k6) hx' takes_no) (fun X' hx' => pe_x fun C => sndE ga elt k7 hx' takes_no)
              · cases h2
            | _ => cases h3
        | _ => unfold mTg at h1; cases h1
      | tp is =>
        cases tg with
        | Tuple es k p =>
          simp only [Bool.and_eq_true, Bool.not_eq_true'] at h3
          exact snd_asg sx h1 (sndE ga c h2 sx.cx sx.tk) (noswap h3.1 (some (.Tuple es k p)) pos.line X.env) (nosto_tup h3.2 X.env) rfl
        | _ => unfold mTg at h1; cases h1
      | ul is =>
        cases tg with
        | Tuple es k p =>
          simp only [Bool.and_eq_true, Bool.not_eq_true'] at h3
          exact snd_asg sx h1 (sndE ga c h2 sx.cx sx.tk) (noswap h3.1 (some (.Tuple es k p)) pos.line X.env) (nosto_tup h3.2 X.env) rfl
        | _ => unfold mTg at h1; cases h1
    · cases h
  | .par i j a b, M, X, B, W, s, h, sx => by
    unfold mS at h
    split at h
    · simp only [Bool.and_eq_true] at h
      obtain ⟨⟨⟨⟨⟨h1, h2⟩, h3⟩, h4⟩, h5⟩, h6⟩ := h
      exact snd_par sx h1 h2 (of_decide_eq_true h3) h4 (sndE ga a h5 sx.cx sx.tk) (sndE ga b h6 sx.cx sx.tk)
    · cases h
  | .setI o i v, M, X, B, W, s, h, sx => by
    unfold mS at h
    split at h
    · simp only [Bool.and_eq_true] at h
      exact snd_setI sx (plain_mE i h.1.2) (sndE ga o h.1.1 sx.cx sx.tk) (sndE ga i h.1.2 sx.cx sx.tk) (sndE ga v h.2 sx.cx sx.tk)
    · cases h
  | .set2 o i o2 i2 v, M, X, B, W, s, h, sx => by
    unfold mS at h
    split at h
    · simp only [Bool.and_eq_true, Bool.not_eq_true'] at h
      obtain ⟨⟨⟨⟨⟨h1, h2⟩, h3⟩, h4⟩, h5⟩, h6⟩ := h
      exact snd_set2 sx (plain_mE i h2) (plain_mE i2 h4) h6 (sndE ga o h1 sx.cx sx.tk) (sndE ga i h2 sx.cx sx.tk) (sndE ga o2 h3 sx.cx sx.tk) (sndE ga i2 h4 sx.cx sx.tk) (sndE ga v h5 sx.cx sx.tk)
    · cases h
  | .dead, M, X, B, W, s, h, sx => snd_dead
  | .setF f r o v, M, X, B, W, s, h, sx => by
    unfold mS at h
    split at h
    · simp only [Bool.and_eq_true] at h
      obtain ⟨⟨h1, h2⟩, h3⟩ := h
      have e1 := strB_eq h1
      subst e1
      exact snd_setF sx (sndE ga o h2 sx.cx sx.tk) (sndE ga v h3 sx.cx sx.tk)
    · cases h
  | .aug i e, M, X, B, W, s, h, sx => by
    unfold mS at h
    split at h
    · simp only [Bool.and_eq_true] at h
      exact snd_aug sx h.1.1 h.1.2 (sndE ga e h.2 sx.cx sx.tk)
    · cases h
  | .ex e, M, X, B, W, s, h, sx => by
    unfold mS at h
    split at h
    · simp only [Bool.and_eq_true, Bool.not_eq_true'] at h
      refine ⟨fun pins s τ H D I hq => ?_⟩
      refine (ps_expr (sndE ga e h.1 sx.cx sx.tk) (noswap h.2 _ _ _)).run pins s τ H D I ?_
      obtain ⟨N, F, σ, Qn, Qr, o, sl, w, pn, pr⟩ := hq
      exact dV.bind o sl w fun v x N1 F1 H1 e1 o1 sl1 d1 w1 => pn _ _ N1 F1 H1 e1 o1 sl1 w1
    · cases h
  | .ifs t a b, M, X, B, W, s, h, sx => by
    unfold mS at h
    split at h
    · simp only [Bool.and_eq_true] at h
      obtain ⟨⟨h1, h2⟩, h3⟩ := h
      refine ⟨fun pins s τ H D I hq => ?_⟩
      refine (ps_if (sndT ga t h1 sx.cx sx.tk) (sndB a h2 sx) (sndB b h3 sx)).run pins s τ H D I ?_
      obtain ⟨N, F, σ, Qn, Qr, o, sl, w, pn, pr⟩ := hq
      refine dT.bind o sl w fun k N1 F1 H1 e1 o1 sl1 w1 => ?_
      cases k with
      | true => rw [if_pos rfl]; exact ⟨N1, F1, σ, Qn, Qr, o1, sl1, w1, pn.mono e1, pr.mono e1⟩
      | false => rw [if_neg Bool.false_ne_true]; exact ⟨N1, F1, σ, Qn, Qr, o1, sl1, w1, pn.mono e1, pr.mono e1⟩
    · cases h
  | .for t it body, M, X, B, W, s, h, sx => by
    unfold mS at h
    split at h
    · simp only [Bool.and_eq_true] at h
      obtain ⟨⟨⟨h1, h2⟩, h3⟩, h4⟩ := h
      exact snd_for sx h1 (fun x => plain_mIt it h3 x) (sndIt ga it h3 h2 sx.cx sx.tk) (sndB body h4 sx)
    · cases h
  | .forK t d body, M, X, B, W, s, h, sx => by
    unfold mS at h
    split at h
    · simp only [Bool.and_eq_true] at h
      obtain ⟨⟨h1, h3⟩, h4⟩ := h
      exact snd_forK sx h1 (fun x => noset_plain (plain_mE d h3) _ x) (sndE ga d h3 sx.cx takes_no) (sndB body h4 (sx_no sx))
    · cases h
  | .forKL t d body, M, X, B, W, s, h, sx => by
    unfold mS at h
    split at h
    · simp only [Bool.and_eq_true] at h
      obtain ⟨⟨h1, h3⟩, h4⟩ := h
      exact snd_forKL sx h1 (fun x => noset_plain (plain_mE d h3) _ x) (sndE ga d h3 sx.cx takes_no) (sndB body h4 (sx_no sx))
    · cases h
  | .whl t body, M, X, B, W, s, h, sx => by
    unfold mS at h
    split at h
    · simp only [Bool.and_eq_true] at h
      exact snd_whl sx (sndT ga t h.1 sx.cx sx.tk) (sndB body h.2 sx)
    · cases h
  | .ret e, M, X, B, W, s, h, sx => by
    unfold mS at h
    split at h
    · refine ⟨fun pins s τ H D I hq => ?_⟩
      refine (ps_ret (sndE ga e h sx.cx sx.tk)).run pins s τ H D I ?_
      obtain ⟨N, F, σ, Qn, Qr, o, sl, w, pn, pr⟩ := hq
      exact ⟨N, F, σ, Qr, o, sl, w, pr⟩
    · cases h
  | .retN, M, X, B, W, s, h, sx => by
    unfold mS at h
    split at h
    · refine ⟨fun pins s τ H D I hq => ?_⟩
      refine ps_retN.run pins s τ H D I ?_
      obtain ⟨N, F, σ, Qn, Qr, o, sl, w, pn, pr⟩ := hq
      exact pr.at o .non w
    · cases h
  | .raiG x f r a, M, X, B, W, s, h, sx => by
    unfold mS at h
    split at h
    · simp only [Bool.and_eq_true] at h
      obtain ⟨⟨⟨h1, h2⟩, h3⟩, h4⟩ := h
      have e1 := strB_eq h1
      subst e1
      exact snd_raiG sx h2 h3 (plain_mE a h4) (sndE ga a h4 sx.cx sx.tk)
    · cases h
  | .rai x r a, M, X, B, W, s, h, sx => by
    unfold mS at h
    split at h
    · simp only [Bool.and_eq_true] at h
      obtain ⟨⟨⟨h1, h2⟩, h3⟩, h4⟩ := h
      have e1 := strB_eq h1
      subst e1
      exact snd_rai sx h2 h3 (plain_mE a h4) (sndE ga a h4 sx.cx sx.tk)
    · cases h
  | .tryK x r i j body, M, X, B, W, s, h, sx => by
    unfold mS at h
    split at h
    · simp only [Bool.and_eq_true, beq_iff_eq] at h
      obtain ⟨⟨⟨⟨⟨⟨⟨⟨⟨⟨h1, h2⟩, h3⟩, h4⟩, h5⟩, h6⟩, h7⟩, h8⟩, h9⟩, h10⟩, h11⟩ := h
      have e1 := strB_eq h1
      subst e1
      have e2 := strB_eq h5
      subst e2
      exact snd_try sx h2 h3 h4 h6 h7 h8 h9 (of_decide_eq_true h10) fun C W' X' sx' => sndB body h11 sx'
    · cases h
  | .pass, M, X, B, W, s, h, sx => by
    unfold mS at h
    split at h
    · refine ⟨fun pins s τ H D I hq => ?_⟩
      refine ps_pass.run pins s τ H D I ?_
      obtain ⟨N, F, σ, Qn, Qr, o, sl, w, pn, pr⟩ := hq
      exact pn _ _ N F H (Same.refl N) o sl w
    · cases h
theorem sndB : ∀ (c : Ss Γ) {M : Mc} {X : Cx} {B : Bs} {W : XS} {ss : List Stmt}, mB M c ss = true → SxOk Γ M X B W → PSs X ss (dS Γ.K B (wpB W c))
  | .nil, M, X, B, W, ss, h, sx => by
    unfold mB at h
    cases ss with
    | nil =>
      refine ⟨fun pins s τ H D I hq => ?_⟩
      refine pss_nil.run pins s τ H D I ?_
      obtain ⟨N, F, σ, Qn, Qr, o, sl, w, pn, pr⟩ := hq
      exact pn _ _ N F H (Same.refl N) o sl w
    | cons a r => cases h
  | .cons a r, M, X, B, W, ss, h, sx => by
    unfold mB at h
    split at h
    · simp only [Bool.and_eq_true] at h
      refine ⟨fun pins s τ H D I hq => ?_⟩
      refine (pss_cons (sndS a h.1 sx) (sndB r h.2 sx)).run pins s τ H D I ?_
      obtain ⟨N, F, σ, Qn, Qr, o, sl, w, pn, pr⟩ := hq
      refine ⟨N, F, σ, _, Qr, o, sl, w, fun σ' τ' N' F' H' e o' sl' q => ?_, pr⟩
      exact ⟨N', F', σ', Qn, Qr, o', sl', q, pn.mono e, pr.mono e⟩
    · cases h
end
end
/-- the slots at the entry -/
def start1 (N : List Str) (vs : List Val) : St1 := vs.map some ++ List.replicate (N.length - vs.length) none
theorem start_sl {K : PySem.W.Frag} {H : Hp} {N : List Str} {vs : List Val} {xs : List V} (d : Dvs K H vs xs) : Sl K H (start1 N vs) (L2.start N xs) := by
  have hl := d.length
  refine ⟨by simp [start1, L2.start, hl], fun i v e => ?_⟩
  unfold start1 at e
  unfold L2.start
  by_cases h : i < vs.length
  · rw [List.getElem?_append_left (by simpa using h), List.getElem?_map] at e
    rw [List.getElem?_append_left (by simpa [← hl] using h), List.getElem?_map]
    obtain ⟨w, hw, e⟩ := Option.map_eq_some_iff.mp e
    cases e
    obtain ⟨x, hx, dx⟩ := d.get hw
    exact ⟨x, by rw [hx]; rfl, dx⟩
  · rw [List.getElem?_append_right (by simpa using h), List.getElem?_replicate] at e
    split at e <;> cases e
/-- a def, by its term: what its term asks is what it promises -/
theorem fun_ok {Γ : Amb} (ga : AmbOk Γ) {x qual : Str} {st : Stmt} {f : Addr} {fd : FuncData} {N ps : List Str} {sp : Spec} (Fu : Fun Γ.K x qual st f fd) (S : FnScope N ps (defScope st)) (c : Ss Γ) (hm : mB ⟨N, defScope st, fun _ => true⟩ c (defBody st) = true)
    (hlen : ∀ vs F Q E, sp vs F Q E → vs.length = ps.length) (hwp : ∀ vs F Q E, sp vs F Q E → wpB (fun C fs _ F => E C fs F) c (start1 N vs) F (fun _ F => Q .non F) Q) : FnOk Γ.P Γ.w Γ.K Γ.mg Γ.base (L2.CX Γ.P Γ.w) (Γ.k + 1) f fd ps (liftSp Γ.K sp) := by
  refine Fu.okX S (fun vs H Q E h => ?_) (fun cdv A outer s H vs Q E hr h => ?_)
  · obtain ⟨B, N, F, as, Q0, E0, o, d, w, _, _⟩ := h
    rw [← d.length]
    exact hlen _ _ _ _ w
  · obtain ⟨B, N0, F, as, Q0, E0, o, d, w, pq, px⟩ := h
    have cx : CxOk Γ ⟨N, defScope st, fun _ => true⟩ (cxOf (L2.CX Γ.P Γ.w) Γ.P Γ.w Γ.K Γ.mg Γ.base N qual (defScope st) f cdv A outer s H E) := ⟨rfl, rfl, rfl, rfl, rfl, hr, rfl, rfl, S.nd, rfl, fun _ _ => rfl⟩
    have tk : Takes (cxOf (L2.CX Γ.P Γ.w) Γ.P Γ.w Γ.K Γ.mg Γ.base N qual (defScope st) f cdv A outer s H E) (liftW Γ.K ⟨N0, F, H⟩ fun C fs _ F => E0 C fs F) := by
      refine (takes_of rfl rfl rfl rfl).imp fun cls d2 σ H2 hl => ?_
      obtain ⟨C, fs, N2, F2, σ2, rfl, o2, xr, sl2, q⟩ := hl
      exact px C fs d2 N2 F2 H2 o2.low (o.trans o2) xr q
    refine ⟨_, sndB ga c hm ⟨cx, tk, passes_of rfl, rfl, rfl⟩, N0, F, start1 N as, _, _, o.here, start_sl d, hwp _ _ _ _ w, fun σ' τ' N' F' H' e o' sl' q => ?_, fun v x N' F' H' e o' d' q => pq v x N' F' H' e (o.trans o') d' q⟩
    exact pq .non .non N' F' H' e (o.trans o') .non q
/-- the law's own def: nothing comes out of it -/
theorem top_ok {Γ : Amb} (ga : AmbOk Γ) {x qual : Str} {st : Stmt} {f : Addr} {fd : FuncData} {N ps : List Str} {sp : Spec} (Fu : Fun Γ.K x qual st f fd) (S : FnScope N ps (defScope st)) (c : Ss Γ) (hm : mB ⟨N, defScope st, fun _ => true⟩ c (defBody st) = true)
    (hlen : ∀ vs F Q E, sp vs F Q E → vs.length = ps.length) (hwp : ∀ vs F Q E, sp vs F Q E → wpB noX c (start1 N vs) F (fun _ F => Q .non F) Q) : FnOk Γ.P Γ.w Γ.K Γ.mg Γ.base L2.CX0 (Γ.k + 1) f fd ps (liftSp Γ.K sp) := by
  refine Fu.ok S (fun vs H Q E h => ?_) (fun cdv A outer s H vs Q E hr h => ?_)
  · obtain ⟨B, N, F, as, Q0, E0, o, d, w, _, _⟩ := h
    rw [← d.length]
    exact hlen _ _ _ _ w
  · obtain ⟨B, N0, F, as, Q0, E0, o, d, w, pq, px⟩ := h
    have cx : CxOk Γ ⟨N, defScope st, fun _ => true⟩ (cxOf L2.CX0 Γ.P Γ.w Γ.K Γ.mg Γ.base N qual (defScope st) f cdv A outer s H E).nox := ⟨rfl, rfl, rfl, rfl, rfl, hr, rfl, rfl, S.nd, rfl, fun _ _ => rfl⟩
    refine ⟨_, sndB ga c hm (B := ⟨N0, F, H⟩) (W := noX) ⟨cx, takes_no, PassesOwn.never, rfl, rfl⟩, N0, F, start1 N as, _, _, o.here, start_sl d, hwp _ _ _ _ w, fun σ' τ' N' F' H' e o' sl' q => ?_, fun v x N' F' H' e o' d' q => pq v x N' F' H' e (o.trans o') d' q⟩
    exact pq .non .non N' F' H' e (o.trans o') .non q
/-! ### an error's own __init__ -/
/-- own.__init__(self, "…"); self.f = f -/
def initB (own f : Str) (body : List Stmt) : Bool := match body with
  | [.Expr (.Call (.Attribute (.Name o _) m p2) [.Name s _, .Constant (.str _) _ _] [] p5) _, .Assign [.Attribute (.Name s2 _) f' _] (.Name g _) _] =>
    strB o own && strB m "__init__" && strB s "self" && strB s2 "self" && strB f' f && strB g f && (p2.endLine == p5.line)
  | _ => false
/-- the class that an own error's __init__ calls -/
structure OwnI (K : PySem.W.Frag) (mg : Str → Option Value) (own : Str) : Prop where
  ex : ∃ O : Addr, mg own = some (.ref O) ∧ PySem.W.specialIn K (.ref O) "__getattribute__" = some (some (.builtin "type.__getattribute__")) ∧ PySem.W.typeIn K (.ref O) = some (.type "type") ∧ PySem.W.readsIn K O (.type "type") = true ∧
    PySem.W.findCls K (.ref O) (.type "type") "__init__" = some (.val (.builtin "ValueError.__init__"))
theorem init_ok {Γ : Amb} {x qual own f : Str} {st : Stmt} {fa C : Addr} {fd : FuncData} (Fu : Fun Γ.K x qual st fa fd) (S : FnScope ["self", f] ["self", f] (defScope st)) (hb : initB own f (defBody st) = true) (T : OexC Γ.K C) (hno : PySem.W.findIn Γ.K (.ref C) f = some none) (ow : OwnI Γ.K Γ.mg own)
    (n1 : nmB f = true) (n2 : nmB own = true) (hg : glB (defScope st) own = true) (l1 : (defScope st).names.lookup ("self" : Str) = some .local) (l2 : (defScope st).names.lookup f = some .local) :
    FnOk Γ.P Γ.w Γ.K Γ.mg Γ.base L2.CX0 (Γ.k + 1) fa fd ["self", f] (initSp C f) := by
  obtain ⟨O, hO, gO, tO, rO, vO⟩ := ow.ex
  refine Fu.ok S (fun vs H Q E h => ?_) (fun cdv A outer s H vs Q E hr h => ?_)
  · obtain ⟨a, y, rfl, _⟩ := h
    rfl
  · obtain ⟨a, y, rfl, ea, hq⟩ := h
    unfold initB at hb
    split at hb
    case h_2 => cases hb
    rename_i o p1 m p2 s1 p3 z j p4 p5 p6 s2 p7 f' p8 g p9 p10 eb
    simp only [Bool.and_eq_true] at hb
    obtain ⟨⟨⟨⟨⟨⟨h1, h2⟩, h3⟩, h4⟩, h5⟩, h6⟩, h7⟩ := hb
    have e1 := strB_eq h1; subst e1
    have e2 := strB_eq h2; subst e2
    have e3 := strB_eq h3; subst e3
    have e4 := strB_eq h4; subst e4
    have e5 := strB_eq h5; subst e5
    have e6 := strB_eq h6; subst e6
    rw [eb]
    generalize hX : (cxOf L2.CX0 Γ.P Γ.w Γ.K Γ.mg Γ.base [("self" : Str), g] qual (defScope st) fa cdv A outer s H E).nox = X
    have xK : X.K = Γ.K := by rw [← hX]; rfl
    have xN : X.N = [("self" : Str), g] := by rw [← hX]; rfl
    have xs : X.env.scope = defScope st := by rw [← hX]; rfl
    have xm : X.mg = Γ.mg := by rw [← hX]; rfl
    have v1 : PE X (.Name "self" p3) (tVar 0) := pe_var (by rw [xN]; rfl) (.inl (by rw [xs]; exact l1)) (by decide) (by decide)
    have v2 : PE X (.Name "self" p7) (tVar 0) := pe_var (by rw [xN]; rfl) (.inl (by rw [xs]; exact l1)) (by decide) (by decide)
    have v3 : PE X (.Name g p9) (tVar 1) := pe_var (by rw [xN]; rfl) (.inl (by rw [xs]; exact l2)) (nm1 n1).1 (nm1 n1).2.1
    have ha : PA X [.Name "self" p3, .Constant (.str z) j p4] (tCons (tVar 0) (tCons (tC (.str z)) tNil)) := pa_cons v1 (pa_cons pe_str pa_nil)
    have pe1 : PE X (.Call (.Attribute (.Name o p1) "__init__" p2) [.Name "self" p3, .Constant (.str z) j p4] [] p5) (tVeI X.K (tCons (tVar 0) (tCons (tC (.str z)) tNil))) := by
      refine ⟨fun pins s' σ H' Q' I hh => ?_⟩
      refine PySem.W.methodCall_KW (ld_glob I (glB_eq (M := ⟨[("self" : Str), g], defScope st, fun _ => true⟩) xs hg) (by rw [xm]; exact hO) ?_ (nm1 n2).1) (call_form (by rfl) (by rfl) (by simp) h7)
      obtain ⟨mm, fr⟩ := I.fr
      have kin := I.ok.mod.kin
      rw [xK] at kin
      refine PySem.W.method_of_cls fr kin gO (PySem.W.cls_val fr kin tO rO vO rfl ?_)
      show wpAny _ _ (callWith p5 (Value.builtin "ValueError.__init__") [] (backTo p5 (starEach [.Name "self" p3, .Constant (.str z) j p4] X.env)) []) _ _ _
      refine PyProof.Rows.callWith_method1 (thn (ha.run p5 pins _ σ H' _ (I.tok _) hh) fun us s3 ⟨vs, H1, I1, r1, a', C', ws, ev, hl, T', ea', q⟩ => ?_) rfl rfl
      subst ev
      cases r1 with
      | @cons _ u0 _ ur ra rw' =>
        obtain rfl : u0 = Value.ref a' := ra
        exact oinit_ok T' I1 ea' (by rw [← Paired.length rw', sizeLine_eq]; omega) fun s' J => ⟨.non, H1, J, rfl, q⟩
    refine ⟨_, pss_cons (ps_expr pe1 (noswap rfl _ _ _)) (pss_one (ps_ost v2 v3 (fldswap _ _ _ _ _ _))), ?_⟩
    rw [xK]
    refine ⟨.ref a, rfl, a, C, [.str z], rfl, by simp, T, ea, ?_⟩
    exact ⟨y, rfl, .ref a, rfl, a, C, rfl, T, hno, .inl ⟨ea, fun dx hdx hne => hq dx hdx hne⟩⟩
end Bv

/-! The terms of the defs. -/
namespace Bv
open PySem L2 PyProof.Rows
def top (i : Nat) : Stmt := PySem.Challenge.pw_wholeowners_k13_ways_through.main.body.getD i (.Pass ⟨0, 0, 0, 0⟩)
def topM (i j : Nat) : Stmt := match top i with
  | .ClassDef _ _ _ body _ _ _ _ _ _ _ => body.getD j (.Pass ⟨0, 0, 0, 0⟩)
  | _ => .Pass ⟨0, 0, 0, 0⟩
abbrev s_Whole_init : Stmt := topM 11 0
theorem f_Whole_init : FnScope ["self", "group"] ["self", "group"] (defScope s_Whole_init) := ⟨rfl, rfl, rfl, by decide +kernel, rfl, by decide +kernel, by decide +kernel⟩
theorem b_Whole_init : initB "OwnError" "group" (defBody s_Whole_init) = true := by kernel_rfl
theorem h_Whole_init : glB (defScope s_Whole_init) "OwnError" = true ∧ (defScope s_Whole_init).names.lookup ("self" : Str) = some .local ∧ (defScope s_Whole_init).names.lookup ("group" : Str) = some .local := ⟨by kernel_rfl, by kernel_rfl, by kernel_rfl⟩

/- divisor: slots 0 one 1 other -/
def c_divisor {Γ : Amb}  : Ss Γ :=
  (.cons (.asg (.nm 0) (.bi .abs (.cons (.var 0) .nil)))
  (.cons (.asg (.nm 1) (.bi .abs (.cons (.var 1) .nil)))
  (.cons (.whl (.cmp .Gt (.var 1) (.cst (.int 0))) (.cons (.par 0 1 (.var 1) (.bin .Mod (.var 0) (.var 1)))
  .nil))
  (.cons (.ret (.var 0))
  .nil))))

abbrev s_divisor : Stmt := top 13
def n_divisor : List Str := ["one", "other"]
theorem f_divisor : FnScope n_divisor ["one", "other"] (defScope s_divisor) := ⟨rfl, rfl, rfl, by decide +kernel, rfl, by decide +kernel, by decide +kernel⟩
theorem k_divisor {Γ : Amb}  : mB (Γ := Γ) ⟨n_divisor, defScope s_divisor, fun _ => true⟩ (c_divisor) (defBody s_divisor) = true := by kernel_rfl

/- made: slots 0 top 1 bottom 2 by -/
def c_made {Γ : Amb} (r_divisor : CallR1 Γ "divisor") : Ss Γ :=
  (.cons (.asg (.nm 2) (.call "divisor" r_divisor (.cons (.var 0) (.cons (.var 1) .nil))))
  (.cons (.ifs (.cmp .Lt (.var 1) (.cst (.int 0))) (.cons (.asg (.nm 2) (.neg (.var 2)))
  .nil) .nil)
  (.cons (.ret (.tup (.cons (.bin .FloorDiv (.var 0) (.var 2)) (.cons (.bin .FloorDiv (.var 1) (.var 2)) .nil))))
  .nil)))

abbrev s_made : Stmt := top 14
def n_made : List Str := ["top", "bottom", "by"]
theorem f_made : FnScope n_made ["top", "bottom"] (defScope s_made) := ⟨rfl, rfl, rfl, by decide +kernel, rfl, by decide +kernel, by decide +kernel⟩
theorem k_made {Γ : Amb} (r_divisor : CallR1 Γ "divisor") : mB (Γ := Γ) ⟨n_made, defScope s_made, fun _ => true⟩ (c_made r_divisor) (defBody s_made) = true := by kernel_rfl

/- added: slots 0 one 1 other -/
def c_added {Γ : Amb} (r_made : CallR1 Γ "made") : Ss Γ :=
  (.cons (.ret (.call "made" r_made (.cons (.bin .Add (.bin .Mult (.ix (.var 0) (.cst (.int 0))) (.ix (.var 1) (.cst (.int 1)))) (.bin .Mult (.ix (.var 1) (.cst (.int 0))) (.ix (.var 0) (.cst (.int 1))))) (.cons (.bin .Mult (.ix (.var 0) (.cst (.int 1))) (.ix (.var 1) (.cst (.int 1)))) .nil))))
  .nil)

abbrev s_added : Stmt := top 15
def n_added : List Str := ["one", "other"]
theorem f_added : FnScope n_added ["one", "other"] (defScope s_added) := ⟨rfl, rfl, rfl, by decide +kernel, rfl, by decide +kernel, by decide +kernel⟩
theorem k_added {Γ : Amb} (r_made : CallR1 Γ "made") : mB (Γ := Γ) ⟨n_added, defScope s_added, fun _ => true⟩ (c_added r_made) (defBody s_added) = true := by kernel_rfl

/- minus: slots 0 one 1 other -/
def c_minus {Γ : Amb} (r_made : CallR1 Γ "made") : Ss Γ :=
  (.cons (.ret (.call "made" r_made (.cons (.bin .Sub (.bin .Mult (.ix (.var 0) (.cst (.int 0))) (.ix (.var 1) (.cst (.int 1)))) (.bin .Mult (.ix (.var 1) (.cst (.int 0))) (.ix (.var 0) (.cst (.int 1))))) (.cons (.bin .Mult (.ix (.var 0) (.cst (.int 1))) (.ix (.var 1) (.cst (.int 1)))) .nil))))
  .nil)

abbrev s_minus : Stmt := top 16
def n_minus : List Str := ["one", "other"]
theorem f_minus : FnScope n_minus ["one", "other"] (defScope s_minus) := ⟨rfl, rfl, rfl, by decide +kernel, rfl, by decide +kernel, by decide +kernel⟩
theorem k_minus {Γ : Amb} (r_made : CallR1 Γ "made") : mB (Γ := Γ) ⟨n_minus, defScope s_minus, fun _ => true⟩ (c_minus r_made) (defBody s_minus) = true := by kernel_rfl

/- multiplied: slots 0 one 1 other -/
def c_multiplied {Γ : Amb} (r_made : CallR1 Γ "made") : Ss Γ :=
  (.cons (.ret (.call "made" r_made (.cons (.bin .Mult (.ix (.var 0) (.cst (.int 0))) (.ix (.var 1) (.cst (.int 0)))) (.cons (.bin .Mult (.ix (.var 0) (.cst (.int 1))) (.ix (.var 1) (.cst (.int 1)))) .nil))))
  .nil)

abbrev s_multiplied : Stmt := top 17
def n_multiplied : List Str := ["one", "other"]
theorem f_multiplied : FnScope n_multiplied ["one", "other"] (defScope s_multiplied) := ⟨rfl, rfl, rfl, by decide +kernel, rfl, by decide +kernel, by decide +kernel⟩
theorem k_multiplied {Γ : Amb} (r_made : CallR1 Γ "made") : mB (Γ := Γ) ⟨n_multiplied, defScope s_multiplied, fun _ => true⟩ (c_multiplied r_made) (defBody s_multiplied) = true := by kernel_rfl

/- is_less: slots 0 one 1 other -/
def c_is_less {Γ : Amb}  : Ss Γ :=
  (.cons (.ret (.cmp .Lt (.bin .Mult (.ix (.var 0) (.cst (.int 0))) (.ix (.var 1) (.cst (.int 1)))) (.bin .Mult (.ix (.var 1) (.cst (.int 0))) (.ix (.var 0) (.cst (.int 1))))))
  .nil)

abbrev s_is_less : Stmt := top 18
def n_is_less : List Str := ["one", "other"]
theorem f_is_less : FnScope n_is_less ["one", "other"] (defScope s_is_less) := ⟨rfl, rfl, rfl, by decide +kernel, rfl, by decide +kernel, by decide +kernel⟩
theorem k_is_less {Γ : Amb}  : mB (Γ := Γ) ⟨n_is_less, defScope s_is_less, fun _ => true⟩ (c_is_less) (defBody s_is_less) = true := by kernel_rfl

/- total: slots 0 numbers 1 found 2 number -/
def c_total {Γ : Amb} (r_added : CallR1 Γ "added") : Ss Γ :=
  (.cons (.asg (.nm 1) (.tup (.cons (.cst (.int 0)) (.cons (.cst (.int 1)) .nil))))
  (.cons (.for (.nm 2) (.lst (.var 0)) (.cons (.asg (.nm 1) (.call "added" r_added (.cons (.var 1) (.cons (.var 2) .nil))))
  .nil))
  (.cons (.ret (.var 1))
  .nil)))

abbrev s_total : Stmt := top 19
def n_total : List Str := ["numbers", "found", "number"]
theorem f_total : FnScope n_total ["numbers"] (defScope s_total) := ⟨rfl, rfl, rfl, by decide +kernel, rfl, by decide +kernel, by decide +kernel⟩
theorem k_total {Γ : Amb} (r_added : CallR1 Γ "added") : mB (Γ := Γ) ⟨n_total, defScope s_total, fun _ => true⟩ (c_total r_added) (defBody s_total) = true := by kernel_rfl

/- lessened: slots 0 row 1 top 2 by 3 number 4 other -/
def c_lessened {Γ : Amb} (r_minus : CallR1 Γ "minus") (r_multiplied : CallR1 Γ "multiplied") : Ss Γ :=
  (.cons (.ret (.lc false (.call "minus" r_minus (.cons (.var 3) (.cons (.call "multiplied" r_multiplied (.cons (.var 2) (.cons (.var 4) .nil))) .nil))) (.tp [3, 4]) (.zip2 (.var 0) (.var 1)) .nil))
  .nil)

abbrev s_lessened : Stmt := top 20
def n_lessened : List Str := ["row", "top", "by", "number", "other"]
theorem f_lessened : FnScope n_lessened ["row", "top", "by"] (defScope s_lessened) := ⟨rfl, rfl, rfl, by decide +kernel, rfl, by decide +kernel, by decide +kernel⟩
theorem k_lessened {Γ : Amb} (r_minus : CallR1 Γ "minus") (r_multiplied : CallR1 Γ "multiplied") : mB (Γ := Γ) ⟨n_lessened, defScope s_lessened, fun _ => true⟩ (c_lessened r_minus r_multiplied) (defBody s_lessened) = true := by kernel_rfl

/- solved: slots 0 rows 1 left 2 many 3 k 4 at 5 by 6 j 7 row 8 number -/
def c_solved {Γ : Amb} (r_lessened : CallR1 Γ "lessened") (r_multiplied : CallR1 Γ "multiplied") (r_made : CallR1 Γ "made") : Ss Γ :=
  (.cons (.asg (.nm 1) (.lc true (.bi (.list false) (.cons (.var 7) .nil)) (.nm 7) (.lst (.var 0)) .nil))
  (.cons (.asg (.nm 2) (.bi .len (.cons (.var 1) .nil)))
  (.cons (.for (.nm 3) (.rng1 (.var 2)) (.cons (.asg (.nm 4) (.var 3))
  (.cons (.whl (.cmp .Eq (.ix (.ix (.var 1) (.var 4)) (.var 3)) (.tup (.cons (.cst (.int 0)) (.cons (.cst (.int 1)) .nil)))) (.cons (.aug 4 (.cst (.int 1)))
  .nil))
  (.cons (.set2 (.var 1) (.var 3) (.var 1) (.var 4) (.tup (.cons (.ix (.var 1) (.var 4)) (.cons (.ix (.var 1) (.var 3)) .nil))))
  (.cons (.asg (.nm 5) (.call "made" r_made (.cons (.ix (.ix (.ix (.var 1) (.var 3)) (.var 3)) (.cst (.int 1))) (.cons (.ix (.ix (.ix (.var 1) (.var 3)) (.var 3)) (.cst (.int 0))) .nil))))
  (.cons (.setI (.var 1) (.var 3) (.lc false (.call "multiplied" r_multiplied (.cons (.var 5) (.cons (.var 8) .nil))) (.nm 8) (.lst (.ix (.var 1) (.var 3))) .nil))
  (.cons (.for (.nm 6) (.rng1 (.var 2)) (.cons (.ifs (.bool .And (.cons (.cmp .NotEq (.var 6) (.var 3)) (.cons (.cmp .NotEq (.ix (.ix (.var 1) (.var 6)) (.var 3)) (.tup (.cons (.cst (.int 0)) (.cons (.cst (.int 1)) .nil)))) .nil))) (.cons (.setI (.var 1) (.var 6) (.call "lessened" r_lessened (.cons (.ix (.var 1) (.var 6)) (.cons (.ix (.var 1) (.var 3)) (.cons (.ix (.ix (.var 1) (.var 6)) (.var 3)) .nil)))))
  .nil) .nil)
  .nil))
  .nil)))))))
  (.cons (.ret (.lc false (.ix (.var 7) (.neg (.cst (.int 1)))) (.nm 7) (.lst (.var 1)) .nil))
  .nil))))

abbrev s_solved : Stmt := top 21
def n_solved : List Str := ["rows", "left", "many", "k", "at", "by", "j", "row", "number"]
theorem f_solved : FnScope n_solved ["rows"] (defScope s_solved) := ⟨rfl, rfl, rfl, by decide +kernel, rfl, by decide +kernel, by decide +kernel⟩
theorem k_solved {Γ : Amb} (r_lessened : CallR1 Γ "lessened") (r_multiplied : CallR1 Γ "multiplied") (r_made : CallR1 Γ "made") : mB (Γ := Γ) ⟨n_solved, defScope s_solved, fun _ => true⟩ (c_solved r_lessened r_multiplied r_made) (defBody s_solved) = true := by kernel_rfl

/- whole_group: slots 0 book 1 group 2 lessening 3 kept 4 house 5 holder 6 share -/
def c_whole_group {Γ : Amb} (t_shares : MethR Γ "shares") (t_houses : MethR Γ "houses") : Ss Γ :=
  (.cons (.asg (.nm 1) (.meth "houses" t_houses (.var 0) .nil))
  (.cons (.asg (.nm 2) (.cst (.bl true)))
  (.cons (.whl (.val (.var 2)) (.cons (.asg (.nm 3) (.lst true .nil))
  (.cons (.for (.nm 4) (.lst (.var 1)) (.cons (.ifs (.val (.bi .all (.cons (.lc false (.cmp .In (.var 5) (.var 1)) (.tp [5, 6]) (.lst (.meth "shares" t_shares (.var 0) (.cons (.var 4) .nil))) .nil) .nil))) (.cons (.ex (.bm .append (.var 3) (.cons (.var 4) .nil)))
  .nil) .nil)
  .nil))
  (.cons (.asg (.nm 2) (.cmp .Lt (.bi .len (.cons (.var 3) .nil)) (.bi .len (.cons (.var 1) .nil))))
  (.cons (.asg (.nm 1) (.var 3))
  .nil)))))
  (.cons (.ret (.frz (.var 1)))
  .nil))))

abbrev s_whole_group : Stmt := top 23
def n_whole_group : List Str := ["book", "group", "lessening", "kept", "house", "holder", "share"]
theorem f_whole_group : FnScope n_whole_group ["book"] (defScope s_whole_group) := ⟨rfl, rfl, rfl, by decide +kernel, rfl, by decide +kernel, by decide +kernel⟩
theorem k_whole_group {Γ : Amb} (t_shares : MethR Γ "shares") (t_houses : MethR Γ "houses") : mB (Γ := Γ) ⟨n_whole_group, defScope s_whole_group, fun _ => true⟩ (c_whole_group t_shares t_houses) (defBody s_whole_group) = true := by kernel_rfl

/- must_part: slots 0 book 1 group -/
def c_must_part {Γ : Amb} (y_Whole : RaiGR Γ "Whole" "group") (r_whole_group : CallR1 Γ "whole_group") : Ss Γ :=
  (.cons (.asg (.nm 1) (.call "whole_group" r_whole_group (.cons (.var 0) .nil)))
  (.cons (.ifs (.cmp .NotEq (.var 1) (.lst false .nil)) (.cons (.raiG "Whole" "group" y_Whole (.var 1))
  .nil) .nil)
  .nil))

abbrev s_must_part : Stmt := top 24
def n_must_part : List Str := ["book", "group"]
theorem f_must_part : FnScope n_must_part ["book"] (defScope s_must_part) := ⟨rfl, rfl, rfl, by decide +kernel, rfl, by decide +kernel, by decide +kernel⟩
theorem k_must_part {Γ : Amb} (y_Whole : RaiGR Γ "Whole" "group") (r_whole_group : CallR1 Γ "whole_group") : mB (Γ := Γ) ⟨n_must_part, defScope s_must_part, fun _ => true⟩ (c_must_part y_Whole r_whole_group) (defBody s_must_part) = true := by kernel_rfl

/- share_of: slots 0 book 1 house 2 holder 3 one 4 share -/
def c_share_of {Γ : Amb} (t_shares : MethR Γ "shares") : Ss Γ :=
  (.cons (.for (.tp [3, 4]) (.lst (.meth "shares" t_shares (.var 0) (.cons (.var 1) .nil))) (.cons (.ifs (.cmp .Eq (.var 3) (.var 2)) (.cons (.ret (.var 4))
  .nil) .nil)
  .nil))
  (.cons (.ret (.tup (.cons (.cst (.int 0)) (.cons (.cst (.int 1)) .nil))))
  .nil))

abbrev s_share_of : Stmt := top 25
def n_share_of : List Str := ["book", "house", "holder", "one", "share"]
theorem f_share_of : FnScope n_share_of ["book", "house", "holder"] (defScope s_share_of) := ⟨rfl, rfl, rfl, by decide +kernel, rfl, by decide +kernel, by decide +kernel⟩
theorem k_share_of {Γ : Amb} (t_shares : MethR Γ "shares") : mB (Γ := Γ) ⟨n_share_of, defScope s_share_of, fun _ => true⟩ (c_share_of t_shares) (defBody s_share_of) = true := by kernel_rfl

/- worths_by: slots 0 book 1 things 2 names 3 rows 4 k 5 house 6 row 7 other -/
def c_worths_by {Γ : Amb} (r_solved : CallR1 Γ "solved") (r_minus : CallR1 Γ "minus") (r_share_of : CallR1 Γ "share_of") (t_houses : MethR Γ "houses") : Ss Γ :=
  (.cons (.asg (.nm 2) (.meth "houses" t_houses (.var 0) .nil))
  (.cons (.asg (.nm 3) (.lst true .nil))
  (.cons (.for (.tp [4, 5]) (.enum (.var 2)) (.cons (.asg (.nm 6) (.lc false (.call "minus" r_minus (.cons (.tup (.cons (.bi .int (.cons (.cmp .Eq (.var 5) (.var 7)) .nil)) (.cons (.cst (.int 1)) .nil))) (.cons (.call "share_of" r_share_of (.cons (.var 0) (.cons (.var 7) (.cons (.var 5) .nil)))) .nil))) (.nm 7) (.lst (.var 2)) .nil))
  (.cons (.ex (.bm .append (.var 3) (.cons (.bin .Add (.var 6) (.lst false (.cons (.ix (.var 1) (.var 4)) .nil))) .nil)))
  .nil)))
  (.cons (.ret (.call "solved" r_solved (.cons (.var 3) .nil)))
  .nil))))

abbrev s_worths_by : Stmt := top 26
def n_worths_by : List Str := ["book", "things", "names", "rows", "k", "house", "row", "other"]
theorem f_worths_by : FnScope n_worths_by ["book", "things"] (defScope s_worths_by) := ⟨rfl, rfl, rfl, by decide +kernel, rfl, by decide +kernel, by decide +kernel⟩
theorem k_worths_by {Γ : Amb} (r_solved : CallR1 Γ "solved") (r_minus : CallR1 Γ "minus") (r_share_of : CallR1 Γ "share_of") (t_houses : MethR Γ "houses") : mB (Γ := Γ) ⟨n_worths_by, defScope s_worths_by, fun _ => true⟩ (c_worths_by r_solved r_minus r_share_of t_houses) (defBody s_worths_by) = true := by kernel_rfl

/- part_of: slots 0 book 1 person 2 found 3 some 4 house 5 worth -/
def c_part_of {Γ : Amb} (r_total : CallR1 Γ "total") (t_houses : MethR Γ "houses") (r_multiplied : CallR1 Γ "multiplied") (r_share_of : CallR1 Γ "share_of") : Ss Γ :=
  (.cons (.asg (.nm 3) (.lst true .nil))
  (.cons (.for (.tp [4, 5]) (.zip2 (.meth "houses" t_houses (.var 0) .nil) (.var 2)) (.cons (.ex (.bm .append (.var 3) (.cons (.call "multiplied" r_multiplied (.cons (.call "share_of" r_share_of (.cons (.var 0) (.cons (.var 4) (.cons (.var 1) .nil)))) (.cons (.var 5) .nil))) .nil)))
  .nil))
  (.cons (.ret (.call "total" r_total (.cons (.var 3) .nil)))
  .nil)))

abbrev s_part_of : Stmt := top 27
def n_part_of : List Str := ["book", "person", "found", "some", "house", "worth"]
theorem f_part_of : FnScope n_part_of ["book", "person", "found"] (defScope s_part_of) := ⟨rfl, rfl, rfl, by decide +kernel, rfl, by decide +kernel, by decide +kernel⟩
theorem k_part_of {Γ : Amb} (r_total : CallR1 Γ "total") (t_houses : MethR Γ "houses") (r_multiplied : CallR1 Γ "multiplied") (r_share_of : CallR1 Γ "share_of") : mB (Γ := Γ) ⟨n_part_of, defScope s_part_of, fun _ => true⟩ (c_part_of r_total t_houses r_multiplied r_share_of) (defBody s_part_of) = true := by kernel_rfl

/- through: slots 0 book 1 holder 2 house 3 names 4 found 5 other -/
def c_through {Γ : Amb} (r_part_of : CallR1 Γ "part_of") (r_worths_by : CallR1 Γ "worths_by") (x_NoHouse : RaiR Γ "NoHouse") (t_persons : MethR Γ "persons") (x_NoHolder : RaiR Γ "NoHolder") (t_houses : MethR Γ "houses") (r_must_part : CallR1 Γ "must_part") : Ss Γ :=
  (.cons (.ex (.call "must_part" r_must_part (.cons (.var 0) .nil)))
  (.cons (.asg (.nm 3) (.meth "houses" t_houses (.var 0) .nil))
  (.cons (.ifs (.bool .And (.cons (.cmp .NotIn (.var 1) (.var 3)) (.cons (.cmp .NotIn (.var 1) (.meth "persons" t_persons (.var 0) .nil)) .nil))) (.cons (.rai "NoHolder" x_NoHolder (.var 1))
  .nil) .nil)
  (.cons (.ifs (.cmp .NotIn (.var 2) (.var 3)) (.cons (.rai "NoHouse" x_NoHouse (.var 2))
  .nil) .nil)
  (.cons (.asg (.nm 4) (.call "worths_by" r_worths_by (.cons (.var 0) (.cons (.lc false (.tup (.cons (.bi .int (.cons (.cmp .Eq (.var 2) (.var 5)) .nil)) (.cons (.cst (.int 1)) .nil))) (.nm 5) (.lst (.var 3)) .nil) .nil))))
  (.cons (.ifs (.cmp .In (.var 1) (.var 3)) (.cons (.ret (.ix (.var 4) (.bm .index (.var 3) (.cons (.var 1) .nil))))
  .nil) .nil)
  (.cons (.ret (.call "part_of" r_part_of (.cons (.var 0) (.cons (.var 1) (.cons (.var 4) .nil)))))
  .nil)))))))

abbrev s_through : Stmt := top 28
def n_through : List Str := ["book", "holder", "house", "names", "found", "other"]
theorem f_through : FnScope n_through ["book", "holder", "house"] (defScope s_through) := ⟨rfl, rfl, rfl, by decide +kernel, rfl, by decide +kernel, by decide +kernel⟩
theorem k_through {Γ : Amb} (r_part_of : CallR1 Γ "part_of") (r_worths_by : CallR1 Γ "worths_by") (x_NoHouse : RaiR Γ "NoHouse") (t_persons : MethR Γ "persons") (x_NoHolder : RaiR Γ "NoHolder") (t_houses : MethR Γ "houses") (r_must_part : CallR1 Γ "must_part") : mB (Γ := Γ) ⟨n_through, defScope s_through, fun _ => true⟩ (c_through r_part_of r_worths_by x_NoHouse t_persons x_NoHolder t_houses r_must_part) (defBody s_through) = true := by kernel_rfl

/- is_name: slots 0 text 1 sign -/
def c_is_name {Γ : Amb} (g_LETTERS : GlR Γ "LETTERS") : Ss Γ :=
  (.cons (.ret (.bool .And (.cons (.chain .Lt .LtE (.cst (.int 0)) (.bi .len (.cons (.var 0) .nil)) (.cst (.int 8))) (.cons (.bi .all (.cons (.lc false (.cmp .In (.var 1) (.gl "LETTERS" g_LETTERS)) (.nm 1) (.str (.var 0)) .nil) .nil)) .nil))))
  .nil)

abbrev s_is_name : Stmt := top 33
def n_is_name : List Str := ["text", "sign"]
theorem f_is_name : FnScope n_is_name ["text"] (defScope s_is_name) := ⟨rfl, rfl, rfl, by decide +kernel, rfl, by decide +kernel, by decide +kernel⟩
theorem k_is_name {Γ : Amb} (g_LETTERS : GlR Γ "LETTERS") : mB (Γ := Γ) ⟨n_is_name, defScope s_is_name, fun _ => true⟩ (c_is_name g_LETTERS) (defBody s_is_name) = true := by kernel_rfl

/- must_loss: slots 0 number -/
def c_must_loss {Γ : Amb} (x_NoLoss : RaiR Γ "NoLoss") : Ss Γ :=
  (.cons (.ifs (.cmp .Lt (.var 0) (.cst (.int 0))) (.cons (.rai "NoLoss" x_NoLoss (.cst (.str "a loss below nought")))
  .nil) .nil)
  .nil)

abbrev s_must_loss : Stmt := top 34
def n_must_loss : List Str := ["number"]
theorem f_must_loss : FnScope n_must_loss ["number"] (defScope s_must_loss) := ⟨rfl, rfl, rfl, by decide +kernel, rfl, by decide +kernel, by decide +kernel⟩
theorem k_must_loss {Γ : Amb} (x_NoLoss : RaiR Γ "NoLoss") : mB (Γ := Γ) ⟨n_must_loss, defScope s_must_loss, fun _ => true⟩ (c_must_loss x_NoLoss) (defBody s_must_loss) = true := by kernel_rfl

/- Entry.__init__: slots 0 self 1 numbers 2 held -/
def c_Entry_init {Γ : Amb} (f_held : FldR Γ "held") (f_numbers : FldR Γ "numbers") : Ss Γ :=
  (.cons (.setF "numbers" f_numbers (.var 0) (.var 1))
  (.cons (.setF "held" f_held (.var 0) (.var 2))
  .nil))

abbrev s_Entry_init : Stmt := topM 35 0
def n_Entry_init : List Str := ["self", "numbers", "held"]
theorem f_Entry_init : FnScope n_Entry_init ["self", "numbers", "held"] (defScope s_Entry_init) := ⟨rfl, rfl, rfl, by decide +kernel, rfl, by decide +kernel, by decide +kernel⟩
theorem k_Entry_init {Γ : Amb} (f_held : FldR Γ "held") (f_numbers : FldR Γ "numbers") : mB (Γ := Γ) ⟨n_Entry_init, defScope s_Entry_init, fun _ => true⟩ (c_Entry_init f_held f_numbers) (defBody s_Entry_init) = true := by kernel_rfl

/- Book.__init__: slots 0 self -/
def c_Book_init {Γ : Amb} (f_entries : FldR Γ "entries") (f_people : FldR Γ "people") : Ss Γ :=
  (.cons (.setF "people" f_people (.var 0) (.lst true .nil))
  (.cons (.setF "entries" f_entries (.var 0) .dic0)
  .nil))

abbrev s_Book_init : Stmt := topM 36 0
def n_Book_init : List Str := ["self"]
theorem f_Book_init : FnScope n_Book_init ["self"] (defScope s_Book_init) := ⟨rfl, rfl, rfl, by decide +kernel, rfl, by decide +kernel, by decide +kernel⟩
theorem k_Book_init {Γ : Amb} (f_entries : FldR Γ "entries") (f_people : FldR Γ "people") : mB (Γ := Γ) ⟨n_Book_init, defScope s_Book_init, fun _ => true⟩ (c_Book_init f_entries f_people) (defBody s_Book_init) = true := by kernel_rfl

/- Book.must_be_new: slots 0 self 1 name -/
def c_Book_must_be_new {Γ : Amb} (f_people : FldR Γ "people") (f_entries : FldR Γ "entries") (x_Twice : RaiR Γ "Twice") (r_is_name : CallR1 Γ "is_name") (x_NoName : RaiR Γ "NoName") : Ss Γ :=
  (.cons (.ifs (.not (.val (.call "is_name" r_is_name (.cons (.var 1) .nil)))) (.cons (.rai "NoName" x_NoName (.cst (.str "no name")))
  .nil) .nil)
  (.cons (.ifs (.bool .Or (.cons (.cmp .In (.var 1) (.fld "people" f_people (.var 0))) (.cons (.cmp .In (.var 1) (.fld "entries" f_entries (.var 0))) .nil))) (.cons (.rai "Twice" x_Twice (.cst (.str "a holder has this name")))
  .nil) .nil)
  .nil))

abbrev s_Book_must_be_new : Stmt := topM 36 1
def n_Book_must_be_new : List Str := ["self", "name"]
theorem f_Book_must_be_new : FnScope n_Book_must_be_new ["self", "name"] (defScope s_Book_must_be_new) := ⟨rfl, rfl, rfl, by decide +kernel, rfl, by decide +kernel, by decide +kernel⟩
theorem k_Book_must_be_new {Γ : Amb} (f_people : FldR Γ "people") (f_entries : FldR Γ "entries") (x_Twice : RaiR Γ "Twice") (r_is_name : CallR1 Γ "is_name") (x_NoName : RaiR Γ "NoName") : mB (Γ := Γ) ⟨n_Book_must_be_new, defScope s_Book_must_be_new, fun _ => true⟩ (c_Book_must_be_new f_people f_entries x_Twice r_is_name x_NoName) (defBody s_Book_must_be_new) = true := by kernel_rfl

/- Book.must_hold: slots 0 self 1 name -/
def c_Book_must_hold {Γ : Amb} (f_people : FldR Γ "people") (f_entries : FldR Γ "entries") (x_NoHolder : RaiR Γ "NoHolder") : Ss Γ :=
  (.cons (.ifs (.bool .And (.cons (.cmp .NotIn (.var 1) (.fld "people" f_people (.var 0))) (.cons (.cmp .NotIn (.var 1) (.fld "entries" f_entries (.var 0))) .nil))) (.cons (.rai "NoHolder" x_NoHolder (.cst (.str "no holder has this name")))
  .nil) .nil)
  .nil)

abbrev s_Book_must_hold : Stmt := topM 36 2
def n_Book_must_hold : List Str := ["self", "name"]
theorem f_Book_must_hold : FnScope n_Book_must_hold ["self", "name"] (defScope s_Book_must_hold) := ⟨rfl, rfl, rfl, by decide +kernel, rfl, by decide +kernel, by decide +kernel⟩
theorem k_Book_must_hold {Γ : Amb} (f_people : FldR Γ "people") (f_entries : FldR Γ "entries") (x_NoHolder : RaiR Γ "NoHolder") : mB (Γ := Γ) ⟨n_Book_must_hold, defScope s_Book_must_hold, fun _ => true⟩ (c_Book_must_hold f_people f_entries x_NoHolder) (defBody s_Book_must_hold) = true := by kernel_rfl

/- Book.entry_of: slots 0 self 1 house -/
def c_Book_entry_of {Γ : Amb} (f_entries : FldR Γ "entries") (x_NoHouse : RaiR Γ "NoHouse") : Ss Γ :=
  (.cons (.ifs (.cmp .NotIn (.var 1) (.fld "entries" f_entries (.var 0))) (.cons (.rai "NoHouse" x_NoHouse (.cst (.str "no house has this name")))
  .nil) .nil)
  (.cons (.ret (.ix (.fld "entries" f_entries (.var 0)) (.var 1)))
  .nil))

abbrev s_Book_entry_of : Stmt := topM 36 3
def n_Book_entry_of : List Str := ["self", "house"]
theorem f_Book_entry_of : FnScope n_Book_entry_of ["self", "house"] (defScope s_Book_entry_of) := ⟨rfl, rfl, rfl, by decide +kernel, rfl, by decide +kernel, by decide +kernel⟩
theorem k_Book_entry_of {Γ : Amb} (f_entries : FldR Γ "entries") (x_NoHouse : RaiR Γ "NoHouse") : mB (Γ := Γ) ⟨n_Book_entry_of, defScope s_Book_entry_of, fun _ => true⟩ (c_Book_entry_of f_entries x_NoHouse) (defBody s_Book_entry_of) = true := by kernel_rfl

/- Book.person: slots 0 self 1 name -/
def c_Book_person {Γ : Amb} (f_people : FldR Γ "people") (g_MOST_PERSONS : GlR Γ "MOST_PERSONS") (x_TooMany : RaiR Γ "TooMany") (t_must_be_new : MethR Γ "must_be_new") : Ss Γ :=
  (.cons (.ex (.meth "must_be_new" t_must_be_new (.var 0) (.cons (.var 1) .nil)))
  (.cons (.ifs (.cmp .Eq (.bi .len (.cons (.fld "people" f_people (.var 0)) .nil)) (.gl "MOST_PERSONS" g_MOST_PERSONS)) (.cons (.rai "TooMany" x_TooMany (.cst (.str "too many persons")))
  .nil) .nil)
  (.cons (.ex (.bm .append (.fld "people" f_people (.var 0)) (.cons (.var 1) .nil)))
  .nil)))

abbrev s_Book_person : Stmt := topM 36 4
def n_Book_person : List Str := ["self", "name"]
theorem f_Book_person : FnScope n_Book_person ["self", "name"] (defScope s_Book_person) := ⟨rfl, rfl, rfl, by decide +kernel, rfl, by decide +kernel, by decide +kernel⟩
theorem k_Book_person {Γ : Amb} (f_people : FldR Γ "people") (g_MOST_PERSONS : GlR Γ "MOST_PERSONS") (x_TooMany : RaiR Γ "TooMany") (t_must_be_new : MethR Γ "must_be_new") : mB (Γ := Γ) ⟨n_Book_person, defScope s_Book_person, fun _ => true⟩ (c_Book_person f_people g_MOST_PERSONS x_TooMany t_must_be_new) (defBody s_Book_person) = true := by kernel_rfl

/- Book.house: slots 0 self 1 name 2 owner 3 things 4 mark 5 loss -/
def c_Book_house {Γ : Amb} (f_entries : FldR Γ "entries") (m_Entry : MkR Γ "Entry") (g_MOST_HOUSES : GlR Γ "MOST_HOUSES") (x_TooMany : RaiR Γ "TooMany") (r_must_loss : CallR1 Γ "must_loss") (t_must_hold : MethR Γ "must_hold") (t_must_be_new : MethR Γ "must_be_new") : Ss Γ :=
  (.cons (.ex (.meth "must_be_new" t_must_be_new (.var 0) (.cons (.var 1) .nil)))
  (.cons (.ex (.meth "must_hold" t_must_hold (.var 0) (.cons (.var 2) .nil)))
  (.cons (.ex (.call "must_loss" r_must_loss (.cons (.var 5) .nil)))
  (.cons (.ifs (.cmp .Eq (.bi .len (.cons (.fld "entries" f_entries (.var 0)) .nil)) (.gl "MOST_HOUSES" g_MOST_HOUSES)) (.cons (.rai "TooMany" x_TooMany (.cst (.str "too many houses")))
  .nil) .nil)
  (.cons (.setI (.fld "entries" f_entries (.var 0)) (.var 1) (.mk "Entry" m_Entry (.cons (.tup (.cons (.var 3) (.cons (.var 4) (.cons (.var 5) .nil)))) (.cons (.dic1 (.var 2) (.tup (.cons (.cst (.int 1)) (.cons (.cst (.int 1)) .nil)))) .nil))))
  .nil)))))

abbrev s_Book_house : Stmt := topM 36 5
def n_Book_house : List Str := ["self", "name", "owner", "things", "mark", "loss"]
theorem f_Book_house : FnScope n_Book_house ["self", "name", "owner", "things", "mark", "loss"] (defScope s_Book_house) := ⟨rfl, rfl, rfl, by decide +kernel, rfl, by decide +kernel, by decide +kernel⟩
theorem k_Book_house {Γ : Amb} (f_entries : FldR Γ "entries") (m_Entry : MkR Γ "Entry") (g_MOST_HOUSES : GlR Γ "MOST_HOUSES") (x_TooMany : RaiR Γ "TooMany") (r_must_loss : CallR1 Γ "must_loss") (t_must_hold : MethR Γ "must_hold") (t_must_be_new : MethR Γ "must_be_new") : mB (Γ := Γ) ⟨n_Book_house, defScope s_Book_house, fun _ => true⟩ (c_Book_house f_entries m_Entry g_MOST_HOUSES x_TooMany r_must_loss t_must_hold t_must_be_new) (defBody s_Book_house) = true := by kernel_rfl

/- Book.sale: slots 0 self 1 house 2 one 3 other 4 share 5 held 6 has -/
def c_Book_sale {Γ : Amb} (r_added : CallR1 Γ "added") (r_minus : CallR1 Γ "minus") (r_is_less : CallR1 Γ "is_less") (x_NoShare : RaiR Γ "NoShare") (t_must_hold : MethR Γ "must_hold") (f_held : FldR Γ "held") (t_entry_of : MethR Γ "entry_of") : Ss Γ :=
  (.cons (.asg (.nm 5) (.fld "held" f_held (.meth "entry_of" t_entry_of (.var 0) (.cons (.var 1) .nil))))
  (.cons (.ex (.meth "must_hold" t_must_hold (.var 0) (.cons (.var 2) .nil)))
  (.cons (.ex (.meth "must_hold" t_must_hold (.var 0) (.cons (.var 3) .nil)))
  (.cons (.asg (.nm 6) (.bm .get (.var 5) (.cons (.var 2) (.cons (.tup (.cons (.cst (.int 0)) (.cons (.cst (.int 1)) .nil))) .nil))))
  (.cons (.ifs (.bool .Or (.cons (.cmp .LtE (.ix (.var 4) (.cst (.int 0))) (.cst (.int 0))) (.cons (.val (.call "is_less" r_is_less (.cons (.var 6) (.cons (.var 4) .nil)))) .nil))) (.cons (.rai "NoShare" x_NoShare (.cst (.str "no such share goes from one to the other")))
  .nil) .nil)
  (.cons (.setI (.var 5) (.var 2) (.call "minus" r_minus (.cons (.var 6) (.cons (.var 4) .nil))))
  (.cons (.setI (.var 5) (.var 3) (.call "added" r_added (.cons (.bm .get (.var 5) (.cons (.var 3) (.cons (.tup (.cons (.cst (.int 0)) (.cons (.cst (.int 1)) .nil))) .nil))) (.cons (.var 4) .nil))))
  .nil)))))))

abbrev s_Book_sale : Stmt := topM 36 6
def n_Book_sale : List Str := ["self", "house", "one", "other", "share", "held", "has"]
theorem f_Book_sale : FnScope n_Book_sale ["self", "house", "one", "other", "share"] (defScope s_Book_sale) := ⟨rfl, rfl, rfl, by decide +kernel, rfl, by decide +kernel, by decide +kernel⟩
theorem k_Book_sale {Γ : Amb} (r_added : CallR1 Γ "added") (r_minus : CallR1 Γ "minus") (r_is_less : CallR1 Γ "is_less") (x_NoShare : RaiR Γ "NoShare") (t_must_hold : MethR Γ "must_hold") (f_held : FldR Γ "held") (t_entry_of : MethR Γ "entry_of") : mB (Γ := Γ) ⟨n_Book_sale, defScope s_Book_sale, fun _ => true⟩ (c_Book_sale r_added r_minus r_is_less x_NoShare t_must_hold f_held t_entry_of) (defBody s_Book_sale) = true := by kernel_rfl

/- Book.put_number: slots 0 self 1 house 2 place 3 number 4 entry -/
def c_Book_put_number {Γ : Amb} (f_numbers : FldR Γ "numbers") (t_entry_of : MethR Γ "entry_of") : Ss Γ :=
  (.cons (.asg (.nm 4) (.meth "entry_of" t_entry_of (.var 0) (.cons (.var 1) .nil)))
  (.cons (.setF "numbers" f_numbers (.var 4) (.bin .Add (.bin .Add (.sl (.fld "numbers" f_numbers (.var 4)) .nil (.cons (.var 2) .nil)) (.tup (.cons (.var 3) .nil))) (.sl (.fld "numbers" f_numbers (.var 4)) (.cons (.bin .Add (.var 2) (.cst (.int 1))) .nil) .nil)))
  .nil))

abbrev s_Book_put_number : Stmt := topM 36 7
def n_Book_put_number : List Str := ["self", "house", "place", "number", "entry"]
theorem f_Book_put_number : FnScope n_Book_put_number ["self", "house", "place", "number"] (defScope s_Book_put_number) := ⟨rfl, rfl, rfl, by decide +kernel, rfl, by decide +kernel, by decide +kernel⟩
theorem k_Book_put_number {Γ : Amb} (f_numbers : FldR Γ "numbers") (t_entry_of : MethR Γ "entry_of") : mB (Γ := Γ) ⟨n_Book_put_number, defScope s_Book_put_number, fun _ => true⟩ (c_Book_put_number f_numbers t_entry_of) (defBody s_Book_put_number) = true := by kernel_rfl

/- Book.things: slots 0 self 1 house 2 number -/
def c_Book_things {Γ : Amb} (t_put_number : MethR Γ "put_number") : Ss Γ :=
  (.cons (.ex (.meth "put_number" t_put_number (.var 0) (.cons (.var 1) (.cons (.cst (.int 0)) (.cons (.var 2) .nil)))))
  .nil)

abbrev s_Book_things : Stmt := topM 36 8
def n_Book_things : List Str := ["self", "house", "number"]
theorem f_Book_things : FnScope n_Book_things ["self", "house", "number"] (defScope s_Book_things) := ⟨rfl, rfl, rfl, by decide +kernel, rfl, by decide +kernel, by decide +kernel⟩
theorem k_Book_things {Γ : Amb} (t_put_number : MethR Γ "put_number") : mB (Γ := Γ) ⟨n_Book_things, defScope s_Book_things, fun _ => true⟩ (c_Book_things t_put_number) (defBody s_Book_things) = true := by kernel_rfl

/- Book.mark: slots 0 self 1 house 2 number -/
def c_Book_mark {Γ : Amb} (t_put_number : MethR Γ "put_number") : Ss Γ :=
  (.cons (.ex (.meth "put_number" t_put_number (.var 0) (.cons (.var 1) (.cons (.cst (.int 1)) (.cons (.var 2) .nil)))))
  .nil)

abbrev s_Book_mark : Stmt := topM 36 9
def n_Book_mark : List Str := ["self", "house", "number"]
theorem f_Book_mark : FnScope n_Book_mark ["self", "house", "number"] (defScope s_Book_mark) := ⟨rfl, rfl, rfl, by decide +kernel, rfl, by decide +kernel, by decide +kernel⟩
theorem k_Book_mark {Γ : Amb} (t_put_number : MethR Γ "put_number") : mB (Γ := Γ) ⟨n_Book_mark, defScope s_Book_mark, fun _ => true⟩ (c_Book_mark t_put_number) (defBody s_Book_mark) = true := by kernel_rfl

/- Book.loss: slots 0 self 1 house 2 number -/
def c_Book_loss {Γ : Amb} (t_put_number : MethR Γ "put_number") (r_must_loss : CallR1 Γ "must_loss") (t_entry_of : MethR Γ "entry_of") : Ss Γ :=
  (.cons (.ex (.meth "entry_of" t_entry_of (.var 0) (.cons (.var 1) .nil)))
  (.cons (.ex (.call "must_loss" r_must_loss (.cons (.var 2) .nil)))
  (.cons (.ex (.meth "put_number" t_put_number (.var 0) (.cons (.var 1) (.cons (.cst (.int 2)) (.cons (.var 2) .nil)))))
  .nil)))

abbrev s_Book_loss : Stmt := topM 36 10
def n_Book_loss : List Str := ["self", "house", "number"]
theorem f_Book_loss : FnScope n_Book_loss ["self", "house", "number"] (defScope s_Book_loss) := ⟨rfl, rfl, rfl, by decide +kernel, rfl, by decide +kernel, by decide +kernel⟩
theorem k_Book_loss {Γ : Amb} (t_put_number : MethR Γ "put_number") (r_must_loss : CallR1 Γ "must_loss") (t_entry_of : MethR Γ "entry_of") : mB (Γ := Γ) ⟨n_Book_loss, defScope s_Book_loss, fun _ => true⟩ (c_Book_loss t_put_number r_must_loss t_entry_of) (defBody s_Book_loss) = true := by kernel_rfl

/- Book.persons: slots 0 self -/
def c_Book_persons {Γ : Amb} (f_people : FldR Γ "people") : Ss Γ :=
  (.cons (.ret (.bi (.sorted false) (.cons (.fld "people" f_people (.var 0)) .nil)))
  .nil)

abbrev s_Book_persons : Stmt := topM 36 11
def n_Book_persons : List Str := ["self"]
theorem f_Book_persons : FnScope n_Book_persons ["self"] (defScope s_Book_persons) := ⟨rfl, rfl, rfl, by decide +kernel, rfl, by decide +kernel, by decide +kernel⟩
theorem k_Book_persons {Γ : Amb} (f_people : FldR Γ "people") : mB (Γ := Γ) ⟨n_Book_persons, defScope s_Book_persons, fun _ => true⟩ (c_Book_persons f_people) (defBody s_Book_persons) = true := by kernel_rfl

/- Book.houses: slots 0 self -/
def c_Book_houses {Γ : Amb} (f_entries : FldR Γ "entries") : Ss Γ :=
  (.cons (.ret (.bi (.sorted false) (.cons (.fld "entries" f_entries (.var 0)) .nil)))
  .nil)

abbrev s_Book_houses : Stmt := topM 36 12
def n_Book_houses : List Str := ["self"]
theorem f_Book_houses : FnScope n_Book_houses ["self"] (defScope s_Book_houses) := ⟨rfl, rfl, rfl, by decide +kernel, rfl, by decide +kernel, by decide +kernel⟩
theorem k_Book_houses {Γ : Amb} (f_entries : FldR Γ "entries") : mB (Γ := Γ) ⟨n_Book_houses, defScope s_Book_houses, fun _ => true⟩ (c_Book_houses f_entries) (defBody s_Book_houses) = true := by kernel_rfl

/- Book.shares: slots 0 self 1 house 2 held 3 holder -/
def c_Book_shares {Γ : Amb} (f_held : FldR Γ "held") (t_entry_of : MethR Γ "entry_of") : Ss Γ :=
  (.cons (.asg (.nm 2) (.fld "held" f_held (.meth "entry_of" t_entry_of (.var 0) (.cons (.var 1) .nil))))
  (.cons (.ret (.lc false (.tup (.cons (.var 3) (.cons (.ix (.var 2) (.var 3)) .nil))) (.nm 3) (.lst (.bi (.sorted false) (.cons (.var 2) .nil))) (.cons (.cmp .NotEq (.ix (.var 2) (.var 3)) (.tup (.cons (.cst (.int 0)) (.cons (.cst (.int 1)) .nil)))) .nil)))
  .nil))

abbrev s_Book_shares : Stmt := topM 36 13
def n_Book_shares : List Str := ["self", "house", "held", "holder"]
theorem f_Book_shares : FnScope n_Book_shares ["self", "house"] (defScope s_Book_shares) := ⟨rfl, rfl, rfl, by decide +kernel, rfl, by decide +kernel, by decide +kernel⟩
theorem k_Book_shares {Γ : Amb} (f_held : FldR Γ "held") (t_entry_of : MethR Γ "entry_of") : mB (Γ := Γ) ⟨n_Book_shares, defScope s_Book_shares, fun _ => true⟩ (c_Book_shares f_held t_entry_of) (defBody s_Book_shares) = true := by kernel_rfl

/- Book.of: slots 0 self 1 house -/
def c_Book_of {Γ : Amb} (f_numbers : FldR Γ "numbers") (t_entry_of : MethR Γ "entry_of") : Ss Γ :=
  (.cons (.ret (.fld "numbers" f_numbers (.meth "entry_of" t_entry_of (.var 0) (.cons (.var 1) .nil))))
  .nil)

abbrev s_Book_of : Stmt := topM 36 14
def n_Book_of : List Str := ["self", "house"]
theorem f_Book_of : FnScope n_Book_of ["self", "house"] (defScope s_Book_of) := ⟨rfl, rfl, rfl, by decide +kernel, rfl, by decide +kernel, by decide +kernel⟩
theorem k_Book_of {Γ : Amb} (f_numbers : FldR Γ "numbers") (t_entry_of : MethR Γ "entry_of") : mB (Γ := Γ) ⟨n_Book_of, defScope s_Book_of, fun _ => true⟩ (c_Book_of f_numbers t_entry_of) (defBody s_Book_of) = true := by kernel_rfl

/- Book.twin: slots 0 self -/
def c_Book_twin {Γ : Amb} (r_wall : CallR1 Γ "_wall") : Ss Γ :=
  (.cons (.ex (.call "_wall" r_wall (.cons (.cst (.int 0)) .nil)))
  .nil)

abbrev s_Book_twin : Stmt := topM 36 15
def n_Book_twin : List Str := ["self"]
theorem f_Book_twin : FnScope n_Book_twin ["self"] (defScope s_Book_twin) := ⟨rfl, rfl, rfl, by decide +kernel, rfl, by decide +kernel, by decide +kernel⟩
theorem k_Book_twin {Γ : Amb} (r_wall : CallR1 Γ "_wall") : mB (Γ := Γ) ⟨n_Book_twin, defScope s_Book_twin, fun _ => true⟩ (c_Book_twin r_wall) (defBody s_Book_twin) = true := by kernel_rfl

/- _law_mixed: slots 0 _law_cell 1 _law_k 2 _law_number_here -/
def c_l_mixed {Γ : Amb}  : Ss Γ :=
  (.cons (.asg (.nm 2) (.bin .Mod (.bin .Mult (.bin .Add (.bin .Add (.bin .Add (.bin .Mult (.var 0) (.var 0)) (.bin .Mult (.cst (.int 3)) (.var 0))) (.bin .Mult (.cst (.int 7919)) (.var 1))) (.cst (.int 1))) (.cst (.int 48271))) (.cst (.int 2147483629))))
  (.cons (.ret (.bin .Mod (.bin .Add (.bin .Mult (.var 2) (.var 2)) (.cst (.int 7))) (.cst (.int 2147483587))))
  .nil))

abbrev s_l_mixed : Stmt := top 38
def n_l_mixed : List Str := ["_law_cell", "_law_k", "_law_number_here"]
theorem f_l_mixed : FnScope n_l_mixed ["_law_cell", "_law_k"] (defScope s_l_mixed) := ⟨rfl, rfl, rfl, by decide +kernel, rfl, by decide +kernel, by decide +kernel⟩
theorem k_l_mixed {Γ : Amb}  : mB (Γ := Γ) ⟨n_l_mixed, defScope s_l_mixed, fun _ => true⟩ (c_l_mixed) (defBody s_l_mixed) = true := by kernel_rfl

/- _law_purse: slots 0 _law_script 1 _law_cells 2 _law_number_here 3 _law_k -/
def c_l_purse {Γ : Amb} (r_l_mixed : CallR1 Γ "_law_mixed") : Ss Γ :=
  (.cons (.asg (.nm 1) (.bin .Add (.sl (.var 0) .nil (.cons (.cst (.int 63)) .nil)) (.lst false (.cons (.cst (.int 0)) .nil))))
  (.cons (.asg (.nm 2) (.cst (.int 1)))
  (.cons (.for (.nm 3) (.rng1 (.cst (.int 64))) (.cons (.asg (.nm 2) (.bin .Add (.bin .Mult (.var 2) (.cst (.int 2147483587))) (.call "_law_mixed" r_l_mixed (.cons (.ix (.var 1) (.bin .Mod (.var 3) (.bi .len (.cons (.var 1) .nil)))) (.cons (.var 3) .nil)))))
  .nil))
  (.cons (.ifs (.cmp .GtE (.bi .abs (.cons (.ix (.var 1) (.cst (.int 0))) .nil)) (.bin .Pow (.cst (.int 10)) (.cst (.int 18)))) (.cons (.ret (.lst true (.cons (.bi .abs (.cons (.ix (.var 1) (.cst (.int 0))) .nil)) (.cons (.var 2) .nil))))
  .nil) .nil)
  (.cons (.ret (.lst true (.cons (.var 2) (.cons (.var 2) .nil))))
  .nil)))))

abbrev s_l_purse : Stmt := top 39
def n_l_purse : List Str := ["_law_script", "_law_cells", "_law_number_here", "_law_k"]
theorem f_l_purse : FnScope n_l_purse ["_law_script"] (defScope s_l_purse) := ⟨rfl, rfl, rfl, by decide +kernel, rfl, by decide +kernel, by decide +kernel⟩
theorem k_l_purse {Γ : Amb} (r_l_mixed : CallR1 Γ "_law_mixed") : mB (Γ := Γ) ⟨n_l_purse, defScope s_l_purse, fun _ => true⟩ (c_l_purse r_l_mixed) (defBody s_l_purse) = true := by kernel_rfl

/- _law_draw: slots 0 _law_purse_here 1 _law_out_of 2 _law_drawn -/
def c_l_draw {Γ : Amb}  : Ss Γ :=
  (.cons (.ifs (.cmp .Eq (.ix (.var 0) (.cst (.int 0))) (.cst (.int 0))) (.cons (.setI (.var 0) (.cst (.int 0)) (.ix (.var 0) (.cst (.int 1))))
  .nil) .nil)
  (.cons (.asg (.nm 2) (.bin .Mod (.ix (.var 0) (.cst (.int 0))) (.var 1)))
  (.cons (.setI (.var 0) (.cst (.int 0)) (.bin .FloorDiv (.ix (.var 0) (.cst (.int 0))) (.var 1)))
  (.cons (.ret (.var 2))
  .nil))))

abbrev s_l_draw : Stmt := top 40
def n_l_draw : List Str := ["_law_purse_here", "_law_out_of", "_law_drawn"]
theorem f_l_draw : FnScope n_l_draw ["_law_purse_here", "_law_out_of"] (defScope s_l_draw) := ⟨rfl, rfl, rfl, by decide +kernel, rfl, by decide +kernel, by decide +kernel⟩
theorem k_l_draw {Γ : Amb}  : mB (Γ := Γ) ⟨n_l_draw, defScope s_l_draw, fun _ => true⟩ (c_l_draw) (defBody s_l_draw) = true := by kernel_rfl

/- _law_divisor: slots 0 _law_one 1 _law_other -/
def c_l_divisor {Γ : Amb}  : Ss Γ :=
  (.cons (.asg (.nm 0) (.bi .abs (.cons (.var 0) .nil)))
  (.cons (.asg (.nm 1) (.bi .abs (.cons (.var 1) .nil)))
  (.cons (.whl (.cmp .Gt (.var 1) (.cst (.int 0))) (.cons (.par 0 1 (.var 1) (.bin .Mod (.var 0) (.var 1)))
  .nil))
  (.cons (.ret (.var 0))
  .nil))))

abbrev s_l_divisor : Stmt := top 41
def n_l_divisor : List Str := ["_law_one", "_law_other"]
theorem f_l_divisor : FnScope n_l_divisor ["_law_one", "_law_other"] (defScope s_l_divisor) := ⟨rfl, rfl, rfl, by decide +kernel, rfl, by decide +kernel, by decide +kernel⟩
theorem k_l_divisor {Γ : Amb}  : mB (Γ := Γ) ⟨n_l_divisor, defScope s_l_divisor, fun _ => true⟩ (c_l_divisor) (defBody s_l_divisor) = true := by kernel_rfl

/- _law_made: slots 0 _law_top 1 _law_bottom 2 _law_by -/
def c_l_made {Γ : Amb} (r_l_divisor : CallR1 Γ "_law_divisor") : Ss Γ :=
  (.cons (.asg (.nm 2) (.call "_law_divisor" r_l_divisor (.cons (.var 0) (.cons (.var 1) .nil))))
  (.cons (.ifs (.cmp .Lt (.var 1) (.cst (.int 0))) (.cons (.asg (.nm 2) (.bin .Sub (.cst (.int 0)) (.var 2)))
  .nil) .nil)
  (.cons (.ret (.tup (.cons (.bin .FloorDiv (.var 0) (.var 2)) (.cons (.bin .FloorDiv (.var 1) (.var 2)) .nil))))
  .nil)))

abbrev s_l_made : Stmt := top 42
def n_l_made : List Str := ["_law_top", "_law_bottom", "_law_by"]
theorem f_l_made : FnScope n_l_made ["_law_top", "_law_bottom"] (defScope s_l_made) := ⟨rfl, rfl, rfl, by decide +kernel, rfl, by decide +kernel, by decide +kernel⟩
theorem k_l_made {Γ : Amb} (r_l_divisor : CallR1 Γ "_law_divisor") : mB (Γ := Γ) ⟨n_l_made, defScope s_l_made, fun _ => true⟩ (c_l_made r_l_divisor) (defBody s_l_made) = true := by kernel_rfl

/- _law_whole: slots 0 _law_found -/
def c_l_whole {Γ : Amb} (i_int : IsR Γ "int") (i_bool : IsR Γ "bool") : Ss Γ :=
  (.cons (.ret (.bool .And (.cons (.isi "int" i_int (.var 0)) (.cons (.not (.isi "bool" i_bool (.var 0))) .nil))))
  .nil)

abbrev s_l_whole : Stmt := top 43
def n_l_whole : List Str := ["_law_found"]
theorem f_l_whole : FnScope n_l_whole ["_law_found"] (defScope s_l_whole) := ⟨rfl, rfl, rfl, by decide +kernel, rfl, by decide +kernel, by decide +kernel⟩
theorem k_l_whole {Γ : Amb} (i_int : IsR Γ "int") (i_bool : IsR Γ "bool") : mB (Γ := Γ) ⟨n_l_whole, defScope s_l_whole, fun _ => true⟩ (c_l_whole i_int i_bool) (defBody s_l_whole) = true := by kernel_rfl

/- _law_names: slots 0 _law_purse_here 1 _law_many 2 _law_letters 3 _law_long 4 _law_stem 5 _law_at 6 _law_found 7 _law_k 8 _law_spots 9 _law_j 10 _law_name 11 _law_spot -/
def c_l_names {Γ : Amb} (r_l_draw : CallR1 Γ "_law_draw") : Ss Γ :=
  (.cons (.asg (.nm 2) (.cst (.str "abcdefghijklmnopqrstuvwxyz")))
  (.cons (.asg (.nm 3) (.bin .Add (.cst (.int 1)) (.call "_law_draw" r_l_draw (.cons (.var 0) (.cons (.cst (.int 7)) .nil)))))
  (.cons (.asg (.nm 4) (.lc false (.call "_law_draw" r_l_draw (.cons (.var 0) (.cons (.cst (.int 26)) .nil))) (.nm 7) (.rng1 (.var 3)) .nil))
  (.cons (.asg (.nm 5) (.call "_law_draw" r_l_draw (.cons (.var 0) (.cons (.var 3) .nil))))
  (.cons (.asg (.nm 6) (.lst true .nil))
  (.cons (.for (.nm 7) (.rng1 (.var 1)) (.cons (.asg (.nm 8) (.lc false (.bin .Add (.ix (.var 4) (.var 9)) (.bin .Mult (.bin .Mult (.cst (.int 5)) (.var 7)) (.bi .int (.cons (.cmp .Eq (.var 9) (.var 5)) .nil)))) (.nm 9) (.rng1 (.var 3)) .nil))
  (.cons (.ex (.bm .append (.var 6) (.cons (.bm .join (.cst (.str "")) (.cons (.lc false (.ix (.var 2) (.bin .Mod (.var 11) (.cst (.int 26)))) (.nm 11) (.lst (.var 8)) .nil) .nil)) .nil)))
  .nil)))
  (.cons (.ifs (.cmp .Eq (.call "_law_draw" r_l_draw (.cons (.var 0) (.cons (.cst (.int 4)) .nil))) (.cst (.int 0))) (.cons (.asg (.nm 6) (.lc true (.bin .Add (.var 10) (.bin .Mult (.cst (.str "x")) (.bin .Mod (.var 7) (.cst (.int 2))))) (.tp [7, 10]) (.enum (.var 6)) .nil))
  .nil) .nil)
  (.cons (.ret (.frz (.var 6)))
  .nil))))))))

abbrev s_l_names : Stmt := top 44
def n_l_names : List Str := ["_law_purse_here", "_law_many", "_law_letters", "_law_long", "_law_stem", "_law_at", "_law_found", "_law_k", "_law_spots", "_law_j", "_law_name", "_law_spot"]
theorem f_l_names : FnScope n_l_names ["_law_purse_here", "_law_many"] (defScope s_l_names) := ⟨rfl, rfl, rfl, by decide +kernel, rfl, by decide +kernel, by decide +kernel⟩
theorem k_l_names {Γ : Amb} (r_l_draw : CallR1 Γ "_law_draw") : mB (Γ := Γ) ⟨n_l_names, defScope s_l_names, fun _ => true⟩ (c_l_names r_l_draw) (defBody s_l_names) = true := by kernel_rfl

/- _law_number: slots 0 _law_purse_here 1 _law_most -/
def c_l_number {Γ : Amb} (r_l_draw : CallR1 Γ "_law_draw") : Ss Γ :=
  (.cons (.asg (.nm 1) (.ix (.lst false (.cons (.cst (.int 10)) (.cons (.cst (.int 10)) (.cons (.cst (.int 100)) (.cons (.cst (.int 3)) (.cons (.bin .Pow (.cst (.int 10)) (.cst (.int 6))) (.cons (.bin .Pow (.cst (.int 10)) (.cst (.int 20))) .nil))))))) (.call "_law_draw" r_l_draw (.cons (.var 0) (.cons (.cst (.int 6)) .nil)))))
  (.cons (.ret (.bin .Sub (.call "_law_draw" r_l_draw (.cons (.var 0) (.cons (.bin .Mult (.cst (.int 2)) (.var 1)) .nil))) (.bin .FloorDiv (.var 1) (.cst (.int 3)))))
  .nil))

abbrev s_l_number : Stmt := top 45
def n_l_number : List Str := ["_law_purse_here", "_law_most"]
theorem f_l_number : FnScope n_l_number ["_law_purse_here"] (defScope s_l_number) := ⟨rfl, rfl, rfl, by decide +kernel, rfl, by decide +kernel, by decide +kernel⟩
theorem k_l_number {Γ : Amb} (r_l_draw : CallR1 Γ "_law_draw") : mB (Γ := Γ) ⟨n_l_number, defScope s_l_number, fun _ => true⟩ (c_l_number r_l_draw) (defBody s_l_number) = true := by kernel_rfl

/- _law_part: slots 0 _law_purse_here 1 _law_share 2 _law_kind 3 _law_low -/
def c_l_part {Γ : Amb} (r_l_made : CallR1 Γ "_law_made") (r_l_draw : CallR1 Γ "_law_draw") : Ss Γ :=
  (.cons (.asg (.nm 2) (.call "_law_draw" r_l_draw (.cons (.var 0) (.cons (.cst (.int 5)) .nil))))
  (.cons (.ifs (.cmp .Eq (.var 2) (.cst (.int 0))) (.cons (.ret (.var 1))
  .nil) .nil)
  (.cons (.asg (.nm 3) (.ix (.lst false (.cons (.cst (.int 2)) (.cons (.cst (.int 3)) (.cons (.cst (.int 7)) (.cons (.bin .Pow (.cst (.int 10)) (.cst (.int 6))) .nil))))) (.bin .Sub (.var 2) (.cst (.int 1)))))
  (.cons (.ret (.call "_law_made" r_l_made (.cons (.bin .Mult (.ix (.var 1) (.cst (.int 0))) (.bin .Add (.cst (.int 1)) (.call "_law_draw" r_l_draw (.cons (.var 0) (.cons (.bin .Sub (.var 3) (.cst (.int 1))) .nil))))) (.cons (.bin .Mult (.ix (.var 1) (.cst (.int 1))) (.var 3)) .nil))))
  .nil))))

abbrev s_l_part : Stmt := top 46
def n_l_part : List Str := ["_law_purse_here", "_law_share", "_law_kind", "_law_low"]
theorem f_l_part : FnScope n_l_part ["_law_purse_here", "_law_share"] (defScope s_l_part) := ⟨rfl, rfl, rfl, by decide +kernel, rfl, by decide +kernel, by decide +kernel⟩
theorem k_l_part {Γ : Amb} (r_l_made : CallR1 Γ "_law_made") (r_l_draw : CallR1 Γ "_law_draw") : mB (Γ := Γ) ⟨n_l_part, defScope s_l_part, fun _ => true⟩ (c_l_part r_l_made r_l_draw) (defBody s_l_part) = true := by kernel_rfl

/- _law_sold: slots 0 _law_purse_here 1 _law_model 2 _law_holders 3 _law_book 4 _law_houses 5 _law_house 6 _law_shares 7 _law_owners 8 _law_one 9 _law_other 10 _law_part_here 11 _law_rest 12 _law_top 13 _law_low -/
def c_l_sold {Γ : Amb} (r_l_made : CallR1 Γ "_law_made") (t_sale : MethR Γ "sale") (r_l_part : CallR1 Γ "_law_part") (r_l_draw : CallR1 Γ "_law_draw") : Ss Γ :=
  (.cons (.asg (.nm 4) (.bi (.sorted false) (.cons (.var 1) .nil)))
  (.cons (.asg (.nm 5) (.ix (.var 4) (.call "_law_draw" r_l_draw (.cons (.var 0) (.cons (.bi .len (.cons (.var 4) .nil)) .nil)))))
  (.cons (.asg (.nm 6) (.ix (.ix (.var 1) (.var 5)) (.cst (.int 0))))
  (.cons (.asg (.nm 7) (.bi (.sorted false) (.cons (.var 6) .nil)))
  (.cons (.asg (.nm 8) (.ix (.var 7) (.call "_law_draw" r_l_draw (.cons (.var 0) (.cons (.bi .len (.cons (.var 7) .nil)) .nil)))))
  (.cons (.asg (.nm 9) (.ix (.var 2) (.call "_law_draw" r_l_draw (.cons (.var 0) (.cons (.bi .len (.cons (.var 2) .nil)) .nil)))))
  (.cons (.asg (.nm 10) (.call "_law_part" r_l_part (.cons (.var 0) (.cons (.ix (.var 6) (.var 8)) .nil))))
  (.cons (.ifs (.cmp .GtE (.ix (.var 10) (.cst (.int 1))) (.bin .Pow (.cst (.int 10)) (.cst (.int 29)))) (.cons .retN
  .nil) .nil)
  (.cons (.ex (.meth "sale" t_sale (.var 3) (.cons (.var 5) (.cons (.var 8) (.cons (.var 9) (.cons (.var 10) .nil))))))
  (.cons (.asg (.tp [12, 13]) (.bm .dpop (.var 6) (.cons (.var 8) .nil)))
  (.cons (.asg (.nm 11) (.call "_law_made" r_l_made (.cons (.bin .Sub (.bin .Mult (.var 12) (.ix (.var 10) (.cst (.int 1)))) (.bin .Mult (.ix (.var 10) (.cst (.int 0))) (.var 13))) (.cons (.bin .Mult (.var 13) (.ix (.var 10) (.cst (.int 1)))) .nil))))
  (.cons (.ifs (.cmp .Gt (.ix (.var 11) (.cst (.int 0))) (.cst (.int 0))) (.cons (.setI (.var 6) (.var 8) (.var 11))
  .nil) .nil)
  (.cons (.asg (.tp [12, 13]) (.bm .get (.var 6) (.cons (.var 9) (.cons (.tup (.cons (.cst (.int 0)) (.cons (.cst (.int 1)) .nil))) .nil))))
  (.cons (.setI (.var 6) (.var 9) (.call "_law_made" r_l_made (.cons (.bin .Add (.bin .Mult (.var 12) (.ix (.var 10) (.cst (.int 1)))) (.bin .Mult (.ix (.var 10) (.cst (.int 0))) (.var 13))) (.cons (.bin .Mult (.var 13) (.ix (.var 10) (.cst (.int 1)))) .nil))))
  .nil))))))))))))))

abbrev s_l_sold : Stmt := top 47
def n_l_sold : List Str := ["_law_purse_here", "_law_model", "_law_holders", "_law_book", "_law_houses", "_law_house", "_law_shares", "_law_owners", "_law_one", "_law_other", "_law_part_here", "_law_rest", "_law_top", "_law_low"]
theorem f_l_sold : FnScope n_l_sold ["_law_purse_here", "_law_model", "_law_holders", "_law_book"] (defScope s_l_sold) := ⟨rfl, rfl, rfl, by decide +kernel, rfl, by decide +kernel, by decide +kernel⟩
theorem k_l_sold {Γ : Amb} (r_l_made : CallR1 Γ "_law_made") (t_sale : MethR Γ "sale") (r_l_part : CallR1 Γ "_law_part") (r_l_draw : CallR1 Γ "_law_draw") : mB (Γ := Γ) ⟨n_l_sold, defScope s_l_sold, fun _ => true⟩ (c_l_sold r_l_made t_sale r_l_part r_l_draw) (defBody s_l_sold) = true := by kernel_rfl

/- _law_built: slots 0 _law_purse_here 1 _law_most 2 _law_many 3 _law_count 4 _law_names_here 5 _law_book 6 _law_model 7 _law_name 8 _law_k 9 _law_owner 10 _law_three -/
def c_l_built {Γ : Amb} (r_l_draw : CallR1 Γ "_law_draw") (r_l_sold : CallR1 Γ "_law_sold") (t_house : MethR Γ "house") (r_l_number : CallR1 Γ "_law_number") (t_person : MethR Γ "person") (m_Book : MkR Γ "Book") (r_l_names : CallR1 Γ "_law_names") : Ss Γ :=
  (.cons (.asg (.nm 2) (.bin .Add (.cst (.int 1)) (.call "_law_draw" r_l_draw (.cons (.var 0) (.cons (.cst (.int 3)) .nil)))))
  (.cons (.asg (.nm 3) (.call "_law_draw" r_l_draw (.cons (.var 0) (.cons (.bin .Add (.var 1) (.cst (.int 1))) .nil))))
  (.cons (.asg (.nm 4) (.call "_law_names" r_l_names (.cons (.var 0) (.cons (.bin .Add (.var 2) (.var 3)) .nil))))
  (.cons (.asg (.nm 5) (.mk "Book" m_Book .nil))
  (.cons (.asg (.nm 6) .dic0)
  (.cons (.for (.nm 7) (.lst (.sl (.var 4) .nil (.cons (.var 2) .nil))) (.cons (.ex (.meth "person" t_person (.var 5) (.cons (.var 7) .nil)))
  .nil))
  (.cons (.for (.nm 8) (.rng1 (.var 3)) (.cons (.asg (.nm 9) (.ix (.var 4) (.call "_law_draw" r_l_draw (.cons (.var 0) (.cons (.bin .Add (.var 2) (.var 8)) .nil)))))
  (.cons (.asg (.nm 10) (.tup (.cons (.call "_law_number" r_l_number (.cons (.var 0) .nil)) (.cons (.call "_law_number" r_l_number (.cons (.var 0) .nil)) (.cons (.bi .abs (.cons (.call "_law_number" r_l_number (.cons (.var 0) .nil)) .nil)) .nil)))))
  (.cons (.ex (.meth "house" t_house (.var 5) (.cons (.ix (.var 4) (.bin .Add (.var 2) (.var 8))) (.cons (.var 9) (.cons (.ix (.var 10) (.cst (.int 0))) (.cons (.ix (.var 10) (.cst (.int 1))) (.cons (.ix (.var 10) (.cst (.int 2))) .nil)))))))
  (.cons (.setI (.var 6) (.ix (.var 4) (.bin .Add (.var 2) (.var 8))) (.lst false (.cons (.dic1 (.var 9) (.tup (.cons (.cst (.int 1)) (.cons (.cst (.int 1)) .nil)))) (.cons (.var 10) .nil))))
  .nil)))))
  (.cons (.ifs (.cmp .Gt (.var 3) (.cst (.int 0))) (.cons (.for (.nm 8) (.rng1 (.call "_law_draw" r_l_draw (.cons (.var 0) (.cons (.bin .Add (.bin .Mult (.cst (.int 4)) (.var 3)) (.cst (.int 1))) .nil)))) (.cons (.ex (.call "_law_sold" r_l_sold (.cons (.var 0) (.cons (.var 6) (.cons (.var 4) (.cons (.var 5) .nil))))))
  .nil))
  .nil) .nil)
  (.cons (.ret (.tup (.cons (.var 5) (.cons (.bi (.sorted false) (.cons (.sl (.var 4) .nil (.cons (.var 2) .nil)) .nil)) (.cons (.var 6) .nil)))))
  .nil)))))))))

abbrev s_l_built : Stmt := top 48
def n_l_built : List Str := ["_law_purse_here", "_law_most", "_law_many", "_law_count", "_law_names_here", "_law_book", "_law_model", "_law_name", "_law_k", "_law_owner", "_law_three"]
theorem f_l_built : FnScope n_l_built ["_law_purse_here", "_law_most"] (defScope s_l_built) := ⟨rfl, rfl, rfl, by decide +kernel, rfl, by decide +kernel, by decide +kernel⟩
theorem k_l_built {Γ : Amb} (r_l_draw : CallR1 Γ "_law_draw") (r_l_sold : CallR1 Γ "_law_sold") (t_house : MethR Γ "house") (r_l_number : CallR1 Γ "_law_number") (t_person : MethR Γ "person") (m_Book : MkR Γ "Book") (r_l_names : CallR1 Γ "_law_names") : mB (Γ := Γ) ⟨n_l_built, defScope s_l_built, fun _ => true⟩ (c_l_built r_l_draw r_l_sold t_house r_l_number t_person m_Book r_l_names) (defBody s_l_built) = true := by kernel_rfl

/- _law_group: slots 0 _law_model 1 _law_group_here 2 _law_kept 3 _law_house 4 _law_one -/
def c_l_group {Γ : Amb}  : Ss Γ :=
  (.cons (.asg (.nm 1) (.bi (.sorted false) (.cons (.var 0) .nil)))
  (.cons (.asg (.nm 2) (.cst .non))
  (.cons (.whl (.cmp .NotEq (.var 2) (.var 1)) (.cons (.ifs (.cmp .IsNot (.var 2) (.cst .non)) (.cons (.asg (.nm 1) (.var 2))
  .nil) .nil)
  (.cons (.asg (.nm 2) (.lc false (.var 3) (.nm 3) (.lst (.var 1)) (.cons (.cmp .Eq (.lcK false (.var 4) (.nm 4) (.ix (.ix (.var 0) (.var 3)) (.cst (.int 0))) (.cons (.cmp .NotIn (.var 4) (.var 1)) .nil)) (.lst false .nil)) .nil)))
  .nil)))
  (.cons (.ret (.var 1))
  .nil))))

abbrev s_l_group : Stmt := top 49
def n_l_group : List Str := ["_law_model", "_law_group_here", "_law_kept", "_law_house", "_law_one"]
theorem f_l_group : FnScope n_l_group ["_law_model"] (defScope s_l_group) := ⟨rfl, rfl, rfl, by decide +kernel, rfl, by decide +kernel, by decide +kernel⟩
theorem k_l_group {Γ : Amb}  : mB (Γ := Γ) ⟨n_l_group, defScope s_l_group, fun _ => true⟩ (c_l_group) (defBody s_l_group) = true := by kernel_rfl

/- _law_sum: slots 0 _law_some 1 _law_number_here 2 _law_top 3 _law_low -/
def c_l_sum {Γ : Amb} (r_l_made : CallR1 Γ "_law_made") : Ss Γ :=
  (.cons (.asg (.tp [2, 3]) (.tup (.cons (.cst (.int 0)) (.cons (.cst (.int 1)) .nil))))
  (.cons (.for (.nm 1) (.lst (.var 0)) (.cons (.asg (.tp [2, 3]) (.call "_law_made" r_l_made (.cons (.bin .Add (.bin .Mult (.var 2) (.ix (.var 1) (.cst (.int 1)))) (.bin .Mult (.ix (.var 1) (.cst (.int 0))) (.var 3))) (.cons (.bin .Mult (.var 3) (.ix (.var 1) (.cst (.int 1)))) .nil))))
  .nil))
  (.cons (.ret (.tup (.cons (.var 2) (.cons (.var 3) .nil))))
  .nil)))

abbrev s_l_sum : Stmt := top 50
def n_l_sum : List Str := ["_law_some", "_law_number_here", "_law_top", "_law_low"]
theorem f_l_sum : FnScope n_l_sum ["_law_some"] (defScope s_l_sum) := ⟨rfl, rfl, rfl, by decide +kernel, rfl, by decide +kernel, by decide +kernel⟩
theorem k_l_sum {Γ : Amb} (r_l_made : CallR1 Γ "_law_made") : mB (Γ := Γ) ⟨n_l_sum, defScope s_l_sum, fun _ => true⟩ (c_l_sum r_l_made) (defBody s_l_sum) = true := by kernel_rfl

/- _law_times: slots 0 _law_one 1 _law_other -/
def c_l_times {Γ : Amb} (r_l_made : CallR1 Γ "_law_made") : Ss Γ :=
  (.cons (.ret (.call "_law_made" r_l_made (.cons (.bin .Mult (.ix (.var 0) (.cst (.int 0))) (.ix (.var 1) (.cst (.int 0)))) (.cons (.bin .Mult (.ix (.var 0) (.cst (.int 1))) (.ix (.var 1) (.cst (.int 1)))) .nil))))
  .nil)

abbrev s_l_times : Stmt := top 51
def n_l_times : List Str := ["_law_one", "_law_other"]
theorem f_l_times : FnScope n_l_times ["_law_one", "_law_other"] (defScope s_l_times) := ⟨rfl, rfl, rfl, by decide +kernel, rfl, by decide +kernel, by decide +kernel⟩
theorem k_l_times {Γ : Amb} (r_l_made : CallR1 Γ "_law_made") : mB (Γ := Γ) ⟨n_l_times, defScope s_l_times, fun _ => true⟩ (c_l_times r_l_made) (defBody s_l_times) = true := by kernel_rfl

/- _law_held: slots 0 _law_model 1 _law_holder 2 _law_by 3 _law_some 4 _law_house -/
def c_l_held {Γ : Amb} (r_l_sum : CallR1 Γ "_law_sum") (r_l_times : CallR1 Γ "_law_times") : Ss Γ :=
  (.cons (.asg (.nm 3) (.lst true .nil))
  (.cons (.forKL (.nm 4) (.var 0) (.cons (.ifs (.cmp .In (.var 1) (.ix (.ix (.var 0) (.var 4)) (.cst (.int 0)))) (.cons (.ex (.bm .append (.var 3) (.cons (.call "_law_times" r_l_times (.cons (.ix (.ix (.ix (.var 0) (.var 4)) (.cst (.int 0))) (.var 1)) (.cons (.ix (.var 2) (.var 4)) .nil))) .nil)))
  .nil) .nil)
  .nil))
  (.cons (.ret (.call "_law_sum" r_l_sum (.cons (.var 3) .nil)))
  .nil)))

abbrev s_l_held : Stmt := top 52
def n_l_held : List Str := ["_law_model", "_law_holder", "_law_by", "_law_some", "_law_house"]
theorem f_l_held : FnScope n_l_held ["_law_model", "_law_holder", "_law_by"] (defScope s_l_held) := ⟨rfl, rfl, rfl, by decide +kernel, rfl, by decide +kernel, by decide +kernel⟩
theorem k_l_held {Γ : Amb} (r_l_sum : CallR1 Γ "_law_sum") (r_l_times : CallR1 Γ "_law_times") : mB (Γ := Γ) ⟨n_l_held, defScope s_l_held, fun _ => true⟩ (c_l_held r_l_sum r_l_times) (defBody s_l_held) = true := by kernel_rfl

/- _law_is_fraction: slots 0 _law_found -/
def c_l_is_fraction {Γ : Amb} (r_l_divisor : CallR1 Γ "_law_divisor") (i_tuple : IsR Γ "tuple") (r_l_whole : CallR1 Γ "_law_whole") : Ss Γ :=
  (.cons (.ifs (.bool .Or (.cons (.not (.val (.isi "tuple" i_tuple (.var 0)))) (.cons (.cmp .NotEq (.bi .len (.cons (.var 0) .nil)) (.cst (.int 2))) (.cons (.not (.val (.call "_law_whole" r_l_whole (.cons (.ix (.var 0) (.cst (.int 0))) .nil)))) (.cons (.not (.val (.call "_law_whole" r_l_whole (.cons (.ix (.var 0) (.cst (.int 1))) .nil)))) .nil))))) (.cons (.ret (.cst (.bl false)))
  .nil) .nil)
  (.cons (.ret (.bool .And (.cons (.cmp .Gt (.ix (.var 0) (.cst (.int 1))) (.cst (.int 0))) (.cons (.cmp .Eq (.call "_law_divisor" r_l_divisor (.cons (.ix (.var 0) (.cst (.int 0))) (.cons (.ix (.var 0) (.cst (.int 1))) .nil))) (.cst (.int 1))) .nil))))
  .nil))

abbrev s_l_is_fraction : Stmt := top 53
def n_l_is_fraction : List Str := ["_law_found"]
theorem f_l_is_fraction : FnScope n_l_is_fraction ["_law_found"] (defScope s_l_is_fraction) := ⟨rfl, rfl, rfl, by decide +kernel, rfl, by decide +kernel, by decide +kernel⟩
theorem k_l_is_fraction {Γ : Amb} (r_l_divisor : CallR1 Γ "_law_divisor") (i_tuple : IsR Γ "tuple") (r_l_whole : CallR1 Γ "_law_whole") : mB (Γ := Γ) ⟨n_l_is_fraction, defScope s_l_is_fraction, fun _ => true⟩ (c_l_is_fraction r_l_divisor i_tuple r_l_whole) (defBody s_l_is_fraction) = true := by kernel_rfl

/- _law_caught: slots 0 _law_book 1 _law_holder 2 _law_house 3 _law_caught_here 4 e 5 _law_found -/
def c_l_caught {Γ : Amb} (i_NoLoss : IsR Γ "NoLoss") (i_NoName : IsR Γ "NoName") (i_NoShare : IsR Γ "NoShare") (i_NoText : IsR Γ "NoText") (i_TooMany : IsR Γ "TooMany") (i_Twice : IsR Γ "Twice") (i_Whole : IsR Γ "Whole") (i_NoHolder : IsR Γ "NoHolder") (i_NoHouse : IsR Γ "NoHouse") (e_OwnError : ExR Γ "OwnError") (r_through : CallR1 Γ "through") : Ss Γ :=
  (.cons (.asg (.nm 3) (.cst .non))
  (.cons (.tryK "OwnError" e_OwnError 4 3 (.cons (.ex (.call "through" r_through (.cons (.var 0) (.cons (.var 1) (.cons (.var 2) .nil)))))
  .nil))
  (.cons (.asg (.nm 5) (.lst true (.cons (.isi "Whole" i_Whole (.var 3)) (.cons (.isi "NoHolder" i_NoHolder (.var 3)) (.cons (.isi "NoHouse" i_NoHouse (.var 3)) .nil)))))
  (.cons (.ex (.bm .append (.var 5) (.cons (.isiT [⟨"NoLoss", i_NoLoss⟩, ⟨"NoName", i_NoName⟩, ⟨"NoShare", i_NoShare⟩, ⟨"NoText", i_NoText⟩, ⟨"TooMany", i_TooMany⟩, ⟨"Twice", i_Twice⟩] (.var 3)) .nil)))
  (.cons (.ret (.frz (.var 5)))
  .nil)))))

abbrev s_l_caught : Stmt := top 54
def n_l_caught : List Str := ["_law_book", "_law_holder", "_law_house", "_law_caught_here", "e", "_law_found"]
theorem f_l_caught : FnScope n_l_caught ["_law_book", "_law_holder", "_law_house"] (defScope s_l_caught) := ⟨rfl, rfl, rfl, by decide +kernel, rfl, by decide +kernel, by decide +kernel⟩
theorem k_l_caught {Γ : Amb} (i_NoLoss : IsR Γ "NoLoss") (i_NoName : IsR Γ "NoName") (i_NoShare : IsR Γ "NoShare") (i_NoText : IsR Γ "NoText") (i_TooMany : IsR Γ "TooMany") (i_Twice : IsR Γ "Twice") (i_Whole : IsR Γ "Whole") (i_NoHolder : IsR Γ "NoHolder") (i_NoHouse : IsR Γ "NoHouse") (e_OwnError : ExR Γ "OwnError") (r_through : CallR1 Γ "through") : mB (Γ := Γ) ⟨n_l_caught, defScope s_l_caught, fun _ => true⟩ (c_l_caught i_NoLoss i_NoName i_NoShare i_NoText i_TooMany i_Twice i_Whole i_NoHolder i_NoHouse e_OwnError r_through) (defBody s_l_caught) = true := by kernel_rfl

/- _law_from: slots 0 _law_book 1 _law_persons 2 _law_model 3 _law_house 4 _law_by 5 _law_other 6 _law_some 7 _law_person 8 _law_one -/
def c_l_from {Γ : Amb} (r_l_sum : CallR1 Γ "_law_sum") (r_l_is_fraction : CallR1 Γ "_law_is_fraction") (r_l_held : CallR1 Γ "_law_held") (r_through : CallR1 Γ "through") : Ss Γ :=
  (.cons (.asg (.nm 4) .dic0)
  (.cons (.forKL (.nm 5) (.var 2) (.cons (.setI (.var 4) (.var 5) (.call "through" r_through (.cons (.var 0) (.cons (.var 5) (.cons (.var 3) .nil)))))
  (.cons (.ifs (.not (.val (.call "_law_is_fraction" r_l_is_fraction (.cons (.ix (.var 4) (.var 5)) .nil)))) (.cons (.ret (.cst (.bl false)))
  .nil) .nil)
  .nil)))
  (.cons (.forKL (.nm 5) (.var 2) (.cons (.ifs (.cmp .NotEq (.ix (.var 4) (.var 5)) (.call "_law_sum" r_l_sum (.cons (.lst false (.cons (.tup (.cons (.bi .int (.cons (.cmp .Eq (.var 5) (.var 3)) .nil)) (.cons (.cst (.int 1)) .nil))) (.cons (.call "_law_held" r_l_held (.cons (.var 2) (.cons (.var 5) (.cons (.var 4) .nil)))) .nil))) .nil))) (.cons (.ret (.cst (.bl false)))
  .nil) .nil)
  .nil))
  (.cons (.asg (.nm 6) (.lc false (.call "through" r_through (.cons (.var 0) (.cons (.var 7) (.cons (.var 3) .nil)))) (.nm 7) (.lst (.var 1)) .nil))
  (.cons (.for (.tp [7, 8]) (.zip2 (.var 1) (.var 6)) (.cons (.ifs (.bool .Or (.cons (.not (.val (.call "_law_is_fraction" r_l_is_fraction (.cons (.var 8) .nil)))) (.cons (.cmp .NotEq (.var 8) (.call "_law_held" r_l_held (.cons (.var 2) (.cons (.var 7) (.cons (.var 4) .nil))))) .nil))) (.cons (.ret (.cst (.bl false)))
  .nil) .nil)
  .nil))
  (.cons (.ret (.cmp .Eq (.call "_law_sum" r_l_sum (.cons (.var 6) .nil)) (.tup (.cons (.cst (.int 1)) (.cons (.cst (.int 1)) .nil)))))
  .nil))))))

abbrev s_l_from : Stmt := top 55
def n_l_from : List Str := ["_law_book", "_law_persons", "_law_model", "_law_house", "_law_by", "_law_other", "_law_some", "_law_person", "_law_one"]
theorem f_l_from : FnScope n_l_from ["_law_book", "_law_persons", "_law_model", "_law_house"] (defScope s_l_from) := ⟨rfl, rfl, rfl, by decide +kernel, rfl, by decide +kernel, by decide +kernel⟩
theorem k_l_from {Γ : Amb} (r_l_sum : CallR1 Γ "_law_sum") (r_l_is_fraction : CallR1 Γ "_law_is_fraction") (r_l_held : CallR1 Γ "_law_held") (r_through : CallR1 Γ "through") : mB (Γ := Γ) ⟨n_l_from, defScope s_l_from, fun _ => true⟩ (c_l_from r_l_sum r_l_is_fraction r_l_held r_through) (defBody s_l_from) = true := by kernel_rfl

/- _law_due: slots 0 _law_persons 1 _law_model 2 _law_group_here 3 _law_holder 4 _law_house -/
def c_l_due {Γ : Amb}  : Ss Γ :=
  (.cons (.ifs (.cmp .NotEq (.var 2) (.lst false .nil)) (.cons (.ret (.lst false (.cons (.cst (.bl true)) (.cons (.cst (.bl false)) (.cons (.cst (.bl false)) (.cons (.cst (.bl false)) .nil))))))
  .nil) .nil)
  (.cons (.ifs (.bool .And (.cons (.cmp .NotIn (.var 3) (.var 1)) (.cons (.cmp .NotIn (.var 3) (.var 0)) .nil))) (.cons (.ret (.lst false (.cons (.cst (.bl false)) (.cons (.cst (.bl true)) (.cons (.cst (.bl false)) (.cons (.cst (.bl false)) .nil))))))
  .nil) .nil)
  (.cons (.ret (.lst false (.cons (.cst (.bl false)) (.cons (.cst (.bl false)) (.cons (.cmp .NotIn (.var 4) (.var 1)) (.cons (.cst (.bl false)) .nil))))))
  .nil)))

abbrev s_l_due : Stmt := top 56
def n_l_due : List Str := ["_law_persons", "_law_model", "_law_group_here", "_law_holder", "_law_house"]
theorem f_l_due : FnScope n_l_due ["_law_persons", "_law_model", "_law_group_here", "_law_holder", "_law_house"] (defScope s_l_due) := ⟨rfl, rfl, rfl, by decide +kernel, rfl, by decide +kernel, by decide +kernel⟩
theorem k_l_due {Γ : Amb}  : mB (Γ := Γ) ⟨n_l_due, defScope s_l_due, fun _ => true⟩ (c_l_due) (defBody s_l_due) = true := by kernel_rfl

/- law: slots 0 _law_script 1 _law_purse_here 2 _law_group_here 3 _law_some 4 _law_k 5 _law_house 6 _law_book 7 _law_persons 8 _law_model 9 _law_holder -/
def c_law {Γ : Amb} (r_l_from : CallR1 Γ "_law_from") (r_l_caught : CallR1 Γ "_law_caught") (r_l_due : CallR1 Γ "_law_due") (r_l_draw : CallR1 Γ "_law_draw") (r_l_group : CallR1 Γ "_law_group") (r_l_built : CallR1 Γ "_law_built") (r_l_purse : CallR1 Γ "_law_purse") : Ss Γ :=
  (.cons (.asg (.nm 1) (.call "_law_purse" r_l_purse (.cons (.var 0) .nil)))
  (.cons (.asg (.tp [6, 7, 8]) (.call "_law_built" r_l_built (.cons (.var 1) (.cons (.cst (.int 5)) .nil))))
  (.cons (.asg (.nm 2) (.call "_law_group" r_l_group (.cons (.var 8) .nil)))
  (.cons (.asg (.nm 3) (.bin .Add (.bin .Add (.var 7) (.bi (.sorted false) (.cons (.var 8) .nil))) (.lst false (.cons (.cst (.str "nobody")) (.cons (.cst (.str "")) .nil)))))
  (.cons (.for (.nm 4) (.rng1 (.cst (.int 6))) (.cons (.asg (.nm 9) (.ix (.var 3) (.call "_law_draw" r_l_draw (.cons (.var 1) (.cons (.bi .len (.cons (.var 3) .nil)) .nil)))))
  (.cons (.asg (.nm 5) (.ix (.var 3) (.call "_law_draw" r_l_draw (.cons (.var 1) (.cons (.bi .len (.cons (.var 3) .nil)) .nil)))))
  (.cons (.ifs (.cmp .NotEq (.call "_law_caught" r_l_caught (.cons (.var 6) (.cons (.var 9) (.cons (.var 5) .nil)))) (.call "_law_due" r_l_due (.cons (.var 7) (.cons (.var 8) (.cons (.var 2) (.cons (.var 9) (.cons (.var 5) .nil))))))) (.cons (.ret (.cst (.bl false)))
  .nil) .nil)
  .nil))))
  (.cons (.ifs (.cmp .NotEq (.var 2) (.lst false .nil)) (.cons (.ret (.cst (.bl true)))
  .nil) .nil)
  (.cons (.forK (.nm 5) (.var 8) (.cons (.ifs (.not (.val (.call "_law_from" r_l_from (.cons (.var 6) (.cons (.var 7) (.cons (.var 8) (.cons (.var 5) .nil))))))) (.cons (.ret (.cst (.bl false)))
  .nil) .nil)
  .nil))
  (.cons (.ret (.cst (.bl true)))
  .nil))))))))

abbrev s_law : Stmt := top 57
def n_law : List Str := ["_law_script", "_law_purse_here", "_law_group_here", "_law_some", "_law_k", "_law_house", "_law_book", "_law_persons", "_law_model", "_law_holder"]
theorem f_law : FnScope n_law ["_law_script"] (defScope s_law) := ⟨rfl, rfl, rfl, by decide +kernel, rfl, by decide +kernel, by decide +kernel⟩
theorem k_law {Γ : Amb} (r_l_from : CallR1 Γ "_law_from") (r_l_caught : CallR1 Γ "_law_caught") (r_l_due : CallR1 Γ "_law_due") (r_l_draw : CallR1 Γ "_law_draw") (r_l_group : CallR1 Γ "_law_group") (r_l_built : CallR1 Γ "_law_built") (r_l_purse : CallR1 Γ "_law_purse") : mB (Γ := Γ) ⟨n_law, defScope s_law, fun _ => true⟩ (c_law r_l_from r_l_caught r_l_due r_l_draw r_l_group r_l_built r_l_purse) (defBody s_law) = true := by kernel_rfl

end Bv

/-! Sums: what the small defs give. -/
namespace Bv
open PySem L2 PyProof.Rows
/-- below 2^9000 in size -/
def Sm (x : Int) : Prop := x.natAbs < 2 ^ 9000
theorem Sm.log {x : Int} (h : Sm x) : x.natAbs.log2 < 9000 := by
  by_cases e : x.natAbs = 0
  · rw [e]; decide
  · exact (Nat.log2_lt e).mpr h
theorem Sm.bits {x : Int} (h : Sm x) : Builtin.Int.intBits x ≤ 2 ^ 20 := by
  have := h.log
  unfold Builtin.Int.intBits
  have e : (2 : Nat) ^ 20 = 1048576 := by decide
  rw [e]
  split <;> omega
theorem Sm.mul {x y : Int} (h : Sm x) (h2 : Sm y) : IntMulOk x y := .of_bits h.bits h2.bits
theorem Sm.div {i j : Int} (h : Sm j) (h0 : 0 < j) : DivOk i j := ⟨by omega, PyProof.noPylong_of_log2 h.log⟩
theorem small_mul {i j : Int} (h1 : -(2 ^ 64) < j) (h2 : j < 2 ^ 64) : IntMulOk i j := CMul.ok (.inr ⟨h1, h2⟩)
theorem small_mulL {i j : Int} (h1 : -(2 ^ 64) < i) (h2 : i < 2 ^ 64) : IntMulOk i j := CMul.ok (.inl ⟨h1, h2⟩)
theorem Sm.of_small {j : Int} (h1 : -(2 ^ 64) < j) (h2 : j < 2 ^ 64) : Sm j := by
  have e : (2 : Nat) ^ 64 ≤ 2 ^ 9000 := Nat.pow_le_pow_right (by decide) (by decide)
  have : j.natAbs < 2 ^ 64 := by omega
  exact Nat.lt_of_lt_of_le this e
/-- a fraction as two numbers, lowered -/
def low (t b : Int) : Int × Int := (t / (Int.gcd t b : Int), b / (Int.gcd t b : Int))
def frP (p : Int × Int) : Val := .tup [.int p.1, .int p.2]
def spDiv : Spec := fun vs F Q _ => ∃ a b : Int, vs = [.int a, .int b] ∧ Q (.int (Int.gcd a b)) F
def spMade : Spec := fun vs F Q _ => ∃ t b : Int, vs = [.int t, .int b] ∧ 0 < b ∧ Sm b ∧ Q (frP (low t b)) F
theorem abs_val (a : Int) : (if a < 0 then -a else a) = (a.natAbs : Int) := by split <;> omega
theorem gcd_step {x y : Int} (hx : 0 ≤ x) (hy : 0 < y) : Int.gcd y (x.fmod y) = Int.gcd x y := by
  rw [Int.fmod_eq_emod_of_nonneg x (Int.le_of_lt hy)]
  obtain ⟨n, rfl⟩ := Int.eq_ofNat_of_zero_le hx
  obtain ⟨m, rfl⟩ := Int.eq_ofNat_of_zero_le (Int.le_of_lt hy)
  show Nat.gcd m ((n : Int) % (m : Int)).natAbs = Nat.gcd n m
  have e : ((n : Int) % (m : Int)).natAbs = n % m := by omega
  rw [e, Nat.gcd_comm n m, Nat.gcd_rec m n, Nat.gcd_comm]
def gcdI (a b : Int) (F0 : MH) (m : Nat) (σ : St1) (F : MH) : Prop := ∃ x y : Int, σ = [some (.int x), some (.int y)] ∧ F = F0 ∧ 0 ≤ x ∧ 0 ≤ y ∧ m = y.toNat ∧ Int.gcd x y = Int.gcd a b
theorem w_divisor {Γ : Amb} : ∀ vs F Q E, spDiv vs F Q E → wpB (fun C fs _ F => E C fs F) (c_divisor (Γ := Γ)) (start1 n_divisor vs) F (fun _ F => Q .non F) Q := by
  rintro vs F Q E ⟨a, b, rfl, h⟩
  unfold c_divisor
  simp only [wpB, wpS, wpE, wpEs, wpT, wpTs, wpCs, wpP, wpIt, wpBl, bindT, biS, bmS, recS, tyS, truS, start1, List.map, List.length, List.replicate, List.append_nil, List.nil_append, List.cons_append, Nat.sub_self, Nat.reduceSub, Nat.reduceAdd, List.length_cons, List.length_nil, List.getElem?_cons_zero, List.getElem?_cons_succ, List.set_cons_zero, List.set_cons_succ, setAll, wipe1, Tg.slots, binS, subS, mulS, fdivS, modS, powS, cmpS, ltS, isS, isNS, asStrs, asBls, newLs, n_divisor]
  refine ⟨gcdI a b F, ⟨_, _, _, rfl, rfl, ?_, ?_, rfl, ?_⟩, ?_⟩
  · split <;> omega
  · split <;> omega
  · rw [abs_val, abs_val]; rfl
  · rintro m σ F1 ⟨x, y, rfl, rfl, hx, hy, rfl, hg⟩
    simp only [wpB, wpS, wpE, wpEs, wpT, wpTs, wpCs, wpP, wpIt, wpBl, bindT, biS, bmS, recS, tyS, truS, start1, List.map, List.length, List.replicate, List.append_nil, List.nil_append, List.cons_append, Nat.sub_self, Nat.reduceSub, Nat.reduceAdd, List.length_cons, List.length_nil, List.getElem?_cons_zero, List.getElem?_cons_succ, List.set_cons_zero, List.set_cons_succ, setAll, wipe1, Tg.slots, binS, subS, mulS, fdivS, modS, powS, cmpS, ltS, isS, isNS, asStrs, asBls, newLs]
    by_cases hp : (0 : Int) < y
    · rw [decide_eq_true hp]
      simp only [wpB, wpS, wpE, wpEs, wpT, wpTs, wpCs, wpP, wpIt, wpBl, bindT, biS, bmS, recS, tyS, truS, start1, List.map, List.length, List.replicate, List.append_nil, List.nil_append, List.cons_append, Nat.sub_self, Nat.reduceSub, Nat.reduceAdd, List.length_cons, List.length_nil, List.getElem?_cons_zero, List.getElem?_cons_succ, List.set_cons_zero, List.set_cons_succ, setAll, wipe1, Tg.slots, binS, subS, mulS, fdivS, modS, powS, cmpS, ltS, isS, isNS, asStrs, asBls, newLs]
      refine ⟨by omega, (x.fmod y).toNat, ?_, y, x.fmod y, rfl, rfl, by omega, ?_, rfl, ?_⟩
      · have h1 := Int.fmod_lt_of_pos x hp
        omega
      · exact Int.fmod_nonneg_of_pos x hp
      · rw [gcd_step hx hp]; exact hg
    · rw [decide_eq_false hp]
      have e : y = 0 := by omega
      subst e
      simp only [wpB, wpS, wpE, wpEs, wpT, wpTs, wpCs, wpP, wpIt, wpBl, bindT, biS, bmS, recS, tyS, truS, start1, List.map, List.length, List.replicate, List.append_nil, List.nil_append, List.cons_append, Nat.sub_self, Nat.reduceSub, Nat.reduceAdd, List.length_cons, List.length_nil, List.getElem?_cons_zero, List.getElem?_cons_succ, List.set_cons_zero, List.set_cons_succ, setAll, wipe1, Tg.slots, binS, subS, mulS, fdivS, modS, powS, cmpS, ltS, isS, isNS, asStrs, asBls, newLs]
      have e2 : (x : Int) = (Int.gcd a b : Int) := by rw [← hg, Int.gcd_zero_right]; omega
      rw [e2]
      exact h
theorem gcd_le_right {t b : Int} (hb : 0 < b) : 0 < (Int.gcd t b : Int) ∧ (Int.gcd t b : Int) ≤ b := by
  have h1 : 0 < Int.gcd t b := Int.gcd_pos_of_ne_zero_right t (by omega)
  have h2 : (Int.gcd t b : Int) ∣ b := Int.gcd_dvd_right ..
  have h3 := Int.le_of_dvd hb h2
  omega
theorem Sm.le {x y : Int} (h : Sm y) (h2 : x.natAbs ≤ y.natAbs) : Sm x := Nat.lt_of_le_of_lt h2 h
theorem w_made {Γ : Amb} {r : CallR1 Γ "divisor"} (hr : r.sp = spDiv) : ∀ vs F Q E, spMade vs F Q E → wpB (fun C fs _ F => E C fs F) (c_made r) (start1 n_made vs) F (fun _ F => Q .non F) Q := by
  rintro vs F Q E ⟨t, b, rfl, h0, hs, h⟩
  unfold c_made
  simp only [wpB, wpS, wpE, wpEs, wpT, wpTs, wpCs, wpP, wpIt, wpBl, bindT, biS, bmS, recS, tyS, truS, start1, List.map, List.length, List.replicate, List.append_nil, List.nil_append, List.cons_append, Nat.sub_self, Nat.reduceSub, Nat.reduceAdd, List.length_cons, List.length_nil, List.getElem?_cons_zero, List.getElem?_cons_succ, List.set_cons_zero, List.set_cons_succ, setAll, wipe1, Tg.slots, binS, subS, mulS, fdivS, modS, powS, cmpS, ltS, isS, isNS, asStrs, asBls, newLs, n_made, hr]
  refine ⟨t, b, rfl, ?_⟩
  have hn : ¬ b < 0 := by omega
  obtain ⟨g1, g2⟩ := gcd_le_right (t := t) h0
  have d : ∀ i, DivOk i (Int.gcd t b : Int) := fun i => Sm.div (hs.le (by omega)) g1
  simp only [wpB, wpS, wpE, wpEs, wpT, wpTs, wpCs, wpP, wpIt, wpBl, bindT, biS, bmS, recS, tyS, truS, start1, List.map, List.length, List.replicate, List.append_nil, List.nil_append, List.cons_append, Nat.sub_self, Nat.reduceSub, Nat.reduceAdd, List.length_cons, List.length_nil, List.getElem?_cons_zero, List.getElem?_cons_succ, List.set_cons_zero, List.set_cons_succ, setAll, wipe1, Tg.slots, binS, subS, mulS, fdivS, modS, powS, cmpS, ltS, isS, isNS, asStrs, asBls, newLs, decide_eq_false hn]
  refine ⟨d _, d _, by rw [sizeLine_eq]; decide, ?_⟩
  rw [Int.fdiv_eq_ediv_of_nonneg _ (Int.le_of_lt g1), Int.fdiv_eq_ediv_of_nonneg _ (Int.le_of_lt g1)]
  exact h
end Bv

/-! Draws from a purse. -/
namespace Bv
open PySem L2 PyProof.Rows
/-! ### loops by an invariant -/
theorem forGo_inv {g : MH → Prop} {turn : Val → St1 → MH → (St1 → MH → Prop) → Prop} {Qn : St1 → MH → Prop} {items : List Val} (I : Nat → St1 → MH → Prop) (hg : ∀ i σ F, I i σ F → g F)
    (hs : ∀ i x σ F (k : St1 → MH → Prop), items[i]? = some x → I i σ F → (∀ σ' F', I (i + 1) σ' F' → k σ' F') → turn x σ F k) (hd : ∀ σ F, I items.length σ F → Qn σ F) {σ : St1} {F : MH} (h0 : I 0 σ F) : forGo g turn Qn items σ F := by
  have gen : ∀ (l : List Val) (i : Nat) σ F, items.drop i = l → i + l.length = items.length → I i σ F → forGo g turn Qn l σ F := by
    intro l
    induction l with
    | nil =>
      intro i σ F e hl h
      have e2 : i = items.length := by simpa using hl
      subst e2
      exact ⟨hg _ _ _ h, hd _ _ h⟩
    | cons x l ih =>
      intro i σ F e hl h
      refine ⟨hg _ _ _ h, hs i x σ F _ ?_ h fun σ' F' h' => ih (i + 1) σ' F' ?_ ?_ h'⟩
      · have := congrArg (·[0]?) e
        simpa using this
      · rw [← List.drop_drop, e]; rfl
      · simp at hl ⊢; omega
  exact gen items 0 σ F rfl (by simp) h0
theorem lcGo_inv {g : MH → Prop} {turn : Val → MH → (Option Val → MH → Prop) → Prop} {Q : List Val → MH → Prop} {items : List Val} (I : Nat → List Val → MH → Prop) (hz : items.length ≤ sizeLine) (hg : ∀ i acc F, I i acc F → g F)
    (hs : ∀ i x acc F (k : Option Val → MH → Prop), items[i]? = some x → I i acc F → (∀ v F', I (i + 1) (acc ++ [v]) F' → k (some v) F') → (∀ F', I (i + 1) acc F' → k none F') → turn x F k) (hd : ∀ acc F, I items.length acc F → Q acc F) {F : MH} (h0 : I 0 [] F) : lcGo g turn Q items [] F := by
  have gen : ∀ (l : List Val) (i : Nat) acc F, items.drop i = l → i + l.length = items.length → acc.length ≤ i → I i acc F → lcGo g turn Q l acc F := by
    intro l
    induction l with
    | nil =>
      intro i acc F e hl ha h
      have e2 : i = items.length := by simpa using hl
      subst e2
      exact ⟨hg _ _ _ h, hd _ _ h⟩
    | cons x l ih =>
      intro i acc F e hl ha h
      have hx : items.drop (i + 1) = l := by rw [← List.drop_drop, e]; rfl
      have hl2 : i + 1 + l.length = items.length := by simp at hl; omega
      refine ⟨hg _ _ _ h, hs i x acc F _ ?_ h (fun v F' h' => ⟨by omega, ih (i + 1) _ F' hx hl2 (by simp; omega) h'⟩) (fun F' h' => ih (i + 1) acc F' hx hl2 (by omega) h')⟩
      have := congrArg (·[0]?) e
      simpa using this
  exact gen items 0 [] F rfl (by simp) (by simp) h0
/-! ### equality -/
theorem eqS_int {i j : Int} {F : MH} {Q : Bool → Prop} (h : Q (i == j)) : eqS (.int i) (.int j) F Q := ⟨rfl, rfl, by simpa [rdF, toPD, PyData.eqv] using h⟩
/-! ### the purse -/
def Pur (F : MH) (p : Addr) : Prop := ∃ a b : Int, F p = some (.lst [.int a, .int b])
theorem Pur.set {F : MH} {p : Addr} {a b : Int} : Pur (mset F p (.lst [.int a, .int b])) p := ⟨a, b, mset_same⟩
def spMixed : Spec := fun vs F Q _ => ∃ c k : Int, vs = [.int c, .int k] ∧ Builtin.Int.intBits c ≤ 2 ^ 20 ∧ 0 ≤ k ∧ k < 64 ∧ ∀ r : Int, Q (.int r) F
theorem spMixed_len : ∀ vs F Q E, spMixed vs F Q E → vs.length = 2 := by
  rintro vs F Q E ⟨c, k, rfl, _⟩
  rfl
theorem w_l_mixed {Γ : Amb} : ∀ vs F Q E, spMixed vs F Q E → wpB (fun C fs _ F => E C fs F) (c_l_mixed (Γ := Γ)) (start1 n_l_mixed vs) F (fun _ F => Q .non F) Q := by
  rintro vs F Q E ⟨c, k, rfl, hb, h0, h1, h⟩
  unfold c_l_mixed
  simp only [wpB, wpS, wpE, wpEs, wpT, wpTs, wpCs, wpP, wpIt, wpBl, bindT, biS, bmS, recS, tyS, truS, start1, List.map, List.length, List.replicate, List.append_nil, List.nil_append, List.cons_append, Nat.sub_self, Nat.reduceSub, Nat.reduceAdd, List.length_cons, List.length_nil, List.getElem?_cons_zero, List.getElem?_cons_succ, List.set_cons_zero, List.set_cons_succ, setAll, wipe1, Tg.slots, binS, subS, mulS, fdivS, modS, powS, cmpS, ltS, isS, isNS, asStrs, asBls, newLs, n_l_mixed, addS]
  refine ⟨.of_bits hb hb, small_mulL (by decide) (by decide), small_mulL (by decide) (by decide), small_mul (by decide) (by decide), by decide, ?_, by decide, h _⟩
  generalize hr : ((c * c + 3 * c + 7919 * k + 1) * 48271).fmod 2147483629 = r
  have r1 : 0 ≤ r := by rw [← hr]; exact Int.fmod_nonneg_of_pos _ (by decide)
  have r2 : r < 2147483629 := by rw [← hr]; exact Int.fmod_lt_of_pos _ (by decide)
  exact small_mul (by omega) (by omega)
def spPurse : Spec := fun vs F Q _ => ∃ (v : Val) (ns : List Int), vs = [v] ∧ lsOf F v = some (ns.map .int) ∧ ns.length ≤ 63 ∧ (∀ z ∈ ns, Builtin.Int.intBits z ≤ 2 ^ 20) ∧ ∀ p (a b : Int), F p = none → Q (.ref p) (mset F p (.lst [.int a, .int b]))
def spDraw : Spec := fun vs F Q _ => ∃ (p : Addr) (n : Int), vs = [.ref p, .int n] ∧ 0 < n ∧ Sm n ∧ Pur F p ∧ ∀ r a b : Int, 0 ≤ r → r < n → Q (.int r) (mset F p (.lst [.int a, .int b]))
theorem w_l_draw {Γ : Amb} : ∀ vs F Q E, spDraw vs F Q E → wpB (fun C fs _ F => E C fs F) (c_l_draw (Γ := Γ)) (start1 n_l_draw vs) F (fun _ F => Q .non F) Q := by
  rintro vs F Q E ⟨p, n, rfl, h0, hs, ⟨a, b, hp⟩, h⟩
  unfold c_l_draw
  simp only [wpB, wpS, wpE, wpEs, wpT, wpTs, wpCs, wpP, wpIt, wpBl, bindT, biS, bmS, recS, tyS, truS, start1, List.map, List.length, List.replicate, List.append_nil, List.nil_append, List.cons_append, Nat.sub_self, Nat.reduceSub, Nat.reduceAdd, List.length_cons, List.length_nil, List.getElem?_cons_zero, List.getElem?_cons_succ, List.set_cons_zero, List.set_cons_succ, setAll, wipe1, Tg.slots, binS, subS, mulS, fdivS, modS, powS, cmpS, ltS, isS, isNS, asStrs, asBls, newLs, n_l_draw]
  have ixl : ∀ (F : MH) (x y : Int) (Q : Q1), F p = some (.lst [.int x, .int y]) → Q (.int x) F → ixS (.ref p) (.int 0) F Q := fun F x y Q e q => by
    simp only [ixS, lsOf, e]; exact q
  have ixr : ∀ (F : MH) (x y : Int) (Q : Q1), F p = some (.lst [.int x, .int y]) → Q (.int y) F → ixS (.ref p) (.int 1) F Q := fun F x y Q e q => by
    simp only [ixS, lsOf, e]; exact q
  have fin : ∀ (a : Int) (F1 : MH), F1 p = some (.lst [.int a, .int b]) → (∀ c : Cell, mset F1 p c = mset F p c) → ixS (.ref p) (.int 0) F1 fun x F2 => (match x, Val.int n, F2, fun v F1 => wpB (Γ := Γ) (fun C fs _ F => E C fs F) (.cons (.setI (.var 0) (.cst (.int 0)) (.bin .FloorDiv (.ix (.var 0) (.cst (.int 0))) (.var 1))) (.cons (.ret (.var 2)) .nil)) [some (.ref p), some (.int n), some v] F1 (fun _ F => Q .non F) Q with
      | .int i, .int j, F, Q => j ≠ 0 ∧ Q (.int (i.fmod j)) F
      | _, _, _, _ => False) := fun a F1 e hm => by
    refine ixl F1 a b _ e ⟨by omega, ?_⟩
    simp only [wpB, wpS, wpE, wpEs, wpT, wpTs, wpCs, wpP, wpIt, wpBl, bindT, biS, bmS, recS, tyS, truS, start1, List.map, List.length, List.replicate, List.append_nil, List.nil_append, List.cons_append, Nat.sub_self, Nat.reduceSub, Nat.reduceAdd, List.length_cons, List.length_nil, List.getElem?_cons_zero, List.getElem?_cons_succ, List.set_cons_zero, List.set_cons_succ, setAll, wipe1, Tg.slots, binS, subS, mulS, fdivS, modS, powS, cmpS, ltS, isS, isNS, asStrs, asBls, newLs]
    refine ixl F1 a b _ e ⟨Sm.div hs h0, ?_⟩
    simp only [setS, e]
    show Q _ (mset F1 p _)
    rw [hm]
    exact h _ _ _ (Int.fmod_nonneg_of_pos _ h0) (Int.fmod_lt_of_pos _ h0)
  refine ixl F a b _ hp (eqS_int ?_)
  cases hz : (a == 0)
  · exact fin a F hp fun c => rfl
  · simp only [wpB, wpS, wpE, wpEs, wpT, wpTs, wpCs, wpP, wpIt, wpBl, bindT, biS, bmS, recS, tyS, truS, start1, List.map, List.length, List.replicate, List.append_nil, List.nil_append, List.cons_append, Nat.sub_self, Nat.reduceSub, Nat.reduceAdd, List.length_cons, List.length_nil, List.getElem?_cons_zero, List.getElem?_cons_succ, List.set_cons_zero, List.set_cons_succ, setAll, wipe1, Tg.slots, binS, subS, mulS, fdivS, modS, powS, cmpS, ltS, isS, isNS, asStrs, asBls, newLs]
    refine ixr F a b _ hp ?_
    simp only [setS, hp]
    exact fin b _ mset_same fun c => mset_mset
end Bv

/-! Fractions; numbers and parts drawn. -/
namespace Bv
open PySem L2 PyProof.Rows
theorem atI_get {α : Type} {vs : List α} {r : Int} {v : α} (h0 : 0 ≤ r) (h : vs[r.toNat]? = some v) : atI vs r = some v := by
  obtain ⟨hl, e⟩ := List.getElem?_eq_some_iff.mp h
  unfold atI ixN
  rw [if_pos h0, if_pos (by omega)]
  exact h
theorem ix_list {a : Val} {vs : List Val} {r : Int} {v : Val} {F : MH} {Q : Q1} (e : lsOf F a = some vs) (h0 : 0 ≤ r) (h : vs[r.toNat]? = some v) (q : Q v F) : ixS a (.int r) F Q := by
  cases a with
  | lst ws => cases e; simp only [ixS, lsOf, atS, atI_get h0 h]; exact q
  | ref p => simp only [ixS, e, atS, atI_get h0 h]; exact q
  | _ => cases e
theorem ix_tup {vs : List Val} {r : Int} {v : Val} {F : MH} {Q : Q1} (h0 : 0 ≤ r) (h : vs[r.toNat]? = some v) (q : Q v F) : ixS (.tup vs) (.int r) F Q := by
  simp only [ixS, atS, atI_get h0 h]; exact q
theorem w_l_divisor {Γ : Amb} : ∀ vs F Q E, spDiv vs F Q E → wpB (fun C fs _ F => E C fs F) (c_l_divisor (Γ := Γ)) (start1 n_l_divisor vs) F (fun _ F => Q .non F) Q := w_divisor
theorem w_l_made {Γ : Amb} {r : CallR1 Γ "_law_divisor"} (hr : r.sp = spDiv) : ∀ vs F Q E, spMade vs F Q E → wpB (fun C fs _ F => E C fs F) (c_l_made r) (start1 n_l_made vs) F (fun _ F => Q .non F) Q := by
  rintro vs F Q E ⟨t, b, rfl, h0, hs, h⟩
  unfold c_l_made
  simp only [wpB, wpS, wpE, wpEs, wpT, wpTs, wpCs, wpP, wpIt, wpBl, bindT, biS, bmS, recS, tyS, truS, start1, List.map, List.length, List.replicate, List.append_nil, List.nil_append, List.cons_append, Nat.sub_self, Nat.reduceSub, Nat.reduceAdd, List.length_cons, List.length_nil, List.getElem?_cons_zero, List.getElem?_cons_succ, List.set_cons_zero, List.set_cons_succ, setAll, wipe1, Tg.slots, binS, subS, mulS, fdivS, modS, powS, cmpS, ltS, isS, isNS, asStrs, asBls, newLs, n_l_made, hr]
  refine ⟨t, b, rfl, ?_⟩
  have hn : ¬ b < 0 := by omega
  obtain ⟨g1, g2⟩ := gcd_le_right (t := t) h0
  have d : ∀ i, DivOk i (Int.gcd t b : Int) := fun i => Sm.div (hs.le (by omega)) g1
  simp only [wpB, wpS, wpE, wpEs, wpT, wpTs, wpCs, wpP, wpIt, wpBl, bindT, biS, bmS, recS, tyS, truS, start1, List.map, List.length, List.replicate, List.append_nil, List.nil_append, List.cons_append, Nat.sub_self, Nat.reduceSub, Nat.reduceAdd, List.length_cons, List.length_nil, List.getElem?_cons_zero, List.getElem?_cons_succ, List.set_cons_zero, List.set_cons_succ, setAll, wipe1, Tg.slots, binS, subS, mulS, fdivS, modS, powS, cmpS, ltS, isS, isNS, asStrs, asBls, newLs, decide_eq_false hn]
  refine ⟨d _, d _, by rw [sizeLine_eq]; decide, ?_⟩
  rw [Int.fdiv_eq_ediv_of_nonneg _ (Int.le_of_lt g1), Int.fdiv_eq_ediv_of_nonneg _ (Int.le_of_lt g1)]
  exact h
/-! ### fractions -/
theorem low_eq {t b : Int} (hb : 0 < b) : ∃ g : Int, 0 < g ∧ t = (low t b).1 * g ∧ b = (low t b).2 * g := by
  obtain ⟨g1, g2⟩ := gcd_le_right (t := t) hb
  refine ⟨_, g1, ?_, ?_⟩
  · exact (Int.ediv_mul_cancel (Int.gcd_dvd_left ..)).symm
  · exact (Int.ediv_mul_cancel (Int.gcd_dvd_right ..)).symm
theorem low_zero {b : Int} (hb : 0 < b) : low 0 b = (0, 1) := by
  unfold low
  rw [Int.gcd_zero_left]
  have : (b.natAbs : Int) = b := by omega
  rw [this, Int.zero_ediv, Int.ediv_self (by omega)]
theorem low_bd {t b A C : Int} (ht : 0 ≤ t) (hb : 0 < b) (h : t ≤ A * b) (hc : b ≤ C) : 0 ≤ (low t b).1 ∧ 0 < (low t b).2 ∧ (low t b).1 ≤ A * (low t b).2 ∧ (low t b).2 ≤ C ∧ (0 < t → 0 < (low t b).1) := by
  obtain ⟨g, hg, e1, e2⟩ := low_eq (t := t) hb
  generalize (low t b).1 = x at *
  generalize (low t b).2 = y at *
  subst e1
  subst e2
  have hx : 0 ≤ x := Int.nonneg_of_mul_nonneg_left ht hg
  have hy : 0 < y := Int.pos_of_mul_pos_left hb hg
  refine ⟨hx, hy, ?_, ?_, fun hp => Int.pos_of_mul_pos_left hp hg⟩
  · have : x * g ≤ (A * y) * g := by grind
    exact Int.le_of_mul_le_mul_right this hg
  · have h1 : y * 1 ≤ y * g := Int.mul_le_mul_of_nonneg_left (by omega) (by omega)
    omega
theorem low_pos_iff {t b : Int} (ht : 0 ≤ t) (hb : 0 < b) : (low t b).1 > 0 ↔ 0 < t := by
  constructor
  · intro h
    by_cases e : t = 0
    · rw [e, low_zero hb] at h; exact absurd h (by decide)
    · omega
  · exact (low_bd (A := t) (C := b) ht hb (by
      have : t * 1 ≤ t * b := Int.mul_le_mul_of_nonneg_left (by omega) ht
      omega) (Int.le_refl _)).2.2.2.2
/-- a share: n sales behind it -/
structure Fr (n : Nat) (p : Int × Int) : Prop where
  nn : 0 ≤ p.1
  pos : 0 < p.2
  val : p.1 ≤ 2 ^ n * p.2
  den : p.2 ≤ (10 ^ 29) ^ n
theorem two_pow_pos (n : Nat) : (0 : Int) < 2 ^ n := Int.pow_pos (by decide)
theorem den_pos (n : Nat) : (0 : Int) < (10 ^ 29) ^ n := Int.pow_pos (by decide)
theorem Fr.up {n : Nat} {p : Int × Int} (h : Fr n p) : Fr (n + 1) p := by
  refine ⟨h.nn, h.pos, ?_, ?_⟩
  · have h1 : (2 : Int) ^ n * p.2 ≤ 2 ^ (n + 1) * p.2 := Int.mul_le_mul_of_nonneg_right (by rw [Int.pow_succ]; have := two_pow_pos n; omega) (Int.le_of_lt h.pos)
    exact Int.le_trans h.val h1
  · have h1 : ((10 : Int) ^ 29) ^ n ≤ (10 ^ 29) ^ (n + 1) := by
      rw [Int.pow_succ]
      have := den_pos n
      have h2 : ((10 : Int) ^ 29) ^ n * 1 ≤ (10 ^ 29) ^ n * 10 ^ 29 := Int.mul_le_mul_of_nonneg_left (by decide) (Int.le_of_lt this)
      rw [Int.mul_one] at h2
      exact h2
    exact Int.le_trans h.den h1
theorem Fr.mono {n m : Nat} {p : Int × Int} (h : Fr n p) (hm : n ≤ m) : Fr m p := by
  induction hm with
  | refl => exact h
  | step _ ih => exact ih.up
theorem Fr.one : Fr 0 (1, 1) := ⟨by decide, by decide, by decide, by decide⟩
theorem Fr.zero : Fr 0 (0, 1) := ⟨by decide, by decide, by decide, by decide⟩
/-- a part that may be sold of a share -/
structure Pt (sh p : Int × Int) : Prop where
  pos : 0 < p.1
  dpos : 0 < p.2
  le : p.1 * sh.2 ≤ sh.1 * p.2
theorem Pt.val {n : Nat} {sh p : Int × Int} (h : Pt sh p) (f : Fr n sh) : p.1 ≤ 2 ^ n * p.2 := by
  have h1 : p.1 * sh.2 ≤ (2 ^ n * p.2) * sh.2 := by
    have h2 : sh.1 * p.2 ≤ 2 ^ n * sh.2 * p.2 := Int.mul_le_mul_of_nonneg_right f.val (Int.le_of_lt h.dpos)
    have := h.le
    grind
  exact Int.le_of_mul_le_mul_right h1 f.pos
theorem Fr.less {n : Nat} {sh p : Int × Int} (f : Fr n sh) (h : Pt sh p) (hd : p.2 < 10 ^ 29) : Fr (n + 1) (low (sh.1 * p.2 - p.1 * sh.2) (sh.2 * p.2)) := by
  have h1 := h.le
  have hb : 0 < sh.2 * p.2 := Int.mul_pos f.pos h.dpos
  obtain ⟨a, b, c, d, _⟩ := low_bd (t := sh.1 * p.2 - p.1 * sh.2) (A := 2 ^ (n + 1)) (C := (10 ^ 29) ^ (n + 1)) (by omega) hb (by
    have h2 : sh.1 * p.2 ≤ 2 ^ n * sh.2 * p.2 := Int.mul_le_mul_of_nonneg_right f.val (Int.le_of_lt h.dpos)
    have h3 : 0 < p.1 * sh.2 := Int.mul_pos h.pos f.pos
    have h4 : 0 < 2 ^ n * (sh.2 * p.2) := Int.mul_pos (two_pow_pos n) hb
    rw [Int.pow_succ]
    grind) (by
    rw [Int.pow_succ]
    have h2 : sh.2 * p.2 ≤ (10 ^ 29) ^ n * p.2 := Int.mul_le_mul_of_nonneg_right f.den (Int.le_of_lt h.dpos)
    have h3 : ((10 : Int) ^ 29) ^ n * p.2 ≤ (10 ^ 29) ^ n * 10 ^ 29 := Int.mul_le_mul_of_nonneg_left (Int.le_of_lt hd) (Int.le_of_lt (den_pos n))
    omega)
  exact ⟨a, b, c, d⟩
theorem Fr.more {n m : Nat} {sh p o : Int × Int} (f : Fr n sh) (h : Pt sh p) (hd : p.2 < 10 ^ 29) (fo : Fr m o) (hm : n ≤ m) : Fr (m + 1) (low (o.1 * p.2 + p.1 * o.2) (o.2 * p.2)) ∧ 0 < (low (o.1 * p.2 + p.1 * o.2) (o.2 * p.2)).1 := by
  have hb : 0 < o.2 * p.2 := Int.mul_pos fo.pos h.dpos
  have hv := h.val (f.mono hm)
  have hp : 0 < p.1 * o.2 := Int.mul_pos h.pos fo.pos
  have h0 : 0 ≤ o.1 * p.2 := Int.mul_nonneg fo.nn (Int.le_of_lt h.dpos)
  obtain ⟨a, b, c, d, e⟩ := low_bd (t := o.1 * p.2 + p.1 * o.2) (A := 2 ^ (m + 1)) (C := (10 ^ 29) ^ (m + 1)) (by omega) hb (by
    have h2 : o.1 * p.2 ≤ 2 ^ m * o.2 * p.2 := Int.mul_le_mul_of_nonneg_right fo.val (Int.le_of_lt h.dpos)
    have h3 : p.1 * o.2 ≤ 2 ^ m * p.2 * o.2 := Int.mul_le_mul_of_nonneg_right hv (Int.le_of_lt fo.pos)
    rw [Int.pow_succ]
    grind) (by
    rw [Int.pow_succ]
    have h2 : o.2 * p.2 ≤ (10 ^ 29) ^ m * p.2 := Int.mul_le_mul_of_nonneg_right fo.den (Int.le_of_lt h.dpos)
    have h3 : ((10 : Int) ^ 29) ^ m * p.2 ≤ (10 ^ 29) ^ m * 10 ^ 29 := Int.mul_le_mul_of_nonneg_left (Int.le_of_lt hd) (Int.le_of_lt (den_pos m))
    omega)
  exact ⟨⟨a, b, c, d⟩, e (by omega)⟩
/-- bounds by bits -/
theorem bits_ok {x : Int} {n : Nat} (h0 : 0 ≤ x) (h : x ≤ 2 ^ n) (hn : n < 9000) : Sm x := by
  unfold Sm
  have h1 : (x.natAbs : Int) ≤ ((2 ^ n : Nat) : Int) := by
    rw [Int.natCast_pow]
    have : (x.natAbs : Int) = x := by omega
    rw [this]
    exact h
  have h2 : x.natAbs ≤ 2 ^ n := by omega
  exact Nat.lt_of_le_of_lt h2 (Nat.pow_lt_pow_right (by decide) hn)
theorem den_bits (n : Nat) : ((10 : Int) ^ 29) ^ n ≤ 2 ^ (97 * n) := by
  induction n with
  | zero => decide
  | succ n ih =>
    rw [Int.pow_succ, show 97 * (n + 1) = 97 * n + 97 from rfl, Int.pow_add]
    have h1 : ((10 : Int) ^ 29) ^ n * 10 ^ 29 ≤ 2 ^ (97 * n) * 10 ^ 29 := Int.mul_le_mul_of_nonneg_right ih (by decide)
    have h2 : (2 : Int) ^ (97 * n) * 10 ^ 29 ≤ 2 ^ (97 * n) * 2 ^ 97 := Int.mul_le_mul_of_nonneg_left (by decide) (Int.le_of_lt (two_pow_pos _))
    omega
theorem Fr.sm2 {n : Nat} {p : Int × Int} (f : Fr n p) : p.2 ≤ 2 ^ (97 * n) := Int.le_trans f.den (den_bits n)
theorem Fr.sm1 {n : Nat} {p : Int × Int} (f : Fr n p) : p.1 ≤ 2 ^ (98 * n) := by
  have h1 : (2 : Int) ^ n * p.2 ≤ 2 ^ n * 2 ^ (97 * n) := Int.mul_le_mul_of_nonneg_left f.sm2 (Int.le_of_lt (two_pow_pos n))
  rw [← Int.pow_add] at h1
  have e : n + 97 * n = 98 * n := by omega
  rw [e] at h1
  exact Int.le_trans f.val h1
end Bv

/-! A purse of a script; numbers, parts drawn. -/
namespace Bv
open PySem L2 PyProof.Rows
theorem pow_i {i j : Int} {F : MH} {Q : Q1} (h : 0 ≤ j ∧ j ≤ 1000000 ∧ i.natAbs < 2 ^ 64) (q : Q (.int (i ^ j.toNat)) F) : powS (.int i) (.int j) F Q := ⟨h, q⟩
def Keep (p : Addr) (F F' : MH) : Prop := ∀ a c, a ≠ p → F a = some c → F' a = some c
theorem Keep.set {F : MH} {p : Addr} {c : Cell} : Keep p F (mset F p c) := fun a d h e => by rw [mset_ne h]; exact e
theorem Keep.trans {p : Addr} {F F' F'' : MH} (h : Keep p F F') (h2 : Keep p F' F'') : Keep p F F'' := fun a c e q => h2 a c e (h a c e q)
theorem Keep.refl {p : Addr} {F : MH} : Keep p F F := fun a c _ q => q
/-- a number drawn -/
def spNumber : Spec := fun vs F Q _ => ∃ p : Addr, vs = [.ref p] ∧ Pur F p ∧ ∀ (r : Int) F', -(10 ^ 20) ≤ r → r ≤ 10 ^ 21 → Pur F' p → Keep p F F' → Q (.int r) F'
theorem w_l_number {Γ : Amb} {r : CallR1 Γ "_law_draw"} (hr : r.sp = spDraw) : ∀ vs F Q E, spNumber vs F Q E → wpB (fun C fs _ F => E C fs F) (c_l_number r) (start1 n_l_number vs) F (fun _ F => Q .non F) Q := by
  rintro vs F Q E ⟨p, rfl, hp, h⟩
  unfold c_l_number
  simp only [wpB, wpS, wpE, wpEs, wpT, wpTs, wpCs, wpP, wpIt, wpBl, bindT, biS, bmS, recS, tyS, truS, start1, List.map, List.length, List.replicate, List.append_nil, List.nil_append, List.cons_append, Nat.sub_self, Nat.reduceSub, Nat.reduceAdd, List.length_cons, List.length_nil, List.getElem?_cons_zero, List.getElem?_cons_succ, List.set_cons_zero, List.set_cons_succ, setAll, wipe1, Tg.slots, binS, subS, mulS, fdivS, modS, powS, cmpS, ltS, isS, isNS, asStrs, asBls, newLs, n_l_number, hr, newLs, CPow]
  refine ⟨by decide, by decide, by rw [sizeLine_eq]; decide, p, 6, rfl, by decide, .of_small (by decide) (by decide), hp, fun r0 a b h0 h1 => ?_⟩
  have step : ∀ m : Int, 0 < m → m ≤ 10 ^ 20 → IntMulOk 2 m ∧ (∃ (p_1 : Addr) (n : Int), [Val.ref p, Val.int (2 * m)] = [Val.ref p_1, Val.int n] ∧ 0 < n ∧ Sm n ∧ Pur (mset F p (.lst [.int a, .int b])) p_1 ∧ ∀ (r a_1 b_1 : Int), 0 ≤ r → r < n →
      DivOk m 3 ∧ Q (.int (r - m.fdiv 3)) (mset (mset F p (.lst [.int a, .int b])) p_1 (.lst [.int a_1, .int b_1]))) := fun m m0 m1 => by
    refine ⟨small_mulL (by decide) (by decide), p, 2 * m, rfl, by omega, ?_, .set, fun r a' b' r0 r1 => ⟨Sm.div (.of_small (by decide) (by decide)) (by decide), ?_⟩⟩
    · refine bits_ok (n := 100) (by omega) ?_ (by decide)
      have : (2 : Int) * 10 ^ 20 ≤ 2 ^ 100 := by decide
      omega
    · rw [mset_mset]
      have e3 : m.fdiv 3 = m / 3 := Int.fdiv_eq_ediv_of_nonneg _ (by decide)
      have e20 : (10 : Int) ^ 20 = 100000000000000000000 := by decide
      have e21 : (10 : Int) ^ 21 = 1000000000000000000000 := by decide
      exact h _ _ (by rw [e3, e20]; omega) (by rw [e3, e21]; omega) .set .set
  have hc : r0 = 0 ∨ r0 = 1 ∨ r0 = 2 ∨ r0 = 3 ∨ r0 = 4 ∨ r0 = 5 := by omega
  rcases hc with rfl | rfl | rfl | rfl | rfl | rfl
  · exact ix_list rfl (by decide) rfl (step 10 (by decide) (by decide))
  · exact ix_list rfl (by decide) rfl (step 10 (by decide) (by decide))
  · exact ix_list rfl (by decide) rfl (step 100 (by decide) (by decide))
  · exact ix_list rfl (by decide) rfl (step 3 (by decide) (by decide))
  · exact ix_list rfl (by decide) rfl (step (10 ^ (6 : Int).toNat) (by decide) (by decide))
  · exact ix_list rfl (by decide) rfl (step (10 ^ (20 : Int).toNat) (by decide) (by decide))
/-- a part drawn of a share -/
def spPart : Spec := fun vs F Q _ => ∃ (p : Addr) (sh : Int × Int) (n : Nat), vs = [.ref p, frP sh] ∧ Pur F p ∧ Fr n sh ∧ 0 < sh.1 ∧ n ≤ 60 ∧ ∀ (pt : Int × Int) F', Pur F' p → Keep p F F' → Pt sh pt → Q (frP pt) F'
theorem w_l_part {Γ : Amb} {rm : CallR1 Γ "_law_made"} {r : CallR1 Γ "_law_draw"} (hm : rm.sp = spMade) (hr : r.sp = spDraw) : ∀ vs F Q E, spPart vs F Q E → wpB (fun C fs _ F => E C fs F) (c_l_part rm r) (start1 n_l_part vs) F (fun _ F => Q .non F) Q := by
  rintro vs F Q E ⟨p, ⟨t, b⟩, n, rfl, hp, fr, ht, hn, h⟩
  unfold c_l_part
  simp only [wpB, wpS, wpE, wpEs, wpT, wpTs, wpCs, wpP, wpIt, wpBl, bindT, biS, bmS, recS, tyS, truS, start1, List.map, List.length, List.replicate, List.append_nil, List.nil_append, List.cons_append, Nat.sub_self, Nat.reduceSub, Nat.reduceAdd, List.length_cons, List.length_nil, List.getElem?_cons_zero, List.getElem?_cons_succ, List.set_cons_zero, List.set_cons_succ, setAll, wipe1, Tg.slots, binS, subS, mulS, fdivS, modS, powS, cmpS, ltS, isS, isNS, asStrs, asBls, newLs, n_l_part, hr, hm, newLs, CPow]
  refine ⟨p, 5, rfl, by decide, .of_small (by decide) (by decide), hp, fun r0 a b0 h0 h1 => ?_⟩
  refine eqS_int ?_
  cases hz : (r0 == 0)
  · have hr0 : r0 ≠ 0 := by simpa using hz
    simp only [wpB, wpS, wpE, wpEs, wpT, wpTs, wpCs, wpP, wpIt, wpBl, bindT, biS, bmS, recS, tyS, truS, start1, List.map, List.length, List.replicate, List.append_nil, List.nil_append, List.cons_append, Nat.sub_self, Nat.reduceSub, Nat.reduceAdd, List.length_cons, List.length_nil, List.getElem?_cons_zero, List.getElem?_cons_succ, List.set_cons_zero, List.set_cons_succ, setAll, wipe1, Tg.slots, binS, subS, mulS, fdivS, modS, powS, cmpS, ltS, isS, isNS, asStrs, asBls, newLs]
    refine ⟨by decide, by rw [sizeLine_eq]; decide, ?_⟩
    have step : ∀ m : Int, 2 ≤ m → m ≤ 10 ^ 6 → ixS (frP (t, b)) (.int 0) (mset F p (.lst [.int a, .int b0])) fun x F1 =>
        ∃ (p_1 : Addr) (n : Int), [Val.ref p, Val.int (m - 1)] = [Val.ref p_1, Val.int n] ∧ 0 < n ∧ Sm n ∧ Pur F1 p_1 ∧ ∀ (r a b_1 : Int), 0 ≤ r → r < n →
          addS (.int 1) (.int r) (mset F1 p_1 (.lst [.int a, .int b_1])) fun y F2 =>
            (match x, y, F2, fun x F1 => ixS (frP (t, b)) (.int 1) F1 fun x_1 F2 => (match x_1, Val.int m, F2, fun x_2 F1 => spMade [x, x_2] F1 Q fun C fs F2 => E C fs F2 with
              | .int i, .int j, F, Q => IntMulOk i j ∧ Q (.int (i * j)) F
              | .lst xs, .int k, F, Q => -(2 ^ 63) ≤ k ∧ k < 2 ^ 63 ∧ xs.length * k.toNat ≤ sizeLine ∧ Q (.lst (List.replicate k.toNat xs).flatten) F
              | .str x, .int k, F, Q => -(2 ^ 63) ≤ k ∧ k ≤ 1 ∧ Q (.str (if k < 1 then Str.empty else x)) F
              | _, _, _, _ => False) with
              | .int i, .int j, F, Q => IntMulOk i j ∧ Q (.int (i * j)) F
              | .lst xs, .int k, F, Q => -(2 ^ 63) ≤ k ∧ k < 2 ^ 63 ∧ xs.length * k.toNat ≤ sizeLine ∧ Q (.lst (List.replicate k.toNat xs).flatten) F
              | .str x, .int k, F, Q => -(2 ^ 63) ≤ k ∧ k ≤ 1 ∧ Q (.str (if k < 1 then Str.empty else x)) F
              | _, _, _, _ => False) := fun m m0 m1 => by
      refine ix_tup (by decide) rfl ⟨p, m - 1, rfl, by omega, .of_small (by omega) (by omega), .set, fun r a' b' k0 k1 => ?_⟩
      show _ ∧ ixS _ _ _ _
      refine ⟨small_mul (by omega) (by omega), ix_tup (by decide) rfl ?_⟩
      show _ ∧ spMade _ _ _ _
      have hb := fr.pos
      have hbm : 0 < b * m := Int.mul_pos hb (by omega)
      refine ⟨small_mul (by omega) (by omega), _, _, rfl, hbm, ?_, ?_⟩
      · refine bits_ok (n := 97 * n + 20) (Int.le_of_lt hbm) ?_ (by omega)
        have h1 : b * m ≤ 2 ^ (97 * n) * m := Int.mul_le_mul_of_nonneg_right fr.sm2 (by omega)
        have h2 : (2 : Int) ^ (97 * n) * m ≤ 2 ^ (97 * n) * 2 ^ 20 := Int.mul_le_mul_of_nonneg_left (by omega) (Int.le_of_lt (two_pow_pos _))
        rw [Int.pow_add]
        exact Int.le_trans h1 h2
      · refine h _ _ (by rw [mset_mset]; exact .set) (by rw [mset_mset]; exact .set) ?_
        have ht1 : 0 < t * (1 + r) := Int.mul_pos ht (by omega)
        obtain ⟨g, hg, e1, e2⟩ := low_eq (t := t * (1 + r)) hbm
        generalize (low (t * (1 + r)) (b * m)) = q at *
        obtain ⟨x, y⟩ := q
        simp only at e1 e2
        have hx : 0 < x := Int.pos_of_mul_pos_left (by rw [← e1]; exact ht1) hg
        have hy : 0 < y := Int.pos_of_mul_pos_left (by rw [← e2]; exact hbm) hg
        refine ⟨hx, hy, ?_⟩
        show x * b ≤ t * y
        have h1 : t * (1 + r) * b ≤ t * (b * m) := by
          have h2 : (t * b) * (1 + r) ≤ (t * b) * m := Int.mul_le_mul_of_nonneg_left (by omega) (Int.le_of_lt (Int.mul_pos ht hb))
          grind
        have h3 : (x * b) * g ≤ (t * y) * g := by
          rw [e1, e2] at h1
          grind
        exact Int.le_of_mul_le_mul_right h3 hg
    have hc : r0 - 1 = 0 ∨ r0 - 1 = 1 ∨ r0 - 1 = 2 ∨ r0 - 1 = 3 := by omega
    rcases hc with e | e | e | e <;> rw [e]
    · exact ix_list rfl (by decide) rfl (step 2 (by decide) (by decide))
    · exact ix_list rfl (by decide) rfl (step 3 (by decide) (by decide))
    · exact ix_list rfl (by decide) rfl (step 7 (by decide) (by decide))
    · exact ix_list rfl (by decide) rfl (step (10 ^ (6 : Int).toNat) (by decide) (by decide))
  · simp only [wpB, wpS, wpE, wpEs, wpT, wpTs, wpCs, wpP, wpIt, wpBl, bindT, biS, bmS, recS, tyS, truS, start1, List.map, List.length, List.replicate, List.append_nil, List.nil_append, List.cons_append, Nat.sub_self, Nat.reduceSub, Nat.reduceAdd, List.length_cons, List.length_nil, List.getElem?_cons_zero, List.getElem?_cons_succ, List.set_cons_zero, List.set_cons_succ, setAll, wipe1, Tg.slots, binS, subS, mulS, fdivS, modS, powS, cmpS, ltS, isS, isNS, asStrs, asBls, newLs]
    exact h (t, b) _ .set .set ⟨ht, fr.pos, Int.le_refl _⟩
end Bv

/-! The purse of a script. -/
namespace Bv
open PySem L2 PyProof.Rows
theorem cut_map {α β : Type} (f : α → β) (xs : List α) (lo hi : Option Int) : cut (xs.map f) lo hi = (cut xs lo hi).map f := by
  unfold cut
  rw [List.length_map, List.map_take, List.map_drop]
theorem mem_cut {α : Type} {xs : List α} {lo hi : Option Int} {x : α} (h : x ∈ cut xs lo hi) : x ∈ xs := List.mem_of_mem_drop (List.mem_of_mem_take h)
theorem len_cut {α : Type} {xs : List α} {lo hi : Option Int} : (cut xs lo hi).length ≤ xs.length := by
  unfold cut
  rw [List.length_take, List.length_drop]
  omega
theorem int_get {cs : List Int} {r : Int} (h0 : 0 ≤ r) (h1 : r < cs.length) : ∃ c ∈ cs, (cs.map Val.int)[r.toNat]? = some (.int c) := by
  have : r.toNat < cs.length := by omega
  exact ⟨cs[r.toNat], List.getElem_mem _, by rw [List.getElem?_map, List.getElem?_eq_getElem this]; rfl⟩
theorem sl_list {v : Val} {vs : List Val} {lo hi : Option Int} {F : MH} {Q : Q1} (e : lsOf F v = some vs) (q : Q (.lst (cut vs lo hi)) F) : slS v lo hi F Q := by
  cases v with
  | lst ws => cases e; exact q
  | ref p => simp only [slS, e]; exact q
  | _ => cases e
theorem w_l_purse {Γ : Amb} {r : CallR1 Γ "_law_mixed"} (hr : r.sp = spMixed) : ∀ vs F Q E, spPurse vs F Q E → wpB (fun C fs _ F => E C fs F) (c_l_purse r) (start1 n_l_purse vs) F (fun _ F => Q .non F) Q := by
  rintro vs F Q E ⟨v0, ns, rfl, hv0, hl, hb, h⟩
  unfold c_l_purse
  simp only [wpB, wpS, wpE, wpEs, wpT, wpTs, wpCs, wpP, wpIt, wpBl, bindT, biS, bmS, recS, tyS, truS, start1, List.map, List.length, List.replicate, List.append_nil, List.nil_append, List.cons_append, Nat.sub_self, Nat.reduceSub, Nat.reduceAdd, List.length_cons, List.length_nil, List.getElem?_cons_zero, List.getElem?_cons_succ, List.set_cons_zero, List.set_cons_succ, setAll, wipe1, Tg.slots, binS, subS, mulS, fdivS, modS, powS, cmpS, ltS, isS, isNS, asStrs, asBls, newLs, n_l_purse, newLs, CPow, hr]
  refine sl_list hv0 ?_
  simp only [lsOf, addS]
  rw [cut_map]
  have hcs : (cut ns none (some 63)).map Val.int ++ [Val.int 0] = (cut ns none (some 63) ++ [0]).map Val.int := by rw [List.map_append]; rfl
  rw [hcs]
  have hbc : ∀ z ∈ cut ns none (some 63) ++ [0], Builtin.Int.intBits z ≤ 2 ^ 20 := fun z hz => by
    rcases List.mem_append.mp hz with e | e
    · exact hb z (mem_cut e)
    · rw [List.mem_singleton.mp e]; decide
  have hpos : 0 < (cut ns none (some 63) ++ [0]).length := by rw [List.length_append]; simp
  have hlen : (cut ns none (some 63) ++ [0]).length ≤ 64 := by
    have := len_cut (xs := ns) (lo := none) (hi := some 63)
    rw [List.length_append]
    simp only [List.length_cons, List.length_nil]
    omega
  have hle : (List.map Val.int (cut ns none (some 63))).length + 1 ≤ sizeLine := by
    have := len_cut (xs := ns) (lo := none) (hi := some 63)
    rw [List.length_map, sizeLine_eq]
    omega
  generalize hcs2 : cut ns none (some 63) ++ [0] = cs at *
  refine ⟨by rw [sizeLine_eq]; decide, hle, by decide, by decide, ?_⟩
  refine forGo_inv (fun i σ F1 => ∃ (n : Int) (k : Option Val), σ = [some v0, some (.lst (cs.map .int)), some (.int n), k] ∧ F1 = F) (fun i σ F h => trivial) ?_ ?_ ⟨1, none, rfl, rfl⟩
  · rintro i x σ F1 k hx ⟨n, kk, rfl, rfl⟩ hk
    unfold rngV at hx
    rw [List.getElem?_map] at hx
    obtain ⟨j, hj, rfl⟩ := Option.map_eq_some_iff.mp hx
    obtain ⟨hj1, hj2⟩ := List.getElem?_eq_some_iff.mp hj
    rw [List.getElem_range] at hj2
    subst hj2
    rw [List.length_range] at hj1
    have hj1 : i < 64 := hj1
    simp only [wpB, wpS, wpE, wpEs, wpT, wpTs, wpCs, wpP, wpIt, wpBl, bindT, biS, bmS, recS, tyS, truS, start1, List.map, List.length, List.replicate, List.append_nil, List.nil_append, List.cons_append, Nat.sub_self, Nat.reduceSub, Nat.reduceAdd, List.length_cons, List.length_nil, List.getElem?_cons_zero, List.getElem?_cons_succ, List.set_cons_zero, List.set_cons_succ, setAll, wipe1, Tg.slots, binS, subS, mulS, fdivS, modS, powS, cmpS, ltS, isS, isNS, asStrs, asBls, newLs, lenS, lsOf]
    rw [List.length_map]
    refine ⟨small_mul (by decide) (by decide), by omega, ?_⟩
    have r1 : 0 ≤ ((0 : Int) + (i : Int)).fmod (cs.length : Int) := Int.fmod_nonneg_of_pos _ (by omega)
    have r2 : ((0 : Int) + (i : Int)).fmod (cs.length : Int) < cs.length := Int.fmod_lt_of_pos _ (by omega)
    obtain ⟨c, hc, hg⟩ := int_get r1 r2
    refine ix_list rfl r1 hg ⟨c, _, rfl, hbc c hc, by omega, by omega, fun v => ?_⟩
    exact hk _ _ ⟨_, _, rfl, rfl⟩
  · rintro σ F1 ⟨n, kk, rfl, rfl⟩
    simp only [wpB, wpS, wpE, wpEs, wpT, wpTs, wpCs, wpP, wpIt, wpBl, bindT, biS, bmS, recS, tyS, truS, start1, List.map, List.length, List.replicate, List.append_nil, List.nil_append, List.cons_append, Nat.sub_self, Nat.reduceSub, Nat.reduceAdd, List.length_cons, List.length_nil, List.getElem?_cons_zero, List.getElem?_cons_succ, List.set_cons_zero, List.set_cons_succ, setAll, wipe1, Tg.slots, binS, subS, mulS, fdivS, modS, powS, cmpS, ltS, isS, isNS, asStrs, asBls, newLs, lsOf]
    obtain ⟨c, hc, hg⟩ := int_get (cs := cs) (r := 0) (by decide) (by omega)
    refine ix_list rfl (by decide) hg ?_
    simp only [wpB, wpS, wpE, wpEs, wpT, wpTs, wpCs, wpP, wpIt, wpBl, bindT, biS, bmS, recS, tyS, truS, start1, List.map, List.length, List.replicate, List.append_nil, List.nil_append, List.cons_append, Nat.sub_self, Nat.reduceSub, Nat.reduceAdd, List.length_cons, List.length_nil, List.getElem?_cons_zero, List.getElem?_cons_succ, List.set_cons_zero, List.set_cons_succ, setAll, wipe1, Tg.slots, binS, subS, mulS, fdivS, modS, powS, cmpS, ltS, isS, isNS, asStrs, asBls, newLs]
    refine ⟨by decide, ?_⟩
    generalize hB : decide ((_ : Int) ≤ _) = B
    cases B
    rotate_left
    · simp only [wpB, wpS, wpE, wpEs, wpT, wpTs, wpCs, wpP, wpIt, wpBl, bindT, biS, bmS, recS, tyS, truS, start1, List.map, List.length, List.replicate, List.append_nil, List.nil_append, List.cons_append, Nat.sub_self, Nat.reduceSub, Nat.reduceAdd, List.length_cons, List.length_nil, List.getElem?_cons_zero, List.getElem?_cons_succ, List.set_cons_zero, List.set_cons_succ, setAll, wipe1, Tg.slots, binS, subS, mulS, fdivS, modS, powS, cmpS, ltS, isS, isNS, asStrs, asBls, newLs]
      refine ix_list rfl (by decide) hg ?_
      simp only [wpB, wpS, wpE, wpEs, wpT, wpTs, wpCs, wpP, wpIt, wpBl, bindT, biS, bmS, recS, tyS, truS, start1, List.map, List.length, List.replicate, List.append_nil, List.nil_append, List.cons_append, Nat.sub_self, Nat.reduceSub, Nat.reduceAdd, List.length_cons, List.length_nil, List.getElem?_cons_zero, List.getElem?_cons_succ, List.set_cons_zero, List.set_cons_succ, setAll, wipe1, Tg.slots, binS, subS, mulS, fdivS, modS, powS, cmpS, ltS, isS, isNS, asStrs, asBls, newLs]
      exact ⟨by rw [sizeLine_eq]; decide, fun p hp => h p _ _ hp⟩
    · simp only [wpB, wpS, wpE, wpEs, wpT, wpTs, wpCs, wpP, wpIt, wpBl, bindT, biS, bmS, recS, tyS, truS, start1, List.map, List.length, List.replicate, List.append_nil, List.nil_append, List.cons_append, Nat.sub_self, Nat.reduceSub, Nat.reduceAdd, List.length_cons, List.length_nil, List.getElem?_cons_zero, List.getElem?_cons_succ, List.set_cons_zero, List.set_cons_succ, setAll, wipe1, Tg.slots, binS, subS, mulS, fdivS, modS, powS, cmpS, ltS, isS, isNS, asStrs, asBls, newLs]
      exact ⟨by rw [sizeLine_eq]; decide, fun p hp => h p _ _ hp⟩
end Bv

/-! The names: what they are made of. -/
namespace Bv
open PySem L2 PyProof.Rows
def abc : Str := "abcdefghijklmnopqrstuvwxyz"
/-- a holder's name -/
structure Name (x : Str) : Prop where
  pos : 0 < x.length
  le : x.length ≤ 8
  ok : ∀ c ∈ x.cps.toList, c ∈ abc.cps.toList
theorem abc_get {r : Int} (h0 : 0 ≤ r) (h1 : r < 26) : abc.cps.toList[r.toNat]? = some (97 + r.toNat) := by
  have : ∀ n : Fin 26, abc.cps.toList[n.1]? = some (97 + n.1) := by decide +kernel
  exact this ⟨r.toNat, by omega⟩
theorem abc_mem {n : Nat} (h : n < 26) : 97 + n ∈ abc.cps.toList := by
  have h1 := abc_get (r := (n : Int)) (by omega) (by omega)
  have h2 := List.mem_of_getElem? h1
  simpa using h2
def ch (s : Int) : Nat := 97 + (s.fmod 26).toNat
theorem ch_mem (s : Int) : ch s ∈ abc.cps.toList := abc_mem (by
  have h1 := Int.fmod_nonneg_of_pos s (b := 26) (by decide)
  have h2 := Int.fmod_lt_of_pos s (b := 26) (by decide)
  omega)
def spot (st : List Int) (a : Int) (k j : Nat) : Int := (st[j]?).getD 0 + 5 * (k : Int) * (if ((j : Int) == a) = true then 1 else 0)
def chars (st : List Int) (a : Int) (k : Nat) : List Nat := (List.range st.length).map fun j => ch (spot st a k j)
def nameOf (st : List Int) (a : Int) (sfx : Nat → List Nat) (k : Nat) : Str := ⟨(chars st a k ++ sfx k).toArray⟩
theorem chars_len (st : List Int) (a : Int) (k : Nat) : (chars st a k).length = st.length := by simp [chars]
theorem nameOf_name {st : List Int} {a : Int} {sfx : Nat → List Nat} (h1 : 0 < st.length) (h2 : st.length ≤ 7) (hs : ∀ k, sfx k = [] ∨ sfx k = [120]) (k : Nat) : Name (nameOf st a sfx k) := by
  have hl := chars_len st a k
  refine ⟨?_, ?_, fun c hc => ?_⟩
  · show 0 < (chars st a k ++ sfx k).toArray.size
    simp; omega
  · show (chars st a k ++ sfx k).toArray.size ≤ 8
    rcases hs k with e | e <;> rw [e] <;> simp <;> omega
  · have hc : c ∈ chars st a k ++ sfx k := by simpa [nameOf] using hc
    rcases List.mem_append.mp hc with e | e
    · unfold chars at e
      obtain ⟨j, _, rfl⟩ := List.mem_map.mp e
      exact ch_mem _
    · rcases hs k with q | q <;> rw [q] at e
      · cases e
      · rw [List.mem_singleton.mp e]; decide +kernel
theorem nameOf_inj {st : List Int} {a : Int} {sfx : Nat → List Nat} (ha : 0 ≤ a) (ha2 : a < st.length) {k l : Nat} (hk : k < 26) (hl : l < 26) (e : nameOf st a sfx k = nameOf st a sfx l) : k = l := by
  have e1 : (chars st a k ++ sfx k).toArray = (chars st a l ++ sfx l).toArray := congrArg Str.cps e
  have e2 := congrArg Array.toList e1
  simp only at e2
  have e3 := (List.append_inj e2 (by rw [chars_len, chars_len])).1
  have e4 := congrArg (·[a.toNat]?) e3
  simp only [chars, List.getElem?_map] at e4
  rw [List.getElem?_range (by omega)] at e4
  simp only [Option.map_some, Option.some.injEq] at e4
  unfold ch spot at e4
  have e5 : (((a.toNat : Nat) : Int) == a) = true := by simp; omega
  rw [e5] at e4
  generalize (st[a.toNat]?).getD 0 = z at e4
  rw [if_pos rfl, Int.fmod_eq_emod_of_nonneg _ (by decide), Int.fmod_eq_emod_of_nonneg _ (by decide)] at e4
  omega
theorem names_nodup {st : List Int} {a : Int} {sfx : Nat → List Nat} (ha : 0 ≤ a) (ha2 : a < st.length) {n : Nat} (hn : n ≤ 26) : ((List.range n).map (nameOf st a sfx)).Nodup := by
  rw [List.nodup_iff_pairwise_ne, List.pairwise_map]
  refine (List.nodup_iff_pairwise_ne.mp List.nodup_range).imp_of_mem fun {k l} hk hl hne e => ?_
  rw [List.mem_range] at hk hl
  exact hne (nameOf_inj ha ha2 (by omega) (by omega) e)
open TL in
theorem joinL_chars : ∀ (cs : List Nat), joinL [] (cs.map fun c => [c]) = cs
  | [] => rfl
  | [c] => rfl
  | c :: d :: r => by
    have := joinL_chars (d :: r)
    show [c] ++ ([] ++ joinL [] ((d :: r).map fun c => [c])) = _
    rw [this]
    rfl
open TL in
theorem join_chars (cs : List Nat) : Txt.join Str.empty (cs.map fun c => (⟨#[c]⟩ : Str)) = ⟨cs.toArray⟩ := by
  rw [join_eq]
  apply ext_tl
  rw [tl_join]
  have e : (cs.map fun c => (⟨#[c]⟩ : Str)).map tl = cs.map fun c => [c] := by rw [List.map_map]; rfl
  rw [e]
  exact joinL_chars cs
theorem sum_ones : ∀ (l : List Nat), ((l.map fun c => (⟨#[c]⟩ : Str)).map fun x => x.length).sum = l.length
  | [] => rfl
  | c :: l => by
    rw [List.map_cons, List.map_cons, List.sum_cons, sum_ones l, List.length_cons]
    show 1 + l.length = _
    omega
def spNames : Spec := fun vs F Q _ => ∃ (p : Addr) (n : Nat), vs = [.ref p, .int n] ∧ n ≤ 20 ∧ Pur F p ∧ ∀ (names : List Str) F', names.length = n → names.Nodup → (∀ x ∈ names, Name x) → Pur F' p → Keep p F F' → Q (.lst (names.map .str)) F'
theorem range_item {lo : Int} {n i : Nat} {x : Val} (h : (rngV lo n)[i]? = some x) : x = .int (lo + i) ∧ i < n := by
  unfold rngV at h
  rw [List.getElem?_map] at h
  obtain ⟨j, hj, rfl⟩ := Option.map_eq_some_iff.mp h
  obtain ⟨hj1, hj2⟩ := List.getElem?_eq_some_iff.mp hj
  rw [List.getElem_range] at hj2
  rw [List.length_range] at hj1
  subst hj2
  exact ⟨rfl, hj1⟩
theorem range_item0 {n i : Nat} {x : Val} (h : (rngV 0 n)[i]? = some x) : x = .int i ∧ i < n := by
  obtain ⟨h1, h2⟩ := range_item h
  rw [Int.zero_add] at h1
  exact ⟨h1, h2⟩
theorem range_succ_map {α : Type} (f : Nat → α) (i : Nat) : (List.range (i + 1)).map f = (List.range i).map f ++ [f i] := by
  rw [List.range_succ, List.map_append]; rfl
theorem add_int {i j : Int} {F : MH} {Q : Q1} (h : Q (.int (i + j)) F) : addS (.int i) (.int j) F Q := h
theorem rng_len {lo : Int} {n : Nat} : (rngV lo n).length = n := by unfold rngV; simp
theorem Keep.none {p q : Addr} {F F' : MH} (h : Keep p F F') (hq : F' q = Option.none) (hp : q ≠ p) : F q = Option.none := by
  cases e : F q with
  | none => rfl
  | some c => rw [h q c hp e] at hq; cases hq
theorem Pur.ne {F : MH} {p q : Addr} (h : Pur F p) (hq : F q = none) : q ≠ p := by
  rintro rfl
  obtain ⟨a, b, e⟩ := h
  rw [hq] at e
  cases e
theorem w_l_names {Γ : Amb} {r : CallR1 Γ "_law_draw"} (hr : r.sp = spDraw) : ∀ vs F Q E, spNames vs F Q E → wpB (fun C fs _ F => E C fs F) (c_l_names r) (start1 n_l_names vs) F (fun _ F => Q .non F) Q := by
  rintro vs F Q E ⟨p, n, rfl, hn, hp, h⟩
  unfold c_l_names
  simp only [wpB, wpS, wpE, wpEs, wpT, wpTs, wpCs, wpP, wpIt, wpBl, bindT, biS, bmS, recS, tyS, truS, start1, List.map, List.length, List.replicate, List.append_nil, List.nil_append, List.cons_append, Nat.sub_self, Nat.reduceSub, Nat.reduceAdd, List.length_cons, List.length_nil, List.getElem?_cons_zero, List.getElem?_cons_succ, List.set_cons_zero, List.set_cons_succ, setAll, wipe1, Tg.slots, binS, subS, mulS, fdivS, modS, powS, cmpS, ltS, isS, isNS, asStrs, asBls, newLs, n_l_names, hr, addS]
  refine ⟨p, 7, rfl, by decide, .of_small (by decide) (by decide), hp, fun lg a b l0 l1 => ⟨by omega, by omega, ?_⟩⟩
  obtain ⟨L, rfl⟩ := Int.eq_ofNat_of_zero_le l0
  have hL : (1 + (L : Int)).toNat = L + 1 := by omega
  rw [hL]
  -- the stem
  refine lcGo_inv (fun i acc F1 => ∃ st : List Int, acc = st.map .int ∧ st.length = i ∧ Pur F1 p ∧ Keep p F F1) (by rw [rng_len, sizeLine_eq]; omega) (fun _ _ _ _ => trivial) ?_ ?_ ⟨[], rfl, rfl, .set, .set⟩
  · rintro i x acc F1 k hx ⟨st, rfl, rfl, h1, h2⟩ hk _
    obtain ⟨rfl, hi⟩ := range_item hx
    try simp only [wpB, wpS, wpE, wpEs, wpT, wpTs, wpCs, wpP, wpIt, wpBl, bindT, biS, bmS, recS, tyS, truS, start1, List.map, List.length, List.replicate, List.append_nil, List.nil_append, List.cons_append, Nat.sub_self, Nat.reduceSub, Nat.reduceAdd, List.length_cons, List.length_nil, List.getElem?_cons_zero, List.getElem?_cons_succ, List.set_cons_zero, List.set_cons_succ, setAll, wipe1, Tg.slots, binS, subS, mulS, fdivS, modS, powS, cmpS, ltS, isS, isNS, asStrs, asBls, newLs]
    refine ⟨p, 26, rfl, by decide, .of_small (by decide) (by decide), h1, fun v a b _ _ => ?_⟩
    exact hk _ _ ⟨st ++ [v], by rw [List.map_append]; rfl, by simp, .set, h2.trans .set⟩
  · rintro acc F1 ⟨st, rfl, hst, h1, h2⟩
    rw [rng_len] at hst
    show spDraw _ _ _ _
    refine ⟨p, _, rfl, by omega, .of_small (by omega) (by omega), h1, fun at_ a b a0 a1 => ⟨by rw [sizeLine_eq]; decide, ?_⟩⟩
    intro q hq
    have hqp : q ≠ p := Pur.ne .set hq
    have hq1 : F1 q = none := by rw [mset_ne hqp] at hq; exact hq
    generalize hF2 : mset F1 p (.lst [.int a, .int b]) = F2 at *
    have p2 : Pur F2 p := by rw [← hF2]; exact .set
    have k2 : Keep p F F2 := h2.trans (by rw [← hF2]; exact .set)
    have hat : at_ < st.length := by omega
    refine ⟨by omega, by omega, ?_⟩
    rw [Int.toNat_natCast]
    refine forGo_inv (fun i σ F3 => ∃ s7 s8 : Option Val, σ = [some (.ref p), some (.int n), some (.str abc), some (.int (1 + L)), some (.lst (st.map .int)), some (.int at_), some (.ref q), s7, s8, none, none, none] ∧
      F3 = mset F2 q (.lst (((List.range i).map (nameOf st at_ fun _ => [])).map .str))) (fun _ _ _ _ => trivial) ?_ ?_ ⟨none, none, rfl, rfl⟩
    · rintro i x σ F3 k hx ⟨s7, s8, rfl, rfl⟩ hk
      obtain ⟨rfl, hi⟩ := range_item0 hx
      try simp only [wpB, wpS, wpE, wpEs, wpT, wpTs, wpCs, wpP, wpIt, wpBl, bindT, biS, bmS, recS, tyS, truS, start1, List.map, List.length, List.replicate, List.append_nil, List.nil_append, List.cons_append, Nat.sub_self, Nat.reduceSub, Nat.reduceAdd, List.length_cons, List.length_nil, List.getElem?_cons_zero, List.getElem?_cons_succ, List.set_cons_zero, List.set_cons_succ, setAll, wipe1, Tg.slots, binS, subS, mulS, fdivS, modS, powS, cmpS, ltS, isS, isNS, asStrs, asBls, newLs]
      refine ⟨by omega, by omega, ?_⟩
      rw [hL]
      generalize hF4 : mset F2 q (.lst (((List.range i).map (nameOf st at_ fun _ => [])).map .str)) = F4
      have hF4q : F4 q = some (.lst (((List.range i).map (nameOf st at_ fun _ => [])).map .str)) := by rw [← hF4, mset_same]
      refine lcGo_inv (fun j acc F5 => acc = ((List.range j).map (spot st at_ i)).map .int ∧ F5 = F4) (by rw [rng_len, sizeLine_eq]; omega) (fun _ _ _ _ => trivial) ?_ ?_ ⟨rfl, rfl⟩
      · rintro j y acc F5 k2 hy ⟨rfl, rfl⟩ hk2 _
        obtain ⟨rfl, hj⟩ := range_item0 hy
        try simp only [wpB, wpS, wpE, wpEs, wpT, wpTs, wpCs, wpP, wpIt, wpBl, bindT, biS, bmS, recS, tyS, truS, start1, List.map, List.length, List.replicate, List.append_nil, List.nil_append, List.cons_append, Nat.sub_self, Nat.reduceSub, Nat.reduceAdd, List.length_cons, List.length_nil, List.getElem?_cons_zero, List.getElem?_cons_succ, List.set_cons_zero, List.set_cons_succ, setAll, wipe1, Tg.slots, binS, subS, mulS, fdivS, modS, powS, cmpS, ltS, isS, isNS, asStrs, asBls, newLs]
        have hg : (st.map Val.int)[((j : Nat) : Int).toNat]? = some (.int ((st[j]?).getD 0)) := by
          rw [Int.toNat_natCast, List.getElem?_map, List.getElem?_eq_getElem (by omega)]; rfl
        refine ix_list rfl (by omega) hg ?_
        refine ⟨small_mulL (by decide) (by decide), eqS_int ⟨?_, hk2 _ _ ⟨?_, rfl⟩⟩⟩
        · exact small_mul (by split <;> decide) (by split <;> decide)
        · rw [range_succ_map, List.map_append]; rfl
      · rintro acc F5 ⟨rfl, rfl⟩
        rw [rng_len]
        try simp only [wpB, wpS, wpE, wpEs, wpT, wpTs, wpCs, wpP, wpIt, wpBl, bindT, biS, bmS, recS, tyS, truS, start1, List.map, List.length, List.replicate, List.append_nil, List.nil_append, List.cons_append, Nat.sub_self, Nat.reduceSub, Nat.reduceAdd, List.length_cons, List.length_nil, List.getElem?_cons_zero, List.getElem?_cons_succ, List.set_cons_zero, List.set_cons_succ, setAll, wipe1, Tg.slots, binS, subS, mulS, fdivS, modS, powS, cmpS, ltS, isS, isNS, asStrs, asBls, newLs]
        refine ⟨⟨q, _, rfl, hF4q⟩, ⟨_, rfl⟩, ?_⟩
        simp only [lsOf]
        refine lcGo_inv (fun j acc F6 => acc = (((List.range j).map fun j => ch (spot st at_ i j)).map fun c => (⟨#[c]⟩ : Str)).map .str ∧ F6 = F5) (by rw [List.length_map, List.length_map, List.length_range, sizeLine_eq]; omega) (fun _ _ _ _ => trivial) ?_ ?_ ⟨rfl, rfl⟩
        · rintro j y acc F6 k2 hy ⟨rfl, rfl⟩ hk2 _
          rw [List.getElem?_map, List.getElem?_map] at hy
          obtain ⟨z, hz, rfl⟩ := Option.map_eq_some_iff.mp hy
          obtain ⟨j', hj', rfl⟩ := Option.map_eq_some_iff.mp hz
          obtain ⟨hj1, hj2⟩ := List.getElem?_eq_some_iff.mp hj'
          rw [List.getElem_range] at hj2
          subst hj2
          try simp only [wpB, wpS, wpE, wpEs, wpT, wpTs, wpCs, wpP, wpIt, wpBl, bindT, biS, bmS, recS, tyS, truS, start1, List.map, List.length, List.replicate, List.append_nil, List.nil_append, List.cons_append, Nat.sub_self, Nat.reduceSub, Nat.reduceAdd, List.length_cons, List.length_nil, List.getElem?_cons_zero, List.getElem?_cons_succ, List.set_cons_zero, List.set_cons_succ, setAll, wipe1, Tg.slots, binS, subS, mulS, fdivS, modS, powS, cmpS, ltS, isS, isNS, asStrs, asBls, newLs]
          refine ⟨by decide, ?_⟩
          have r1 := Int.fmod_nonneg_of_pos (spot st at_ i j) (b := 26) (by decide)
          have r2 := Int.fmod_lt_of_pos (spot st at_ i j) (b := 26) (by decide)
          have e := atI_get r1 (abc_get r1 r2)
          simp only [ixS, e]
          refine ⟨by rw [sizeLine_eq]; decide, hk2 _ _ ⟨?_, rfl⟩⟩
          rw [range_succ_map, List.map_append, List.map_append]; rfl
        · rintro acc F6 ⟨rfl, rfl⟩
          try simp only [wpB, wpS, wpE, wpEs, wpT, wpTs, wpCs, wpP, wpIt, wpBl, bindT, biS, bmS, recS, tyS, truS, start1, List.map, List.length, List.replicate, List.append_nil, List.nil_append, List.cons_append, Nat.sub_self, Nat.reduceSub, Nat.reduceAdd, List.length_cons, List.length_nil, List.getElem?_cons_zero, List.getElem?_cons_succ, List.set_cons_zero, List.set_cons_succ, setAll, wipe1, Tg.slots, binS, subS, mulS, fdivS, modS, powS, cmpS, ltS, isS, isNS, asStrs, asBls, newLs, lsOf, asStrs_map, hF4q]
          have hcl : (List.map Val.int (List.map (spot st at_ i) (List.range (L + 1)))).length = st.length := by simp [hst]
          rw [hcl]
          refine ⟨?_, ?_, hk _ _ ⟨_, _, rfl, ?_⟩⟩
          · rw [sum_ones]
            simp only [List.length_map, List.length_range]
            rw [hst]
            have : (Str.ofString "").length = 0 := rfl
            rw [this]
            omega
          · simp only [List.length_map, List.length_range]
            rw [sizeLine_eq]
            omega
          · rw [← hF4, mset_mset, range_succ_map, List.map_append]
            have e1 : (Str.ofString "" : Str) = Str.empty := rfl
            rw [e1, join_chars]
            have e2 : nameOf st at_ (fun _ => []) i = ⟨((List.range st.length).map fun j => ch (spot st at_ i j)).toArray⟩ := by
              unfold nameOf chars
              rw [List.append_nil]
            rw [← e2]
            rfl
    · rintro σ F3 ⟨s7, s8, rfl, rfl⟩
      rw [rng_len]
      try simp only [wpB, wpS, wpE, wpEs, wpT, wpTs, wpCs, wpP, wpIt, wpBl, bindT, biS, bmS, recS, tyS, truS, start1, List.map, List.length, List.replicate, List.append_nil, List.nil_append, List.cons_append, Nat.sub_self, Nat.reduceSub, Nat.reduceAdd, List.length_cons, List.length_nil, List.getElem?_cons_zero, List.getElem?_cons_succ, List.set_cons_zero, List.set_cons_succ, setAll, wipe1, Tg.slots, binS, subS, mulS, fdivS, modS, powS, cmpS, ltS, isS, isNS, asStrs, asBls, newLs]
      have hst1 : 0 < st.length := by omega
      have hst2 : st.length ≤ 7 := by omega
      have fin : ∀ (sfx : Nat → List Nat) F', (∀ k, sfx k = [] ∨ sfx k = [120]) → Pur F' p → Keep p F F' → Q (.lst (((List.range n).map (nameOf st at_ sfx)).map .str)) F' := fun sfx F' hs k1 k3 =>
        h _ F' (by simp) (names_nodup a0 hat (by omega)) (fun x hx => by
          obtain ⟨k, _, rfl⟩ := List.mem_map.mp hx
          exact nameOf_name hst1 hst2 hs k) k1 k3
      generalize hl : ((List.range n).map (nameOf st at_ fun _ => [])) = l0 at *
      refine ⟨p, 4, rfl, by decide, .of_small (by decide) (by decide), ?_, fun v a' b' v0 v1 => eqS_int ?_⟩
      · obtain ⟨x, y, e⟩ := p2
        exact ⟨x, y, by rw [mset_ne (Ne.symm hqp)]; exact e⟩
      · have hq4 : mset (mset F2 q (.lst (l0.map .str))) p (.lst [.int a', .int b']) q = some (.lst (l0.map .str)) := by rw [mset_ne hqp, mset_same]
        have hk4 : Keep p F (mset (mset F2 q (.lst (l0.map .str))) p (.lst [.int a', .int b'])) := fun x c hx e => by
          have h0 : x ≠ q := fun z => by rw [z] at e; have := k2 q c hqp e; rw [hq] at this; cases this
          rw [mset_ne hx, mset_ne h0]
          exact k2 x c hx e
        generalize hF5 : mset (mset F2 q (.lst (l0.map .str))) p (.lst [.int a', .int b']) = F5 at *
        have hp5 : Pur F5 p := by rw [← hF5]; exact .set
        have hdel : ∀ {F' : MH} {z : Addr}, Pur F' p → Keep p F F' → F z = none → z ≠ p → Pur (mdel F' z) p ∧ Keep p F (mdel F' z) := fun {F' z} h1 h2 h3 h4 => by
          obtain ⟨x, y, e⟩ := h1
          refine ⟨⟨x, y, by rw [mdel_ne (Ne.symm h4)]; exact e⟩, fun w c hw hc => ?_⟩
          have : w ≠ z := fun q => by rw [q, h3] at hc; cases hc
          rw [mdel_ne this]
          exact h2 w c hw hc
        have hFq : F q = none := k2.none hq hqp
        cases hz : (v == 0)
        · simp only [wpB, wpS, wpE, wpEs, wpT, wpTs, wpCs, wpP, wpIt, wpBl, bindT, biS, bmS, recS, tyS, truS, start1, List.map, List.length, List.replicate, List.append_nil, List.nil_append, List.cons_append, Nat.sub_self, Nat.reduceSub, Nat.reduceAdd, List.length_cons, List.length_nil, List.getElem?_cons_zero, List.getElem?_cons_succ, List.set_cons_zero, List.set_cons_succ, setAll, wipe1, Tg.slots, binS, subS, mulS, fdivS, modS, powS, cmpS, ltS, isS, isNS, asStrs, asBls, newLs, hq4]
          obtain ⟨d1, d2⟩ := hdel hp5 hk4 hFq hqp
          have := fin (fun _ => []) _ (fun _ => .inl rfl) d1 d2
          rw [hl] at this
          exact this
        · simp only [wpB, wpS, wpE, wpEs, wpT, wpTs, wpCs, wpP, wpIt, wpBl, bindT, biS, bmS, recS, tyS, truS, start1, List.map, List.length, List.replicate, List.append_nil, List.nil_append, List.cons_append, Nat.sub_self, Nat.reduceSub, Nat.reduceAdd, List.length_cons, List.length_nil, List.getElem?_cons_zero, List.getElem?_cons_succ, List.set_cons_zero, List.set_cons_succ, setAll, wipe1, Tg.slots, binS, subS, mulS, fdivS, modS, powS, cmpS, ltS, isS, isNS, asStrs, asBls, newLs, lsOf, hq4]
          refine lcGo_inv (fun i acc F6 => acc = ((List.range i).map (nameOf st at_ fun k => if k % 2 = 1 then [120] else [])).map .str ∧ F6 = F5) ?_ (fun _ _ _ h => by rw [h.2, hq4]) ?_ ?_ ⟨rfl, rfl⟩
          · unfold enumV
            rw [← hl]
            simp
            rw [sizeLine_eq]
            omega
          · rintro i x acc F6 k hx ⟨rfl, rfl⟩ hk _
            unfold enumV at hx
            rw [List.getElem?_zipWith, ← hl] at hx
            simp only [List.length_map, List.length_range, List.getElem?_map] at hx
            cases hq : (List.range n)[i]? with
            | none => rw [hq] at hx; cases hx
            | some j =>
              rw [hq] at hx
              obtain ⟨hj1, hj2⟩ := List.getElem?_eq_some_iff.mp hq
              rw [List.getElem_range] at hj2
              subst hj2
              cases hx
              simp only [wpB, wpS, wpE, wpEs, wpT, wpTs, wpCs, wpP, wpIt, wpBl, bindT, biS, bmS, recS, tyS, truS, start1, List.map, List.length, List.replicate, List.append_nil, List.nil_append, List.cons_append, Nat.sub_self, Nat.reduceSub, Nat.reduceAdd, List.length_cons, List.length_nil, List.getElem?_cons_zero, List.getElem?_cons_succ, List.set_cons_zero, List.set_cons_succ, setAll, wipe1, Tg.slots, binS, subS, mulS, fdivS, modS, powS, cmpS, ltS, isS, isNS, asStrs, asBls, newLs]
              refine ⟨trivial, by decide, ?_, ?_, ?_, hk _ _ ⟨?_, rfl⟩⟩
              · rw [Int.fmod_eq_emod_of_nonneg _ (by decide)]; omega
              · rw [Int.fmod_eq_emod_of_nonneg _ (by decide)]; omega
              · have h1 := (nameOf_name (a := at_) hst1 hst2 (sfx := fun _ => []) (fun _ => .inl rfl) i).le
                have h2 : (if ((i : Nat) : Int).fmod 2 < 1 then Str.empty else Str.ofString "x").length ≤ 1 := by split <;> decide
                rw [sizeLine_eq]
                omega
              · rw [range_succ_map, List.map_append]
                have e : nameOf st at_ (fun _ => []) i ++ (if ((i : Nat) : Int).fmod 2 < 1 then Str.empty else Str.ofString "x") = nameOf st at_ (fun k => if k % 2 = 1 then [120] else []) i := by
                  rw [Int.fmod_eq_emod_of_nonneg _ (by decide)]
                  by_cases hi2 : i % 2 = 1
                  · rw [if_neg (by omega)]
                    show (⟨_⟩ : Str) = ⟨_⟩
                    congr 1
                    simp only [nameOf, List.append_nil, hi2, if_true]
                    show (chars st at_ i).toArray ++ #[120] = _
                    simp
                  · rw [if_pos (by omega)]
                    show (⟨_⟩ : Str) = ⟨_⟩
                    congr 1
                    simp only [nameOf, List.append_nil, hi2, if_false]
                    show (chars st at_ i).toArray ++ #[] = _
                    simp
                rw [e]
                rfl
          · rintro acc F6 ⟨rfl, rfl⟩
            have hn2 : (enumV (l0.map Val.str)).length = n := by
              unfold enumV
              rw [← hl]
              simp
            rw [hn2]
            intro z hz6
            simp only [mset_same]
            have hzp : z ≠ p := Pur.ne hp5 hz6
            rw [mdel_mset hz6]
            exact fin _ _ (fun k => by by_cases hk : k % 2 = 1 <;> simp [hk]) hp5 hk4
end Bv

/-! The book's small methods. -/
namespace Bv
open PySem L2 PyProof.Rows
/-! ### in -/
theorem inS_ls {a b : Val} {vs : List Val} {F : MH} {R : Bool → Prop} (e : lsOf F b = some vs) (h1 : flat a = true) (h2 : vs.all flat = true) (h : R (inL a vs)) : inS a b F R := by
  cases b with
  | lst ws => cases e; cases a <;> exact ⟨h1, h2, h⟩
  | ref p => cases a <;> (simp only [inS, e]; exact ⟨h1, h2, h⟩)
  | _ => cases e
theorem inS_d {k : Str} {p : Addr} {kvs : List (Str × Val)} {F : MH} {R : Bool → Prop} (e : dcOf F p = some kvs) (h : R (kget kvs k).isSome) : inS (.str k) (.ref p) F R := by
  unfold dcOf at e
  cases c : F p with
  | none => rw [c] at e; cases e
  | some d =>
    rw [c] at e
    cases d with
    | dict ws => cases e; simp only [inS, lsOf, c]; exact h
    | lck u ws => cases e; simp only [inS, lsOf, c]; exact h
    | _ => cases e
theorem inL_strs (k : Str) (l : List Str) : inL (.str k) (l.map .str) = decide (k ∈ l) := by
  unfold inL
  induction l with
  | nil => rfl
  | cons a l ih =>
    rw [List.map_cons, List.any_cons, ih]
    by_cases h : a = k
    · subst h
      simp [eqF]
    · have : k ≠ a := Ne.symm h
      simp [eqF, h, this]
theorem flat_strs (l : List Str) : (l.map Val.str).all flat = true := by
  rw [List.all_map]; simp [flat]
theorem in_strs {k : Str} {b : Val} {l : List Str} {F : MH} {R : Bool → Prop} (e : lsOf F b = some (l.map .str)) (h : R (decide (k ∈ l))) : inS (.str k) b F R := inS_ls e rfl (flat_strs l) (by rw [inL_strs]; exact h)
/-! ### dicts -/
theorem kget_mem {l : List (Str × Val)} {k : Str} {v : Val} (h : kget l k = some v) : (k, v) ∈ l := by
  unfold kget at h
  obtain ⟨⟨a, b⟩, h1, h2⟩ := Option.map_eq_some_iff.mp h
  have h3 := List.find?_some h1
  simp only [decide_eq_true_eq] at h3
  subst h3
  simp only at h2
  subst h2
  exact List.mem_of_find?_eq_some h1
theorem kget_none {l : List (Str × Val)} {k : Str} : kget l k = none ↔ k ∉ l.map (·.1) := by
  unfold kget
  rw [Option.map_eq_none_iff, List.find?_eq_none]
  constructor
  · intro h hm
    obtain ⟨x, hx, e⟩ := List.mem_map.mp hm
    exact h x hx (by simp [e])
  · intro h x hx e
    simp only [decide_eq_true_eq] at e
    exact h (List.mem_map.mpr ⟨x, hx, e⟩)
theorem kget_isSome {l : List (Str × Val)} {k : Str} : (kget l k).isSome = decide (k ∈ l.map (·.1)) := by
  cases h : kget l k with
  | none => rw [decide_eq_false (kget_none.mp h)]; rfl
  | some v => rw [decide_eq_true (List.mem_map.mpr ⟨_, kget_mem h, rfl⟩)]; rfl
theorem kget_of {l : List (Str × Val)} {k : Str} {v : Val} (nd : (l.map (·.1)).Nodup) (h : (k, v) ∈ l) : kget l k = some v := by
  cases e : kget l k with
  | none => exact absurd (List.mem_map.mpr ⟨_, h, rfl⟩) (kget_none.mp e)
  | some w =>
    have h2 := kget_mem e
    induction l with
    | nil => cases h
    | cons a l ih =>
      rw [List.map_cons, List.nodup_cons] at nd
      rcases List.mem_cons.mp h with e1 | e1
      · rcases List.mem_cons.mp h2 with e3 | e3
        · rw [← e1] at e3; cases e3; rfl
        · exact absurd (List.mem_map.mpr ⟨_, e3, by rw [← e1]⟩) nd.1
      · rcases List.mem_cons.mp h2 with e3 | e3
        · exact absurd (List.mem_map.mpr ⟨_, e1, by rw [← e3]⟩) nd.1
        · have hh : kget l k = some w := by
            have : a.1 ≠ k := fun z => nd.1 (List.mem_map.mpr ⟨_, e1, z.symm⟩)
            unfold kget at e ⊢
            rw [List.find?_cons_of_neg (by simpa using this)] at e
            exact e
          exact ih nd.2 e1 hh e3
/-! ### the book's cells -/
def bookFs (pl en : Addr) : List (Str × Val) := [("people", .ref pl), ("entries", .ref en)]
def entFs (nums : Val) (h : Addr) : List (Str × Val) := [("numbers", nums), ("held", .ref h)]
/-- the book's own cells -/
structure BkC (CB : Addr) (F : MH) (b pl en : Addr) (ps : List Str) (es : List (Str × Val)) : Prop where
  b : F b = some (.inst CB (bookFs pl en))
  pl : F pl = some (.lst (ps.map .str))
  en : F en = some (.dict es)
theorem fld_people {pl en : Addr} : (bookFs pl en).lookup ("people" : Str) = some (Val.ref pl) := rfl
theorem fld_entries {pl en : Addr} : (bookFs pl en).lookup ("entries" : Str) = some (Val.ref en) := rfl
theorem fld_held {n : Val} {h : Addr} : (entFs n h).lookup ("held" : Str) = some (Val.ref h) := rfl
def spIsName : Spec := fun vs F Q _ => ∃ x, vs = [.str x] ∧ Name x ∧ Q (.bl true) F
theorem Str.eta1 (c : Nat) : (⟨#[c]⟩ : Str).cps = #[c] := rfl
theorem w_is_name {Γ : Amb} {g : GlR Γ "LETTERS"} (hg : g.v = .str abc) : ∀ vs F Q E, spIsName vs F Q E → wpB (fun C fs _ F => E C fs F) (c_is_name g) (start1 n_is_name vs) F (fun _ F => Q .non F) Q := by
  rintro vs F Q E ⟨x, rfl, hn, h⟩
  unfold c_is_name
  simp only [wpB, wpS, wpE, wpEs, wpT, wpTs, wpCs, wpP, wpIt, wpBl, bindT, biS, bmS, recS, tyS, truS, start1, List.map, List.length, List.replicate, List.append_nil, List.nil_append, List.cons_append, Nat.sub_self, Nat.reduceSub, Nat.reduceAdd, List.length_cons, List.length_nil, List.getElem?_cons_zero, List.getElem?_cons_succ, List.set_cons_zero, List.set_cons_succ, setAll, wipe1, Tg.slots, binS, subS, mulS, fdivS, modS, powS, cmpS, ltS, isS, isNS, asStrs, asBls, newLs, n_is_name, hg, lenS]
  have hp := hn.pos
  have hl := hn.le
  have hz : x.length ≤ sizeLine := by rw [sizeLine_eq]; omega
  refine ⟨hz, ?_⟩
  rw [decide_eq_true (by omega : (0 : Int) < (x.length : Int))]
  simp only
  rw [decide_eq_true (by omega : (x.length : Int) ≤ 8)]
  simp only
  refine lcGo_inv (fun i acc F1 => acc = (List.replicate i true).map .bl ∧ F1 = F) ?_ (fun _ _ _ _ => trivial) ?_ ?_ ⟨rfl, rfl⟩
  · unfold charsOf
    rw [List.length_map, Array.length_toList]
    exact hz
  · rintro i v acc F1 k hx ⟨rfl, rfl⟩ hk
    unfold charsOf at hx
    rw [List.getElem?_map] at hx
    obtain ⟨c, hc, rfl⟩ := Option.map_eq_some_iff.mp hx
    refine fun _ => ⟨c, rfl, hk _ _ ⟨?_, rfl⟩⟩
    rw [decide_eq_true (hn.ok c (List.mem_of_getElem? hc)), List.replicate_succ', List.map_append]
    rfl
  · rintro acc F1 ⟨rfl, rfl⟩
    simp only [wpB, wpS, wpE, wpEs, wpT, wpTs, wpCs, wpP, wpIt, wpBl, bindT, biS, bmS, recS, tyS, truS, start1, List.map, List.length, List.replicate, List.append_nil, List.nil_append, List.cons_append, Nat.sub_self, Nat.reduceSub, Nat.reduceAdd, List.length_cons, List.length_nil, List.getElem?_cons_zero, List.getElem?_cons_succ, List.set_cons_zero, List.set_cons_succ, setAll, wipe1, Tg.slots, binS, subS, mulS, fdivS, modS, powS, cmpS, ltS, isS, isNS, asStrs, asBls, newLs, boolsF, lsOf, asBls_map]
    rw [show (List.replicate (charsOf x).length true).all id = true by simp]
    exact h
def spLoss : Spec := fun vs F Q _ => ∃ x : Int, vs = [.int x] ∧ 0 ≤ x ∧ Q .non F
theorem w_must_loss {Γ : Amb} {x : RaiR Γ "NoLoss"} : ∀ vs F Q E, spLoss vs F Q E → wpB (fun C fs _ F => E C fs F) (c_must_loss x) (start1 n_must_loss vs) F (fun _ F => Q .non F) Q := by
  rintro vs F Q E ⟨x, rfl, hn, h⟩
  unfold c_must_loss
  simp only [wpB, wpS, wpE, wpEs, wpT, wpTs, wpCs, wpP, wpIt, wpBl, bindT, biS, bmS, recS, tyS, truS, start1, List.map, List.length, List.replicate, List.append_nil, List.nil_append, List.cons_append, Nat.sub_self, Nat.reduceSub, Nat.reduceAdd, List.length_cons, List.length_nil, List.getElem?_cons_zero, List.getElem?_cons_succ, List.set_cons_zero, List.set_cons_succ, setAll, wipe1, Tg.slots, binS, subS, mulS, fdivS, modS, powS, cmpS, ltS, isS, isNS, asStrs, asBls, newLs, n_must_loss]
  rw [decide_eq_false (by omega)]
  exact h
def spEInit (CE : Addr) : Spec := fun vs F Q _ => ∃ (e : Addr) (a b : Val), vs = [.ref e, a, b] ∧ F e = some (.inst CE []) ∧ Q .non (mset F e (.inst CE [("numbers", a), ("held", b)]))
theorem w_Entry_init {Γ : Amb} {CE : Addr} {fh : FldR Γ "held"} {fn : FldR Γ "numbers"} (h1 : fh.C = CE) (h2 : fn.C = CE) : ∀ vs F Q E, spEInit CE vs F Q E → wpB (fun C fs _ F => E C fs F) (c_Entry_init fh fn) (start1 n_Entry_init vs) F (fun _ F => Q .non F) Q := by
  rintro vs F Q E ⟨e, a, b, rfl, he, h⟩
  unfold c_Entry_init
  simp only [wpB, wpS, wpE, wpEs, wpT, wpTs, wpCs, wpP, wpIt, wpBl, bindT, biS, bmS, recS, tyS, truS, start1, List.map, List.length, List.replicate, List.append_nil, List.nil_append, List.cons_append, Nat.sub_self, Nat.reduceSub, Nat.reduceAdd, List.length_cons, List.length_nil, List.getElem?_cons_zero, List.getElem?_cons_succ, List.set_cons_zero, List.set_cons_succ, setAll, wipe1, Tg.slots, binS, subS, mulS, fdivS, modS, powS, cmpS, ltS, isS, isNS, asStrs, asBls, newLs, n_Entry_init, he, h1, h2, putV, mset_same, mset_mset]
  refine ⟨trivial, by decide, trivial, by decide, ?_⟩
  exact h
def spBInit (CB : Addr) : Spec := fun vs F Q _ => ∃ b : Addr, vs = [.ref b] ∧ F b = some (.inst CB []) ∧ ∀ pl en F', F pl = none → F en = none → BkC CB F' b pl en [] [] → (∀ a c, a ≠ b → F a = some c → F' a = some c) → Q .non F'
theorem w_Book_init {Γ : Amb} {CB : Addr} {fe : FldR Γ "entries"} {fp : FldR Γ "people"} (h1 : fe.C = CB) (h2 : fp.C = CB) : ∀ vs F Q E, spBInit CB vs F Q E → wpB (fun C fs _ F => E C fs F) (c_Book_init fe fp) (start1 n_Book_init vs) F (fun _ F => Q .non F) Q := by
  rintro vs F Q E ⟨b, rfl, hb, h⟩
  unfold c_Book_init
  simp only [wpB, wpS, wpE, wpEs, wpT, wpTs, wpCs, wpP, wpIt, wpBl, bindT, biS, bmS, recS, tyS, truS, start1, List.map, List.length, List.replicate, List.append_nil, List.nil_append, List.cons_append, Nat.sub_self, Nat.reduceSub, Nat.reduceAdd, List.length_cons, List.length_nil, List.getElem?_cons_zero, List.getElem?_cons_succ, List.set_cons_zero, List.set_cons_succ, setAll, wipe1, Tg.slots, binS, subS, mulS, fdivS, modS, powS, cmpS, ltS, isS, isNS, asStrs, asBls, newLs, n_Book_init]
  refine ⟨by rw [sizeLine_eq]; decide, fun pl hpl => ?_⟩
  have n1 : b ≠ pl := fun z => by rw [← z, hb] at hpl; cases hpl
  simp only [mset_ne n1, hb, h2, putV, h1]
  refine ⟨trivial, by decide, fun en hen => ?_⟩
  have n2 : en ≠ b := fun z => by rw [z, mset_same] at hen; cases hen
  rw [mset_ne n2] at hen
  have n3 : en ≠ pl := fun z => by rw [z, mset_same] at hen; cases hen
  rw [mset_ne n3] at hen
  simp only [mset_ne (Ne.symm n2), mset_same]
  refine ⟨trivial, by show 1 < 1000; decide, ?_⟩
  refine h pl en _ hpl hen ⟨mset_same, ?_, ?_⟩ fun a c ha hc => ?_
  · rw [mset_ne (Ne.symm n1), mset_ne (Ne.symm n3), mset_ne (Ne.symm n1), mset_same]; rfl
  · rw [mset_ne n2, mset_same]
  · have a1 : a ≠ pl := fun z => by rw [z, hpl] at hc; cases hc
    have a2 : a ≠ en := fun z => by rw [z, hen] at hc; cases hc
    rw [mset_ne ha, mset_ne a2, mset_ne ha, mset_ne a1]
    exact hc
end Bv

/-! The book's methods. -/
namespace Bv
open PySem L2 PyProof.Rows
def less (sh p : Int × Int) : Int × Int := low (sh.1 * p.2 - p.1 * sh.2) (sh.2 * p.2)
def more (o p : Int × Int) : Int × Int := low (o.1 * p.2 + p.1 * o.2) (o.2 * p.2)
structure SmP (p : Int × Int) : Prop where
  a : Sm p.1
  b : Sm p.2
def spLess : Spec := fun vs F Q _ => ∃ p q : Int × Int, vs = [frP p, frP q] ∧ SmP p ∧ SmP q ∧ Q (.bl (decide (p.1 * q.2 < q.1 * p.2))) F
def spMinus : Spec := fun vs F Q _ => ∃ p q : Int × Int, vs = [frP p, frP q] ∧ SmP p ∧ SmP q ∧ 0 < p.2 * q.2 ∧ Sm (p.2 * q.2) ∧ Q (frP (less p q)) F
def spAdded : Spec := fun vs F Q _ => ∃ p q : Int × Int, vs = [frP p, frP q] ∧ SmP p ∧ SmP q ∧ 0 < p.2 * q.2 ∧ Sm (p.2 * q.2) ∧ Q (frP (more p q)) F
theorem ix0 {p : Int × Int} {F : MH} {Q : Q1} (h : Q (.int p.1) F) : ixS (frP p) (.int 0) F Q := ix_tup (by decide) rfl h
theorem ix1 {p : Int × Int} {F : MH} {Q : Q1} (h : Q (.int p.2) F) : ixS (frP p) (.int 1) F Q := ix_tup (by decide) rfl h
theorem w_is_less {Γ : Amb} : ∀ vs F Q E, spLess vs F Q E → wpB (fun C fs _ F => E C fs F) (c_is_less (Γ := Γ)) (start1 n_is_less vs) F (fun _ F => Q .non F) Q := by
  rintro vs F Q E ⟨p, q, rfl, hp, hq, h⟩
  unfold c_is_less
  simp only [wpB, wpS, wpE, wpEs, wpT, wpTs, wpCs, wpP, wpIt, wpBl, bindT, biS, bmS, recS, tyS, truS, start1, List.map, List.length, List.replicate, List.append_nil, List.nil_append, List.cons_append, Nat.sub_self, Nat.reduceSub, Nat.reduceAdd, List.length_cons, List.length_nil, List.getElem?_cons_zero, List.getElem?_cons_succ, List.set_cons_zero, List.set_cons_succ, setAll, wipe1, Tg.slots, binS, subS, mulS, fdivS, modS, powS, cmpS, ltS, isS, isNS, asStrs, asBls, newLs, n_is_less]
  refine ix0 (ix1 ?_)
  refine ⟨hp.a.mul hq.b, ix0 (ix1 ?_)⟩
  exact ⟨hq.a.mul hp.b, h⟩
theorem mul_i {i j : Int} {F : MH} {Q : Q1} (h1 : IntMulOk i j) (h : Q (.int (i * j)) F) : mulS (.int i) (.int j) F Q := ⟨h1, h⟩
theorem w_minus {Γ : Amb} {r : CallR1 Γ "made"} (hr : r.sp = spMade) : ∀ vs F Q E, spMinus vs F Q E → wpB (fun C fs _ F => E C fs F) (c_minus r) (start1 n_minus vs) F (fun _ F => Q .non F) Q := by
  rintro vs F Q E ⟨p, q, rfl, hp, hq, h0, h1, h⟩
  unfold c_minus
  simp only [wpB, wpS, wpE, wpEs, wpT, wpTs, wpCs, wpP, wpIt, wpBl, bindT, biS, bmS, recS, tyS, truS, start1, List.map, List.length, List.replicate, List.append_nil, List.nil_append, List.cons_append, Nat.sub_self, Nat.reduceSub, Nat.reduceAdd, List.length_cons, List.length_nil, List.getElem?_cons_zero, List.getElem?_cons_succ, List.set_cons_zero, List.set_cons_succ, setAll, wipe1, Tg.slots, binS, subS, fdivS, modS, powS, cmpS, ltS, isS, isNS, asStrs, asBls, newLs, n_minus, hr]
  refine ix0 (ix1 (mul_i (hp.a.mul hq.b) (ix0 (ix1 (mul_i (hq.a.mul hp.b) ?_)))))
  refine ix1 (ix1 (mul_i (hp.b.mul hq.b) ?_))
  unfold less at h
  exact ⟨_, _, rfl, h0, h1, h⟩
theorem w_added {Γ : Amb} {r : CallR1 Γ "made"} (hr : r.sp = spMade) : ∀ vs F Q E, spAdded vs F Q E → wpB (fun C fs _ F => E C fs F) (c_added r) (start1 n_added vs) F (fun _ F => Q .non F) Q := by
  rintro vs F Q E ⟨p, q, rfl, hp, hq, h0, h1, h⟩
  unfold c_added
  simp only [wpB, wpS, wpE, wpEs, wpT, wpTs, wpCs, wpP, wpIt, wpBl, bindT, biS, bmS, recS, tyS, truS, start1, List.map, List.length, List.replicate, List.append_nil, List.nil_append, List.cons_append, Nat.sub_self, Nat.reduceSub, Nat.reduceAdd, List.length_cons, List.length_nil, List.getElem?_cons_zero, List.getElem?_cons_succ, List.set_cons_zero, List.set_cons_succ, setAll, wipe1, Tg.slots, binS, subS, fdivS, modS, powS, cmpS, ltS, isS, isNS, asStrs, asBls, newLs, n_added, hr]
  refine ix0 (ix1 (mul_i (hp.a.mul hq.b) (ix0 (ix1 (mul_i (hq.a.mul hp.b) (add_int ?_))))))
  refine ix1 (ix1 (mul_i (hp.b.mul hq.b) ?_))
  unfold more at h
  exact ⟨_, _, rfl, h0, h1, h⟩
/-! ### the book -/
def spMustNew (CB : Addr) : Spec := fun vs F Q _ => ∃ b x pl en ps es, vs = [.ref b, .str x] ∧ BkC CB F b pl en ps es ∧ Name x ∧ x ∉ ps ∧ x ∉ es.map (·.1) ∧ Q .non F
theorem w_must_be_new {Γ : Amb} {CB : Addr} {fp : FldR Γ "people"} {fe : FldR Γ "entries"} {x1 : RaiR Γ "Twice"} {r : CallR1 Γ "is_name"} {x2 : RaiR Γ "NoName"} (h1 : fp.C = CB) (h2 : fe.C = CB) (hr : r.sp = spIsName) :
    ∀ vs F Q E, spMustNew CB vs F Q E → wpB (fun C fs _ F => E C fs F) (c_Book_must_be_new fp fe x1 r x2) (start1 n_Book_must_be_new vs) F (fun _ F => Q .non F) Q := by
  rintro vs F Q E ⟨b, x, pl, en, ps, es, rfl, bk, hn, hp, he, h⟩
  unfold c_Book_must_be_new
  simp only [wpB, wpS, wpE, wpEs, wpT, wpTs, wpCs, wpP, wpIt, wpBl, bindT, biS, bmS, recS, tyS, truS, start1, List.map, List.length, List.replicate, List.append_nil, List.nil_append, List.cons_append, Nat.sub_self, Nat.reduceSub, Nat.reduceAdd, List.length_cons, List.length_nil, List.getElem?_cons_zero, List.getElem?_cons_succ, List.set_cons_zero, List.set_cons_succ, setAll, wipe1, Tg.slots, binS, subS, mulS, fdivS, modS, powS, cmpS, ltS, isS, isNS, asStrs, asBls, newLs, n_Book_must_be_new, hr, bk.b, h1, h2, fld_people, fld_entries]
  refine ⟨x, rfl, hn, ?_⟩
  simp only [wpB, wpS, wpE, wpEs, wpT, wpTs, wpCs, wpP, wpIt, wpBl, bindT, biS, bmS, recS, tyS, truS, start1, List.map, List.length, List.replicate, List.append_nil, List.nil_append, List.cons_append, Nat.sub_self, Nat.reduceSub, Nat.reduceAdd, List.length_cons, List.length_nil, List.getElem?_cons_zero, List.getElem?_cons_succ, List.set_cons_zero, List.set_cons_succ, setAll, wipe1, Tg.slots, binS, subS, mulS, fdivS, modS, powS, cmpS, ltS, isS, isNS, asStrs, asBls, newLs, Bool.not_true, bk.b, h1, h2, fld_people, fld_entries]
  refine ⟨trivial, in_strs (l := ps) (by simp only [lsOf, bk.pl]) ?_⟩
  rw [decide_eq_false hp]
  refine ⟨trivial, inS_d (kvs := es) (by simp only [dcOf, bk.en]) ?_⟩
  rw [kget_isSome, decide_eq_false he]
  exact h
def spMustHold (CB : Addr) : Spec := fun vs F Q _ => ∃ b x pl en ps es, vs = [.ref b, .str x] ∧ BkC CB F b pl en ps es ∧ (x ∈ ps ∨ x ∈ es.map (·.1)) ∧ Q .non F
theorem w_must_hold {Γ : Amb} {CB : Addr} {fp : FldR Γ "people"} {fe : FldR Γ "entries"} {x1 : RaiR Γ "NoHolder"} (h1 : fp.C = CB) (h2 : fe.C = CB) :
    ∀ vs F Q E, spMustHold CB vs F Q E → wpB (fun C fs _ F => E C fs F) (c_Book_must_hold fp fe x1) (start1 n_Book_must_hold vs) F (fun _ F => Q .non F) Q := by
  rintro vs F Q E ⟨b, x, pl, en, ps, es, rfl, bk, hh, h⟩
  unfold c_Book_must_hold
  simp only [wpB, wpS, wpE, wpEs, wpT, wpTs, wpCs, wpP, wpIt, wpBl, bindT, biS, bmS, recS, tyS, truS, start1, List.map, List.length, List.replicate, List.append_nil, List.nil_append, List.cons_append, Nat.sub_self, Nat.reduceSub, Nat.reduceAdd, List.length_cons, List.length_nil, List.getElem?_cons_zero, List.getElem?_cons_succ, List.set_cons_zero, List.set_cons_succ, setAll, wipe1, Tg.slots, binS, subS, mulS, fdivS, modS, powS, cmpS, ltS, isS, isNS, asStrs, asBls, newLs, n_Book_must_hold, bk.b, h1, h2, fld_people, fld_entries]
  refine ⟨trivial, in_strs (l := ps) (by simp only [lsOf, bk.pl]) ?_⟩
  by_cases hp : x ∈ ps
  · rw [decide_eq_true hp]
    exact h
  · rw [decide_eq_false hp]
    refine ⟨trivial, inS_d (kvs := es) (by simp only [dcOf, bk.en]) ?_⟩
    rw [kget_isSome, decide_eq_true (hh.resolve_left hp)]
    exact h
def spEntryOf (CB CN : Addr) : Spec := fun vs F Q E => ∃ b x pl en ps es, vs = [.ref b, .str x] ∧ BkC CB F b pl en ps es ∧ ((∃ v, kget es x = some v ∧ Q v F) ∨ (kget es x = none ∧ E CN [] F))
theorem w_entry_of {Γ : Amb} {CB CN : Addr} {fe : FldR Γ "entries"} {x1 : RaiR Γ "NoHouse"} (h2 : fe.C = CB) (h3 : x1.C = CN) :
    ∀ vs F Q E, spEntryOf CB CN vs F Q E → wpB (fun C fs _ F => E C fs F) (c_Book_entry_of fe x1) (start1 n_Book_entry_of vs) F (fun _ F => Q .non F) Q := by
  rintro vs F Q E ⟨b, x, pl, en, ps, es, rfl, bk, hh⟩
  unfold c_Book_entry_of
  simp only [wpB, wpS, wpE, wpEs, wpT, wpTs, wpCs, wpP, wpIt, wpBl, bindT, biS, bmS, recS, tyS, truS, start1, List.map, List.length, List.replicate, List.append_nil, List.nil_append, List.cons_append, Nat.sub_self, Nat.reduceSub, Nat.reduceAdd, List.length_cons, List.length_nil, List.getElem?_cons_zero, List.getElem?_cons_succ, List.set_cons_zero, List.set_cons_succ, setAll, wipe1, Tg.slots, binS, subS, mulS, fdivS, modS, powS, cmpS, ltS, isS, isNS, asStrs, asBls, newLs, n_Book_entry_of, bk.b, h2, h3, fld_entries]
  refine ⟨trivial, inS_d (kvs := es) (by simp only [dcOf, bk.en]) ?_⟩
  rcases hh with ⟨v, hv, h⟩ | ⟨hv, h⟩
  · rw [hv]
    simp only [Option.isSome, Bool.not_true]
    simp only [bk.b, fld_entries, ixS, dcOf, bk.en, hv]
    exact ⟨trivial, h⟩
  · rw [hv]
    exact h
theorem eqS_i {i j : Int} {F : MH} {Q : Bool → Prop} (h : Q (decide (i = j))) : eqS (.int i) (.int j) F Q := eqS_int (by rw [show (i == j) = decide (i = j) from rfl]; exact h)
def spPerson (CB : Addr) : Spec := fun vs F Q _ => ∃ b x pl en ps es, vs = [.ref b, .str x] ∧ BkC CB F b pl en ps es ∧ Name x ∧ x ∉ ps ∧ x ∉ es.map (·.1) ∧ ps.length < 6 ∧ Q .non (mset F pl (.lst ((ps ++ [x]).map .str)))
theorem w_person {Γ : Amb} {CB : Addr} {fp : FldR Γ "people"} {g : GlR Γ "MOST_PERSONS"} {x1 : RaiR Γ "TooMany"} {t : MethR Γ "must_be_new"} (h1 : fp.C = CB) (hg : g.v = .int 6) (ht : t.sp = spMustNew CB) (hc : t.C = CB) :
    ∀ vs F Q E, spPerson CB vs F Q E → wpB (fun C fs _ F => E C fs F) (c_Book_person fp g x1 t) (start1 n_Book_person vs) F (fun _ F => Q .non F) Q := by
  rintro vs F Q E ⟨b, x, pl, en, ps, es, rfl, bk, hn, hp, he, hl, h⟩
  unfold c_Book_person
  simp only [wpB, wpS, wpE, wpEs, wpT, wpTs, wpCs, wpP, wpIt, wpBl, bindT, biS, bmS, recS, tyS, truS, start1, List.map, List.length, List.replicate, List.append_nil, List.nil_append, List.cons_append, Nat.sub_self, Nat.reduceSub, Nat.reduceAdd, List.length_cons, List.length_nil, List.getElem?_cons_zero, List.getElem?_cons_succ, List.set_cons_zero, List.set_cons_succ, setAll, wipe1, Tg.slots, binS, subS, mulS, fdivS, modS, powS, cmpS, ltS, isS, isNS, asStrs, asBls, newLs, n_Book_person, bk.b, h1, hg, ht, hc, fld_people]
  refine ⟨trivial, rfl, b, x, pl, en, ps, es, rfl, bk, hn, hp, he, ?_⟩
  simp only [wpB, wpS, wpE, wpEs, wpT, wpTs, wpCs, wpP, wpIt, wpBl, bindT, biS, bmS, recS, tyS, truS, start1, List.map, List.length, List.replicate, List.append_nil, List.nil_append, List.cons_append, Nat.sub_self, Nat.reduceSub, Nat.reduceAdd, List.length_cons, List.length_nil, List.getElem?_cons_zero, List.getElem?_cons_succ, List.set_cons_zero, List.set_cons_succ, setAll, wipe1, Tg.slots, binS, subS, mulS, fdivS, modS, powS, cmpS, ltS, isS, isNS, asStrs, asBls, newLs, bk.b, fld_people, lenS, lsOf, bk.pl]
  refine ⟨trivial, eqS_i ?_⟩
  rw [decide_eq_false (by rw [List.length_map]; omega)]
  simp only [wpB, wpS, wpE, wpEs, wpT, wpTs, wpCs, wpP, wpIt, wpBl, bindT, biS, bmS, recS, tyS, truS, start1, List.map, List.length, List.replicate, List.append_nil, List.nil_append, List.cons_append, Nat.sub_self, Nat.reduceSub, Nat.reduceAdd, List.length_cons, List.length_nil, List.getElem?_cons_zero, List.getElem?_cons_succ, List.set_cons_zero, List.set_cons_succ, setAll, wipe1, Tg.slots, binS, subS, mulS, fdivS, modS, powS, cmpS, ltS, isS, isNS, asStrs, asBls, newLs, bk.b, fld_people, bk.pl]
  refine ⟨trivial, ⟨pl, _, rfl, bk.pl⟩, by rw [List.length_map, sizeLine_eq]; omega, ?_⟩
  rw [List.map_append] at h
  exact h
def spHouse (CB CE : Addr) : Spec := fun vs F Q _ => ∃ b x o pl en ps es things mark loss, vs = [.ref b, .str x, .str o, things, mark, .int loss] ∧ BkC CB F b pl en ps es ∧ Name x ∧ x ∉ ps ∧ x ∉ es.map (·.1) ∧ (o ∈ ps ∨ o ∈ es.map (·.1)) ∧ 0 ≤ loss ∧ es.length < 8 ∧
  ∀ h e, F h = none → F e = none → e ≠ h → Q .non (mset (mset (mset F h (.dict [(o, frP (1, 1))])) e (.inst CE (entFs (.tup [things, mark, .int loss]) h))) en (.dict (es ++ [(x, .ref e)])))
theorem kput_new {l : List (Str × Val)} {k : Str} {v : Val} (h : k ∉ l.map (·.1)) : kput l k v = l ++ [(k, v)] := by
  unfold kput
  rw [if_neg]
  intro ha
  obtain ⟨x, hx, e⟩ := List.any_eq_true.mp ha
  simp only [decide_eq_true_eq] at e
  exact h (List.mem_map.mpr ⟨x, hx, e⟩)
theorem w_house {Γ : Amb} {CB CE : Addr} {fe : FldR Γ "entries"} {m : MkR Γ "Entry"} {g : GlR Γ "MOST_HOUSES"} {x1 : RaiR Γ "TooMany"} {r : CallR1 Γ "must_loss"} {t1 : MethR Γ "must_hold"} {t2 : MethR Γ "must_be_new"} (h1 : fe.C = CB) (hm : m.sp = spEInit CE) (hmc : m.C = CE) (hg : g.v = .int 8) (hr : r.sp = spLoss)
    (ht1 : t1.sp = spMustHold CB) (hc1 : t1.C = CB) (ht2 : t2.sp = spMustNew CB) (hc2 : t2.C = CB) : ∀ vs F Q E, spHouse CB CE vs F Q E → wpB (fun C fs _ F => E C fs F) (c_Book_house fe m g x1 r t1 t2) (start1 n_Book_house vs) F (fun _ F => Q .non F) Q := by
  rintro vs F Q E ⟨b, x, o, pl, en, ps, es, things, mark, loss, rfl, bk, hn, hp, he, ho, hl, hz, h⟩
  unfold c_Book_house
  simp only [wpB, wpS, wpE, wpEs, wpT, wpTs, wpCs, wpP, wpIt, wpBl, bindT, biS, bmS, recS, tyS, truS, start1, List.map, List.length, List.replicate, List.append_nil, List.nil_append, List.cons_append, Nat.sub_self, Nat.reduceSub, Nat.reduceAdd, List.length_cons, List.length_nil, List.getElem?_cons_zero, List.getElem?_cons_succ, List.set_cons_zero, List.set_cons_succ, setAll, wipe1, Tg.slots, binS, subS, mulS, fdivS, modS, powS, cmpS, ltS, isS, isNS, asStrs, asBls, newLs, n_Book_house, bk.b, h1, hm, hmc, hg, hr, ht1, hc1, ht2, hc2, fld_entries]
  refine ⟨trivial, rfl, b, x, pl, en, ps, es, rfl, bk, hn, hp, he, ?_⟩
  simp only [bk.b]
  refine ⟨trivial, rfl, b, o, pl, en, ps, es, rfl, bk, ho, ?_⟩
  refine ⟨loss, rfl, hl, ?_⟩
  simp only [bk.b, fld_entries, lenS, lsOf, bk.en]
  refine ⟨trivial, eqS_i ?_⟩
  rw [decide_eq_false (by omega)]
  refine ⟨by rw [sizeLine_eq]; decide, by rw [sizeLine_eq]; decide, fun d hd _ e he2 => ?_⟩
  have n1 : e ≠ d := fun z => by rw [z, mset_same] at he2; cases he2
  have he3 : F e = none := by rw [mset_ne n1] at he2; exact he2
  refine ⟨e, _, _, rfl, mset_same, rfl, ?_⟩
  have n2 : b ≠ d := fun z => by rw [← z, bk.b] at hd; cases hd
  have n3 : b ≠ e := fun z => by rw [← z, bk.b] at he3; cases he3
  have n4 : en ≠ d := fun z => by rw [← z, bk.en] at hd; cases hd
  have n5 : en ≠ e := fun z => by rw [← z, bk.en] at he3; cases he3
  simp only [mset_mset, mset_ne n3, mset_ne n2, bk.b, fld_entries, setS, mset_ne n5, mset_ne n4, bk.en]
  refine ⟨trivial, by rw [sizeLine_eq]; omega, ?_⟩
  rw [kput_new he]
  exact h d e hd he3 n1
def spHouses (CB : Addr) : Spec := fun vs F Q _ => ∃ b pl en ps es, vs = [.ref b] ∧ BkC CB F b pl en ps es ∧ es.length < 64 ∧ Q (.lst ((sortS (es.map (·.1))).map .str)) F
theorem w_houses {Γ : Amb} {CB : Addr} {fe : FldR Γ "entries"} (h1 : fe.C = CB) : ∀ vs F Q E, spHouses CB vs F Q E → wpB (fun C fs _ F => E C fs F) (c_Book_houses fe) (start1 n_Book_houses vs) F (fun _ F => Q .non F) Q := by
  rintro vs F Q E ⟨b, pl, en, ps, es, rfl, bk, hl, h⟩
  unfold c_Book_houses
  simp only [wpB, wpS, wpE, wpEs, wpT, wpTs, wpCs, wpP, wpIt, wpBl, bindT, biS, bmS, recS, tyS, truS, start1, List.map, List.length, List.replicate, List.append_nil, List.nil_append, List.cons_append, Nat.sub_self, Nat.reduceSub, Nat.reduceAdd, List.length_cons, List.length_nil, List.getElem?_cons_zero, List.getElem?_cons_succ, List.set_cons_zero, List.set_cons_succ, setAll, wipe1, Tg.slots, binS, subS, mulS, fdivS, modS, powS, cmpS, ltS, isS, isNS, asStrs, asBls, newLs, n_Book_houses, bk.b, h1, fld_entries, sortedF, lsOf, bk.en, dcOf]
  exact ⟨trivial, hl, h⟩
end Bv

/-! Shares and sales. -/
namespace Bv
open PySem L2 PyProof.Rows
theorem eqS_fr {p q : Int × Int} {F : MH} {Q : Bool → Prop} (h : Q (decide (p = q))) : eqS (frP p) (frP q) F Q := by
  obtain ⟨a, b⟩ := p
  obtain ⟨c, d⟩ := q
  refine ⟨rfl, rfl, ?_⟩
  have e : PyData.eqv (toPD (rdF F (frP (a, b)))) (toPD (rdF F (frP (c, d)))) = decide ((a, b) = (c, d)) := by
    simp only [frP, rdF, toPD_tup, List.map_cons, List.map_nil, toPD, PyData.eqv, PyData.eqvAll, Bool.and_true, Prod.mk.injEq]
    by_cases h1 : a = c <;> by_cases h2 : b = d <;> simp [h1, h2]
  rw [e]
  exact h
abbrev Held := List (Str × (Int × Int))
def hv (l : Held) : List (Str × Val) := l.map fun x => (x.1, frP x.2)
def hget (l : Held) (k : Str) : Option (Int × Int) := (l.find? fun x => decide (x.1 = k)).map (·.2)
def hput (l : Held) (k : Str) (v : Int × Int) : Held := if (l.any fun x => decide (x.1 = k)) = true then l.map (fun x => if x.1 = k then (x.1, v) else x) else l ++ [(k, v)]
theorem hv_keys (l : Held) : (hv l).map (·.1) = l.map (·.1) := by unfold hv; rw [List.map_map]; rfl
theorem hv_get (l : Held) (k : Str) : kget (hv l) k = (hget l k).map frP := by
  unfold kget hget hv
  rw [List.find?_map]
  have : ((fun kv : Str × Val => decide (kv.1 = k)) ∘ fun x : Str × (Int × Int) => (x.1, frP x.2)) = fun x => decide (x.1 = k) := rfl
  rw [this]
  cases List.find? (fun x => decide (x.1 = k)) l <;> rfl
theorem hv_put (l : Held) (k : Str) (v : Int × Int) : kput (hv l) k (frP v) = hv (hput l k v) := by
  unfold kput hput
  have e : ((hv l).any fun kv => decide (kv.1 = k)) = l.any fun x => decide (x.1 = k) := by unfold hv; rw [List.any_map]; rfl
  rw [e]
  split
  · unfold hv
    rw [List.map_map, List.map_map]
    apply List.map_congr_left
    intro x _
    by_cases h : x.1 = k
    · simp [h]
    · simp [h]
  · unfold hv
    rw [List.map_append]
    rfl
theorem hget_put (l : Held) (k j : Str) (v : Int × Int) : hget (hput l k v) j = if j = k then some v else hget l j := by
  unfold hput
  split
  · rename_i h
    induction l with
    | nil => cases h
    | cons a l ih =>
      rw [List.map_cons]
      unfold hget at ih ⊢
      by_cases hj : j = k
      · subst hj
        rw [if_pos rfl]
        by_cases ha : a.1 = j
        · simp [ha]
        · rw [List.any_cons] at h
          simp only [ha, decide_false, Bool.false_or] at h
          have := ih h
          rw [if_pos rfl] at this
          rw [if_neg ha, List.find?_cons_of_neg (by simpa using ha)]
          exact this
      · rw [if_neg hj]
        by_cases ha : a.1 = k
        · rw [if_pos ha]
          have n1 : a.1 ≠ j := fun z => hj (z.symm.trans ha)
          rw [List.find?_cons_of_neg (by simpa using n1), List.find?_cons_of_neg (by simpa using n1)]
          by_cases h2 : (l.any fun x => decide (x.1 = k)) = true
          · have := ih h2
            rw [if_neg hj] at this
            exact this
          · have e : l.map (fun x => if x.1 = k then (x.1, v) else x) = l := by
              rw [List.map_congr_left (g := id)]
              · simp
              · intro x hx
                have : x.1 ≠ k := fun z => h2 (List.any_eq_true.mpr ⟨x, hx, by simp [z]⟩)
                simp [this]
            rw [e]
        · rw [if_neg ha]
          rw [List.any_cons] at h
          simp only [ha, decide_false, Bool.false_or] at h
          have := ih h
          rw [if_neg hj] at this
          by_cases h3 : a.1 = j
          · simp [h3]
          · rw [List.find?_cons_of_neg (by simpa using h3), List.find?_cons_of_neg (by simpa using h3)]
            exact this
  · rename_i h
    unfold hget
    rw [List.find?_append]
    by_cases hj : j = k
    · subst hj
      rw [if_pos rfl]
      have : l.find? (fun x => decide (x.1 = j)) = none := by
        rw [List.find?_eq_none]
        intro x hx e
        exact h (List.any_eq_true.mpr ⟨x, hx, e⟩)
      rw [this]
      simp
    · rw [if_neg hj]
      have : [(k, v)].find? (fun x => decide (x.1 = j)) = none := by simp [Ne.symm hj]
      rw [this]
      simp
theorem hput_keys (l : Held) (k : Str) (v : Int × Int) : (hput l k v).map (·.1) = if k ∈ l.map (·.1) then l.map (·.1) else l.map (·.1) ++ [k] := by
  unfold hput
  have e : ((l.any fun x => decide (x.1 = k)) = true) = (k ∈ l.map (·.1)) := by
    apply propext
    rw [List.any_eq_true, List.mem_map]
    constructor
    · rintro ⟨x, hx, h⟩
      exact ⟨x, hx, by simpa using h⟩
    · rintro ⟨x, hx, h⟩
      exact ⟨x, hx, by simpa using h⟩
  by_cases h : k ∈ l.map (·.1)
  · rw [if_pos (e ▸ h), if_pos h, List.map_map]
    apply List.map_congr_left
    intro x _
    simp only [Function.comp]
    split <;> rfl
  · rw [if_neg (e ▸ h), if_neg h, List.map_append]
    rfl
theorem hget_none {l : Held} {k : Str} : hget l k = none ↔ k ∉ l.map (·.1) := by
  have := kget_none (l := hv l) (k := k)
  rw [hv_keys, hv_get, Option.map_eq_none_iff] at this
  exact this
/-- a house's own cells -/
structure EnC (CE : Addr) (F : MH) (e h : Addr) (nums : Val) (held : Held) : Prop where
  e : F e = some (.inst CE (entFs nums h))
  h : F h = some (.dict (hv held))
theorem spE_len : True := trivial
/-- book.shares(house): the holders that have some, by names -/
def showS (held : Held) : List Str := (sortS (held.map (·.1))).filter fun k => decide (hget held k ≠ some (0, 1))
def spShares (CB CE CN : Addr) : Spec := fun vs F Q E => ∃ b x pl en ps es e h nums held, vs = [.ref b, .str x] ∧ BkC CB F b pl en ps es ∧ kget es x = some (.ref e) ∧ EnC CE F e h nums held ∧ held.length < 64 ∧
  Q (.lst ((showS held).map fun k => .tup [.str k, frP ((hget held k).getD (0, 0))])) F
theorem w_shares {Γ : Amb} {CB CE CN : Addr} {fh : FldR Γ "held"} {t : MethR Γ "entry_of"} (h1 : fh.C = CE) (ht : t.sp = spEntryOf CB CN) (hc : t.C = CB) :
    ∀ vs F Q E, spShares CB CE CN vs F Q E → wpB (fun C fs _ F => E C fs F) (c_Book_shares fh t) (start1 n_Book_shares vs) F (fun _ F => Q .non F) Q := by
  rintro vs F Q E ⟨b, x, pl, en, ps, es, e, h, nums, held, rfl, bk, hx, ec, hl, hq⟩
  unfold c_Book_shares
  simp only [wpB, wpS, wpE, wpEs, wpT, wpTs, wpCs, wpP, wpIt, wpBl, bindT, biS, bmS, recS, tyS, truS, start1, List.map, List.length, List.replicate, List.append_nil, List.nil_append, List.cons_append, Nat.sub_self, Nat.reduceSub, Nat.reduceAdd, List.length_cons, List.length_nil, List.getElem?_cons_zero, List.getElem?_cons_succ, List.set_cons_zero, List.set_cons_succ, setAll, wipe1, Tg.slots, binS, subS, fdivS, modS, powS, cmpS, ltS, isS, isNS, asStrs, asBls, newLs, n_Book_shares, bk.b, h1, ht, hc]
  refine ⟨trivial, rfl, b, x, pl, en, ps, es, rfl, bk, .inl ⟨_, hx, ?_⟩⟩
  simp only [ec.e, fld_held, sortedF, lsOf, ec.h, dcOf]
  have hl2 : (hv held).length = held.length := by unfold hv; rw [List.length_map]
  refine ⟨trivial, by omega, ?_⟩
  rw [hv_keys]
  have hz : (sortS (held.map (·.1))).length < 64 := by rw [sortS_length, List.length_map]; exact hl
  refine lcGo_inv (fun i acc F1 => acc = (((sortS (held.map (·.1))).take i).filter fun k => decide (hget held k ≠ some (0, 1))).map (fun k => .tup [.str k, frP ((hget held k).getD (0, 0))]) ∧ F1 = F) (by rw [List.length_map, sizeLine_eq]; omega) (fun _ _ _ h => rfl) ?_ ?_ ⟨rfl, rfl⟩
  · rintro i v acc F1 k hv' ⟨rfl, rfl⟩ hk hk2
    rw [List.getElem?_map] at hv'
    obtain ⟨z, hz, rfl⟩ := Option.map_eq_some_iff.mp hv'
    have hm : z ∈ held.map (·.1) := mem_sortS.mp (List.mem_of_getElem? hz)
    cases hg : hget held z with
    | none => exact absurd hm (hget_none.mp hg)
    | some p =>
      have hkg : kget (hv held) z = some (frP p) := by rw [hv_get, hg]; rfl
      have ht : (sortS (held.map (·.1))).take (i + 1) = (sortS (held.map (·.1))).take i ++ [z] := by
        rw [List.take_add_one, hz]; rfl
      simp only [ixS, dcOf, ec.h, hkg]
      refine ⟨by rw [sizeLine_eq]; decide, eqS_fr (q := (0, 1)) ?_⟩
      by_cases hp : p = (0, 1)
      · rw [decide_eq_true hp]
        refine hk2 _ ⟨?_, rfl⟩
        rw [ht, List.filter_append]
        have : [z].filter (fun k => decide (hget held k ≠ some (0, 1))) = [] := by simp [hg, hp]
        rw [this, List.append_nil]
      · rw [decide_eq_false hp]
        simp only [Bool.not_false, dcOf, ec.h, hkg]
        refine ⟨by rw [sizeLine_eq]; decide, hk _ _ ⟨?_, rfl⟩⟩
        rw [ht, List.filter_append]
        have : [z].filter (fun k => decide (hget held k ≠ some (0, 1))) = [z] := by simp [hg, hp]
        rw [this, List.map_append]
        simp [hg]
  · rintro acc F1 ⟨rfl, rfl⟩
    rw [List.length_map, List.take_length]
    exact hq
/-! ### a sale -/
/-- what a sale makes of what is held -/
def soldH (held : Held) (one other : Str) (p : Int × Int) : Held :=
  let r := hput held one (less ((hget held one).getD (0, 1)) p)
  hput r other (more ((hget r other).getD (0, 1)) p)
theorem sm_le {x : Int} {n : Nat} (h0 : 0 ≤ x) (h : x ≤ 2 ^ n) (hn : n < 9000) : Sm x := bits_ok h0 h hn
theorem Fr.sm {n : Nat} {p : Int × Int} (f : Fr n p) (hn : n ≤ 70) : SmP p := ⟨bits_ok f.nn f.sm1 (by omega), bits_ok (Int.le_of_lt f.pos) f.sm2 (by omega)⟩
theorem Pt.sm {n : Nat} {sh p : Int × Int} (h : Pt sh p) (f : Fr n sh) (hn : n ≤ 70) (hd : p.2 < 10 ^ 29) : SmP p := by
  have h2 : p.2 ≤ 2 ^ 97 := by
    have : (10 : Int) ^ 29 ≤ 2 ^ 97 := by decide
    omega
  refine ⟨bits_ok (n := n + 97) (Int.le_of_lt h.pos) ?_ (by omega), bits_ok (Int.le_of_lt h.dpos) h2 (by decide)⟩
  have h3 := h.val f
  have h4 : (2 : Int) ^ n * p.2 ≤ 2 ^ n * 2 ^ 97 := Int.mul_le_mul_of_nonneg_left h2 (Int.le_of_lt (two_pow_pos n))
  rw [← Int.pow_add] at h4
  exact Int.le_trans h3 h4
theorem prod_sm {n : Nat} {o p : Int × Int} (f : Fr n o) (h0 : 0 < p.2) (hn : n ≤ 70) (hd : p.2 < 10 ^ 29) : 0 < o.2 * p.2 ∧ Sm (o.2 * p.2) := by
  have hb : 0 < o.2 * p.2 := Int.mul_pos f.pos h0
  have h2 : p.2 ≤ 2 ^ 97 := by
    have : (10 : Int) ^ 29 ≤ 2 ^ 97 := by decide
    omega
  refine ⟨hb, bits_ok (n := 97 * n + 97) (Int.le_of_lt hb) ?_ (by omega)⟩
  have h3 : o.2 * p.2 ≤ 2 ^ (97 * n) * p.2 := Int.mul_le_mul_of_nonneg_right f.sm2 (Int.le_of_lt h0)
  have h4 : (2 : Int) ^ (97 * n) * p.2 ≤ 2 ^ (97 * n) * 2 ^ 97 := Int.mul_le_mul_of_nonneg_left h2 (Int.le_of_lt (two_pow_pos _))
  rw [← Int.pow_add] at h4
  exact Int.le_trans h3 h4
def spSale (CB CE : Addr) : Spec := fun vs F Q _ => ∃ b x one other p pl en ps es e h nums held n, vs = [.ref b, .str x, .str one, .str other, frP p] ∧ BkC CB F b pl en ps es ∧ kget es x = some (.ref e) ∧ EnC CE F e h nums held ∧
  (one ∈ ps ∨ one ∈ es.map (·.1)) ∧ (other ∈ ps ∨ other ∈ es.map (·.1)) ∧ Fr n ((hget held one).getD (0, 1)) ∧ Pt ((hget held one).getD (0, 1)) p ∧ p.2 < 10 ^ 29 ∧ Fr (n + 1) ((hget (hput held one (less ((hget held one).getD (0, 1)) p)) other).getD (0, 1)) ∧ n ≤ 60 ∧
  held.length < 1000 ∧ Q .non (mset F h (.dict (hv (soldH held one other p))))
theorem hput_len (l : Held) (k : Str) (v : Int × Int) : (hput l k v).length ≤ l.length + 1 := by
  unfold hput
  split <;> simp
theorem getD_fr {o : Option (Int × Int)} : (o.map frP).getD (frP (0, 1)) = frP (o.getD (0, 1)) := by
  cases o <;> rfl
theorem hv_len {l : Held} : (hv l).length = l.length := by unfold hv; rw [List.length_map]
theorem w_sale {Γ : Amb} {CB CE CN : Addr} {ra : CallR1 Γ "added"} {rm : CallR1 Γ "minus"} {rl : CallR1 Γ "is_less"} {x1 : RaiR Γ "NoShare"} {th : MethR Γ "must_hold"} {fh : FldR Γ "held"} {te : MethR Γ "entry_of"} (ha : ra.sp = spAdded) (hm : rm.sp = spMinus) (hl : rl.sp = spLess)
    (h1 : fh.C = CE) (ht : th.sp = spMustHold CB) (htc : th.C = CB) (hte : te.sp = spEntryOf CB CN) (htec : te.C = CB) : ∀ vs F Q E, spSale CB CE vs F Q E → wpB (fun C fs _ F => E C fs F) (c_Book_sale ra rm rl x1 th fh te) (start1 n_Book_sale vs) F (fun _ F => Q .non F) Q := by
  rintro vs F Q E ⟨b, x, one, other, p, pl, en, ps, es, e, h, nums, held, n, rfl, bk, hx, ec, ho1, ho2, f1, pt, hd, f2, hn, hlen, hq⟩
  unfold c_Book_sale
  simp only [wpB, wpS, wpE, wpEs, wpT, wpTs, wpCs, wpP, wpIt, wpBl, bindT, biS, bmS, recS, tyS, truS, start1, List.map, List.length, List.replicate, List.append_nil, List.nil_append, List.cons_append, Nat.sub_self, Nat.reduceSub, Nat.reduceAdd, List.length_cons, List.length_nil, List.getElem?_cons_zero, List.getElem?_cons_succ, List.set_cons_zero, List.set_cons_succ, setAll, wipe1, Tg.slots, binS, subS, fdivS, modS, powS, cmpS, ltS, isS, isNS, asStrs, asBls, newLs, n_Book_sale, bk.b, h1, ha, hm, hl, ht, htc, hte, htec]
  refine ⟨trivial, rfl, b, x, pl, en, ps, es, rfl, bk, .inl ⟨_, hx, ?_⟩⟩
  simp only [ec.e, fld_held, bk.b]
  refine ⟨trivial, trivial, rfl, b, one, pl, en, ps, es, rfl, bk, ho1, ?_⟩
  simp only [bk.b]
  refine ⟨trivial, rfl, b, other, pl, en, ps, es, rfl, bk, ho2, ?_⟩
  refine ⟨⟨h, hv held, rfl, by simp only [dcOf, ec.h]⟩, by rw [sizeLine_eq]; decide, ?_⟩
  simp only [dcOf, ec.h]
  rw [hv_get]
  have eg : (Option.map frP (hget held one)).getD (Val.tup [.int 0, .int 1]) = frP ((hget held one).getD (0, 1)) := getD_fr
  rw [eg]
  have s1 := f1.sm (by omega : n ≤ 70)
  have sp := pt.sm f1 (by omega) hd
  have s2 := f2.sm (by omega : n + 1 ≤ 70)
  obtain ⟨b1, b2⟩ := prod_sm f1 pt.dpos (by omega) hd
  obtain ⟨c1, c2⟩ := prod_sm f2 pt.dpos (by omega) hd
  have hpp := pt.pos
  have hle := pt.le
  refine ix0 ?_
  simp only
  rw [decide_eq_false (by omega)]
  refine ⟨_, _, rfl, s1, sp, ?_⟩
  simp only [wpB, wpS, wpE, wpEs, wpT, wpTs, wpCs, wpP, wpIt, wpBl, bindT, biS, bmS, recS, tyS, truS, start1, List.map, List.length, List.replicate, List.append_nil, List.nil_append, List.cons_append, Nat.sub_self, Nat.reduceSub, Nat.reduceAdd, List.length_cons, List.length_nil, List.getElem?_cons_zero, List.getElem?_cons_succ, List.set_cons_zero, List.set_cons_succ, setAll, wipe1, Tg.slots, binS, subS, fdivS, modS, powS, cmpS, ltS, isS, isNS, asStrs, asBls, newLs]
  rw [decide_eq_false (by omega)]
  simp only
  refine ⟨_, _, rfl, s1, sp, b1, b2, ?_⟩
  simp only [setS, ec.h]
  rw [hv_put]
  refine ⟨by rw [hv_len, sizeLine_eq]; omega, ⟨h, hv (hput held one (less ((hget held one).getD (0, 1)) p)), rfl, by simp only [dcOf, mset_same]⟩, by rw [sizeLine_eq]; decide, ?_⟩
  simp only [dcOf, mset_same]
  rw [hv_get]
  have eg2 : ∀ o : Option (Int × Int), (Option.map frP o).getD (Val.tup [.int 0, .int 1]) = frP (o.getD (0, 1)) := fun o => getD_fr
  rw [eg2]
  refine ⟨_, _, rfl, s2, sp, c1, c2, ?_⟩
  simp only [mset_same, mset_mset]
  rw [hv_put]
  have hl2 := hput_len held one (less ((hget held one).getD (0, 1)) p)
  exact ⟨by rw [hv_len, sizeLine_eq]; omega, hq⟩
end Bv

/-! Whom a house reaches. -/
namespace Bv
open PySem L2 PyProof.Rows
/-- a text whose signs are signs -/
def VS (x : Str) : Prop := x.cps.all (· < 0x110000) = true
theorem Name.vs {x : Str} (h : Name x) : VS x := by
  unfold VS
  rw [← Array.all_toList, List.all_eq_true]
  intro c hc
  have h1 := h.ok c hc
  have h2 : ∀ c ∈ abc.cps.toList, c < 0x110000 := by decide +kernel
  exact decide_eq_true (h2 c h1)
theorem eqvAll_strs : ∀ (l m : List Str), PyData.eqvAll ((l.map Val.str).map toPD) ((m.map Val.str).map toPD) = decide (l = m)
  | [], [] => by simp [PyData.eqvAll]
  | [], _ :: _ => by simp [PyData.eqvAll]
  | _ :: _, [] => by simp [PyData.eqvAll]
  | a :: l, b :: m => by
    have := eqvAll_strs l m
    simp only [List.map_cons, PyData.eqvAll, toPD, PyData.eqv] at this ⊢
    rw [this]
    by_cases h1 : a = b <;> by_cases h2 : l = m <;> simp [h1, h2]
theorem eqS_strs {a b : Val} {l m : List Str} {F : MH} {Q : Bool → Prop} (h1 : rdF F a = .lst (l.map .str)) (h2 : rdF F b = .lst (m.map .str)) (v1 : ∀ x ∈ l, VS x) (v2 : ∀ x ∈ m, VS x) (h : Q (decide (l = m))) : eqS a b F Q := by
  have ok : ∀ (l : List Str), (∀ x ∈ l, VS x) → okD 60 (.lst (l.map .str)) = true := fun l v => by
    simp only [okD]
    rw [List.all_map, List.all_eq_true]
    intro x hx
    show okD 59 (.str x) = true
    have := v x hx
    unfold VS at this
    simpa [okD] using this
  refine ⟨by rw [h1]; exact ok l v1, by rw [h2]; exact ok m v2, ?_⟩
  rw [h1, h2, toPD_lst, toPD_lst]
  have e : PyData.eqv (.list ((l.map Val.str).map toPD)) (.list ((m.map Val.str).map toPD)) = decide (l = m) := by
    simp only [PyData.eqv]
    exact eqvAll_strs l m
  rw [e]
  exact h
/-! ### houses, as told -/
abbrev N3 := Int × Int × Int
def numV (n : N3) : Val := .tup [.int n.1, .int n.2.1, .int n.2.2]
structure Hs where
  nm : Str
  e : Addr
  h : Addr
  nums : N3
  held : Held
  g : Addr
  three : N3
  sh : Held
  k : Nat
def entD (hs : List Hs) : List (Str × Val) := hs.map fun x => (x.nm, .ref x.e)
theorem entD_keys (hs : List Hs) : (entD hs).map (·.1) = hs.map (·.nm) := by unfold entD; rw [List.map_map]; rfl
structure Gr (CB CE : Addr) (un : List Str) (F : MH) (b pl en : Addr) (ps : List Str) (hs : List Hs) : Prop where
  c : BkC CB F b pl en ps (entD hs)
  ent : ∀ x ∈ hs, EnC CE F x.e x.h (numV x.nums) x.held
  nd : (hs.map (·.nm)).Nodup
  len : hs.length ≤ 8
  hl : ∀ x ∈ hs, x.held.length < 64
  unm : ∀ x ∈ hs, ∀ z ∈ x.held.map (·.1), z ∈ un
  ul : un.length ≤ 30
  vs : ∀ x ∈ hs, VS x.nm
def Ext (F F' : MH) : Prop := ∀ a c, F a = some c → F' a = some c
theorem Gr.ext {CB CE : Addr} {un : List Str} {F F' : MH} {b pl en : Addr} {ps : List Str} {hs : List Hs} (h : Gr CB CE un F b pl en ps hs) (e : Ext F F') : Gr CB CE un F' b pl en ps hs :=
  { h with c := ⟨e _ _ h.c.b, e _ _ h.c.pl, e _ _ h.c.en⟩, ent := fun x hx => ⟨e _ _ (h.ent x hx).e, e _ _ (h.ent x hx).h⟩ }
theorem Ext.new {F F' : MH} {p : Addr} {c : Cell} (e : Ext F F') (h : F p = none) : Ext F (mset F' p c) := fun a d q => by
  have : a ≠ p := fun z => by rw [z, h] at q; cases q
  rw [mset_ne this]
  exact e a d q
theorem Ext.none {F F' : MH} (e : Ext F F') {p : Addr} (h : F' p = Option.none) : F p = Option.none := by
  cases q : F p with
  | none => rfl
  | some c => rw [e p c q] at h; cases h
/-- from holder to holder -/
def Nx (hs : List Hs) (y z : Str) : Prop := ∃ x ∈ hs, x.nm = y ∧ z ∈ showS x.held
inductive Rch (N : Str → Str → Prop) (a : Str) : Str → Prop
  | one {z : Str} : N a z → Rch N a z
  | step {y z : Str} : Rch N a y → N y z → Rch N a z
theorem nx_un {CB CE : Addr} {un : List Str} {F : MH} {b pl en : Addr} {ps : List Str} {hs : List Hs} (h : Gr CB CE un F b pl en ps hs) {y z : Str} (n : Nx hs y z) : z ∈ un := by
  obtain ⟨x, hx, rfl, hz⟩ := n
  unfold showS at hz
  exact h.unm x hx z (mem_sortS.mp (List.mem_filter.mp hz).1)
theorem nodup_len : ∀ {l m : List Str}, l.Nodup → (∀ x ∈ l, x ∈ m) → l.length ≤ m.length
  | [], _, _, _ => Nat.zero_le _
  | a :: l, m, nd, h => by
    rw [List.nodup_cons] at nd
    have ha := h a List.mem_cons_self
    have := nodup_len (m := m.erase a) nd.2 fun x hx => (List.mem_erase_of_ne (fun z => nd.1 (by rw [← z]; exact hx))).mpr (h x (List.mem_cons_of_mem _ hx))
    rw [List.length_erase_of_mem ha] at this
    have hp : 0 < m.length := List.length_pos_of_mem ha
    rw [List.length_cons]
    omega
def spReached (CB CE CN : Addr) : Spec := fun vs F Q E => ∃ b x un pl en ps hs, vs = [.ref b, .str x] ∧ Gr CB CE un F b pl en ps hs ∧
  ((x ∉ hs.map (·.nm) ∧ E CN [] F) ∨ (x ∈ hs.map (·.nm) ∧ ∀ F' (L : List Str), Ext F F' → Asc L → L.Nodup → (∀ z, z ∈ L ↔ Rch (Nx hs) x z) → Q (.lst (L.map .str)) F'))
/-- what stands at a turn of the search -/
structure Srch (hs : List Hs) (x : Str) (here : Option Str) (found row : List Str) : Prop where
  nd : found.Nodup
  ok : ∀ z ∈ found, Rch (Nx hs) x z
  rh : ∀ y ∈ row, y ∈ hs.map (·.nm)
  rr : ∀ y ∈ row, y = x ∨ y ∈ found
  cl : ∀ y, (y = x ∨ y ∈ found) → y ∈ hs.map (·.nm) → y ∈ row ∨ here = some y ∨ ∀ z, Nx hs y z → z ∈ found
theorem Srch.done {hs : List Hs} {x : Str} {found : List Str} (s : Srch hs x none found []) : ∀ z, z ∈ found ↔ Rch (Nx hs) x z := by
  have cl : ∀ y, (y = x ∨ y ∈ found) → ∀ z, Nx hs y z → z ∈ found := fun y hy z hz => by
    have hm : y ∈ hs.map (·.nm) := by
      obtain ⟨w, hw, rfl, _⟩ := hz
      exact List.mem_map.mpr ⟨w, hw, rfl⟩
    rcases s.cl y hy hm with h | h | h
    · cases h
    · cases h
    · exact h z hz
  intro z
  refine ⟨s.ok z, fun h => ?_⟩
  induction h with
  | one h => exact cl x (.inl rfl) _ h
  | step _ h ih => exact cl _ (.inr ih) _ h
theorem mem_names {hs : List Hs} {y : Str} (h : y ∈ hs.map (·.nm)) : ∃ x ∈ hs, x.nm = y := by
  obtain ⟨x, hx, e⟩ := List.mem_map.mp h
  exact ⟨x, hx, e⟩
theorem nx_of {hs : List Hs} (nd : (hs.map (·.nm)).Nodup) {x : Hs} (hx : x ∈ hs) {z : Str} (h : Nx hs x.nm z) : z ∈ showS x.held := by
  obtain ⟨w, hw, e, hz⟩ := h
  have : w = x := by
    induction hs with
    | nil => cases hx
    | cons a l ih =>
      rw [List.map_cons, List.nodup_cons] at nd
      rcases List.mem_cons.mp hx with h1 | h1
      · rcases List.mem_cons.mp hw with h2 | h2
        · rw [h1, h2]
        · exact absurd (List.mem_map.mpr ⟨w, h2, by rw [e, h1]⟩) nd.1
      · rcases List.mem_cons.mp hw with h2 | h2
        · exact absurd (List.mem_map.mpr ⟨x, h1, by rw [← e, h2]⟩) nd.1
        · exact ih nd.2 h1 h2
  rw [← this]
  exact hz
theorem last_str (l : List Str) (z : Str) : ((l ++ [z]).map Val.str)[((l ++ [z]).map Val.str).length - 1]? = some (.str z) := by
  rw [List.map_append]
  simp
theorem drop_str (l : List Str) (z : Str) : ((l ++ [z]).map Val.str).dropLast = l.map .str := by
  rw [List.map_append]
  simp
theorem Srch.start {hs : List Hs} {x : Str} (hx : x ∈ hs.map (·.nm)) : Srch hs x none [] [x] where
  nd := List.nodup_nil
  ok := fun z h => nomatch h
  rh := fun y h => by rw [List.mem_singleton.mp h]; exact hx
  rr := fun y h => .inl (List.mem_singleton.mp h)
  cl := fun y h _ => by
    rcases h with h | h
    · exact .inl (by rw [h]; exact List.mem_singleton.mpr rfl)
    · cases h
theorem Srch.pop {hs : List Hs} {x h0 : Str} {found r0 : List Str} (s : Srch hs x none found (r0 ++ [h0])) : Srch hs x (some h0) found r0 where
  nd := s.nd
  ok := s.ok
  rh := fun y h => s.rh y (List.mem_append_left _ h)
  rr := fun y h => s.rr y (List.mem_append_left _ h)
  cl := fun y h hn => by
    rcases s.cl y h hn with q | q | q
    · rcases List.mem_append.mp q with q | q
      · exact .inl q
      · exact .inr (.inl (by rw [List.mem_singleton.mp q]))
    · cases q
    · exact .inr (.inr q)
theorem Srch.add {hs : List Hs} {x h0 z : Str} {found row : List Str} (s : Srch hs x (some h0) found row) (hz : z ∉ found) (hr : Rch (Nx hs) x z) {row' : List Str} (h1 : z ∈ hs.map (·.nm) → row' = row ++ [z]) (h2 : z ∉ hs.map (·.nm) → row' = row) : Srch hs x (some h0) (found ++ [z]) row' := by
  have sub : ∀ y, y ∈ row → y ∈ row' := fun y hy => by
    by_cases h : z ∈ hs.map (·.nm)
    · rw [h1 h]; exact List.mem_append_left _ hy
    · rw [h2 h]; exact hy
  have back : ∀ y, y ∈ row' → y ∈ row ∨ (y = z ∧ z ∈ hs.map (·.nm)) := fun y hy => by
    by_cases h : z ∈ hs.map (·.nm)
    · rw [h1 h] at hy
      rcases List.mem_append.mp hy with q | q
      · exact .inl q
      · exact .inr ⟨List.mem_singleton.mp q, h⟩
    · rw [h2 h] at hy; exact .inl hy
  refine ⟨?_, fun y hy => ?_, fun y hy => ?_, fun y hy => ?_, fun y hy hn => ?_⟩
  · rw [List.nodup_append]
    refine ⟨s.nd, by simp, fun a ha b hb e => ?_⟩
    rw [List.mem_singleton.mp hb] at e
    exact hz (e ▸ ha)
  · rcases List.mem_append.mp hy with q | q
    · exact s.ok y q
    · rw [List.mem_singleton.mp q]; exact hr
  · rcases back y hy with q | ⟨rfl, q⟩
    · exact s.rh y q
    · exact q
  · rcases back y hy with q | ⟨rfl, q⟩
    · rcases s.rr y q with q | q
      · exact .inl q
      · exact .inr (List.mem_append_left _ q)
    · exact .inr (List.mem_append_right _ (List.mem_singleton.mpr rfl))
  · by_cases hyz : y = z
    · subst hyz
      exact .inl (by rw [h1 hn]; exact List.mem_append_right _ (List.mem_singleton.mpr rfl))
    · have hy' : y = x ∨ y ∈ found := by
        rcases hy with q | q
        · exact .inl q
        · rcases List.mem_append.mp q with q | q
          · exact .inr q
          · exact absurd (List.mem_singleton.mp q) hyz
      rcases s.cl y hy' hn with q | q | q
      · exact .inl (sub y q)
      · exact .inr (.inl q)
      · exact .inr (.inr fun w hw => List.mem_append_left _ (q w hw))
theorem Srch.end {hs : List Hs} {x h0 : Str} {found row : List Str} (s : Srch hs x (some h0) found row) (h : ∀ z, Nx hs h0 z → z ∈ found) : Srch hs x none found row where
  nd := s.nd
  ok := s.ok
  rh := s.rh
  rr := s.rr
  cl := fun y hy hn => by
    rcases s.cl y hy hn with q | q | q
    · exact .inl q
    · cases q; exact .inr (.inr h)
    · exact .inr (.inr q)
end Bv

/-! What is due; what is refused. -/
namespace Bv
open PySem L2 PyProof.Rows
def modD (hs : List Hs) : List (Str × Val) := hs.map fun x => (x.nm, .lst [.ref x.g, numV x.three])
theorem modD_keys (hs : List Hs) : (modD hs).map (·.1) = hs.map (·.nm) := by unfold modD; rw [List.map_map]; rfl
def Nm (hs : List Hs) (y z : Str) : Prop := ∃ x ∈ hs, x.nm = y ∧ z ∈ x.sh.map (·.1)
structure Md (un : List Str) (F : MH) (m : Addr) (hs : List Hs) : Prop where
  m : dcOf F m = some (modD hs)
  sh : ∀ x ∈ hs, F x.g = some (.dict (hv x.sh))
  nd : (hs.map (·.nm)).Nodup
  snd : ∀ x ∈ hs, (x.sh.map (·.1)).Nodup
  unm : ∀ x ∈ hs, ∀ z ∈ x.sh.map (·.1), z ∈ un
  ul : un.length ≤ 30
theorem Md.get {un : List Str} {F : MH} {m : Addr} {hs : List Hs} (h : Md un F m hs) {x : Hs} (hx : x ∈ hs) : kget (modD hs) x.nm = some (.lst [.ref x.g, numV x.three]) :=
  kget_of (by rw [modD_keys]; exact h.nd) (List.mem_map.mpr ⟨x, hx, rfl⟩)
theorem same_rec {hs : List Hs} (nd : (hs.map (·.nm)).Nodup) {x w : Hs} (hx : x ∈ hs) (hw : w ∈ hs) (e : w.nm = x.nm) : w = x := by
  induction hs with
  | nil => cases hx
  | cons a l ih =>
    rw [List.map_cons, List.nodup_cons] at nd
    rcases List.mem_cons.mp hx with h1 | h1
    · rcases List.mem_cons.mp hw with h2 | h2
      · rw [h1, h2]
      · exact absurd (List.mem_map.mpr ⟨w, h2, by rw [e, h1]⟩) nd.1
    · rcases List.mem_cons.mp hw with h2 | h2
      · exact absurd (List.mem_map.mpr ⟨x, h1, by rw [← e, h2]⟩) nd.1
      · exact ih nd.2 h1 h2
theorem nm_of {hs : List Hs} (nd : (hs.map (·.nm)).Nodup) {x : Hs} (hx : x ∈ hs) {z : Str} (h : Nm hs x.nm z) : z ∈ x.sh.map (·.1) := by
  obtain ⟨w, hw, e, hz⟩ := h
  rw [← same_rec nd hx hw e]
  exact hz
/-- what is found, at a turn -/
structure Fnd (hs : List Hs) (x : Str) (found : List Str) (at_ : Nat) : Prop where
  nd : found.Nodup
  ok : ∀ z ∈ found, Rch (Nm hs) x z
  fst : ∀ z, Nm hs x z → z ∈ found
  cl : ∀ i y, i < at_ → found[i]? = some y → ∀ z, Nm hs y z → z ∈ found
theorem Fnd.done {hs : List Hs} {x : Str} {found : List Str} {at_ : Nat} (s : Fnd hs x found at_) (h : found.length ≤ at_) : ∀ z, z ∈ found ↔ Rch (Nm hs) x z := fun z => by
  refine ⟨s.ok z, fun r => ?_⟩
  induction r with
  | one n => exact s.fst _ n
  | step _ n ih =>
    obtain ⟨i, hi⟩ := List.mem_iff_getElem?.mp ih
    exact s.cl i _ (Nat.lt_of_lt_of_le (List.getElem?_eq_some_iff.mp hi).1 h) hi _ n
theorem sort_dict {m : Bool} {g : Addr} {sh : Held} {F : MH} {Q : Q1} (e : F g = some (.dict (hv sh))) (hl : sh.length < 64) (q : newLs m ((sortS (sh.map (·.1))).map .str) F Q) : sortedF m (.ref g) F Q := by
  unfold sortedF
  simp only [lsOf, e, dcOf, hv_keys]
  exact ⟨by rw [hv_len]; exact hl, q⟩
/-! ### a name that no house has -/
end Bv

/-! What a sale does to book and model. -/
namespace Bv
open PySem L2 PyProof.Rows
def hdrop (l : Held) (k : Str) : Held := l.filter fun x => decide (x.1 ≠ k)
theorem hv_drop (l : Held) (k : Str) : kdrop (hv l) k = hv (hdrop l k) := by
  unfold kdrop hdrop hv
  rw [List.filter_map]
  rfl
theorem hget_drop (l : Held) (k j : Str) : hget (hdrop l k) j = if j = k then none else hget l j := by
  unfold hget hdrop
  rw [List.find?_filter]
  by_cases h : j = k
  · rw [if_pos h]
    have : l.find? (fun a => decide (a.1 ≠ k ∧ a.1 = j)) = none := by
      rw [List.find?_eq_none]
      intro x _ e
      simp only [decide_eq_true_eq] at e
      exact e.1 (e.2.trans h)
    simp only [Bool.decide_and, Bool.and_eq_true, decide_eq_true_eq] at this ⊢
    first | rw [this] | (simp only [← Bool.decide_and]; rw [this]) | simp [this]
    rfl
  · rw [if_neg h]
    congr 1
    congr 1
    funext x
    by_cases hx : x.1 = j
    · have : x.1 ≠ k := fun z => h (hx.symm.trans z)
      simp [hx, h]
    · simp [hx]
/-- nought is nothing -/
def nz (o : Option (Int × Int)) : Option (Int × Int) := match o with
  | some v => if v = (0, 1) then none else some v
  | none => none
structure RecOk (un : List Str) (n : Nat) (held sh : Held) : Prop where
  hn : (held.map (·.1)).Nodup
  sn : (sh.map (·.1)).Nodup
  hu : ∀ z ∈ held.map (·.1), z ∈ un
  su : ∀ z ∈ sh.map (·.1), z ∈ un
  rel : ∀ z, hget sh z = nz (hget held z)
  fr : ∀ z v, hget held z = some v → Fr n v
  pos : ∀ z v, hget sh z = some v → 0 < v.1
  ne : sh ≠ []
theorem nz_some {o : Option (Int × Int)} {v : Int × Int} (h : nz o = some v) : o = some v := by
  unfold nz at h
  split at h
  · split at h
    · cases h
    · exact h
  · cases h
theorem nz_getD (o : Option (Int × Int)) : (nz o).getD (0, 1) = o.getD (0, 1) := by
  cases o with
  | none => rfl
  | some v =>
    unfold nz
    simp only
    by_cases h : v = (0, 1)
    · rw [if_pos h, h]; rfl
    · rw [if_neg h]
theorem less_zero {v p : Int × Int} {n : Nat} (f : Fr n v) (pt : Pt v p) : (less v p).1 > 0 ∨ less v p = (0, 1) := by
  have h1 := pt.le
  have hb : 0 < v.2 * p.2 := Int.mul_pos f.pos pt.dpos
  by_cases h : v.1 * p.2 - p.1 * v.2 = 0
  · right
    unfold less
    rw [h, low_zero hb]
  · left
    unfold less
    exact (low_pos_iff (by omega) hb).mpr (by omega)
def restS (sh : Held) (one : Str) (r : Int × Int) : Held := if r.1 > 0 then hput (hdrop sh one) one r else hdrop sh one
def soldS (sh : Held) (one other : Str) (v p : Int × Int) : Held := hput (restS sh one (less v p)) other (more ((hget (restS sh one (less v p)) other).getD (0, 1)) p)
theorem hput_nodup {l : Held} {k : Str} {v : Int × Int} (h : (l.map (·.1)).Nodup) : ((hput l k v).map (·.1)).Nodup := by
  rw [hput_keys]
  split
  · exact h
  · rename_i hk
    rw [List.nodup_append]
    exact ⟨h, by simp, fun a ha b hb e => hk (by rw [← List.mem_singleton.mp hb, ← e]; exact ha)⟩
theorem hdrop_nodup {l : Held} {k : Str} (h : (l.map (·.1)).Nodup) : ((hdrop l k).map (·.1)).Nodup := by
  unfold hdrop
  exact (List.Sublist.map _ List.filter_sublist).nodup h
theorem hdrop_mem {l : Held} {k z : Str} (h : z ∈ (hdrop l k).map (·.1)) : z ∈ l.map (·.1) := by
  unfold hdrop at h
  exact (List.Sublist.map _ List.filter_sublist).subset h
theorem hput_mem {l : Held} {k z : Str} {v : Int × Int} (h : z ∈ (hput l k v).map (·.1)) : z ∈ l.map (·.1) ∨ z = k := by
  rw [hput_keys] at h
  split at h
  · exact .inl h
  · rcases List.mem_append.mp h with q | q
    · exact .inl q
    · exact .inr (List.mem_singleton.mp q)
theorem rest_rel {held sh : Held} {one : Str} {r : Int × Int} (rel : ∀ z, hget sh z = nz (hget held z)) (h : r.1 > 0 ∨ r = (0, 1)) : ∀ z, hget (restS sh one r) z = nz (hget (hput held one r) z) := fun z => by
  unfold restS
  rw [hget_put]
  by_cases hz : z = one
  · rw [if_pos hz]
    by_cases hr : r.1 > 0
    · rw [if_pos hr, hget_put, if_pos hz]
      have : r ≠ (0, 1) := fun e => by rw [e] at hr; exact absurd hr (by decide)
      unfold nz
      simp only
      rw [if_neg this]
    · rw [if_neg hr, hget_drop, if_pos hz]
      rcases h with h | h
      · exact absurd h hr
      · rw [h]; rfl
  · rw [if_neg hz, ← rel z]
    by_cases hr : r.1 > 0
    · rw [if_pos hr, hget_put, if_neg hz, hget_drop, if_neg hz]
    · rw [if_neg hr, hget_drop, if_neg hz]
theorem rest_nodup {sh : Held} {one : Str} {r : Int × Int} (h : (sh.map (·.1)).Nodup) : ((restS sh one r).map (·.1)).Nodup := by
  unfold restS
  split
  · exact hput_nodup (hdrop_nodup h)
  · exact hdrop_nodup h
theorem rest_mem {sh : Held} {one z : Str} {r : Int × Int} (h : z ∈ (restS sh one r).map (·.1)) : z ∈ sh.map (·.1) ∨ z = one := by
  unfold restS at h
  split at h
  · rcases hput_mem h with q | q
    · exact .inl (hdrop_mem q)
    · exact .inr q
  · exact .inl (hdrop_mem h)
theorem hput_ne (l : Held) (k : Str) (v : Int × Int) : hput l k v ≠ [] := by
  intro h
  have h1 := hget_put l k k v
  rw [h, if_pos rfl] at h1
  cases h1
theorem RecOk.up {un : List Str} {n : Nat} {held sh : Held} (h : RecOk un n held sh) : RecOk un (n + 1) held sh := { h with fr := fun z v e => (h.fr z v e).up }
theorem RecOk.frD {un : List Str} {n : Nat} {held sh : Held} (h : RecOk un n held sh) (z : Str) : Fr n ((hget held z).getD (0, 1)) := by
  cases e : hget held z with
  | none => exact Fr.zero.mono (Nat.zero_le _)
  | some v => exact h.fr z v e
theorem RecOk.frD1 {un : List Str} {n : Nat} {held sh : Held} (h : RecOk un n held sh) {one : Str} {p : Int × Int} (pt : Pt ((hget held one).getD (0, 1)) p) (hd : p.2 < 10 ^ 29) (z : Str) : Fr (n + 1) ((hget (hput held one (less ((hget held one).getD (0, 1)) p)) z).getD (0, 1)) := by
  rw [hget_put]
  by_cases hz : z = one
  · rw [if_pos hz]
    exact (h.frD one).less pt hd
  · rw [if_neg hz]
    exact (h.frD z).up
theorem RecOk.sold {un : List Str} {n : Nat} {held sh : Held} (h : RecOk un n held sh) {one other : Str} {v p : Int × Int} (hv1 : hget sh one = some v) (pt : Pt v p) (hd : p.2 < 10 ^ 29) (ho : one ∈ un) (ho2 : other ∈ un) : RecOk un (n + 2) (soldH held one other p) (soldS sh one other v p) := by
  have hh : hget held one = some v := nz_some (by rw [← h.rel one]; exact hv1)
  have fv := h.fr one v hh
  have hD : (hget held one).getD (0, 1) = v := by rw [hh]; rfl
  have pt' : Pt ((hget held one).getD (0, 1)) p := by rw [hD]; exact pt
  have f1 := h.frD1 pt' hd
  rw [hD] at f1
  have rr := rest_rel (one := one) h.rel (less_zero fv pt)
  have eD : (hget (restS sh one (less v p)) other).getD (0, 1) = (hget (hput held one (less v p)) other).getD (0, 1) := by rw [rr, nz_getD]
  obtain ⟨m1, m2⟩ := fv.more pt hd (f1 other) (Nat.le_succ n)
  have mne : more ((hget (hput held one (less v p)) other).getD (0, 1)) p ≠ (0, 1) := fun e => by
    have : 0 < (more ((hget (hput held one (less v p)) other).getD (0, 1)) p).1 := m2
    rw [e] at this
    exact absurd this (by decide)
  unfold soldH soldS
  simp only [hD]
  rw [eD]
  generalize (hget (hput held one (less v p)) other).getD (0, 1) = o1 at *
  have hk1 : ∀ z ∈ (hput held one (less v p)).map (·.1), z ∈ un := fun z hz => by
    rcases hput_mem hz with q | q
    · exact h.hu z q
    · rw [q]; exact ho
  have hn1 : ((hput held one (less v p)).map (·.1)).Nodup := hput_nodup h.hn
  generalize hput held one (less v p) = held1 at *
  refine ⟨hput_nodup hn1, hput_nodup (rest_nodup h.sn), fun z hz => ?_, fun z hz => ?_, fun z => ?_, fun z w e => ?_, fun z w e => ?_, hput_ne _ _ _⟩
  · rcases hput_mem hz with q | q
    · exact hk1 z q
    · rw [q]; exact ho2
  · rcases hput_mem hz with q | q
    · rcases rest_mem q with q | q
      · exact h.su z q
      · rw [q]; exact ho
    · rw [q]; exact ho2
  · rw [hget_put, hget_put]
    by_cases hz : z = other
    · rw [if_pos hz, if_pos hz]
      unfold nz
      simp only
      rw [if_neg mne]
    · rw [if_neg hz, if_neg hz]
      exact rr z
  · rw [hget_put] at e
    by_cases hz : z = other
    · rw [if_pos hz] at e
      cases e
      exact m1
    · rw [if_neg hz] at e
      have := f1 z
      rw [e] at this
      exact Fr.up this
  · rw [hget_put] at e
    by_cases hz : z = other
    · rw [if_pos hz] at e
      cases e
      exact m2
    · rw [if_neg hz] at e
      unfold restS at e
      by_cases hr : (less v p).1 > 0
      · rw [if_pos hr, hget_put] at e
        by_cases hz1 : z = one
        · rw [if_pos hz1] at e
          cases e
          exact hr
        · rw [if_neg hz1, hget_drop, if_neg hz1] at e
          exact h.pos z w e
      · rw [if_neg hr, hget_drop] at e
        by_cases hz1 : z = one
        · rw [if_pos hz1] at e; cases e
        · rw [if_neg hz1] at e
          exact h.pos z w e
theorem RecOk.show {un : List Str} {n : Nat} {held sh : Held} (h : RecOk un n held sh) (z : Str) : z ∈ showS held ↔ z ∈ sh.map (·.1) := by
  unfold showS
  rw [List.mem_filter, mem_sortS]
  have e1 := hget_none (l := sh) (k := z)
  have e2 := hget_none (l := held) (k := z)
  rw [h.rel z] at e1
  cases e : hget held z with
  | none =>
    rw [e] at e1 e2
    have h1 := e1.mp rfl
    have h2 := e2.mp rfl
    simp only [h1, h2, iff_false]
    simp
  | some v =>
    have hm : z ∈ held.map (·.1) := by
      by_cases q : z ∈ held.map (·.1)
      · exact q
      · rw [e] at e2; exact absurd (e2.mpr q) (by simp)
    rw [e] at e1
    by_cases hv0 : v = (0, 1)
    · have : nz (some v) = none := by unfold nz; simp [hv0]
      have h1 := e1.mp this
      simp only [h1, iff_false, hm, true_and, hv0]
      simp
    · have h1 : z ∈ sh.map (·.1) := by
        by_cases q : z ∈ sh.map (·.1)
        · exact q
        · have := e1.mpr q
          unfold nz at this
          simp [hv0] at this
      simp only [h1, hm, true_and, iff_true]
      simp [hv0]
end Bv

set_option pp.maxSteps 600
/-! Fractions as numbers; what is held of a house. -/
namespace Bv
open PySem L2 PyProof.Rows
theorem map_inj {α β : Type} {f : α → β} : ∀ {l : List α}, (l.map f).Nodup → ∀ {x y : α}, x ∈ l → y ∈ l → f x = f y → x = y
  | [], _, _, _, h, _, _ => nomatch h
  | a :: l, nd, x, y, hx, hy, e => by
    rw [List.map_cons, List.nodup_cons] at nd
    rcases List.mem_cons.mp hx with h1 | h1
    · rcases List.mem_cons.mp hy with h2 | h2
      · rw [h1, h2]
      · exact absurd (List.mem_map.mpr ⟨y, h2, by rw [← e, h1]⟩) nd.1
    · rcases List.mem_cons.mp hy with h2 | h2
      · exact absurd (List.mem_map.mpr ⟨x, h1, by rw [e, h2]⟩) nd.1
      · exact map_inj nd.2 h1 h2 e
def rt (p : Int × Int) : Rat := (p.1 : Rat) / (p.2 : Rat)
theorem cast_pos {x : Int} (h : 0 < x) : (0 : Rat) < (x : Rat) := by exact_mod_cast h
theorem rt_low {t b : Int} (hb : 0 < b) : rt (low t b) = (t : Rat) / (b : Rat) := by
  obtain ⟨g, hg, e1, e2⟩ := low_eq (t := t) hb
  generalize hq : low t b = q at *
  have hy : 0 < q.2 := Int.pos_of_mul_pos_left (by rw [← e2]; exact hb) hg
  have h1 := cast_pos hg
  have h2 := cast_pos hy
  have e3 : (t : Rat) = (q.1 : Rat) * (g : Rat) := by rw [e1, Rat.intCast_mul]
  have e4 : (b : Rat) = (q.2 : Rat) * (g : Rat) := by rw [e2, Rat.intCast_mul]
  unfold rt
  rw [e3, e4]
  grind
theorem rt_more {p q : Int × Int} (h1 : 0 < p.2) (h2 : 0 < q.2) : rt (more p q) = rt p + rt q := by
  unfold more
  rw [rt_low (Int.mul_pos h1 h2)]
  have c1 := cast_pos h1
  have c2 := cast_pos h2
  rw [Rat.intCast_add, Rat.intCast_mul, Rat.intCast_mul, Rat.intCast_mul]
  unfold rt
  grind
theorem rt_lt {p q : Int × Int} (h1 : 0 < p.2) (h2 : 0 < q.2) : p.1 * q.2 < q.1 * p.2 ↔ rt p < rt q := by
  have c1 := cast_pos h1
  have c2 := cast_pos h2
  have e : p.1 * q.2 < q.1 * p.2 ↔ (p.1 : Rat) * (q.2 : Rat) < (q.1 : Rat) * (p.2 : Rat) := by
    rw [← Rat.intCast_mul, ← Rat.intCast_mul]
    exact Rat.intCast_lt_intCast.symm
  rw [e]
  unfold rt
  rw [Rat.div_lt_iff c1]
  have : (q.1 : Rat) / (q.2 : Rat) * (p.2 : Rat) = (q.1 : Rat) * (p.2 : Rat) / (q.2 : Rat) := by grind
  rw [this, Rat.lt_div_iff c2]
theorem rt_zero : rt (0, 1) = 0 := by
  unfold rt
  simp [Rat.div_def]
theorem rt_less {p q : Int × Int} (h1 : 0 < p.2) (h2 : 0 < q.2) : rt (less p q) = rt p - rt q := by
  unfold less
  rw [rt_low (Int.mul_pos h1 h2)]
  have c1 := cast_pos h1
  have c2 := cast_pos h2
  rw [Rat.intCast_sub, Rat.intCast_mul, Rat.intCast_mul, Rat.intCast_mul]
  unfold rt
  grind
theorem rt_one : rt (1, 1) = 1 := by
  unfold rt
  show (1 : Rat) / 1 = 1
  grind
theorem coprime_dvd {a b c : Int} (h : a ∣ b * c) (g : Int.gcd b a = 1) : a ∣ c := by
  rw [← Int.natAbs_dvd_natAbs, Int.natAbs_mul] at h
  rw [← Int.natAbs_dvd_natAbs]
  refine Nat.Coprime.dvd_of_dvd_mul_left (m := b.natAbs) ?_ h
  rw [Nat.coprime_comm]
  exact g
theorem low_coprime {t b : Int} (hb : 0 < b) : Int.gcd (low t b).1 (low t b).2 = 1 := Int.gcd_ediv_gcd_ediv_gcd (Int.gcd_pos_of_ne_zero_right t (by omega))
theorem low_dvd {t b k L : Int} (hb : 0 < b) (h : t * L = k * b) : (low t b).2 ∣ L := by
  obtain ⟨g, hg, e1, e2⟩ := low_eq (t := t) hb
  have hc : Int.gcd (low t b).1 (low t b).2 = 1 := Int.gcd_ediv_gcd_ediv_gcd (Int.gcd_pos_of_ne_zero_right t (by omega))
  generalize low t b = q at *
  refine coprime_dvd (b := q.1) ⟨k, ?_⟩ hc
  have : (q.1 * L) * g = (q.2 * k) * g := by
    have e3 : t * L = q.1 * L * g := by rw [e1]; grind
    have e4 : k * b = q.2 * k * g := by rw [e2]; grind
    rw [← e3, ← e4, h]
  exact Int.eq_of_mul_eq_mul_right (by omega) this
theorem more_dvd {p q : Int × Int} {L : Int} (h1 : 0 < p.2) (h2 : 0 < q.2) (d1 : p.2 ∣ L) (d2 : q.2 ∣ L) : (more p q).2 ∣ L := by
  obtain ⟨x, rfl⟩ := d1
  obtain ⟨y, hy⟩ := d2
  refine low_dvd (k := p.1 * x + q.1 * y) (Int.mul_pos h1 h2) ?_
  rw [Int.add_mul, Int.add_mul]
  have e1 : p.1 * q.2 * (p.2 * x) = p.1 * x * (p.2 * q.2) := by grind
  have e2 : q.1 * p.2 * (p.2 * x) = q.1 * y * (p.2 * q.2) := by rw [hy]; grind
  rw [e1, e2]
theorem less_dvd {p q : Int × Int} {L : Int} (h1 : 0 < p.2) (h2 : 0 < q.2) (d1 : p.2 ∣ L) (d2 : q.2 ∣ L) : (less p q).2 ∣ L := by
  obtain ⟨x, rfl⟩ := d1
  obtain ⟨y, hy⟩ := d2
  refine low_dvd (k := p.1 * x - q.1 * y) (Int.mul_pos h1 h2) ?_
  rw [Int.sub_mul, Int.sub_mul]
  have e1 : p.1 * q.2 * (p.2 * x) = p.1 * x * (p.2 * q.2) := by grind
  have e2 : q.1 * p.2 * (p.2 * x) = q.1 * y * (p.2 * q.2) := by rw [hy]; grind
  rw [e1, e2]
/-- all that is held -/
def sumT (l : Held) : Rat := (l.map fun x => rt x.2).sum
theorem sumT_cons (a : Str × (Int × Int)) (l : Held) : sumT (a :: l) = rt a.2 + sumT l := by
  unfold sumT
  rw [List.map_cons, List.sum_cons]
theorem sumT_put : ∀ {l : Held} {k : Str} {w : Int × Int}, (l.map (·.1)).Nodup → sumT (hput l k w) = sumT l - rt ((hget l k).getD (0, 1)) + rt w
  | [], k, w, _ => by
    show sumT [(k, w)] = sumT [] - rt (0, 1) + rt w
    rw [sumT_cons, rt_zero]
    grind
  | a :: l, k, w, nd => by
    rw [List.map_cons, List.nodup_cons] at nd
    have ih := sumT_put (k := k) (w := w) nd.2
    by_cases ha : a.1 = k
    · have e1 : hput (a :: l) k w = (a.1, w) :: l := by
        unfold hput
        rw [if_pos (by simp [ha]), List.map_cons, if_pos ha]
        congr 1
        rw [List.map_congr_left (g := id)]
        · simp
        · intro x hx
          have : x.1 ≠ k := fun z => nd.1 (List.mem_map.mpr ⟨x, hx, by rw [z, ha]⟩)
          simp [this]
      have e2 : hget (a :: l) k = some a.2 := by
        unfold hget
        rw [List.find?_cons_of_pos (by simp [ha])]
        rfl
      rw [e1, e2, sumT_cons, sumT_cons]
      simp only [Option.getD_some]
      grind
    · have e2 : hget (a :: l) k = hget l k := by
        unfold hget
        rw [List.find?_cons_of_neg (by simp [ha])]
      have e1 : hput (a :: l) k w = a :: hput l k w := by
        unfold hput
        have e3 : ((a :: l).any fun x => decide (x.1 = k)) = l.any fun x => decide (x.1 = k) := by
          rw [List.any_cons]; simp [ha]
        rw [e3]
        split
        · rw [List.map_cons, if_neg ha]
        · rfl
      rw [e1, e2, sumT_cons, sumT_cons, ih]
      grind
theorem hput_len_old {l : Held} {k : Str} {v : Int × Int} (h : k ∈ l.map (·.1)) : (hput l k v).length = l.length := by
  have := congrArg List.length (hput_keys l k v)
  rw [if_pos h, List.length_map, List.length_map] at this
  exact this
/-- products that may be made -/
structure PrP (p q : Int × Int) : Prop where
  a : SmP p
  b : 0 < p.2 * q.2
  c : Sm (p.2 * q.2)
/-- a fraction from 0 on whose bottom divides L -/
structure Dn (L : Int) (p : Int × Int) : Prop where
  nn : 0 ≤ p.1
  pos : 0 < p.2
  dv : p.2 ∣ L
theorem sm_of_le {x : Int} (h0 : 0 ≤ x) (h : x ≤ 2 ^ 4400) : Sm x := bits_ok (n := 4400) h0 h (by decide)
theorem Dn.le {L : Int} {p : Int × Int} (h : Dn L p) (h0 : 0 < L) : p.2 ≤ L := Int.le_of_dvd h0 h.dv
theorem Dn.sm {L : Int} {p : Int × Int} (h : Dn L p) (h0 : 0 < L) (hL : L ≤ 2 ^ 4400) (h1 : rt p ≤ 1) : SmP p := by
  have h2 := h.le h0
  have h3 : p.1 ≤ p.2 := by
    have h4 := rt_lt (p := (1, 1)) (q := p) (by decide) h.pos
    rw [rt_one] at h4
    have h5 : ¬ (1 : Int) * p.2 < p.1 * 1 := fun z => by
      have := h4.mp z
      grind
    omega
  exact ⟨sm_of_le h.nn (by omega), sm_of_le (Int.le_of_lt h.pos) (by omega)⟩
theorem Dn.prod {L : Int} {p q : Int × Int} (h : Dn L p) (h2 : Dn L q) (h0 : 0 < L) (hL : L ≤ 2 ^ 4400) : 0 < p.2 * q.2 ∧ Sm (p.2 * q.2) := by
  have a1 := h.le h0
  have a2 := h2.le h0
  have hp : 0 < p.2 * q.2 := Int.mul_pos h.pos h2.pos
  refine ⟨hp, bits_ok (n := 8800) (Int.le_of_lt hp) ?_ (by decide)⟩
  have e1 : p.2 * q.2 ≤ L * q.2 := Int.mul_le_mul_of_nonneg_right a1 (Int.le_of_lt h2.pos)
  have e2 : L * q.2 ≤ L * L := Int.mul_le_mul_of_nonneg_left a2 (Int.le_of_lt h0)
  have e3 : L * L ≤ 2 ^ 4400 * L := Int.mul_le_mul_of_nonneg_right hL (Int.le_of_lt h0)
  have e4 : (2 : Int) ^ 4400 * L ≤ 2 ^ 4400 * 2 ^ 4400 := Int.mul_le_mul_of_nonneg_left hL (Int.pow_nonneg (by decide))
  have e5 : (2 : Int) ^ 4400 * 2 ^ 4400 = 2 ^ 8800 := by rw [← Int.pow_add]
  omega
theorem rt_nonneg' {p : Int × Int} (h1 : 0 ≤ p.1) (h2 : 0 < p.2) : 0 ≤ rt p := by
  have h := rt_lt (p := p) (q := (0, 1)) h2 (by decide)
  rw [rt_zero] at h
  have : ¬ p.1 * 1 < 0 * p.2 := by omega
  grind
theorem Dn.more {L : Int} {p q : Int × Int} (h : Dn L p) (h2 : Dn L q) : Dn L (more p q) := by
  have hp : 0 < p.2 * q.2 := Int.mul_pos h.pos h2.pos
  obtain ⟨g, hg, e1, e2⟩ := low_eq (t := p.1 * q.2 + q.1 * p.2) hp
  have n1 : 0 ≤ p.1 * q.2 := Int.mul_nonneg h.nn (Int.le_of_lt h2.pos)
  have n2 : 0 ≤ q.1 * p.2 := Int.mul_nonneg h2.nn (Int.le_of_lt h.pos)
  refine ⟨?_, ?_, more_dvd h.pos h2.pos h.dv h2.dv⟩
  · have : (0 : Int) ≤ (low (p.1 * q.2 + q.1 * p.2) (p.2 * q.2)).1 := by
      refine Int.nonneg_of_mul_nonneg_left (b := g) ?_ hg
      rw [← e1]; omega
    exact this
  · have : (0 : Int) < (low (p.1 * q.2 + q.1 * p.2) (p.2 * q.2)).2 := Int.pos_of_mul_pos_left (by rw [← e2]; exact hp) hg
    exact this
theorem sum_nonneg {l : List Rat} (h : ∀ x ∈ l, 0 ≤ x) : 0 ≤ l.sum := by
  induction l with
  | nil => rw [List.sum_nil]; grind
  | cons a l ih =>
    rw [List.sum_cons]
    have h1 := h a List.mem_cons_self
    have h2 := ih fun x hx => h x (List.mem_cons_of_mem _ hx)
    grind
theorem Dn.mono {L K : Int} {p : Int × Int} (h : Dn L p) (hk : L ∣ K) : Dn K p := ⟨h.nn, h.pos, Int.dvd_trans h.dv hk⟩
theorem Dn.less {L : Int} {p q : Int × Int} (h : Dn L p) (h2 : Dn L q) (hle : q.1 * p.2 ≤ p.1 * q.2) : Dn L (less p q) := by
  have hp : 0 < p.2 * q.2 := Int.mul_pos h.pos h2.pos
  obtain ⟨g, hg, e1, e2⟩ := low_eq (t := p.1 * q.2 - q.1 * p.2) hp
  refine ⟨?_, ?_, less_dvd h.pos h2.pos h.dv h2.dv⟩
  · have : (0 : Int) ≤ (low (p.1 * q.2 - q.1 * p.2) (p.2 * q.2)).1 := by
      refine Int.nonneg_of_mul_nonneg_left (b := g) ?_ hg
      rw [← e1]; omega
    exact this
  · have : (0 : Int) < (low (p.1 * q.2 - q.1 * p.2) (p.2 * q.2)).2 := Int.pos_of_mul_pos_left (by rw [← e2]; exact hp) hg
    exact this
/-- a share that is asked for -/
structure Shr (s : Int × Int) : Prop where
  pos : 0 < s.2
  le : s.2 ≤ 10 ^ 29
  a1 : -(10 ^ 30) ≤ s.1
  a2 : s.1 ≤ 10 ^ 30
theorem e29 : (10 : Int) ^ 29 ≤ 2 ^ 97 := by decide
theorem Shr.sm {s : Int × Int} (h : Shr s) : SmP s := by
  refine ⟨?_, ?_⟩
  · have h1 := h.a1
    have h2 := h.a2
    have e : (2 : Nat) ^ 128 ≤ 2 ^ 9000 := Nat.pow_le_pow_right (by decide) (by decide)
    have e2 : (10 : Nat) ^ 30 < 2 ^ 128 := by decide
    have : s.1.natAbs ≤ 10 ^ 30 := by omega
    exact Nat.lt_of_le_of_lt this (Nat.lt_of_lt_of_le e2 e)
  · have h1 := h.le
    have h2 := h.pos
    have := e29
    exact bits_ok (n := 97) (by omega) (by omega) (by decide)
/-- what is held of a house, so many sales behind it -/
structure RecA (un : List Str) (i : Nat) (held : Held) : Prop where
  hn : (held.map (·.1)).Nodup
  hu : ∀ z ∈ held.map (·.1), z ∈ un
  len : held.length ≤ i + 1
  dn : ∃ L : Int, 0 < L ∧ L ≤ (10 ^ 29) ^ i ∧ ∀ z v, hget held z = some v → Dn L v
  tot : sumT held = 1
  lw : ∀ z v, hget held z = some v → Int.gcd v.1 v.2 = 1
theorem RecA.mono {un un' : List Str} {i j : Nat} {held : Held} (h : RecA un i held) (hu : ∀ z ∈ un, z ∈ un') (hij : i ≤ j) : RecA un' j held := by
  obtain ⟨L, h0, h1, h2⟩ := h.dn
  refine ⟨h.hn, fun z hz => hu z (h.hu z hz), by have := h.len; omega, ⟨L, h0, Int.le_trans h1 ?_, h2⟩, h.tot, h.lw⟩
  obtain ⟨k, rfl⟩ := Nat.exists_eq_add_of_le hij
  rw [Int.pow_add]
  have e1 := den_pos i
  have e2 := den_pos k
  have e3 : ((10 : Int) ^ 29) ^ i * 1 ≤ (10 ^ 29) ^ i * (10 ^ 29) ^ k := Int.mul_le_mul_of_nonneg_left (by omega) (Int.le_of_lt e1)
  omega
theorem hget_one {o z : Str} {w v : Int × Int} (e : hget [(o, w)] z = some v) : z = o ∧ v = w := by
  unfold hget at e
  by_cases h : o = z
  · simp [h] at e
    exact ⟨h.symm, e.symm⟩
  · simp [h] at e
theorem RecA.new {un : List Str} {i : Nat} {o : Str} (ho : o ∈ un) : RecA un i [(o, (1, 1))] := by
  refine ⟨by simp, fun z hz => ?_, by simp, ⟨1, by decide, Int.add_one_le_of_lt (den_pos i), fun z v e => ?_⟩, by rw [sumT_cons, rt_one]; unfold sumT; rw [List.map_nil, List.sum_nil]; grind, fun z v e => ?_⟩
  · have : z = o := by simpa using hz
    rw [this]; exact ho
  · rw [(hget_one e).2]
    exact ⟨by decide, by decide, Int.dvd_refl 1⟩
  · rw [(hget_one e).2]
    rfl
theorem sumT_nonneg {held : Held} (h : ∀ x ∈ held, 0 ≤ rt x.2) : 0 ≤ sumT held := by
  unfold sumT
  refine sum_nonneg fun x hx => ?_
  obtain ⟨y, hy, rfl⟩ := List.mem_map.mp hx
  exact h y hy
theorem hget_mem {held : Held} (hn : (held.map (·.1)).Nodup) {x : Str × (Int × Int)} (hx : x ∈ held) : hget held x.1 = some x.2 := by
  unfold hget
  cases e : held.find? (fun y => decide (y.1 = x.1)) with
  | none => exact absurd (by simp) (List.find?_eq_none.mp e x hx)
  | some y =>
    have h1 := List.mem_of_find?_eq_some e
    have h2 : decide (y.1 = x.1) = true := List.find?_some (p := fun y : Str × (Int × Int) => decide (y.1 = x.1)) e
    rw [map_inj hn h1 hx (of_decide_eq_true h2)]
    rfl
theorem mem_of_hget {held : Held} {z : Str} {v : Int × Int} (e : hget held z = some v) : (z, v) ∈ held := by
  unfold hget at e
  obtain ⟨y, hy, rfl⟩ := Option.map_eq_some_iff.mp e
  have h2 : decide (y.1 = z) = true := List.find?_some (p := fun y : Str × (Int × Int) => decide (y.1 = z)) hy
  have h3 := of_decide_eq_true h2
  subst h3
  exact List.mem_of_find?_eq_some hy
theorem RecA.nn {un : List Str} {i : Nat} {held : Held} (h : RecA un i held) : ∀ x ∈ held, 0 ≤ rt x.2 := fun x hx => by
  obtain ⟨L, _, _, h2⟩ := h.dn
  have d := h2 x.1 x.2 (hget_mem h.hn hx)
  exact rt_nonneg' d.nn d.pos
theorem hput_get_mem {held : Held} {k : Str} {w : Int × Int} {x : Str × (Int × Int)} (hx : x ∈ hput held k w) : x.2 = w ∨ x ∈ held := by
  unfold hput at hx
  split at hx
  · obtain ⟨y, hy, rfl⟩ := List.mem_map.mp hx
    by_cases e : y.1 = k
    · rw [if_pos e]; exact .inl rfl
    · rw [if_neg e]; exact .inr hy
  · rcases List.mem_append.mp hx with h | h
    · exact .inr h
    · rw [List.mem_singleton.mp h]; exact .inl rfl
theorem RecA.le1 {un : List Str} {i : Nat} {held : Held} (h : RecA un i held) {z : Str} {v : Int × Int} (e : hget held z = some v) : rt v ≤ 1 := by
  have h1 := sumT_put (k := z) (w := (0, 1)) h.hn
  rw [e, h.tot, rt_zero] at h1
  simp only [Option.getD_some] at h1
  have h2 : 0 ≤ sumT (hput held z (0, 1)) := sumT_nonneg fun x hx => by
    rcases hput_get_mem hx with q | q
    · rw [q, rt_zero]; grind
    · exact h.nn x q
  grind
theorem pow_bits (i : Nat) {L : Int} (h : L ≤ (10 ^ 29) ^ i) : L ≤ 2 ^ (97 * i) := Int.le_trans h (den_bits i)
theorem pow_mono {i : Nat} (h : i ≤ 45) {L : Int} (hL : L ≤ (10 ^ 29) ^ i) : L ≤ 2 ^ 4400 := by
  have h1 := pow_bits i hL
  have h2 : (2 : Nat) ^ (97 * i) ≤ 2 ^ 4400 := Nat.pow_le_pow_right (by decide) (by omega)
  have h3 : (2 : Int) ^ (97 * i) ≤ 2 ^ 4400 := by exact_mod_cast h2
  omega
theorem dn01 {L : Int} : Dn L (0, 1) := ⟨by decide, by decide, Int.one_dvd _⟩
theorem RecA.dnD {un : List Str} {i : Nat} {held : Held} (h : RecA un i held) : ∃ L : Int, 0 < L ∧ L ≤ (10 ^ 29) ^ i ∧ ∀ z, Dn L ((hget held z).getD (0, 1)) := by
  obtain ⟨L, h0, h1, h2⟩ := h.dn
  refine ⟨L, h0, h1, fun z => ?_⟩
  cases e : hget held z with
  | none => exact dn01
  | some v => exact h2 z v e
theorem RecA.le1D {un : List Str} {i : Nat} {held : Held} (h : RecA un i held) (z : Str) : rt ((hget held z).getD (0, 1)) ≤ 1 := by
  cases e : hget held z with
  | none => show rt (0, 1) ≤ 1; rw [rt_zero]; grind
  | some v => exact h.le1 e
theorem prP_of {L : Int} {p s : Int × Int} (d : Dn L p) (h0 : 0 < L) (hL : L ≤ 2 ^ 4400) (h1 : rt p ≤ 1) (hs : Shr s) : PrP p s := by
  have h2 := d.le h0
  have hp : 0 < p.2 * s.2 := Int.mul_pos d.pos hs.pos
  refine ⟨d.sm h0 hL h1, hp, bits_ok (n := 4400 + 97) (Int.le_of_lt hp) ?_ (by decide)⟩
  rw [Int.pow_add]
  have e1 : p.2 * s.2 ≤ 2 ^ 4400 * s.2 := Int.mul_le_mul_of_nonneg_right (by omega) (Int.le_of_lt hs.pos)
  have e2 : (2 : Int) ^ 4400 * s.2 ≤ 2 ^ 4400 * 2 ^ 97 := Int.mul_le_mul_of_nonneg_left (by have := hs.le; have := e29; omega) (Int.pow_nonneg (by decide))
  omega
theorem RecA.pr1 {un : List Str} {i : Nat} {held : Held} (h : RecA un i held) (hi : i ≤ 44) {s : Int × Int} (hs : Shr s) (z : Str) : PrP ((hget held z).getD (0, 1)) s := by
  obtain ⟨L, h0, h1, h2⟩ := h.dnD
  exact prP_of (h2 z) h0 (pow_mono (by omega) h1) (h.le1D z) hs
/-- behind the first half of a sale -/
theorem RecA.half {un : List Str} {i : Nat} {held : Held} (h : RecA un i held) {o : Str} {s : Int × Int} (hs : Shr s) (h1 : 0 < s.1) (h2 : s.1 * ((hget held o).getD (0, 1)).2 ≤ ((hget held o).getD (0, 1)).1 * s.2) :
    ∃ L : Int, 0 < L ∧ L ≤ (10 ^ 29) ^ (i + 1) ∧ Dn L s ∧ ∀ z, Dn L ((hget (hput held o (less ((hget held o).getD (0, 1)) s)) z).getD (0, 1)) ∧ rt ((hget (hput held o (less ((hget held o).getD (0, 1)) s)) z).getD (0, 1)) ≤ 1 := by
  obtain ⟨L, l0, l1, l2⟩ := h.dnD
  have hL : 0 < L * s.2 := Int.mul_pos l0 hs.pos
  have ds : Dn (L * s.2) s := ⟨Int.le_of_lt h1, hs.pos, Int.dvd_mul_left _ _⟩
  have dm : ∀ z, Dn (L * s.2) ((hget held z).getD (0, 1)) := fun z => (l2 z).mono (Int.dvd_mul_right _ _)
  refine ⟨L * s.2, hL, ?_, ds, fun z => ?_⟩
  · rw [Int.pow_succ]
    have e1 : L * s.2 ≤ (10 ^ 29) ^ i * s.2 := Int.mul_le_mul_of_nonneg_right l1 (Int.le_of_lt hs.pos)
    have e2 : ((10 : Int) ^ 29) ^ i * s.2 ≤ (10 ^ 29) ^ i * 10 ^ 29 := Int.mul_le_mul_of_nonneg_left hs.le (Int.le_of_lt (den_pos i))
    omega
  · rw [hget_put]
    by_cases hz : z = o
    · rw [if_pos hz]
      refine ⟨(dm o).less ds h2, ?_⟩
      show rt (less _ _) ≤ 1
      rw [rt_less (l2 o).pos hs.pos]
      have h3 := h.le1D o
      have h4 := rt_nonneg' (Int.le_of_lt h1) hs.pos
      grind
    · rw [if_neg hz]
      exact ⟨dm z, h.le1D z⟩
theorem RecA.pr2 {un : List Str} {i : Nat} {held : Held} (h : RecA un i held) (hi : i ≤ 44) {o r : Str} {s : Int × Int} (hs : Shr s) (h1 : 0 < s.1) (h2 : s.1 * ((hget held o).getD (0, 1)).2 ≤ ((hget held o).getD (0, 1)).1 * s.2) : PrP ((hget (hput held o (less ((hget held o).getD (0, 1)) s)) r).getD (0, 1)) s := by
  obtain ⟨L, l0, l1, _, l2⟩ := h.half hs h1 h2
  exact prP_of (l2 r).1 l0 (pow_mono (by omega) l1) (l2 r).2 hs
theorem RecA.sold {un : List Str} {i : Nat} {held : Held} (h : RecA un i held) {o r : Str} {s : Int × Int} (hs : Shr s) (ho : o ∈ un) (hr : r ∈ un) (h1 : 0 < s.1) (h2 : s.1 * ((hget held o).getD (0, 1)).2 ≤ ((hget held o).getD (0, 1)).1 * s.2) (hm : o ∈ held.map (·.1)) : RecA un (i + 1) (soldH held o r s) := by
  obtain ⟨L, l0, l1, ds, l2⟩ := h.half hs h1 h2
  obtain ⟨L0, _, _, d0⟩ := h.dnD
  have t1 := sumT_put (k := o) (w := less ((hget held o).getD (0, 1)) s) h.hn
  rw [h.tot, rt_less (d0 o).pos hs.pos] at t1
  have len1 : (hput held o (less ((hget held o).getD (0, 1)) s)).length = held.length := hput_len_old hm
  have hn1 : ((hput held o (less ((hget held o).getD (0, 1)) s)).map (·.1)).Nodup := hput_nodup h.hn
  have t2 := sumT_put (k := r) (w := more ((hget (hput held o (less ((hget held o).getD (0, 1)) s)) r).getD (0, 1)) s) hn1
  rw [rt_more (l2 r).1.pos hs.pos] at t2
  have hk1 : ∀ z ∈ (hput held o (less ((hget held o).getD (0, 1)) s)).map (·.1), z ∈ un := fun z hz => by
    rcases hput_mem hz with q | q
    · exact h.hu z q
    · rw [q]; exact ho
  have hlw1 : ∀ z w, hget (hput held o (less ((hget held o).getD (0, 1)) s)) z = some w → Int.gcd w.1 w.2 = 1 := fun z w e => by
    rw [hget_put] at e
    by_cases hz : z = o
    · rw [if_pos hz] at e
      cases e
      exact low_coprime (Int.mul_pos (d0 o).pos hs.pos)
    · rw [if_neg hz] at e
      exact h.lw z w e
  unfold soldH
  simp only
  generalize hh1 : hput held o (less ((hget held o).getD (0, 1)) s) = held1 at *
  have dr := (l2 r).1
  generalize ho1 : (hget held1 r).getD (0, 1) = o1 at *
  refine ⟨hput_nodup hn1, fun z hz => ?_, ?_, ⟨L, l0, l1, fun z w e => ?_⟩, by rw [t2, t1]; grind, fun z w e => ?_⟩
  · rcases hput_mem hz with q | q
    · exact hk1 z q
    · rw [q]; exact hr
  · have := hput_len held1 r (more o1 s)
    have := h.len
    omega
  · rw [hget_put] at e
    by_cases hz : z = r
    · rw [if_pos hz] at e
      cases e
      exact dr.more ds
    · rw [if_neg hz] at e
      have := (l2 z).1
      rw [e] at this
      exact this
  · rw [hget_put] at e
    by_cases hz : z = r
    · rw [if_pos hz] at e
      cases e
      exact low_coprime (Int.mul_pos dr.pos hs.pos)
    · rw [if_neg hz] at e
      exact hlw1 z w e
end Bv

/-! A sale drawn, in book and model. -/
namespace Bv
open PySem L2 PyProof.Rows
def B3 (n : N3) : Prop := (-(10 ^ 22) ≤ n.1 ∧ n.1 ≤ 10 ^ 22) ∧ (-(10 ^ 22) ≤ n.2.1 ∧ n.2.1 ≤ 10 ^ 22) ∧ 0 ≤ n.2.2 ∧ n.2.2 ≤ 10 ^ 22
def B4 (n : N3) : Prop := (-(10 ^ 23) ≤ n.1 ∧ n.1 ≤ 10 ^ 23) ∧ (-(10 ^ 23) ≤ n.2.1 ∧ n.2.1 ≤ 10 ^ 23) ∧ 0 ≤ n.2.2 ∧ n.2.2 ≤ 10 ^ 23
theorem B3.four {n : N3} (h : B3 n) : B4 n := by
  obtain ⟨⟨h1, h2⟩, ⟨h3, h4⟩, h5, h6⟩ := h
  have e : (10 : Int) ^ 22 ≤ 10 ^ 23 := by decide
  exact ⟨⟨by omega, by omega⟩, ⟨by omega, by omega⟩, h5, by omega⟩
structure Wd (CB CE : Addr) (un : List Str) (n : Nat) (F : MH) (p b pl en m : Addr) (ps : List Str) (hs : List Hs) : Prop where
  c : BkC CB F b pl en ps (entD hs)
  ent : ∀ x ∈ hs, EnC CE F x.e x.h (numV x.nums) x.held
  md : F m = some (.dict (modD hs))
  sh : ∀ x ∈ hs, F x.g = some (.dict (hv x.sh))
  pur : Pur F p
  nd : (hs.map (·.nm)).Nodup
  len : hs.length ≤ 8
  rc : ∀ x ∈ hs, RecOk un n x.held x.sh
  ul : un.length ≤ 30
  nu : ∀ x ∈ hs, x.nm ∈ un
  ad : (en :: m :: (hs.map (·.h) ++ hs.map (·.g))).Nodup
  ra : ∀ x ∈ hs, RecA un x.k x.held
  kn : 2 * (hs.map (·.k)).sum ≤ n
  bd : ∀ x ∈ hs, B4 x.nums ∧ B3 x.three
section
variable {CB CE : Addr} {un : List Str} {n : Nat} {F F' : MH} {p b pl en m : Addr} {ps : List Str} {hs : List Hs}
theorem Wd.draw (w : Wd CB CE un n F p b pl en m ps hs) (h1 : Pur F' p) (h2 : Keep p F F') : Wd CB CE un n F' p b pl en m ps hs := by
  obtain ⟨i, j, hp⟩ := w.pur
  have k : ∀ {a c}, F a = some c → c ≠ .lst [.int i, .int j] → F' a = some c := fun {a c} e hc => h2 a c (fun z => hc (by rw [z, hp] at e; cases e; rfl)) e
  have ci : ∀ C fs, Cell.inst C fs ≠ .lst [.int i, .int j] := fun C fs z => nomatch z
  have cd : ∀ kvs, Cell.dict kvs ≠ .lst [.int i, .int j] := fun kvs z => nomatch z
  refine { w with c := ⟨k w.c.b (ci _ _), k w.c.pl (fun z => ?_), k w.c.en (cd _)⟩, ent := fun x hx => ⟨k (w.ent x hx).e (ci _ _), k (w.ent x hx).h (cd _)⟩, md := k w.md (cd _), sh := fun x hx => k (w.sh x hx) (cd _), pur := h1 }
  cases ps with
  | nil => cases z
  | cons a l => cases z
theorem Wd.up (w : Wd CB CE un n F p b pl en m ps hs) : Wd CB CE un (n + 1) F p b pl en m ps hs := { w with rc := fun x hx => (w.rc x hx).up, kn := Nat.le_succ_of_le w.kn }
/-- a house's shares changed -/
def chg (k : Str) (held sh : Held) (y : Hs) : Hs := if y.nm = k then { y with held := held, sh := sh, k := y.k + 1 } else y
theorem chg_nm (k : Str) (held sh : Held) (y : Hs) : (chg k held sh y).nm = y.nm := by unfold chg; split <;> rfl
theorem chg_e (k : Str) (held sh : Held) (y : Hs) : (chg k held sh y).e = y.e := by unfold chg; split <;> rfl
theorem chg_h (k : Str) (held sh : Held) (y : Hs) : (chg k held sh y).h = y.h := by unfold chg; split <;> rfl
theorem chg_g (k : Str) (held sh : Held) (y : Hs) : (chg k held sh y).g = y.g := by unfold chg; split <;> rfl
theorem chg_three (k : Str) (held sh : Held) (y : Hs) : (chg k held sh y).three = y.three := by unfold chg; split <;> rfl
theorem chg_map {α : Type} (k : Str) (held sh : Held) (f : Hs → α) (h : ∀ y, f (chg k held sh y) = f y) (hs : List Hs) : (hs.map (chg k held sh)).map f = hs.map f := by
  rw [List.map_map]
  apply List.map_congr_left
  intro y _
  exact h y
theorem chg_nums (k : Str) (held sh : Held) (y : Hs) : (chg k held sh y).nums = y.nums := by unfold chg; split <;> rfl
theorem chg_sum {k : Str} {held sh : Held} : ∀ {hs : List Hs}, (hs.map (·.nm)).Nodup → ((hs.map (chg k held sh)).map (·.k)).sum ≤ (hs.map (·.k)).sum + 1
  | [], _ => by simp
  | a :: l, nd => by
    rw [List.map_cons, List.nodup_cons] at nd
    rw [List.map_cons, List.map_cons, List.map_cons, List.sum_cons, List.sum_cons]
    by_cases e : a.nm = k
    · have h1 : l.map (chg k held sh) = l := by
        conv => rhs; rw [← List.map_id l]
        refine List.map_congr_left fun y hy => ?_
        unfold chg
        rw [if_neg (fun z => nd.1 (List.mem_map.mpr ⟨y, hy, by rw [z, e]⟩))]
        rfl
      have h2 : (chg k held sh a).k = a.k + 1 := by unfold chg; rw [if_pos e]
      rw [h1, h2]; omega
    · have h1 := chg_sum (k := k) (held := held) (sh := sh) nd.2
      have h2 : (chg k held sh a).k = a.k := by unfold chg; rw [if_neg e]
      rw [h2]; omega
theorem Wd.sold (w : Wd CB CE un n F p b pl en m ps hs) {x : Hs} (hx : x ∈ hs) {held sh : Held} {n' : Nat} (hn : ∀ y ∈ hs, RecOk un n' y.held y.sh) (hr : RecOk un n' held sh) (hra : RecA un (x.k + 1) held) (hnn : n + 2 ≤ n') :
    Wd CB CE un n' (mset (mset F x.h (.dict (hv held))) x.g (.dict (hv sh))) p b pl en m ps (hs.map (chg x.nm held sh)) := by
  have ad := w.ad
  rw [List.nodup_cons, List.nodup_cons, List.nodup_append] at ad
  obtain ⟨a1, a2, a3, a4, a5⟩ := ad
  have hmem : ∀ {y}, y ∈ hs → y.h ∈ hs.map (·.h) := fun hy => List.mem_map.mpr ⟨_, hy, rfl⟩
  have gmem : ∀ {y}, y ∈ hs → y.g ∈ hs.map (·.g) := fun hy => List.mem_map.mpr ⟨_, hy, rfl⟩
  have hg : x.h ≠ x.g := a5 _ (hmem hx) _ (gmem hx)
  have k : ∀ {a c}, F a = some c → a ≠ x.h → a ≠ x.g → mset (mset F x.h (.dict (hv held))) x.g (.dict (hv sh)) a = some c := fun {a c} e h1 h2 => by rw [mset_ne h2, mset_ne h1]; exact e
  have ki : ∀ {a C fs}, F a = some (.inst C fs) → mset (mset F x.h (.dict (hv held))) x.g (.dict (hv sh)) a = some (.inst C fs) := fun {a C fs} e =>
    k e (fun z => by rw [z, (w.ent x hx).h] at e; cases e) (fun z => by rw [z, w.sh x hx] at e; cases e)
  have kl : ∀ {a vs}, F a = some (.lst vs) → mset (mset F x.h (.dict (hv held))) x.g (.dict (hv sh)) a = some (.lst vs) := fun {a vs} e =>
    k e (fun z => by rw [z, (w.ent x hx).h] at e; cases e) (fun z => by rw [z, w.sh x hx] at e; cases e)
  have en1 : en ≠ x.h := fun z => a1 (List.mem_cons_of_mem _ (List.mem_append_left _ (by rw [z]; exact hmem hx)))
  have en2 : en ≠ x.g := fun z => a1 (List.mem_cons_of_mem _ (List.mem_append_right _ (by rw [z]; exact gmem hx)))
  have m1 : m ≠ x.h := fun z => a2 (List.mem_append_left _ (by rw [z]; exact hmem hx))
  have m2 : m ≠ x.g := fun z => a2 (List.mem_append_right _ (by rw [z]; exact gmem hx))
  have eD : entD (hs.map (chg x.nm held sh)) = entD hs := by
    unfold entD
    exact chg_map _ _ _ (fun y : Hs => (y.nm, Val.ref y.e)) (fun y => by rw [chg_nm, chg_e]) hs
  have mD : modD (hs.map (chg x.nm held sh)) = modD hs := by
    unfold modD
    exact chg_map _ _ _ (fun y : Hs => (y.nm, Val.lst [.ref y.g, numV y.three])) (fun y => by rw [chg_nm, chg_g, chg_three]) hs
  obtain ⟨i, j, hp⟩ := w.pur
  refine ⟨?_, fun y hy => ?_, ?_, fun y hy => ?_, ⟨i, j, kl hp⟩, ?_, by rw [List.length_map]; exact w.len, fun y hy => ?_, w.ul, fun y hy => ?_, ?_, fun y hy => ?_, ?_, fun y hy => ?_⟩
  · rw [eD]
    exact ⟨ki w.c.b, kl w.c.pl, k w.c.en en1 en2⟩
  · obtain ⟨z, hz, rfl⟩ := List.mem_map.mp hy
    refine ⟨?_, ?_⟩
    · rw [chg_e, chg_h]
      rw [chg_nums]
      exact ki (w.ent z hz).e
    · rw [chg_h]
      by_cases e : z.nm = x.nm
      · have e2 := same_rec w.nd hx hz e
        subst e2
        unfold chg
        rw [if_pos rfl, mset_ne hg, mset_same]
      · unfold chg
        rw [if_neg e]
        refine k (w.ent z hz).h (fun q => e (by rw [map_inj a3 hz hx q])) (a5 _ (hmem hz) _ (gmem hx))
  · rw [mD]
    exact k w.md m1 m2
  · obtain ⟨z, hz, rfl⟩ := List.mem_map.mp hy
    rw [chg_g]
    by_cases e : z.nm = x.nm
    · have e2 := same_rec w.nd hx hz e
      subst e2
      unfold chg
      rw [if_pos rfl, mset_same]
    · unfold chg
      rw [if_neg e]
      exact k (w.sh z hz) (fun q => a5 _ (hmem hx) _ (gmem hz) q.symm) (fun q => e (by rw [map_inj a4 hz hx q]))
  · rw [chg_map _ _ _ (·.nm) (chg_nm _ _ _)]
    exact w.nd
  · obtain ⟨z, hz, rfl⟩ := List.mem_map.mp hy
    unfold chg
    split
    · exact hr
    · exact hn z hz
  · obtain ⟨z, hz, rfl⟩ := List.mem_map.mp hy
    rw [chg_nm]
    exact w.nu z hz
  · rw [chg_map _ _ _ (·.h) (chg_h _ _ _), chg_map _ _ _ (·.g) (chg_g _ _ _)]
    exact w.ad
  · obtain ⟨z, hz, rfl⟩ := List.mem_map.mp hy
    by_cases e : z.nm = x.nm
    · have e2 := same_rec w.nd hx hz e
      subst e2
      unfold chg
      rw [if_pos rfl]
      exact hra
    · unfold chg
      rw [if_neg e]
      exact w.ra z hz
  · have h1 := chg_sum (k := x.nm) (held := held) (sh := sh) w.nd
    have h2 := w.kn
    omega
  · obtain ⟨z, hz, rfl⟩ := List.mem_map.mp hy
    rw [chg_nums, chg_three]
    exact w.bd z hz
end
def c3 (x : Hs) : Str × N3 × N3 := (x.nm, x.nums, x.three)
theorem c3_nm {hs hs' : List Hs} (h : hs'.map c3 = hs.map c3) : hs'.map (·.nm) = hs.map (·.nm) := by
  have := congrArg (List.map (·.1)) h
  rw [List.map_map, List.map_map] at this
  exact this
def spSold (CB CE : Addr) : Spec := fun vs F Q _ => ∃ (p m b : Addr) (un : List Str) (n : Nat) (pl en : Addr) (ps : List Str) (hs : List Hs) (holders : List Str), vs = [.ref p, .ref m, .lst (holders.map .str), .ref b] ∧ Wd CB CE un n F p b pl en m ps hs ∧ hs ≠ [] ∧ n ≤ 58 ∧ holders ≠ [] ∧ holders.length ≤ 30 ∧ (∀ z ∈ holders, z ∈ un) ∧
  (∀ z ∈ un, z ∈ ps ∨ z ∈ hs.map (·.nm)) ∧ ∀ F' hs', Wd CB CE un (n + 2) F' p b pl en m ps hs' → hs'.map c3 = hs.map c3 → Q .non F'
theorem sort_keys {m : Bool} {a : Addr} {kvs : List (Str × Val)} {F : MH} {Q : Q1} (e : F a = some (.dict kvs)) (hl : kvs.length < 64) (q : newLs m ((sortS (kvs.map (·.1))).map .str) F Q) : sortedF m (.ref a) F Q := by
  unfold sortedF
  simp only [lsOf, e, dcOf]
  exact ⟨hl, q⟩
theorem pick {l : List Str} {p : Addr} {F : MH} {Q : Q1} {E : X1} (hl : l ≠ []) (h60 : l.length ≤ 64) (hp : Pur F p) (h : ∀ z ∈ l, ∀ F', Pur F' p → Keep p F F' → Q (.str z) F') :
    lenS (.lst (l.map .str)) F fun x F1 => spDraw [.ref p, x] F1 (fun y F2 => ixS (.lst (l.map .str)) y F2 Q) E := by
  simp only [lenS, lsOf]
  have h0 : 0 < l.length := List.length_pos_iff.mpr hl
  rw [List.length_map]
  refine ⟨p, _, rfl, by omega, .of_small (by omega) (by omega), hp, fun r a b r0 r1 => ?_⟩
  have hlt : r.toNat < l.length := by omega
  refine ix_list rfl r0 (v := .str l[r.toNat]) (by rw [List.getElem?_map, List.getElem?_eq_getElem hlt]; rfl) ?_
  exact h _ (List.getElem_mem _) _ .set .set
theorem ix_dc {m : Addr} {kvs : List (Str × Val)} {k : Str} {v : Val} {F : MH} {Q : Q1} (e : dcOf F m = some kvs) (h : kget kvs k = some v) (q : Q v F) : ixS (.ref m) (.str k) F Q := by
  simp only [ixS, e, h]; exact q
theorem dc_of {F : MH} {m : Addr} {kvs : List (Str × Val)} (e : F m = some (.dict kvs)) : dcOf F m = some kvs := by simp only [dcOf, e]
theorem bm_dpop {F : MH} {p : Addr} {kvs : List (Str × Val)} {k : Str} {y : Val} {Q : Q1} (e : F p = some (.dict kvs)) (h : kget kvs k = some y) (q : Q y (mset F p (.dict (kdrop kvs k)))) : bmS .dpop (.ref p) [.str k] F Q := by
  simp only [bmS, e, h]; exact q
theorem bm_get {F : MH} {p : Addr} {kvs : List (Str × Val)} {k : Str} {d : Val} {Q : Q1} (e : dcOf F p = some kvs) (q : Q ((kget kvs k).getD d) F) : bmS .get (.ref p) [.str k, d] F Q := by
  simp only [bmS, e]; exact q
theorem set_d {F : MH} {p : Addr} {kvs : List (Str × Val)} {k : Str} {v : Val} {Q : MH → Prop} (e : F p = some (.dict kvs)) (hl : kvs.length < sizeLine) (q : Q (mset F p (.dict (kput kvs k v)))) : setS (.ref p) (.str k) v F Q := by
  simp only [setS, e]; exact ⟨hl, q⟩
theorem hdrop_len (l : Held) (k : Str) : (hdrop l k).length ≤ l.length := List.length_filter_le _ _
theorem w_l_sold {Γ : Amb} {CB CE : Addr} {rm : CallR1 Γ "_law_made"} {t : MethR Γ "sale"} {rp : CallR1 Γ "_law_part"} {rd : CallR1 Γ "_law_draw"} (hm : rm.sp = spMade) (ht : t.sp = spSale CB CE) (htc : t.C = CB) (hp : rp.sp = spPart) (hd : rd.sp = spDraw) :
    ∀ vs F Q E, spSold CB CE vs F Q E → wpB (fun C fs _ F => E C fs F) (c_l_sold rm t rp rd) (start1 n_l_sold vs) F (fun _ F => Q .non F) Q := by
  rintro vs F Q E ⟨p, m, b, un, n, pl, en, ps, hs, holders, rfl, w, hne, hn, hh0, hhl, hhu, huh, hq⟩
  unfold c_l_sold
  simp only [wpB, wpS, wpE, wpEs, wpT, wpTs, wpCs, wpP, wpIt, wpBl, bindT, biS, recS, truS, start1, List.map, List.length, List.replicate, List.append_nil, List.nil_append, List.cons_append, Nat.sub_self, Nat.reduceSub, Nat.reduceAdd, List.length_cons, List.length_nil, List.getElem?_cons_zero, List.getElem?_cons_succ, List.set_cons_zero, List.set_cons_succ, setAll, wipe1, Tg.slots, binS, subS, fdivS, modS, powS, cmpS, ltS, isS, isNS, asStrs, asBls, newLs, n_l_sold, hm, ht, htc, hp, hd, CPow]
  have hhl8 := w.len
  refine sort_keys w.md (by unfold modD; rw [List.length_map]; omega) ?_
  rw [modD_keys]
  refine pick (E := E) (fun e => hne ?_) (by rw [sortS_length, List.length_map]; omega) w.pur fun z1 hz1 F1 h1 h2 => ?_
  · have := congrArg List.length e
    rw [sortS_length, List.length_map] at this
    exact List.length_eq_zero_iff.mp this
  obtain ⟨x, hx, rfl⟩ := mem_names (mem_sortS.mp hz1)
  have w1 := w.draw h1 h2
  have rx := w.rc x hx
  have hul := w.ul
  have hshl : x.sh.length ≤ 30 := by
    have := nodup_len rx.sn rx.su
    rw [List.length_map] at this
    omega
  have hhdl : x.held.length ≤ 30 := by
    have := nodup_len rx.hn rx.hu
    rw [List.length_map] at this
    omega
  refine ix_dc (dc_of w1.md) (kget_of (by rw [modD_keys]; exact w.nd) (List.mem_map.mpr ⟨x, hx, rfl⟩)) (ix_list rfl (by decide) rfl ?_)
  refine sort_keys (w1.sh x hx) (by rw [hv_len]; omega) ?_
  rw [hv_keys]
  refine pick (E := E) (fun e => rx.ne ?_) (by rw [sortS_length, List.length_map]; omega) h1 fun one hone F2 h3 h4 => ?_
  · have := congrArg List.length e
    rw [sortS_length, List.length_map] at this
    exact List.length_eq_zero_iff.mp this
  have hone := mem_sortS.mp hone
  have w2 := w1.draw h3 h4
  refine pick (E := E) hh0 (by omega) h3 fun other hother F3 h5 h6 => ?_
  have w3 := w2.draw h5 h6
  cases hv1 : hget x.sh one with
  | none => exact absurd hone (hget_none.mp hv1)
  | some v =>
  have hh : hget x.held one = some v := nz_some (by rw [← rx.rel one]; exact hv1)
  have fv := rx.fr one v hh
  have pv := rx.pos one v hv1
  refine ix_dc (dc_of (w3.sh x hx)) (by rw [hv_get, hv1]; rfl) ?_
  refine ⟨p, v, n, rfl, h5, fv, pv, by omega, fun pt F4 h7 h8 hpt => ?_⟩
  have w4 := w3.draw h7 h8
  refine ix1 ⟨by decide, ?_⟩
  by_cases hbig : (10 : Int) ^ (29 : Int).toNat ≤ pt.2
  · simp only [decide_eq_true hbig]
    exact hq F4 hs w4.up.up rfl
  have hd29 : pt.2 < 10 ^ 29 := by
    have e : (29 : Int).toNat = 29 := rfl
    rw [e] at hbig
    omega
  simp only [decide_eq_false hbig]
  simp only [w4.c.b]
  have hD : (hget x.held one).getD (0, 1) = v := by rw [hh]; rfl
  have hou : one ∈ un := rx.su one hone
  have hot : other ∈ un := hhu other hother
  have ek : ∀ z, z ∈ un → z ∈ ps ∨ z ∈ (entD hs).map (·.1) := fun z hz => by rw [entD_keys]; exact huh z hz
  have f1 := rx.frD1 (one := one) (p := pt) (by rw [hD]; exact hpt) hd29 other
  refine ⟨trivial, rfl, b, x.nm, one, other, pt, pl, en, ps, entD hs, x.e, x.h, numV x.nums, x.held, n, rfl, w4.c, kget_of (by rw [entD_keys]; exact w.nd) (List.mem_map.mpr ⟨x, hx, rfl⟩), w4.ent x hx, ek one hou, ek other hot, by rw [hD]; exact fv, by rw [hD]; exact hpt, hd29, f1, by omega, by omega, ?_⟩
  have ad := w.ad
  rw [List.nodup_cons, List.nodup_cons, List.nodup_append] at ad
  have hg : x.h ≠ x.g := ad.2.2.2.2 _ (List.mem_map.mpr ⟨_, hx, rfl⟩) _ (List.mem_map.mpr ⟨_, hx, rfl⟩)
  have rax := w.ra x hx
  have hle1 := rax.le1 hh
  have hlt := rt_lt (p := (1, 1)) (q := v) (by decide) fv.pos
  rw [rt_one] at hlt
  have hv12 : v.1 ≤ v.2 := by
    have : ¬ (1 : Int) * v.2 < v.1 * 1 := fun z => by
      have := hlt.mp z
      grind
    omega
  have hp12 : pt.1 ≤ pt.2 := by
    have l1 := hpt.le
    have l2 : v.1 * pt.2 ≤ v.2 * pt.2 := Int.mul_le_mul_of_nonneg_right hv12 (Int.le_of_lt hpt.dpos)
    have l3 : pt.1 * v.2 ≤ pt.2 * v.2 := by rw [Int.mul_comm pt.2 v.2]; omega
    exact Int.le_of_mul_le_mul_right l3 fv.pos
  have hsh : Shr pt := ⟨hpt.dpos, Int.le_of_lt hd29, by have := hpt.pos; omega, by omega⟩
  have ra2 : RecA un (x.k + 1) (soldH x.held one other pt) := rax.sold hsh hou hot hpt.pos (by rw [hD]; have := hpt.le; omega) (by
    by_cases q : one ∈ x.held.map (·.1)
    · exact q
    · rw [hget_none.mpr q] at hh; cases hh)
  have final := hq _ _ (w4.sold hx (held := soldH x.held one other pt) (sh := soldS x.sh one other v pt) (n' := n + 2) (fun y hy => (w.rc y hy).up.up) (rx.sold hv1 hpt hd29 hou hot) ra2 (Nat.le_refl _)) (chg_map _ _ _ c3 (fun y => by unfold c3; rw [chg_nm, chg_nums, chg_three]) _)
  have g5 : mset F4 x.h (.dict (hv (soldH x.held one other pt))) x.g = some (.dict (hv x.sh)) := by rw [mset_ne (Ne.symm hg)]; exact w4.sh x hx
  generalize mset F4 x.h (.dict (hv (soldH x.held one other pt))) = F5 at *
  refine ⟨⟨x.g, _, rfl, g5⟩, bm_dpop g5 (y := frP v) (by rw [hv_get, hv1]; rfl) ?_⟩
  rw [hv_drop]
  have sv := fv.sm (by omega : n ≤ 70)
  have sp := hpt.sm fv (by omega) hd29
  obtain ⟨b1, b2⟩ := prod_sm fv hpt.dpos (by omega) hd29
  simp only [frP, wpB, wpS, wpE, wpEs, wpT, wpTs, wpCs, wpP, wpIt, wpBl, bindT, biS, recS, truS, start1, List.map, List.length, List.replicate, List.append_nil, List.nil_append, List.cons_append, Nat.sub_self, Nat.reduceSub, Nat.reduceAdd, List.length_cons, List.length_nil, List.getElem?_cons_zero, List.getElem?_cons_succ, List.set_cons_zero, List.set_cons_succ, setAll, wipe1, Tg.slots, binS, subS, fdivS, modS, powS, cmpS, ltS, isS, isNS, asStrs, asBls, newLs]
  refine ⟨trivial, ix1 (p := pt) (mul_i (sv.a.mul sp.b) (ix0 (p := pt) (mul_i (sp.a.mul sv.b) ?_)))⟩
  refine ix1 (p := pt) (mul_i (sv.b.mul sp.b) ⟨_, _, rfl, b1, b2, ?_⟩)
  have lz := less_zero fv hpt
  have rrel := rest_rel (one := one) rx.rel lz
  have fo : Fr (n + 1) ((hget (restS x.sh one (less v pt)) other).getD (0, 1)) := by
    rw [rrel, nz_getD]
    rw [hD] at f1
    exact f1
  have hrl : (restS x.sh one (less v pt)).length ≤ 32 := by
    unfold restS
    have h9 := hdrop_len x.sh one
    split
    · have := hput_len (hdrop x.sh one) one (less v pt)
      omega
    · omega
  have so := fo.sm (by omega : n + 1 ≤ 70)
  obtain ⟨c1, c2⟩ := prod_sm fo hpt.dpos (by omega) hd29
  have eg2 : ∀ o : Option (Int × Int), (Option.map frP o).getD (Val.tup [.int 0, .int 1]) = frP (o.getD (0, 1)) := fun o => getD_fr
  refine ix0 (p := less v pt) ?_
  by_cases hr : (less v pt).1 > 0
  · simp only [decide_eq_true (show (0 : Int) < (less v pt).1 from hr)]
    refine set_d mset_same (by rw [hv_len, sizeLine_eq]; have := hdrop_len x.sh one; omega) ?_
    have e7 : mset (mset F5 x.g (.dict (hv (hdrop x.sh one)))) x.g (.dict (kput (hv (hdrop x.sh one)) one (frP (less v pt)))) = mset F5 x.g (.dict (hv (restS x.sh one (less v pt)))) := by
      unfold restS
      rw [if_pos hr, mset_mset, hv_put]
    rw [show (frP (low (v.1 * pt.2 - pt.1 * v.2) (v.2 * pt.2))) = frP (less v pt) from rfl, e7]
    refine ⟨⟨x.g, _, rfl, dc_of mset_same⟩, by rw [sizeLine_eq]; decide, bm_get (dc_of mset_same) ?_⟩
    rw [hv_get, eg2]
    simp only [frP, wpB, wpS, wpE, wpEs, wpT, wpTs, wpCs, wpP, wpIt, wpBl, bindT, biS, recS, truS, start1, List.map, List.length, List.replicate, List.append_nil, List.nil_append, List.cons_append, Nat.sub_self, Nat.reduceSub, Nat.reduceAdd, List.length_cons, List.length_nil, List.getElem?_cons_zero, List.getElem?_cons_succ, List.set_cons_zero, List.set_cons_succ, setAll, wipe1, Tg.slots, binS, subS, fdivS, modS, powS, cmpS, ltS, isS, isNS, asStrs, asBls, newLs]
    refine ⟨trivial, ix1 (p := pt) (mul_i (so.a.mul sp.b) (ix0 (p := pt) (mul_i (sp.a.mul so.b) (add_int ?_))))⟩
    refine ix1 (p := pt) (mul_i (so.b.mul sp.b) ⟨_, _, rfl, c1, c2, ?_⟩)
    refine set_d mset_same (by rw [hv_len, sizeLine_eq]; omega) ?_
    rw [mset_mset]
    have e8 := hv_put (restS x.sh one (less v pt)) other (more ((hget (restS x.sh one (less v pt)) other).getD (0, 1)) pt)
    unfold more at e8
    rw [e8]
    exact final
  · simp only [decide_eq_false (show ¬ (0 : Int) < (less v pt).1 from hr)]
    have e7 : mset F5 x.g (.dict (hv (hdrop x.sh one))) = mset F5 x.g (.dict (hv (restS x.sh one (less v pt)))) := by
      unfold restS
      rw [if_neg hr]
    rw [e7]
    refine ⟨⟨x.g, _, rfl, dc_of mset_same⟩, by rw [sizeLine_eq]; decide, bm_get (dc_of mset_same) ?_⟩
    rw [hv_get, eg2]
    simp only [frP, wpB, wpS, wpE, wpEs, wpT, wpTs, wpCs, wpP, wpIt, wpBl, bindT, biS, recS, truS, start1, List.map, List.length, List.replicate, List.append_nil, List.nil_append, List.cons_append, Nat.sub_self, Nat.reduceSub, Nat.reduceAdd, List.length_cons, List.length_nil, List.getElem?_cons_zero, List.getElem?_cons_succ, List.set_cons_zero, List.set_cons_succ, setAll, wipe1, Tg.slots, binS, subS, fdivS, modS, powS, cmpS, ltS, isS, isNS, asStrs, asBls, newLs]
    refine ⟨trivial, ix1 (p := pt) (mul_i (so.a.mul sp.b) (ix0 (p := pt) (mul_i (sp.a.mul so.b) (add_int ?_))))⟩
    refine ix1 (p := pt) (mul_i (so.b.mul sp.b) ⟨_, _, rfl, c1, c2, ?_⟩)
    refine set_d mset_same (by rw [hv_len, sizeLine_eq]; omega) ?_
    rw [mset_mset]
    have e8 := hv_put (restS x.sh one (less v pt)) other (more ((hget (restS x.sh one (less v pt)) other).getD (0, 1)) pt)
    unfold more at e8
    rw [e8]
    exact final
end Bv

/-! A book is built. -/
namespace Bv
open PySem L2 PyProof.Rows
section
variable {CB CE : Addr} {un : List Str} {n : Nat} {F F' : MH} {p b pl en m : Addr} {ps : List Str} {hs : List Hs}
theorem pl_ne (w : Wd CB CE un n F p b pl en m ps hs) : p ≠ pl := fun z => by
  obtain ⟨i, j, hp⟩ := w.pur
  have := w.c.pl
  rw [← z, hp] at this
  cases ps with
  | nil => cases this
  | cons a l => cases this
theorem Wd.person (w : Wd CB CE un n F p b pl en m ps hs) (x : Str) : Wd CB CE un n (mset F pl (.lst ((ps ++ [x]).map .str))) p b pl en m (ps ++ [x]) hs := by
  have hpl := w.c.pl
  have ki : ∀ {a c}, F a = some c → (∀ vs, c ≠ .lst vs) → mset F pl (.lst ((ps ++ [x]).map .str)) a = some c := fun {a c} e h => by
    rw [mset_ne (fun z => by rw [z, hpl] at e; cases e; exact h _ rfl)]
    exact e
  obtain ⟨i, j, hp⟩ := w.pur
  refine { w with c := ⟨ki w.c.b (fun _ z => nomatch z), mset_same, ki w.c.en (fun _ z => nomatch z)⟩, ent := fun y hy => ⟨ki (w.ent y hy).e (fun _ z => nomatch z), ki (w.ent y hy).h (fun _ z => nomatch z)⟩, md := ki w.md (fun _ z => nomatch z), sh := fun y hy => ki (w.sh y hy) (fun _ z => nomatch z), pur := ⟨i, j, ?_⟩ }
  rw [mset_ne (pl_ne w)]
  exact hp
theorem RecOk.new {o : Str} (ho : o ∈ un) : RecOk un n [(o, (1, 1))] [(o, (1, 1))] := by
  have hg : ∀ z, hget [(o, ((1 : Int), (1 : Int)))] z = if o = z then some (1, 1) else none := fun z => by
    unfold hget
    by_cases h : o = z <;> simp [h]
  refine ⟨by simp, by simp, fun z hz => ?_, fun z hz => ?_, fun z => ?_, fun z v e => ?_, fun z v e => ?_, by simp⟩
  · have : z = o := by simpa using hz
    rw [this]; exact ho
  · have : z = o := by simpa using hz
    rw [this]; exact ho
  · rw [hg]
    by_cases h : o = z
    · rw [if_pos h]; rfl
    · rw [if_neg h]; rfl
  · rw [hg] at e
    split at e
    · cases e; exact Fr.one.mono (Nat.zero_le _)
    · cases e
  · rw [hg] at e
    split at e
    · cases e; decide
    · cases e
theorem Wd.house (w : Wd CB CE un n F p b pl en m ps hs) {x o : Str} {h e g : Addr} {nums three : N3} (hb : B3 nums ∧ B3 three) (hx : x ∉ hs.map (·.nm)) (hxu : x ∈ un) (ho : o ∈ un) (hl : hs.length < 8) (h1 : F h = none) (h2 : F e = none) (h3 : e ≠ h)
    (h4 : mset (mset (mset F h (.dict (hv [(o, (1, 1))]))) e (.inst CE (entFs (numV nums) h))) en (.dict (entD hs ++ [(x, .ref e)])) g = none) :
    Wd CB CE un n (mset (mset (mset (mset (mset F h (.dict (hv [(o, (1, 1))]))) e (.inst CE (entFs (numV nums) h))) en (.dict (entD hs ++ [(x, .ref e)]))) g (.dict (hv [(o, (1, 1))]))) m (.dict (modD hs ++ [(x, .lst [.ref g, numV three])]))) p b pl en m ps
      (hs ++ [⟨x, e, h, nums, [(o, (1, 1))], g, three, [(o, (1, 1))], 0⟩]) := by
  have ge : g ≠ en := fun z => by rw [z, mset_same] at h4; cases h4
  rw [mset_ne ge] at h4
  have gee : g ≠ e := fun z => by rw [z, mset_same] at h4; cases h4
  rw [mset_ne gee] at h4
  have gh : g ≠ h := fun z => by rw [z, mset_same] at h4; cases h4
  rw [mset_ne gh] at h4
  have ne_of : ∀ {a c z}, F a = some c → F z = none → a ≠ z := fun {a c z} q r e => by rw [e, r] at q; cases q
  have ad := w.ad
  have enm : en ≠ m := fun z => by rw [List.nodup_cons] at ad; exact ad.1 (by rw [z]; exact List.mem_cons_self)
  have k : ∀ {a c}, F a = some c → a ≠ en → a ≠ m → mset (mset (mset (mset (mset F h (.dict (hv [(o, (1, 1))]))) e (.inst CE (entFs (numV nums) h))) en (.dict (entD hs ++ [(x, .ref e)]))) g (.dict (hv [(o, (1, 1))]))) m (.dict (modD hs ++ [(x, .lst [.ref g, numV three])])) a = some c := fun {a c} q n1 n2 => by
    rw [mset_ne n2, mset_ne (ne_of q h4), mset_ne n1, mset_ne (ne_of q h2), mset_ne (ne_of q h1)]
    exact q
  have ki : ∀ {a C fs}, F a = some (.inst C fs) → a ≠ en ∧ a ≠ m := fun {a C fs} q => ⟨fun z => (by rw [z, w.c.en] at q; cases q), fun z => (by rw [z, w.md] at q; cases q)⟩
  have kl : ∀ {a vs}, F a = some (.lst vs) → a ≠ en ∧ a ≠ m := fun {a vs} q => ⟨fun z => (by rw [z, w.c.en] at q; cases q), fun z => (by rw [z, w.md] at q; cases q)⟩
  have ad2 := ad
  rw [List.nodup_cons, List.nodup_cons, List.nodup_append] at ad2
  obtain ⟨d1, d2, d3, d4, d5⟩ := ad2
  have hen : ∀ y ∈ hs, y.h ≠ en ∧ y.h ≠ m ∧ y.g ≠ en ∧ y.g ≠ m := fun y hy => by
    have m1 : y.h ∈ hs.map (·.h) := List.mem_map.mpr ⟨y, hy, rfl⟩
    have m2 : y.g ∈ hs.map (·.g) := List.mem_map.mpr ⟨y, hy, rfl⟩
    exact ⟨fun z => d1 (by rw [← z]; exact List.mem_cons_of_mem _ (List.mem_append_left _ m1)), fun z => d2 (by rw [← z]; exact List.mem_append_left _ m1), fun z => d1 (by rw [← z]; exact List.mem_cons_of_mem _ (List.mem_append_right _ m2)), fun z => d2 (by rw [← z]; exact List.mem_append_right _ m2)⟩
  have he : en ≠ h := ne_of w.c.en h1
  have hm : m ≠ h := ne_of w.md h1
  have ee : en ≠ e := ne_of w.c.en h2
  have em : m ≠ e := ne_of w.md h2
  have gm : m ≠ g := ne_of w.md h4
  obtain ⟨i, j, hp⟩ := w.pur
  refine ⟨⟨k w.c.b (ki w.c.b).1 (ki w.c.b).2, k w.c.pl (kl w.c.pl).1 (kl w.c.pl).2, ?_⟩, fun y hy => ?_, ?_, fun y hy => ?_, ⟨i, j, k hp (kl hp).1 (kl hp).2⟩, ?_, by rw [List.length_append]; simp only [List.length_cons, List.length_nil]; omega, fun y hy => ?_, w.ul, fun y hy => ?_, ?_, fun y hy => ?_, ?_, fun y hy => ?_⟩
  · rw [mset_ne enm, mset_ne (Ne.symm ge), mset_same]
    unfold entD
    rw [List.map_append]
    rfl
  · rcases List.mem_append.mp hy with q | q
    · obtain ⟨n1, n2, _, _⟩ := hen y q
      exact ⟨k (w.ent y q).e (ki (w.ent y q).e).1 (ki (w.ent y q).e).2, k (w.ent y q).h n1 n2⟩
    · rw [List.mem_singleton.mp q]
      refine ⟨?_, ?_⟩
      · show mset _ m _ e = _
        rw [mset_ne (Ne.symm em), mset_ne (Ne.symm gee), mset_ne (Ne.symm ee), mset_same]
      · show mset _ m _ h = _
        rw [mset_ne (Ne.symm hm), mset_ne (Ne.symm gh), mset_ne (Ne.symm he), mset_ne (Ne.symm h3), mset_same]
  · rw [mset_same]
    unfold modD
    rw [List.map_append]
    rfl
  · rcases List.mem_append.mp hy with q | q
    · obtain ⟨_, _, n1, n2⟩ := hen y q
      exact k (w.sh y q) n1 n2
    · rw [List.mem_singleton.mp q]
      show mset _ m _ g = _
      rw [mset_ne (Ne.symm gm), mset_same]
  · rw [List.map_append, List.nodup_append]
    refine ⟨w.nd, by simp, fun a ha c hc z => hx ?_⟩
    have : c = x := by simpa using hc
    rw [← this, ← z]
    exact ha
  · rcases List.mem_append.mp hy with q | q
    · exact w.rc y q
    · rw [List.mem_singleton.mp q]
      exact RecOk.new ho
  · rcases List.mem_append.mp hy with q | q
    · exact w.nu y q
    · rw [List.mem_singleton.mp q]
      exact hxu
  · rw [List.map_append, List.map_append]
    have nh : ∀ y ∈ hs, y.h ≠ h ∧ y.h ≠ g ∧ y.g ≠ h ∧ y.g ≠ g := fun y hy => ⟨ne_of (w.ent y hy).h h1, ne_of (w.ent y hy).h h4, ne_of (w.sh y hy) h1, ne_of (w.sh y hy) h4⟩
    have eg : en ≠ g := ne_of w.c.en h4
    rw [List.nodup_cons, List.nodup_cons, List.nodup_append, List.nodup_append, List.nodup_append]
    refine ⟨fun q => ?_, fun q => ?_, ⟨d3, by simp, fun a ha c hc z => ?_⟩, ⟨d4, by simp, fun a ha c hc z => ?_⟩, fun a ha c hc z => ?_⟩
    · rcases List.mem_cons.mp q with q | q
      · exact enm q
      · rcases List.mem_append.mp q with q | q
        · rcases List.mem_append.mp q with q | q
          · exact d1 (List.mem_cons_of_mem _ (List.mem_append_left _ q))
          · exact he (by simpa using q)
        · rcases List.mem_append.mp q with q | q
          · exact d1 (List.mem_cons_of_mem _ (List.mem_append_right _ q))
          · exact eg (by simpa using q)
    · rcases List.mem_append.mp q with q | q
      · rcases List.mem_append.mp q with q | q
        · exact d2 (List.mem_append_left _ q)
        · exact hm (by simpa using q)
      · rcases List.mem_append.mp q with q | q
        · exact d2 (List.mem_append_right _ q)
        · exact gm (by simpa using q)
    · obtain ⟨y, hy, rfl⟩ := List.mem_map.mp ha
      have : c = h := by simpa using hc
      exact (nh y hy).1 (z.trans this)
    · obtain ⟨y, hy, rfl⟩ := List.mem_map.mp ha
      have : c = g := by simpa using hc
      exact (nh y hy).2.2.2 (z.trans this)
    · rcases List.mem_append.mp ha with q | q
      · rcases List.mem_append.mp hc with r | r
        · exact d5 a q c r z
        · obtain ⟨y, hy, rfl⟩ := List.mem_map.mp q
          have : c = g := by simpa using r
          exact (nh y hy).2.1 (z.trans this)
      · have e1 : a = h := by simpa using q
        rcases List.mem_append.mp hc with r | r
        · obtain ⟨y, hy, rfl⟩ := List.mem_map.mp r
          exact (nh y hy).2.2.1 (z.symm.trans e1)
        · have e2 : c = g := by simpa using r
          exact gh (e2.symm.trans (z.symm.trans e1))
  · rcases List.mem_append.mp hy with q | q
    · exact w.ra y q
    · rw [List.mem_singleton.mp q]
      exact RecA.new ho
  · rw [List.map_append, List.sum_append]
    have := w.kn
    show 2 * ((hs.map (·.k)).sum + (0 + 0)) ≤ n
    omega
  · rcases List.mem_append.mp hy with q | q
    · exact w.bd y q
    · rw [List.mem_singleton.mp q]
      exact ⟨hb.1.four, hb.2⟩
end
theorem cut_take {α : Type} (xs : List α) {k : Nat} (h : k ≤ xs.length) : cut xs none (some (k : Int)) = xs.take k := by
  unfold cut
  rw [HT.sIx_none, HT.sIx_nat, Nat.min_eq_left h]
  simp
def spBuilt (CB CE : Addr) : Spec := fun vs F Q _ => ∃ (p : Addr) (most : Nat), vs = [.ref p, .int most] ∧ most ≤ 7 ∧ Pur F p ∧
  ∀ (F' : MH) (b pl en m : Addr) (un : List Str) (n : Nat) (ps : List Str) (hs : List Hs), Wd CB CE un n F' p b pl en m ps hs → (∀ z ∈ un, VS z) → (∀ z ∈ ps, VS z) → ps.length ≤ 3 → (∀ z ∈ ps, z ∉ hs.map (·.nm)) → n ≤ 8 * most → hs.length ≤ most → (∀ z ∈ un, z ∈ ps ∨ z ∈ hs.map (·.nm)) → (∀ x ∈ hs, x.nums = x.three) → ps.Nodup → (∀ z ∈ ps, z ∈ un) → 1 ≤ ps.length → Q (.tup [.ref b, .lst ((sortS ps).map .str), .ref m]) F'
end Bv

/-! A book is built: the def. -/
namespace Bv
open PySem L2 PyProof.Rows
theorem w_l_built {Γ : Amb} {CB CE : Addr} {rd : CallR1 Γ "_law_draw"} {rs : CallR1 Γ "_law_sold"} {th : MethR Γ "house"} {rn : CallR1 Γ "_law_number"} {tp : MethR Γ "person"} {mb : MkR Γ "Book"} {rnm : CallR1 Γ "_law_names"} (hd : rd.sp = spDraw) (hs_ : rs.sp = spSold CB CE) (hth : th.sp = spHouse CB CE) (hthc : th.C = CB) (hn : rn.sp = spNumber) (htp : tp.sp = spPerson CB) (htpc : tp.C = CB)
    (hmb : mb.sp = spBInit CB) (hmbc : mb.C = CB) (hnm : rnm.sp = spNames) : ∀ vs F Q E, spBuilt CB CE vs F Q E → wpB (fun C fs _ F => E C fs F) (c_l_built rd rs th rn tp mb rnm) (start1 n_l_built vs) F (fun _ F => Q .non F) Q := by
  rintro vs F Q E ⟨p, most, rfl, hmost, hp, hq⟩
  unfold c_l_built
  simp only [wpB, wpS, wpE, wpEs, wpT, wpTs, wpCs, wpP, wpIt, wpBl, bindT, biS, recS, truS, start1, List.map, List.length, List.replicate, List.append_nil, List.nil_append, List.cons_append, Nat.sub_self, Nat.reduceSub, Nat.reduceAdd, List.length_cons, List.length_nil, List.getElem?_cons_zero, List.getElem?_cons_succ, List.set_cons_zero, List.set_cons_succ, setAll, wipe1, Tg.slots, binS, subS, fdivS, modS, powS, cmpS, ltS, isS, isNS, asStrs, asBls, newLs, n_l_built, hd, hs_, hth, hthc, hn, htp, htpc, hmb, hmbc, hnm]
  refine ⟨p, 3, rfl, by decide, .of_small (by decide) (by decide), hp, fun mr a b m0 m1 => add_int ?_⟩
  refine add_int ⟨p, _, rfl, by omega, .of_small (by omega) (by omega), .set, fun cr a' b' c0 c1 => add_int ?_⟩
  obtain ⟨M, hM⟩ := Int.eq_ofNat_of_zero_le (show 0 ≤ 1 + mr by omega)
  rw [hM]
  obtain ⟨C, rfl⟩ := Int.eq_ofNat_of_zero_le c0
  have hM3 : M ≤ 3 := by omega
  have hM1 : 1 ≤ M := by omega
  have hCm : C ≤ most := by omega
  have hC7 : C ≤ 7 := by omega
  rw [show (M : Int) + (C : Int) = ((M + C : Nat) : Int) from rfl]
  refine ⟨p, M + C, rfl, by omega, .set, fun names F1 hnl hnn hnv pu1 k1 => ?_⟩
  intro bk hbk
  refine ⟨bk, rfl, mset_same, fun pl en F2 hpl hen bc fr2 => ⟨rfl, ?_⟩⟩
  intro m hm
  have pb : p ≠ bk := Pur.ne pu1 hbk |>.symm
  have e2 : ∀ a c, F1 a = some c → F2 a = some c := fun a c h => by
    have : a ≠ bk := fun z => by rw [z, hbk] at h; cases h
    exact fr2 a c this (by rw [mset_ne this]; exact h)
  have pu2 : Pur F2 p := by
    obtain ⟨i, j, h⟩ := pu1
    exact ⟨i, j, e2 p _ h⟩
  have ne_of : ∀ {F : MH} {a : Addr} {c : Cell} {z : Addr}, F a = some c → F z = none → a ≠ z := fun {F a c z} q r e => by rw [e, r] at q; cases q
  have w0 : Wd CB CE names 0 (mset F2 m (.dict [])) p bk pl en m [] [] := by
    obtain ⟨i, j, h⟩ := pu2
    refine ⟨⟨?_, ?_, ?_⟩, fun x hx => (nomatch hx), mset_same, fun x hx => (nomatch hx), ⟨i, j, ?_⟩, List.nodup_nil, Nat.zero_le _, fun x hx => (nomatch hx), by omega, fun x hx => (nomatch hx), ?_, fun x hx => (nomatch hx), Nat.le_refl _, fun x hx => (nomatch hx)⟩
    · rw [mset_ne (ne_of bc.b hm)]; exact bc.b
    · rw [mset_ne (ne_of bc.pl hm)]; exact bc.pl
    · rw [mset_ne (ne_of bc.en hm)]; exact bc.en
    · rw [mset_ne (ne_of h hm)]; exact h
    · have := ne_of bc.en hm
      simp [this]
  generalize mset F2 m (.dict []) = F3 at w0
  simp only [slS, lsOf]
  rw [cut_map, cut_take names (by omega)]
  refine forGo_inv (fun i σ F4 => ∃ s7 : Option Val, σ = [some (.ref p), some (.int (most : Int)), some (.int M), some (.int C), some (.lst (names.map .str)), some (.ref bk), some (.ref m), s7, none, none, none] ∧ Wd CB CE names 0 F4 p bk pl en m (names.take i) []) (fun _ _ _ _ => trivial) ?_ ?_ ⟨none, rfl, by simpa using w0⟩
  · rintro i v σ F4 k hv ⟨s7, rfl, w⟩ hk
    rw [List.getElem?_map] at hv
    obtain ⟨z, hz, rfl⟩ := Option.map_eq_some_iff.mp hv
    rw [List.getElem?_take] at hz
    split at hz
    rotate_left
    · cases hz
    rename_i hiM
    simp only [wpB, wpS, wpE, wpEs, wpT, wpTs, wpCs, wpP, wpIt, wpBl, bindT, biS, recS, truS, start1, List.map, List.length, List.replicate, List.append_nil, List.nil_append, List.cons_append, Nat.sub_self, Nat.reduceSub, Nat.reduceAdd, List.length_cons, List.length_nil, List.getElem?_cons_zero, List.getElem?_cons_succ, List.set_cons_zero, List.set_cons_succ, setAll, wipe1, Tg.slots, binS, subS, fdivS, modS, powS, cmpS, ltS, isS, isNS, asStrs, asBls, newLs, w.c.b]
    have hzm := List.mem_of_getElem? hz
    have htk : names.take (i + 1) = names.take i ++ [z] := by rw [List.take_add_one, hz]; rfl
    have hznt : z ∉ names.take i := fun h => by
      have h2 : (names.take (i + 1)).Nodup := (List.take_sublist _ _).nodup hnn
      rw [htk, List.nodup_append] at h2
      exact h2.2.2 z h z (List.mem_singleton.mpr rfl) rfl
    refine ⟨trivial, rfl, bk, z, pl, en, names.take i, _, rfl, w.c, hnv z hzm, hznt, by simp [entD], by rw [List.length_take]; omega, ?_⟩
    have w2 := w.person z
    rw [← htk] at w2
    rw [← htk]
    exact hk _ _ ⟨_, rfl, w2⟩
  rintro σ F4 ⟨s7, rfl, w⟩
  rw [List.length_map, List.length_take] at w
  have hmin : min M names.length = M := by omega
  rw [hmin] at w
  simp only [wpB, wpS, wpE, wpEs, wpT, wpTs, wpCs, wpP, wpIt, wpBl, bindT, biS, recS, truS, start1, List.map, List.length, List.replicate, List.append_nil, List.nil_append, List.cons_append, Nat.sub_self, Nat.reduceSub, Nat.reduceAdd, List.length_cons, List.length_nil, List.getElem?_cons_zero, List.getElem?_cons_succ, List.set_cons_zero, List.set_cons_succ, setAll, wipe1, Tg.slots, binS, subS, fdivS, modS, powS, cmpS, ltS, isS, isNS, asStrs, asBls, newLs]
  refine ⟨by omega, by omega, ?_⟩
  rw [Int.toNat_natCast]
  have hsplit : names.take M ++ names.drop M = names := List.take_append_drop M names
  have hdl : (names.drop M).length = C := by rw [List.length_drop]; omega
  have htl : (names.take M).length = M := by rw [List.length_take]; omega
  have hnd2 := hnn
  rw [← hsplit, List.nodup_append] at hnd2
  obtain ⟨ndT, ndD, ndx⟩ := hnd2
  have gen : ∀ F5 hs n, hs.map (·.nm) = names.drop M → n ≤ 8 * most → (∀ x ∈ hs, x.nums = x.three) → Wd CB CE names n F5 p bk pl en m (names.take M) hs → Q (.tup [.ref bk, .lst ((sortS (names.take M)).map .str), .ref m]) F5 := fun F5 hs n e hn8 h3 w5 =>
    hq F5 bk pl en m names n _ hs w5 (fun z hz => (hnv z hz).vs) (fun z hz => (hnv z (List.mem_of_mem_take hz)).vs) (by rw [htl]; exact hM3) (fun z hz h => by rw [e] at h; exact ndx z hz z h rfl) hn8 (by
      have := congrArg List.length e
      rw [List.length_map, hdl] at this
      omega) (fun z hz => by
      rw [e]
      rw [← hsplit] at hz
      exact List.mem_append.mp hz) h3 ndT (fun z hz => List.mem_of_mem_take hz) (by rw [htl]; exact hM1)
  refine forGo_inv (fun i σ F5 => ∃ (s7 s8 s9 s10 : Option Val) (hs : List Hs), σ = [some (.ref p), some (.int (most : Int)), some (.int M), some (.int C), some (.lst (names.map .str)), some (.ref bk), some (.ref m), s7, s8, s9, s10] ∧ Wd CB CE names 0 F5 p bk pl en m (names.take M) hs ∧ hs.map (·.nm) = (names.drop M).take i ∧ ∀ x ∈ hs, x.nums = x.three) (fun _ _ _ _ => trivial) ?_ ?_ ⟨s7, none, none, none, [], rfl, w, by simp, fun x hx => (nomatch hx)⟩
  · rintro i v σ F5 k hv ⟨s7, s8, s9, s10, hs, rfl, w, hnames, hnt⟩ hk
    obtain ⟨rfl, hi⟩ := range_item0 hv
    have hhl : hs.length = i := by
      have := congrArg List.length hnames
      rw [List.length_map, List.length_take, hdl] at this
      omega
    simp only [wpB, wpS, wpE, wpEs, wpT, wpTs, wpCs, wpP, wpIt, wpBl, bindT, biS, recS, truS, start1, List.map, List.length, List.replicate, List.append_nil, List.nil_append, List.cons_append, Nat.sub_self, Nat.reduceSub, Nat.reduceAdd, List.length_cons, List.length_nil, List.getElem?_cons_zero, List.getElem?_cons_succ, List.set_cons_zero, List.set_cons_succ, setAll, wipe1, Tg.slots, binS, subS, fdivS, modS, powS, cmpS, ltS, isS, isNS, asStrs, asBls, newLs]
    refine add_int ⟨p, _, rfl, by omega, .of_small (by omega) (by omega), w.pur, fun r a b r0 r1 => ?_⟩
    have wA := w.draw (F' := mset F5 p (.lst [.int a, .int b])) .set .set
    generalize mset F5 p (.lst [.int a, .int b]) = FA at wA
    have hrl : r.toNat < names.length := by omega
    obtain ⟨o, ho⟩ : ∃ o, names[r.toNat]? = some o := ⟨_, List.getElem?_eq_getElem hrl⟩
    have hom := List.mem_of_getElem? ho
    have hoh : o ∈ names.take M ∨ o ∈ (entD hs).map (·.1) := by
      rw [entD_keys, hnames]
      by_cases h : r.toNat < M
      · left
        exact List.mem_of_getElem? (i := r.toNat) (by rw [List.getElem?_take, if_pos h]; exact ho)
      · right
        refine List.mem_of_getElem? (i := r.toNat - M) ?_
        rw [List.getElem?_take, if_pos (by omega), List.getElem?_drop]
        rw [show M + (r.toNat - M) = r.toNat by omega]
        exact ho
    refine ix_list rfl r0 (v := .str o) (by rw [List.getElem?_map, ho]; rfl) ?_
    refine ⟨p, rfl, wA.pur, fun n1 FB l1 u1 b1 b2 => ?_⟩
    have wB := wA.draw b1 b2
    refine ⟨p, rfl, wB.pur, fun n2 FC l2 u2 c1 c2 => ?_⟩
    have wC := wB.draw c1 c2
    refine ⟨p, rfl, wC.pur, fun n3 FD l3 u3 d1 d2 => ?_⟩
    have wD := wC.draw d1 d2
    refine ⟨by rw [sizeLine_eq]; decide, ?_⟩
    simp only [wD.c.b]
    obtain ⟨z, hz⟩ : ∃ z, names[M + i]? = some z := ⟨_, List.getElem?_eq_getElem (by omega)⟩
    have hzm := List.mem_of_getElem? hz
    have hzd : (names.drop M)[i]? = some z := by rw [List.getElem?_drop]; exact hz
    have hzt : z ∉ names.take M := fun h => ndx z h z (List.mem_of_getElem? hzd) rfl
    have htk : (names.drop M).take (i + 1) = (names.drop M).take i ++ [z] := by rw [List.take_add_one, hzd]; rfl
    have hzn : z ∉ hs.map (·.nm) := fun h => by
      rw [hnames] at h
      have h2 : ((names.drop M).take (i + 1)).Nodup := (List.take_sublist _ _).nodup ndD
      rw [htk, List.nodup_append] at h2
      exact h2.2.2 z h z (List.mem_singleton.mpr rfl) rfl
    have hgz : (names.map Val.str)[((M : Int) + (i : Int)).toNat]? = some (.str z) := by
      rw [show ((M : Int) + (i : Int)).toNat = M + i by omega, List.getElem?_map, hz]; rfl
    have habs : 0 ≤ (if n3 < 0 then -n3 else n3) ∧ (if n3 < 0 then -n3 else n3) ≤ 10 ^ 22 := by split <;> omega
    generalize (if n3 < 0 then -n3 else n3) = n3' at habs
    obtain ⟨habs, hab2⟩ := habs
    have hB3 : B3 (n1, n2, n3') := ⟨⟨by show -(10 ^ 22) ≤ n1; omega, by show n1 ≤ 10 ^ 22; omega⟩, ⟨by show -(10 ^ 22) ≤ n2; omega, by show n2 ≤ 10 ^ 22; omega⟩, habs, hab2⟩
    refine ⟨trivial, rfl, add_int (ix_list rfl (by omega) hgz (ix_tup (by decide) rfl (ix_tup (by decide) rfl (ix_tup (by decide) rfl ?_))))⟩
    refine ⟨bk, z, o, pl, en, names.take M, entD hs, .int n1, .int n2, n3', rfl, wD.c, hnv z hzm, hzt, by rw [entD_keys]; exact hzn, hoh, habs, by unfold entD; rw [List.length_map]; omega, fun h e h1 h2 h3 => ?_⟩
    refine ⟨by rw [sizeLine_eq]; decide, fun g hg0 hg => ?_⟩
    have hg1 : mset (mset (mset FD h (.dict (Bv.hv [(o, (1, 1))]))) e (.inst CE (entFs (.tup [.int n1, .int n2, .int n3']) h))) en (.dict (entD hs ++ [(z, .ref e)])) g = none := hg
    have wE := wD.house (x := z) (o := o) (nums := (n1, n2, n3')) (three := (n1, n2, n3')) ⟨hB3, hB3⟩ hzn hzm hom (by omega) h1 h2 h3 hg1
    refine ⟨by rw [sizeLine_eq]; decide, add_int (ix_list rfl (by omega) hgz ?_)⟩
    have md1 : mset (mset (mset (mset FD h (.dict [(o, frP (1, 1))])) e (.inst CE (entFs (.tup [.int n1, .int n2, .int n3']) h))) en (.dict (entD hs ++ [(z, .ref e)]))) g (.dict [(o, .tup [.int 1, .int 1])]) m = some (.dict (modD hs)) := by
      have enm : en ≠ m := fun q => by have := wD.ad; rw [List.nodup_cons] at this; exact this.1 (by rw [q]; exact List.mem_cons_self)
      have q1 : m ≠ h := ne_of wD.md h1
      have q2 : m ≠ e := ne_of wD.md h2
      have q3 : m ≠ g := fun q => by
        rw [← q, mset_ne (Ne.symm enm), mset_ne q2, mset_ne q1, wD.md] at hg
        cases hg
      rw [mset_ne q3, mset_ne (Ne.symm enm), mset_ne q2, mset_ne q1]
      exact wD.md
    refine set_d md1 (by unfold modD; rw [List.length_map, sizeLine_eq]; omega) ?_
    rw [kput_new (by rw [modD_keys]; exact hzn)]
    refine hk _ _ ⟨_, _, _, _, _, rfl, wE, ?_, fun x hx => ?_⟩
    · rw [List.map_append, hnames, htk]
      rfl
    · rcases List.mem_append.mp hx with q | q
      · exact hnt x q
      · rw [List.mem_singleton.mp q]
  · rintro σ F5 ⟨s7, s8, s9, s10, hs, rfl, w, hnames, hnt⟩
    rw [rng_len, List.take_of_length_le (by omega)] at hnames
    have h3of : ∀ hs6 : List Hs, hs6.map c3 = hs.map c3 → ∀ x ∈ hs6, x.nums = x.three := fun hs6 e x hx => by
      have h1 : c3 x ∈ hs.map c3 := by rw [← e]; exact List.mem_map.mpr ⟨x, hx, rfl⟩
      obtain ⟨y, hy, e2⟩ := List.mem_map.mp h1
      have e3 : y.nums = x.nums := congrArg (fun q => q.2.1) e2
      have e4 : y.three = x.three := congrArg (fun q => q.2.2) e2
      rw [← e3, ← e4]
      exact hnt y hy
    have hsrt : ∀ F6 hs6 n, Wd CB CE names n F6 p bk pl en m (names.take M) hs6 → hs6.map c3 = hs.map c3 → n ≤ 8 * most → sortedF false (.lst (cut (names.map Val.str) none (some (M : Int)))) F6 fun x F7 => 3 ≤ sizeLine ∧ Q (.tup [.ref bk, x, .ref m]) F7 := fun F6 hs6 n w6 e hn8 => by
      rw [cut_map, cut_take names (by omega)]
      unfold sortedF
      simp only [lsOf, asStrs_map]
      exact ⟨by rw [htl]; omega, by rw [sizeLine_eq]; decide, gen F6 hs6 n ((c3_nm e).trans hnames) hn8 (h3of hs6 e) w6⟩
    by_cases hC0 : (0 : Int) < (C : Int)
    · simp only [decide_eq_true hC0, wpB, wpS, wpE, wpEs, wpT, wpTs, wpCs, wpP, wpIt, wpBl, bindT, biS, recS, truS, start1, List.map, List.length, List.replicate, List.append_nil, List.nil_append, List.cons_append, Nat.sub_self, Nat.reduceSub, Nat.reduceAdd, List.length_cons, List.length_nil, List.getElem?_cons_zero, List.getElem?_cons_succ, List.set_cons_zero, List.set_cons_succ, setAll, wipe1, Tg.slots, binS, subS, fdivS, modS, powS, cmpS, ltS, isS, isNS, asStrs, asBls, newLs]
      refine mul_i (small_mulL (by decide) (by decide)) (add_int ⟨p, _, rfl, by omega, .of_small (by omega) (by omega), w.pur, fun r a b r0 r1 => ⟨by omega, by omega, ?_⟩⟩)
      have wA := w.draw (F' := mset F5 p (.lst [.int a, .int b])) .set .set
      generalize mset F5 p (.lst [.int a, .int b]) = FA at wA
      refine forGo_inv (fun i σ F6 => ∃ (s7 s8 s9 s10 : Option Val) (hs6 : List Hs), σ = [some (.ref p), some (.int (most : Int)), some (.int M), some (.int C), some (.lst (names.map .str)), some (.ref bk), some (.ref m), s7, s8, s9, s10] ∧ Wd CB CE names (2 * i) F6 p bk pl en m (names.take M) hs6 ∧ hs6.map c3 = hs.map c3) (fun _ _ _ _ => trivial) ?_ ?_ ⟨s7, _, s9, s10, hs, rfl, wA, rfl⟩
      · rintro i v σ F6 k hv ⟨s7, s8, s9, s10, hs6, rfl, w6, e6⟩ hk
        obtain ⟨rfl, hi⟩ := range_item0 hv
        have e6n := (c3_nm e6).trans hnames
        simp only [wpB, wpS, wpE, wpEs, wpT, wpTs, wpCs, wpP, wpIt, wpBl, bindT, biS, recS, truS, start1, List.map, List.length, List.replicate, List.append_nil, List.nil_append, List.cons_append, Nat.sub_self, Nat.reduceSub, Nat.reduceAdd, List.length_cons, List.length_nil, List.getElem?_cons_zero, List.getElem?_cons_succ, List.set_cons_zero, List.set_cons_succ, setAll, wipe1, Tg.slots, binS, subS, fdivS, modS, powS, cmpS, ltS, isS, isNS, asStrs, asBls, newLs]
        refine ⟨p, m, bk, names, 2 * i, pl, en, names.take M, hs6, names, rfl, w6, fun h => ?_, by omega, fun h => ?_, by omega, fun z hz => hz, fun z hz => ?_, fun F7 hs7 w7 e7 => ?_⟩
        · rw [h] at e6n
          have := congrArg List.length e6n
          rw [hdl] at this
          simp at this
          omega
        · rw [h] at hnl
          simp at hnl
          omega
        · rw [← hsplit] at hz
          rcases List.mem_append.mp hz with q | q
          · exact .inl q
          · exact .inr (by rw [e6n]; exact q)
        · exact hk _ _ ⟨_, _, _, _, hs7, rfl, w7, e7.trans e6⟩
      · rintro σ F6 ⟨s7, s8, s9, s10, hs6, rfl, w6, e6⟩
        simp only [wpB, wpS, wpE, wpEs, wpT, wpTs, wpCs, wpP, wpIt, wpBl, bindT, biS, recS, truS, start1, List.map, List.length, List.replicate, List.append_nil, List.nil_append, List.cons_append, Nat.sub_self, Nat.reduceSub, Nat.reduceAdd, List.length_cons, List.length_nil, List.getElem?_cons_zero, List.getElem?_cons_succ, List.set_cons_zero, List.set_cons_succ, setAll, wipe1, Tg.slots, binS, subS, fdivS, modS, powS, cmpS, ltS, isS, isNS, asStrs, asBls, newLs, slS, lsOf]
        rw [rng_len] at w6
        exact hsrt F6 hs6 _ w6 e6 (by omega)
    · simp only [decide_eq_false hC0, wpB, wpS, wpE, wpEs, wpT, wpTs, wpCs, wpP, wpIt, wpBl, bindT, biS, recS, truS, start1, List.map, List.length, List.replicate, List.append_nil, List.nil_append, List.cons_append, Nat.sub_self, Nat.reduceSub, Nat.reduceAdd, List.length_cons, List.length_nil, List.getElem?_cons_zero, List.getElem?_cons_succ, List.set_cons_zero, List.set_cons_succ, setAll, wipe1, Tg.slots, binS, subS, fdivS, modS, powS, cmpS, ltS, isS, isNS, asStrs, asBls, newLs, slS, lsOf]
      exact hsrt F5 hs 0 w rfl (by omega)
end Bv

/-! Determinants by their first column. -/
namespace Bv
abbrev Mx := Nat → Nat → Rat
def skip (i r : Nat) : Nat := if r < i then r else r + 1
def mnr (M : Mx) (i : Nat) : Mx := fun r c => M (skip i r) (c + 1)
def sgn (i : Nat) : Rat := if i % 2 = 0 then 1 else -1
def sm (n : Nat) (f : Nat → Rat) : Rat := match n with
  | 0 => 0
  | n + 1 => sm n f + f n
def det (n : Nat) (M : Mx) : Rat := match n with
  | 0 => 1
  | n + 1 => sm (n + 1) fun i => sgn i * M i 0 * det n (mnr M i)
theorem sgn_succ (i : Nat) : sgn (i + 1) = - sgn i := by
  unfold sgn
  by_cases h : i % 2 = 0
  · rw [if_pos h, if_neg (by omega)]
  · rw [if_neg h, if_pos (by omega)]; grind
theorem sm_congr {n : Nat} {f g : Nat → Rat} (h : ∀ i, i < n → f i = g i) : sm n f = sm n g := by
  induction n with
  | zero => rfl
  | succ n ih => rw [sm, sm, ih fun i hi => h i (by omega), h n (by omega)]
theorem sm_zero {n : Nat} {f : Nat → Rat} (h : ∀ i, i < n → f i = 0) : sm n f = 0 := by
  induction n with
  | zero => rfl
  | succ n ih => rw [sm, ih fun i hi => h i (by omega), h n (by omega)]; grind
theorem sm_lin (n : Nat) (a b : Rat) (f g : Nat → Rat) : sm n (fun i => a * f i + b * g i) = a * sm n f + b * sm n g := by
  induction n with
  | zero => simp only [sm]; grind
  | succ n ih => rw [sm, sm, sm, ih]; grind
theorem sm_neg (n : Nat) (f : Nat → Rat) : sm n (fun i => - f i) = - sm n f := by
  induction n with
  | zero => simp only [sm]; grind
  | succ n ih => rw [sm, sm, ih]; grind
theorem sm_one {n p : Nat} {f : Nat → Rat} (hp : p < n) (h : ∀ i, i < n → i ≠ p → f i = 0) : sm n f = f p := by
  induction n with
  | zero => omega
  | succ n ih =>
    rw [sm]
    by_cases e : p = n
    · rw [e, sm_zero fun i hi => h i (by omega) (by omega)]; grind
    · rw [ih (by omega) fun i hi q => h i (by omega) q, h n (by omega) (by omega)]; grind
def sw (r s : Nat) : Nat := if s = r then r + 1 else if s = r + 1 then r else s
theorem sw_l (r : Nat) : sw r r = r + 1 := by unfold sw; rw [if_pos rfl]
theorem sw_r (r : Nat) : sw r (r + 1) = r := by unfold sw; rw [if_neg (by omega), if_pos rfl]
theorem sw_o {r s : Nat} (h1 : s ≠ r) (h2 : s ≠ r + 1) : sw r s = s := by unfold sw; rw [if_neg h1, if_neg h2]
theorem sm_sw {n r : Nat} (f : Nat → Rat) (h : r + 1 < n) : sm n (fun i => f (sw r i)) = sm n f := by
  induction n with
  | zero => omega
  | succ n ih =>
    by_cases e : r + 1 = n
    · subst e
      rw [sm, sm, sm, sm, sw_l, sw_r, sm_congr (g := f) fun i hi => by rw [sw_o (by omega) (by omega)]]
      grind
    · rw [sm, sm, ih (by omega), sw_o (by omega) (by omega)]
theorem skip_lt {i r n : Nat} (h : r < n) : skip i r < n + 1 := by unfold skip; split <;> omega
theorem det_congr : ∀ {n : Nat} {M N : Mx}, (∀ r c, r < n → c < n → M r c = N r c) → det n M = det n N
  | 0, _, _, _ => rfl
  | n + 1, M, N, h => by
    rw [det, det]
    refine sm_congr fun i hi => ?_
    rw [h i 0 hi (by omega), det_congr (M := mnr M i) (N := mnr N i) fun r c hr hc => h _ _ (skip_lt hr) (by omega)]
/-- where a row stands in a minor -/
def back (i r : Nat) : Nat := if r < i then r else r - 1
theorem skip_back {i r : Nat} (h : r ≠ i) : skip i (back i r) = r := by
  unfold skip back
  by_cases h1 : r < i
  · rw [if_pos h1, if_pos h1]
  · rw [if_neg h1, if_neg (by omega)]; omega
theorem skip_ne {i r : Nat} : skip i r ≠ i := by unfold skip; split <;> omega
theorem skip_eq {i r s : Nat} (h : s ≠ i) : skip i r = s ↔ r = back i s := by unfold skip back; split <;> split <;> omega
theorem skip_eq' {i r s : Nat} (h : s ≠ i) : skip i r = s ↔ r = back i s := skip_eq h
theorem back_lt {i r n : Nat} (h : r ≠ i) (hr : r < n + 1) (hi : i < n + 1) : back i r < n := by unfold back; split <;> omega
theorem det_row : ∀ {n r : Nat} {M P Q : Mx} {a b : Rat}, r < n → (∀ c, c < n → M r c = a * P r c + b * Q r c) → (∀ s c, s < n → s ≠ r → c < n → M s c = P s c ∧ M s c = Q s c) → det n M = a * det n P + b * det n Q
  | 0, _, _, _, _, _, _, h, _, _ => by omega
  | n + 1, r, M, P, Q, a, b, hr, h1, h2 => by
    rw [det, det, det, ← sm_lin]
    refine sm_congr fun i hi => ?_
    by_cases e : i = r
    · subst e
      have q1 : det n (mnr M i) = det n (mnr P i) := det_congr fun s c hs hc => (h2 _ _ (skip_lt hs) skip_ne (by omega)).1
      have q2 : det n (mnr M i) = det n (mnr Q i) := det_congr fun s c hs hc => (h2 _ _ (skip_lt hs) skip_ne (by omega)).2
      rw [← q1, ← q2, h1 0 (by omega)]
      grind
    · have q := det_row (n := n) (r := back i r) (M := mnr M i) (P := mnr P i) (Q := mnr Q i) (a := a) (b := b) (back_lt (Ne.symm e) hr hi) (fun c hc => by
        unfold mnr
        rw [skip_back (Ne.symm e)]
        exact h1 _ (by omega)) (fun s c hs hne hc => h2 _ _ (skip_lt hs) (fun z => hne ((skip_eq (Ne.symm e)).mp z)) (by omega))
      obtain ⟨e1, e2⟩ := h2 i 0 hi e (by omega)
      rw [q, ← e1, ← e2]
      grind
theorem det_swap : ∀ {n r : Nat} {M N : Mx}, r + 1 < n → (∀ s c, s < n → c < n → N s c = M (sw r s) c) → det n N = - det n M
  | 0, _, _, _, h, _ => by omega
  | n + 1, r, M, N, hr, h => by
    rw [det, det, ← sm_neg, ← sm_sw (fun i => - (sgn i * M i 0 * det n (mnr M i))) hr]
    refine sm_congr fun i hi => ?_
    by_cases e1 : i = r
    · subst e1
      rw [sw_l, h i 0 hi (by omega), sw_l, sgn_succ, det_congr (M := mnr N i) (N := mnr M (i + 1)) fun s c hs hc => ?_]
      · grind
      · unfold mnr
        rw [h _ _ (skip_lt hs) (by omega)]
        congr 1
        unfold sw skip
        split <;> split <;> (try split) <;> (try split) <;> omega
    · by_cases e2 : i = r + 1
      · subst e2
        rw [sw_r, h (r + 1) 0 hi (by omega), sw_r, sgn_succ, det_congr (M := mnr N (r + 1)) (N := mnr M r) fun s c hs hc => ?_]
        · grind
        · unfold mnr
          rw [h _ _ (skip_lt hs) (by omega)]
          congr 1
          unfold sw skip
          split <;> split <;> (try split) <;> (try split) <;> omega
      · rw [sw_o e1 e2, h i 0 hi (by omega), sw_o e1 e2]
        have q := det_swap (n := n) (r := back i r) (M := mnr M i) (N := mnr N i) (by unfold back; split <;> omega) (fun s c hs hc => by
          unfold mnr
          rw [h _ _ (skip_lt hs) (by omega)]
          congr 1
          rw [eq_comm, skip_eq' (by rcases Nat.lt_or_ge r i with g | g <;> (unfold sw skip; repeat' split) <;> omega)]
          unfold sw skip back
          repeat' split
          all_goals omega)
        rw [q]
        grind
theorem det_eq : ∀ {d n p : Nat} {M : Mx}, p + d + 1 < n → (∀ c, c < n → M p c = M (p + d + 1) c) → det n M = 0
  | 0, n, p, M, h, e => by
    have q := det_swap (n := n) (r := p) (M := M) (N := M) h fun s c hs hc => by
      by_cases e1 : s = p
      · rw [e1, sw_l]; exact e c hc
      · by_cases e2 : s = p + 1
        · rw [e2, sw_r]; exact (e c hc).symm
        · rw [sw_o e1 e2]
    grind
  | d + 1, n, p, M, h, e => by
    have q := det_swap (n := n) (r := p + d + 1) (M := M) (N := fun s c => M (sw (p + d + 1) s) c) (by omega) fun _ _ _ _ => rfl
    have q2 := det_eq (d := d) (n := n) (p := p) (M := fun s c => M (sw (p + d + 1) s) c) (by omega) fun c hc => by
      show M (sw (p + d + 1) p) c = M (sw (p + d + 1) (p + d + 1)) c
      rw [sw_l, sw_o (by omega) (by omega)]
      exact e c hc
    grind
theorem det_same {n p q : Nat} {M : Mx} (hp : p < n) (hq : q < n) (h : p ≠ q) (e : ∀ c, c < n → M p c = M q c) : det n M = 0 := by
  rcases Nat.lt_or_gt_of_ne h with h | h
  · refine det_eq (d := q - p - 1) (p := p) (by omega) fun c hc => ?_
    rw [show p + (q - p - 1) + 1 = q by omega]
    exact e c hc
  · refine det_eq (d := p - q - 1) (p := q) (by omega) fun c hc => ?_
    rw [show q + (p - q - 1) + 1 = p by omega]
    exact (e c hc).symm
/-- a row and some of another one -/
theorem det_add {n r s : Nat} {M N : Mx} {a : Rat} (hr : r < n) (hs : s < n) (h : r ≠ s) (e : ∀ c, c < n → N s c = M s c + a * M r c) (e2 : ∀ t c, t < n → t ≠ s → c < n → N t c = M t c) : det n N = det n M := by
  have q := det_row (n := n) (r := s) (M := N) (P := M) (Q := fun t c => if t = s then M r c else M t c) (a := 1) (b := a) hs (fun c hc => by
    rw [e c hc, if_pos rfl]; grind) (fun t c ht hne hc => ⟨e2 t c ht hne hc, by
    show N t c = if t = s then M r c else M t c
    rw [if_neg hne]; exact e2 t c ht hne hc⟩)
  have z := det_same (n := n) (M := fun t c => if t = s then M r c else M t c) hr hs h fun c hc => by
    show (if r = s then M r c else M r c) = (if s = s then M r c else M s c)
    rw [if_pos rfl, if_neg h]
  rw [q, z]
  grind
theorem det_scale {n k : Nat} {M N : Mx} {w : Rat} (hk : k < n) (e : ∀ c, c < n → N k c = w * M k c) (e2 : ∀ t c, t < n → t ≠ k → c < n → N t c = M t c) : det n N = w * det n M := by
  have q := det_row (n := n) (r := k) (M := N) (P := M) (Q := M) (a := w) (b := 0) hk (fun c hc => by rw [e c hc]; grind) (fun t c ht hne hc => ⟨e2 t c ht hne hc, e2 t c ht hne hc⟩)
  rw [q]
  grind
theorem det_zrow {n k : Nat} {M : Mx} (hk : k < n) (e : ∀ c, c < n → M k c = 0) : det n M = 0 := by
  have q := det_row (n := n) (r := k) (M := M) (P := M) (Q := M) (a := 0) (b := 0) hk (fun c hc => by rw [e c hc]; grind) (fun t c ht hne hc => ⟨rfl, rfl⟩)
  rw [q]
  grind
/-- a step of the elimination -/
theorem det_step {n k : Nat} {M N : Mx} {w : Rat} {f : Nat → Rat} (hk : k < n) (e : ∀ c, c < n → N k c = w * M k c) (e2 : ∀ t c, t < n → t ≠ k → c < n → N t c = M t c - f t * N k c) : det n N = w * det n M := by
  have hyb : ∀ t, t ≤ n → det n (fun r c => if r = k then N k c else if r < t then N r c else M r c) = w * det n M := by
    intro t
    induction t with
    | zero =>
      intro _
      refine det_scale hk (fun c hc => ?_) (fun r c hr hne hc => ?_)
      · show (if k = k then N k c else _) = _
        rw [if_pos rfl]; exact e c hc
      · show (if r = k then N k c else if r < 0 then N r c else M r c) = _
        rw [if_neg hne, if_neg (by omega)]
    | succ t ih =>
      intro ht
      rw [← ih (by omega)]
      by_cases q : t = k
      · refine det_congr fun r c hr hc => ?_
        show (if r = k then N k c else if r < t + 1 then N r c else M r c) = (if r = k then N k c else if r < t then N r c else M r c)
        by_cases h1 : r = k
        · rw [if_pos h1, if_pos h1]
        · rw [if_neg h1, if_neg h1]
          by_cases h2 : r < t
          · rw [if_pos h2, if_pos (by omega)]
          · rw [if_neg h2, if_neg (by omega)]
      · refine det_add (r := k) (s := t) (a := - f t) hk (by omega) (Ne.symm q) (fun c hc => ?_) (fun r c hr hne hc => ?_)
        · show (if t = k then N k c else if t < t + 1 then N t c else M t c) = (if t = k then N k c else if t < t then N t c else M t c) + - f t * (if k = k then N k c else _)
          rw [if_neg q, if_pos (by omega), if_neg q, if_neg (by omega), if_pos rfl, e2 t c (by omega) q hc]
          grind
        · show (if r = k then N k c else if r < t + 1 then N r c else M r c) = (if r = k then N k c else if r < t then N r c else M r c)
          by_cases h1 : r = k
          · rw [if_pos h1, if_pos h1]
          · rw [if_neg h1, if_neg h1]
            by_cases h2 : r < t
            · rw [if_pos h2, if_pos (by omega)]
            · rw [if_neg h2, if_neg (by omega)]
  rw [← hyb n (Nat.le_refl n)]
  refine det_congr fun r c hr hc => ?_
  show N r c = if r = k then N k c else if r < n then N r c else M r c
  by_cases h1 : r = k
  · rw [if_pos h1, h1]
  · rw [if_neg h1, if_pos hr]
def dl (r c : Nat) : Rat := if r = c then 1 else 0
theorem det_e0 {n : Nat} {M : Mx} (h : ∀ r, r < n + 1 → M r 0 = dl r 0) : det (n + 1) M = det n (mnr M 0) := by
  rw [det, sm_one (p := 0) (by omega) fun i hi hne => by
    rw [h i hi]
    unfold dl
    rw [if_neg hne]
    grind]
  rw [h 0 (by omega)]
  unfold dl sgn
  simp
theorem dl_succ (r c : Nat) : dl (r + 1) (c + 1) = dl r c := by unfold dl; by_cases h : r = c <;> simp [h]
theorem mnr0 (M : Mx) (r c : Nat) : mnr M 0 r c = M (r + 1) (c + 1) := by unfold mnr skip; rw [if_neg (by omega)]
theorem det_id : ∀ {n : Nat} {M : Mx}, (∀ r c, r < n → c < n → M r c = dl r c) → det n M = 1
  | 0, _, _ => rfl
  | n + 1, M, h => by
    rw [det_e0 fun r hr => h r 0 hr (by omega)]
    exact det_id fun r c hr hc => by rw [mnr0, h _ _ (by omega) (by omega), dl_succ]
theorem det_low : ∀ {k : Nat} {M : Mx}, (∀ r c, r < k + 1 → c < k → M r c = dl r c) → det (k + 1) M = M k k
  | 0, M, _ => by
    rw [det, sm_one (p := 0) (by omega) fun i hi hne => by omega]
    unfold det sgn
    simp
  | k + 1, M, h => by
    rw [det_e0 fun r hr => h r 0 hr (by omega), det_low fun r c hr hc => by rw [mnr0, h _ _ (by omega) (by omega), dl_succ]]
    exact mnr0 ..
theorem det_high : ∀ {i k : Nat} {M : Mx}, i < k → (∀ r c, r < k → c < k → c ≠ i → M r c = dl r c) → det k M = M i i
  | _, 0, _, h, _ => by omega
  | 0, k + 1, M, _, h => by
    rw [det, sm_one (p := 0) (by omega) fun i hi hne => by
      rw [det_zrow (k := 0) (by omega) fun c hc => by
        unfold mnr skip
        rw [if_pos (by omega), h _ _ (by omega) (by omega) (by omega)]
        unfold dl
        rw [if_neg (by omega)]]
      grind]
    rw [det_id fun r c hr hc => by rw [mnr0, h _ _ (by omega) (by omega) (by omega), dl_succ]]
    unfold sgn
    simp
  | i + 1, k + 1, M, hi, h => by
    rw [det_e0 fun r hr => h r 0 hr (by omega) (by omega), det_high (i := i) (by omega) fun r c hr hc hne => by rw [mnr0, h _ _ (by omega) (by omega) (by omega), dl_succ]]
    exact mnr0 ..
/-! ### how great, and how fine -/
def pr (n : Nat) (b : Nat → Rat) : Rat := match n with
  | 0 => 1
  | n + 1 => b 0 * pr n fun c => b (c + 1)
def fc : Nat → Rat
  | 0 => 1
  | n + 1 => ((n + 1 : Nat) : Rat) * fc n
def Ab (x B : Rat) : Prop := -B ≤ x ∧ x ≤ B
theorem Ab.nn {x B : Rat} (h : Ab x B) : 0 ≤ B := by obtain ⟨h1, h2⟩ := h; grind
theorem Ab.mul {x y A B : Rat} (h : Ab x A) (g : Ab y B) : Ab (x * y) (A * B) := by
  obtain ⟨h1, h2⟩ := h
  obtain ⟨g1, g2⟩ := g
  have a1 := Rat.mul_nonneg (a := A - x) (b := B + y) (by grind) (by grind)
  have a2 := Rat.mul_nonneg (a := A + x) (b := B - y) (by grind) (by grind)
  have a3 := Rat.mul_nonneg (a := A - x) (b := B - y) (by grind) (by grind)
  have a4 := Rat.mul_nonneg (a := A + x) (b := B + y) (by grind) (by grind)
  constructor <;> grind
theorem Ab.add {x y A B : Rat} (h : Ab x A) (g : Ab y B) : Ab (x + y) (A + B) := by
  obtain ⟨h1, h2⟩ := h
  obtain ⟨g1, g2⟩ := g
  constructor <;> grind
theorem Ab.sgn (i : Nat) : Ab (Bv.sgn i) 1 := by
  unfold Bv.sgn Ab
  split <;> constructor <;> grind
theorem Ab.sm {n : Nat} {f : Nat → Rat} {B : Rat} (h : ∀ i, i < n → Ab (f i) B) : Ab (sm n f) ((n : Nat) * B) := by
  induction n with
  | zero => constructor <;> (simp only [Bv.sm]; simp)
  | succ n ih =>
    have h1 := (ih fun i hi => h i (by omega)).add (h n (by omega))
    rw [Bv.sm]
    have e : ((n + 1 : Nat) : Rat) * B = (n : Nat) * B + B := by
      rw [Rat.natCast_add]
      grind
    rw [e]
    exact h1
theorem det_ab : ∀ {n : Nat} {M : Mx} {b : Nat → Rat}, (∀ r c, r < n → c < n → Ab (M r c) (b c)) → Ab (det n M) (fc n * pr n b)
  | 0, M, b, h => by
    unfold det fc pr Ab
    constructor <;> grind
  | n + 1, M, b, h => by
    have h1 : ∀ i, i < n + 1 → Ab (sgn i * M i 0 * det n (mnr M i)) (b 0 * (fc n * pr n fun c => b (c + 1))) := fun i hi => by
      have q := ((Ab.sgn i).mul (h i 0 hi (by omega))).mul (det_ab (n := n) (M := mnr M i) (b := fun c => b (c + 1)) fun r c hr hc => h _ _ (skip_lt hr) (by omega))
      have e : 1 * b 0 * (fc n * pr n fun c => b (c + 1)) = b 0 * (fc n * pr n fun c => b (c + 1)) := by grind
      rw [e] at q
      exact q
    have q := Ab.sm h1
    rw [det, fc, pr]
    have e : ((n + 1 : Nat) : Rat) * (b 0 * (fc n * pr n fun c => b (c + 1))) = ((n + 1 : Nat) : Rat) * fc n * (b 0 * pr n fun c => b (c + 1)) := by grind
    rw [e] at q
    exact q
def IsI (x : Rat) : Prop := ∃ z : Int, x = (z : Rat)
theorem IsI.mul {x y : Rat} : IsI x → IsI y → IsI (x * y) := fun ⟨a, h⟩ ⟨b, g⟩ => ⟨a * b, by rw [h, g, Rat.intCast_mul]⟩
theorem IsI.add {x y : Rat} : IsI x → IsI y → IsI (x + y) := fun ⟨a, h⟩ ⟨b, g⟩ => ⟨a + b, by rw [h, g, Rat.intCast_add]⟩
theorem IsI.sgn (i : Nat) : IsI (Bv.sgn i) := by
  unfold Bv.sgn
  split
  · exact ⟨1, rfl⟩
  · exact ⟨-1, rfl⟩
theorem IsI.sm {n : Nat} {f : Nat → Rat} (h : ∀ i, i < n → IsI (f i)) : IsI (sm n f) := by
  induction n with
  | zero => exact ⟨0, rfl⟩
  | succ n ih => exact (ih fun i hi => h i (by omega)).add (h n (by omega))
theorem sm_mulr (n : Nat) (f : Nat → Rat) (a : Rat) : sm n f * a = sm n fun i => f i * a := by
  induction n with
  | zero => simp only [sm]; grind
  | succ n ih => rw [sm, sm, ← ih]; grind
theorem det_int : ∀ {n : Nat} {M : Mx} {D : Nat → Rat}, (∀ r c, r < n → c < n → IsI (M r c * D c)) → IsI (det n M * pr n D)
  | 0, M, D, h => ⟨1, by unfold det pr; grind⟩
  | n + 1, M, D, h => by
    rw [det, pr, sm_mulr]
    refine IsI.sm fun i hi => ?_
    have q := ((IsI.sgn i).mul (h i 0 hi (by omega))).mul (det_int (n := n) (M := mnr M i) (D := fun c => D (c + 1)) fun r c hr hc => h _ _ (skip_lt hr) (by omega))
    have e : sgn i * M i 0 * det n (mnr M i) * (D 0 * pr n fun c => D (c + 1)) = sgn i * (M i 0 * D 0) * (det n (mnr M i) * pr n fun c => D (c + 1)) := by grind
    rw [e]
    exact q
end Bv

/-! The elimination, as numbers. -/
namespace Bv
def el (k : Nat) (M : Mx) : Mx := fun r c => if r = k then M k c / M k k else M r c - M r k * (M k c / M k k)
def gj (A : Mx) : Nat → Mx
  | 0 => A
  | k + 1 => el k (gj A k)
def Piv (A : Mx) (k : Nat) : Prop := ∀ l, l < k → gj A l l l ≠ 0
def pP (A : Mx) : Nat → Rat
  | 0 => 1
  | k + 1 => pP A k * gj A k k k
theorem Piv.pre {A : Mx} {k l : Nat} (h : Piv A k) (hl : l ≤ k) : Piv A l := fun m hm => h m (by omega)
theorem pP_ne {A : Mx} : ∀ {k : Nat}, Piv A k → pP A k ≠ 0
  | 0, _ => by unfold pP; grind
  | k + 1, h => by
    have h1 := pP_ne (h.pre (Nat.le_succ k))
    have h2 := h k (by omega)
    unfold pP
    grind
theorem gj_unit {A : Mx} : ∀ {k : Nat}, Piv A k → ∀ r l, l < k → gj A k r l = dl r l
  | 0, _, r, l, hl => by omega
  | k + 1, h, r, l, hl => by
    have hp := h k (by omega)
    have ih := gj_unit (h.pre (Nat.le_succ k))
    show el k (gj A k) r l = dl r l
    unfold el
    by_cases e : l = k
    · subst e
      by_cases q : r = l
      · rw [if_pos q, q]
        unfold dl
        rw [if_pos rfl]
        grind
      · rw [if_neg q]
        unfold dl
        rw [if_neg q]
        grind
    · rw [ih r l (by omega), ih k l (by omega)]
      have hk : dl k l = 0 := by unfold dl; rw [if_neg (by omega)]
      rw [hk]
      by_cases q : r = k
      · rw [if_pos q, q, hk]; grind
      · rw [if_neg q]; grind
theorem gj_det {A : Mx} : ∀ {k : Nat}, Piv A k → ∀ (m : Nat) (ρ γ : Nat → Nat), k ≤ m → (∀ t, t < k → ρ t = t) → (∀ t, k ≤ t → t < m → k ≤ ρ t) → det m (fun r c => A (ρ r) (γ c)) = pP A k * det m (fun r c => gj A k (ρ r) (γ c))
  | 0, _, m, ρ, γ, _, _, _ => by unfold pP gj; grind
  | k + 1, h, m, ρ, γ, hm, h1, h2 => by
    have hp := h k (by omega)
    have ih := gj_det (h.pre (Nat.le_succ k)) m ρ γ (by omega) (fun t ht => h1 t (by omega)) (fun t ht hm => by
      by_cases e : t = k
      · rw [h1 t (by omega)]; omega
      · have := h2 t (by omega) hm; omega)
    have hk : ρ k = k := h1 k (by omega)
    have st := det_step (n := m) (k := k) (M := fun r c => gj A k (ρ r) (γ c)) (N := fun r c => gj A (k + 1) (ρ r) (γ c)) (w := 1 / gj A k k k) (f := fun t => gj A k (ρ t) k) (by omega) (fun c hc => by
      show el k (gj A k) (ρ k) (γ c) = 1 / gj A k k k * gj A k (ρ k) (γ c)
      unfold el
      rw [hk, if_pos rfl]
      grind) (fun t c ht hne hc => by
      show el k (gj A k) (ρ t) (γ c) = gj A k (ρ t) (γ c) - gj A k (ρ t) k * el k (gj A k) (ρ k) (γ c)
      unfold el
      have : ρ t ≠ k := by
        by_cases e : t < k
        · rw [h1 t (by omega)]; omega
        · have := h2 t (by omega) ht; omega
      rw [hk, if_pos rfl, if_neg this])
    rw [ih, st]
    show _ = pP A k * gj A k k k * _
    grind
theorem pP_det {A : Mx} {k : Nat} (h : Piv A k) : det k A = pP A k := by
  have q := gj_det h k (fun t => t) (fun t => t) (Nat.le_refl k) (fun _ _ => rfl) (fun t h1 h2 => by omega)
  have e : det k (fun r c => A r c) = det k A := rfl
  rw [e] at q
  rw [q, det_id fun r c hr hc => gj_unit h r c hc]
  grind
theorem gj_low {A : Mx} {k i j : Nat} (h : Piv A k) (hi : k ≤ i) : det (k + 1) (fun r c => A (if r < k then r else i) (if c < k then c else j)) = pP A k * gj A k i j := by
  have q := gj_det h (k + 1) (fun r => if r < k then r else i) (fun c => if c < k then c else j) (by omega) (fun t ht => by rw [if_pos ht]) (fun t h1 h2 => by rw [if_neg (by omega)]; exact hi)
  rw [q]
  congr 1
  rw [det_low fun r c hr hc => ?_]
  · rw [if_neg (by omega), if_neg (by omega)]
  · show gj A k (if r < k then r else i) (if c < k then c else j) = dl r c
    rw [if_pos hc, gj_unit h _ _ hc]
    by_cases e : r < k
    · rw [if_pos e]
    · rw [if_neg e]
      unfold dl
      rw [if_neg (by omega), if_neg (by omega)]
theorem gj_high {A : Mx} {k i j : Nat} (h : Piv A k) (hi : i < k) : det k (fun r c => A r (if c = i then j else c)) = pP A k * gj A k i j := by
  have q := gj_det h k (fun r => r) (fun c => if c = i then j else c) (Nat.le_refl k) (fun _ _ => rfl) (fun t h1 h2 => by omega)
  rw [q]
  congr 1
  rw [det_high hi fun r c hr hc hne => ?_]
  · rw [if_pos rfl]
  · show gj A k r (if c = i then j else c) = dl r c
    rw [if_neg hne, gj_unit h _ _ hc]
/-! ### how great the numbers are -/
theorem pr_congr : ∀ {n : Nat} {f g : Nat → Rat}, (∀ c, c < n → f c = g c) → pr n f = pr n g
  | 0, _, _, _ => rfl
  | n + 1, f, g, h => by rw [pr, pr, h 0 (by omega), pr_congr fun c hc => h (c + 1) (by omega)]
theorem pr_last : ∀ (n : Nat) (f : Nat → Rat), pr (n + 1) f = pr n f * f n
  | 0, f => by unfold pr pr; grind
  | n + 1, f => by
    rw [pr, pr_last n]
    show f 0 * (pr n (fun c => f (c + 1)) * f (n + 1)) = pr (n + 1) f * f (n + 1)
    rw [pr]
    grind
theorem pr_ge : ∀ {n : Nat} {f : Nat → Rat}, (∀ c, c < n → 1 ≤ f c) → 1 ≤ pr n f
  | 0, _, _ => by unfold pr; grind
  | n + 1, f, h => by
    have h1 := h 0 (by omega)
    have h2 := pr_ge (n := n) (f := fun c => f (c + 1)) fun c hc => h (c + 1) (by omega)
    rw [pr]
    have := Rat.mul_nonneg (a := f 0 - 1) (b := pr n fun c => f (c + 1)) (by grind) (by grind)
    grind
theorem pr_mono {n : Nat} {f : Nat → Rat} (h : ∀ c, c < n → 1 ≤ f c) : ∀ {k : Nat}, k ≤ n → pr k f ≤ pr n f := by
  induction n with
  | zero => intro k hk; rw [show k = 0 by omega]; exact Rat.le_refl
  | succ n ih =>
    intro k hk
    by_cases e : k = n + 1
    · rw [e]; exact Rat.le_refl
    · have h1 := ih (fun c hc => h c (by omega)) (k := k) (by omega)
      have h2 := pr_ge (n := n) (f := f) fun c hc => h c (by omega)
      rw [pr_last]
      have := Rat.mul_nonneg (a := f n - 1) (b := pr n f) (by have := h n (by omega); grind) (by grind)
      grind
/-- taken out of a product: one that stands behind -/
theorem pr_out {n : Nat} {f : Nat → Rat} (h : ∀ c, c < n → 1 ≤ f c) {k j : Nat} (hk : k ≤ j) (hj : j < n) : pr k f * f j ≤ pr n f := by
  have h1 := pr_mono (n := j) (f := f) (fun c hc => h c (by omega)) hk
  have h2 := pr_mono h (k := j + 1) (by omega)
  rw [pr_last] at h2
  have h3 := h j hj
  have := Rat.mul_nonneg (a := pr j f - pr k f) (b := f j) (by grind) (by grind)
  grind
theorem pr_swap : ∀ {k i : Nat} {f : Nat → Rat} {x : Rat}, i < k → pr k (fun c => if c = i then x else f c) * f i = pr k f * x
  | 0, _, _, _, h => by omega
  | k + 1, 0, f, x, _ => by
    rw [pr, pr, if_pos rfl]
    have : pr k (fun c => if c + 1 = 0 then x else f (c + 1)) = pr k fun c => f (c + 1) := pr_congr fun c _ => by rw [if_neg (by omega)]
    rw [this]
    grind
  | k + 1, i + 1, f, x, h => by
    rw [pr, pr, if_neg (by omega)]
    have q := pr_swap (k := k) (i := i) (f := fun c => f (c + 1)) (x := x) (by omega)
    have : pr k (fun c => if c + 1 = i + 1 then x else f (c + 1)) = pr k fun c => if c = i then x else f (c + 1) := pr_congr fun c _ => by
      by_cases e : c = i
      · rw [if_pos e, if_pos (by omega)]
      · rw [if_neg e, if_neg (by omega)]
    rw [this]
    grind
theorem fc_pos : ∀ n, 1 ≤ fc n
  | 0 => by unfold fc; grind
  | n + 1 => by
    have h := fc_pos n
    have h2 : (1 : Rat) ≤ ((n + 1 : Nat) : Rat) := by
      have : ((1 : Nat) : Rat) ≤ ((n + 1 : Nat) : Rat) := by exact_mod_cast Nat.succ_le_succ (Nat.zero_le n)
      exact this
    rw [fc]
    have := Rat.mul_nonneg (a := ((n + 1 : Nat) : Rat) - 1) (b := fc n) (by grind) (by grind)
    grind
theorem fc_mono {k n : Nat} (h : k ≤ n) : fc k ≤ fc n := by
  induction n with
  | zero => rw [show k = 0 by omega]; exact Rat.le_refl
  | succ n ih =>
    by_cases e : k = n + 1
    · rw [e]; exact Rat.le_refl
    · have h1 := ih (by omega)
      have h := fc_pos n
      have h2 : (1 : Rat) ≤ ((n + 1 : Nat) : Rat) := by
        have : ((1 : Nat) : Rat) ≤ ((n + 1 : Nat) : Rat) := by exact_mod_cast Nat.succ_le_succ (Nat.zero_le n)
        exact this
      rw [fc]
      have := Rat.mul_nonneg (a := ((n + 1 : Nat) : Rat) - 1) (b := fc n) (by grind) (by grind)
      grind
/-- the numbers that are put in -/
structure Mat (n : Nat) (A : Mx) (D : Nat → Rat) (T : Rat) : Prop where
  ent : ∀ r c, r < n → c < n → Ab (A r c) 1
  aug : ∀ r, r < n → Ab (A r n) T
  t1 : 1 ≤ T
  int : ∀ r c, r < n → c ≤ n → IsI (A r c * D c)
  d1 : ∀ c, c ≤ n → 1 ≤ D c
  di : ∀ c, c ≤ n → IsI (D c)
  dn : D n = 1
theorem pr_int {n : Nat} {f : Nat → Rat} (h : ∀ c, c < n → IsI (f c)) : IsI (pr n f) := by
  induction n with
  | zero => exact ⟨1, rfl⟩
  | succ n ih => rw [pr_last]; exact (ih fun c hc => h c (by omega)).mul (h n (by omega))
/-- a fraction of whole numbers, not too great -/
def Fq (x W T : Rat) : Prop := ∃ r s : Int, s ≠ 0 ∧ x * (s : Rat) = (r : Rat) ∧ Ab (s : Rat) W ∧ Ab (r : Rat) (W * T)
theorem Ab.le {x A B : Rat} (h : Ab x A) (g : A ≤ B) : Ab x B := by
  obtain ⟨h1, h2⟩ := h
  constructor <;> grind
theorem pr_one (n : Nat) : pr n (fun _ => 1) = 1 := by
  induction n with
  | zero => rfl
  | succ n ih => rw [pr_last, ih]; grind
theorem pr_at {k j : Nat} {T : Rat} : pr (k + 1) (fun c => if c = k then T else 1) = T := by
  rw [pr_last, if_pos rfl, pr_congr (g := fun _ => 1) fun c hc => by rw [if_neg (by omega)], pr_one]
  grind
theorem gj_bound {n : Nat} {A : Mx} {D : Nat → Rat} {T : Rat} (m : Mat n A D T) {k : Nat} (hk : k ≤ n) (h : Piv A k) {i j : Nat} (hi : i < n) (hj : j ≤ n) (hkj : k ≤ j) : Fq (gj A k i j) (fc n * pr n D) (if j = n then T else 1) := by
  have hP := pP_ne h
  have hd : ∀ c, c < n → 1 ≤ D c := fun c hc => m.d1 c (by omega)
  have hT : Ab (A i j) (if j = n then T else 1) ∧ ∀ r, r < n → Ab (A r j) (if j = n then T else 1) := by
    by_cases e : j = n
    · rw [if_pos e, e]; exact ⟨m.aug i hi, m.aug⟩
    · rw [if_neg e]; exact ⟨m.ent i j hi (by omega), fun r hr => m.ent r j hr (by omega)⟩
  have hT1 : 1 ≤ (if j = n then T else 1) := by
    by_cases e : j = n
    · rw [if_pos e]; exact m.t1
    · rw [if_neg e]; exact Rat.le_refl
  generalize (if j = n then T else 1) = T' at *
  have hpr : pr k D * D j ≤ pr n D := by
    by_cases e : j = n
    · rw [e, m.dn]
      have := pr_mono hd hk
      grind
    · exact pr_out hd hkj (by omega)
  have hprk := pr_ge (n := k) (f := D) fun c hc => hd c (by omega)
  have hdj := m.d1 j hj
  have hfk := fc_pos n
  -- the denominator
  have hs0 := det_int (n := k) (M := A) (D := D) fun r c hr hc => m.int r c (by omega) (by omega)
  rw [pP_det h] at hs0
  have hs1 := det_ab (n := k) (M := A) (b := fun _ => 1) fun r c hr hc => m.ent r c (by omega) (by omega)
  rw [pP_det h, pr_one] at hs1
  have hs : IsI (pP A k * pr k D * D j) := hs0.mul (m.di j hj)
  have hpd : 0 ≤ pr k D * D j := by
    have := Rat.mul_nonneg (a := pr k D) (b := D j) (by grind) (by grind)
    exact this
  have abP : Ab (pr k D * D j) (pr n D) := ⟨by grind, hpr⟩
  have hsA : Ab (pP A k * pr k D * D j) (fc n * pr n D) := by
    have q := (hs1.le (B := fc n) (by have := fc_mono hk; grind)).mul abP
    have e : pP A k * (pr k D * D j) = pP A k * pr k D * D j := by grind
    rw [e] at q
    exact q
  -- the numerator
  have hr : IsI (pP A k * gj A k i j * pr k D * D j) ∧ Ab (pP A k * gj A k i j) (fc n * T') := by
    by_cases e : i < k
    · have q := gj_high (j := j) h e
      have i0 := det_int (n := k) (M := fun r c => A r (if c = i then j else c)) (D := fun c => if c = i then D j else D c) fun r c hr hc => by
        show IsI (A r (if c = i then j else c) * (if c = i then D j else D c))
        by_cases z : c = i
        · rw [if_pos z, if_pos z]; exact m.int r j (by omega) hj
        · rw [if_neg z, if_neg z]; exact m.int r c (by omega) (by omega)
      rw [q] at i0
      have i1 := i0.mul (m.di i (by omega))
      have sw := pr_swap (k := k) (i := i) (f := D) (x := D j) e
      have e2 : pP A k * gj A k i j * pr k (fun c => if c = i then D j else D c) * D i = pP A k * gj A k i j * pr k D * D j := by
        have : pP A k * gj A k i j * pr k (fun c => if c = i then D j else D c) * D i = pP A k * gj A k i j * (pr k (fun c => if c = i then D j else D c) * D i) := by grind
        rw [this, sw]
        grind
      rw [e2] at i1
      refine ⟨i1, ?_⟩
      have a0 := det_ab (n := k) (M := fun r c => A r (if c = i then j else c)) (b := fun c => if c = i then T' else 1) fun r c hr hc => by
        show Ab (A r (if c = i then j else c)) (if c = i then T' else 1)
        by_cases z : c = i
        · rw [if_pos z, if_pos z]; exact hT.2 r (by omega)
        · rw [if_neg z, if_neg z]; exact m.ent r c (by omega) (by omega)
      rw [q] at a0
      have sw2 := pr_swap (k := k) (i := i) (f := fun _ => 1) (x := T') e
      rw [pr_one] at sw2
      have e3 : pr k (fun c => if c = i then T' else (1 : Rat)) = T' := by grind
      rw [e3] at a0
      refine a0.le ?_
      have := Rat.mul_nonneg (a := fc n - fc k) (b := T') (by have := fc_mono hk; grind) (by grind)
      grind
    · have q := gj_low (j := j) h (by omega : k ≤ i)
      have i0 := det_int (n := k + 1) (M := fun r c => A (if r < k then r else i) (if c < k then c else j)) (D := fun c => if c < k then D c else D j) fun r c hr hc => by
        show IsI (A (if r < k then r else i) (if c < k then c else j) * (if c < k then D c else D j))
        have hr' : (if r < k then r else i) < n := by split <;> omega
        by_cases z : c < k
        · rw [if_pos z, if_pos z]; exact m.int _ c hr' (by omega)
        · rw [if_neg z, if_neg z]; exact m.int _ j hr' hj
      rw [q, pr_last, if_neg (by omega), pr_congr (g := D) fun c hc => by rw [if_pos hc]] at i0
      refine ⟨by
        have e2 : pP A k * gj A k i j * (pr k D * D j) = pP A k * gj A k i j * pr k D * D j := by grind
        rw [e2] at i0
        exact i0, ?_⟩
      have a0 := det_ab (n := k + 1) (M := fun r c => A (if r < k then r else i) (if c < k then c else j)) (b := fun c => if c = k then T' else 1) fun r c hr hc => by
        show Ab (A (if r < k then r else i) (if c < k then c else j)) (if c = k then T' else 1)
        have hr' : (if r < k then r else i) < n := by split <;> omega
        generalize (if r < k then r else i) = r' at hr' ⊢
        by_cases z : c < k
        · rw [if_pos z, if_neg (by omega)]; exact m.ent _ c hr' (by omega)
        · rw [if_neg z, if_pos (by omega)]; exact hT.2 _ hr'
      rw [q, pr_at (j := j)] at a0
      refine a0.le ?_
      have := Rat.mul_nonneg (a := fc n - fc (k + 1)) (b := T') (by have := fc_mono (k := k + 1) (n := n) (by omega); grind) (by grind)
      grind
  obtain ⟨⟨r, er⟩, ar⟩ := hr
  obtain ⟨s, es⟩ := hs
  refine ⟨r, s, ?_, ?_, by rw [← es]; exact hsA, ?_⟩
  · rintro rfl
    have h1 : pP A k * pr k D * D j = 0 := es
    have h2 : pP A k ≠ 0 := hP
    have h3 : pr k D ≠ 0 := by grind
    have h4 : D j ≠ 0 := by grind
    grind
  · rw [← es, ← er]; grind
  · rw [← er]
    have q := ar.mul abP
    have e1 : pP A k * gj A k i j * (pr k D * D j) = pP A k * gj A k i j * pr k D * D j := by grind
    have e2 : fc n * T' * pr n D = fc n * pr n D * T' := by grind
    rw [e1, e2] at q
    exact q
end Bv

/-! The elimination never meets nought, and finds the one answer. -/
namespace Bv
theorem sm_swap (n m : Nat) (f : Nat → Nat → Rat) : sm n (fun r => sm m fun c => f r c) = sm m fun c => sm n fun r => f r c := by
  induction n with
  | zero => simp only [sm]; rw [sm_zero fun _ _ => rfl]
  | succ n ih =>
    rw [sm, ih]
    have := sm_lin m 1 1 (fun c => sm n fun r => f r c) (fun c => f n c)
    have e : sm m (fun c => 1 * (sm n fun r => f r c) + 1 * f n c) = sm m fun c => sm (n + 1) fun r => f r c := sm_congr fun c _ => by
      show _ = sm n (fun r => f r c) + f n c
      grind
    rw [e] at this
    grind
theorem sm_nn {n : Nat} {f : Nat → Rat} (h : ∀ i, i < n → 0 ≤ f i) : 0 ≤ sm n f := by
  induction n with
  | zero => exact Rat.le_refl
  | succ n ih =>
    have h1 := ih fun i hi => h i (by omega)
    have h2 := h n (by omega)
    rw [sm]
    grind
theorem sm_nn0 {n : Nat} {f : Nat → Rat} (h : ∀ i, i < n → 0 ≤ f i) (e : sm n f = 0) : ∀ i, i < n → f i = 0 := by
  induction n with
  | zero => intro i hi; omega
  | succ n ih =>
    have h1 := sm_nn fun i (hi : i < n) => h i (by omega)
    have h2 := h n (by omega)
    rw [sm] at e
    intro i hi
    by_cases q : i = n
    · rw [q]; grind
    · exact ih (fun i hi => h i (by omega)) (by grind) i (by omega)
def tl (k n : Nat) (f : Nat → Rat) : Rat := sm n fun i => if i < k then 0 else f i
theorem tl_zero (n : Nat) (f : Nat → Rat) : tl 0 n f = sm n f := sm_congr fun i _ => by rw [if_neg (by omega)]
theorem tl_succ {k n : Nat} (hk : k < n) (f : Nat → Rat) : tl k n f = f k + tl (k + 1) n f := by
  unfold tl
  have h1 : sm n (fun i => if i = k then f k else 0) = f k := by
    rw [sm_one hk fun i _ hne => by rw [if_neg hne], if_pos rfl]
  have h2 := sm_lin n 1 1 (fun i => if i = k then f k else 0) (fun i => if i < k + 1 then 0 else f i)
  rw [h1] at h2
  have h3 : sm n (fun i => if i < k then 0 else f i) = sm n fun i => 1 * (if i = k then f k else 0) + 1 * (if i < k + 1 then 0 else f i) := sm_congr fun i _ => by
    by_cases a : i < k
    · rw [if_pos a, if_neg (by omega), if_pos (by omega)]; grind
    · by_cases b : i = k
      · rw [if_neg a, if_pos b, if_pos (by omega), b]; grind
      · rw [if_neg a, if_neg b, if_neg (by omega)]; grind
  rw [h3, h2]
  grind
theorem tl_lin (k n : Nat) (q : Rat) (f g : Nat → Rat) : tl k n (fun i => f i - g i * q) = tl k n f - q * tl k n g := by
  unfold tl
  have h := sm_lin n 1 (-q) (fun i => if i < k then 0 else f i) (fun i => if i < k then 0 else g i)
  have e : sm n (fun i => if i < k then 0 else f i - g i * q) = sm n fun i => 1 * (if i < k then 0 else f i) + -q * (if i < k then 0 else g i) := sm_congr fun i _ => by
    by_cases a : i < k
    · simp only [if_pos a]; grind
    · simp only [if_neg a]; grind
  rw [e, h]
  grind
theorem tl_congr {k n : Nat} {f g : Nat → Rat} (h : ∀ i, k ≤ i → i < n → f i = g i) : tl k n f = tl k n g := sm_congr fun i hi => by
  by_cases a : i < k
  · simp only [if_pos a]
  · simp only [if_neg a]; exact h i (by omega) hi
theorem tl_np {k n : Nat} {f : Nat → Rat} (h : ∀ i, k ≤ i → i < n → f i ≤ 0) : tl k n f ≤ 0 := by
  have := sm_nn (n := n) (f := fun i => - if i < k then 0 else f i) fun i hi => by
    by_cases a : i < k
    · simp only [if_pos a]; grind
    · simp only [if_neg a]; have := h i (by omega) hi; grind
  rw [sm_neg] at this
  unfold tl
  grind
theorem tl_np0 {k n : Nat} {f : Nat → Rat} (h : ∀ i, k ≤ i → i < n → f i ≤ 0) (e : 0 ≤ tl k n f) : ∀ i, k ≤ i → i < n → f i = 0 := by
  have hn : ∀ i, i < n → 0 ≤ - (if i < k then 0 else f i) := fun i hi => by
    by_cases a : i < k
    · simp only [if_pos a]; grind
    · simp only [if_neg a]; have := h i (by omega) hi; grind
  have h0 := sm_nn0 hn (by
    have h1 := tl_np h
    have h2 := sm_neg n fun i => if i < k then 0 else f i
    rw [h2]
    unfold tl at h1 e
    grind)
  intro i hk hi
  have := h0 i hi
  simp only [if_neg (by omega : ¬ i < k)] at this
  grind
/-- a row times a column of numbers -/
def dot (n : Nat) (M : Mx) (r : Nat) (x : Nat → Rat) : Rat := sm (n + 1) fun c => M r c * x c
theorem dot_el {n k r : Nat} {M : Mx} {x : Nat → Rat} : dot n (el k M) r x = if r = k then 1 / M k k * dot n M k x else dot n M r x - M r k / M k k * dot n M k x := by
  unfold dot el
  by_cases h : r = k
  · rw [if_pos h]
    have := sm_lin (n + 1) (1 / M k k) 0 (fun c => M k c * x c) (fun c => M k c * x c)
    have e : sm (n + 1) (fun c => (if r = k then M k c / M k k else M r c - M r k * (M k c / M k k)) * x c) = sm (n + 1) fun c => 1 / M k k * (M k c * x c) + 0 * (M k c * x c) := sm_congr fun c _ => by rw [if_pos h]; grind
    rw [e, this]
    grind
  · rw [if_neg h]
    have := sm_lin (n + 1) 1 (-(M r k / M k k)) (fun c => M r c * x c) (fun c => M k c * x c)
    have e : sm (n + 1) (fun c => (if r = k then M k c / M k k else M r c - M r k * (M k c / M k k)) * x c) = sm (n + 1) fun c => 1 * (M r c * x c) + -(M r k / M k k) * (M k c * x c) := sm_congr fun c _ => by rw [if_neg h]; grind
    rw [e, this]
    grind
theorem dot_gj {n : Nat} {A : Mx} {x : Nat → Rat} : ∀ {k : Nat}, k ≤ n → Piv A k → ((∀ r, r < n → dot n (gj A k) r x = 0) ↔ ∀ r, r < n → dot n A r x = 0)
  | 0, _, _ => Iff.rfl
  | k + 1, hk, h => by
    have hp := h k (by omega)
    rw [← dot_gj (k := k) (by omega) (h.pre (Nat.le_succ k))]
    show (∀ r, r < n → dot n (el k (gj A k)) r x = 0) ↔ _
    constructor
    · intro g
      have g0 := g k (by omega)
      rw [dot_el, if_pos rfl] at g0
      have z : dot n (gj A k) k x = 0 := by grind
      intro r hr
      by_cases e : r = k
      · rw [e]; exact z
      · have g1 := g r hr
        rw [dot_el, if_neg e, z] at g1
        grind
    · intro g r hr
      rw [dot_el, g k (by omega)]
      by_cases e : r = k
      · rw [if_pos e]; grind
      · rw [if_neg e, g r hr]; grind
/-- the shares that houses have of houses -/
structure Sub (n : Nat) (A S : Mx) : Prop where
  a : ∀ r c, r < n → c < n → A r c = dl r c - S r c
  nn : ∀ r c, r < n → c < n → 0 ≤ S r c
  col : ∀ c, c < n → sm n (fun r => S r c) ≤ 1
  no : ∀ T : Nat → Prop, (∃ c, c < n ∧ T c) → (∀ c, c < n → T c → sm n (fun r => S r c) = 1 ∧ ∀ r, r < n → S r c ≠ 0 → T r) → False
theorem dl_sum {n c : Nat} (hc : c < n) : sm n (fun r => dl r c) = 1 := by
  rw [sm_one hc fun i _ hne => by unfold dl; rw [if_neg hne]]
  unfold dl
  rw [if_pos rfl]
theorem dl_dot {n r : Nat} (hr : r < n) (x : Nat → Rat) : sm n (fun c => dl r c * x c) = x r := by
  rw [sm_one hr fun i _ hne => by unfold dl; rw [if_neg (Ne.symm hne)]; grind]
  unfold dl
  rw [if_pos rfl]
  grind
theorem Sub.null {n : Nat} {A S : Mx} (s : Sub n A S) {x : Nat → Rat} (hn : x n = 0) (h0 : ∀ c, c < n → 0 ≤ x c) (h : ∀ r, r < n → dot n A r x = 0) : ∀ c, c < n → x c = 0 := by
  have hx : ∀ r, r < n → x r = sm n fun c => S r c * x c := fun r hr => by
    have e := h r hr
    unfold dot at e
    rw [sm, hn] at e
    have e2 : sm n (fun c => A r c * x c) = sm n fun c => 1 * (dl r c * x c) + -1 * (S r c * x c) := sm_congr fun c hc => by rw [s.a r c hr hc]; grind
    rw [e2, sm_lin, dl_dot hr] at e
    grind
  have hs : sm n (fun c => (1 - sm n fun r => S r c) * x c) = 0 := by
    have e1 : sm n x = sm n fun r => sm n fun c => S r c * x c := sm_congr fun r hr => hx r hr
    rw [sm_swap] at e1
    have e2 : sm n (fun c => (1 - sm n fun r => S r c) * x c) = sm n fun c => 1 * x c + -1 * (sm n fun r => S r c * x c) := sm_congr fun c hc => by
      have := sm_mulr n (fun r => S r c) (x c)
      rw [← this]
      grind
    rw [e2, sm_lin, ← e1]
    grind
  have hz := sm_nn0 (fun c hc => Rat.mul_nonneg (by have := s.col c hc; grind) (h0 c hc)) hs
  intro c hc
  by_cases q : x c = 0
  · exact q
  · exfalso
    refine s.no (fun c => x c ≠ 0) ⟨c, hc, q⟩ fun d hd hne => ⟨by have := hz d hd; grind, fun r hr hS hxr => ?_⟩
    have e := hx r hr
    rw [hxr] at e
    have hz2 := sm_nn0 (fun c hc => Rat.mul_nonneg (s.nn r c hr hc) (h0 c hc)) e.symm d hd
    grind
structure Good (n : Nat) (A : Mx) (k : Nat) : Prop where
  piv : ∀ l, l < k → 0 < gj A l l l
  off : ∀ i j, i < n → j < n → k ≤ j → i ≠ j → gj A k i j ≤ 0
  col : ∀ j, j < n → k ≤ j → 0 ≤ tl k n fun i => gj A k i j
theorem Good.p {n : Nat} {A : Mx} {k : Nat} (g : Good n A k) : Piv A k := fun l hl => by have := g.piv l hl; grind
theorem Good.next {n : Nat} {A S : Mx} (s : Sub n A S) {k : Nat} (g : Good n A k) (hk : k < n) : 0 < gj A k k k := by
  have t1 := g.col k hk (Nat.le_refl k)
  rw [tl_succ hk] at t1
  have t2 := tl_np (k := k + 1) (n := n) (f := fun i => gj A k i k) fun i hi hn => g.off i k hn hk (Nat.le_refl k) (by omega)
  by_cases e : gj A k k k = 0
  · exfalso
    have z := tl_np0 (k := k + 1) (n := n) (f := fun i => gj A k i k) (fun i hi hn => g.off i k hn hk (Nat.le_refl k) (by omega)) (by grind)
    have q := s.null (x := fun c => if c < k then - gj A k c k else if c = k then 1 else 0) (by
      show (if n < k then _ else if n = k then _ else _) = _
      rw [if_neg (by omega), if_neg (by omega)]) (fun c hc => by
      show 0 ≤ (if c < k then - gj A k c k else if c = k then 1 else 0)
      by_cases a : c < k
      · rw [if_pos a]; have := g.off c k hc hk (Nat.le_refl k) (by omega); grind
      · rw [if_neg a]; by_cases b : c = k
        · rw [if_pos b]; grind
        · rw [if_neg b]; exact Rat.le_refl) ((dot_gj (by omega) g.p).mp fun r hr => by
      unfold dot
      have e2 : sm (n + 1) (fun c => gj A k r c * (if c < k then - gj A k c k else if c = k then 1 else 0)) = sm (n + 1) fun c => 1 * (dl r c * (if c < k then - gj A k c k else 0)) + 1 * (if c = k then gj A k r k else 0) := sm_congr fun c hc => by
        by_cases a : c < k
        · rw [if_pos a, if_pos a, if_neg (by omega), gj_unit g.p r c a]; grind
        · rw [if_neg a, if_neg a]
          by_cases b : c = k
          · rw [if_pos b, if_pos b, b]; grind
          · rw [if_neg b, if_neg b]; grind
      rw [e2, sm_lin, dl_dot (by omega), sm_one (p := k) (by omega) fun i _ hne => by rw [if_neg hne], if_pos rfl]
      by_cases a : r < k
      · rw [if_pos a]; grind
      · rw [if_neg a]
        by_cases b : r = k
        · rw [b, e]; grind
        · have := z r (by omega) hr; grind)
    have := q k hk
    simp only [if_neg (Nat.lt_irrefl k), if_pos] at this
    grind
  · grind
theorem Good.step {n : Nat} {A S : Mx} (s : Sub n A S) {k : Nat} (g : Good n A k) (hk : k < n) : Good n A (k + 1) := by
  have hp := g.next s hk
  have hdiv : ∀ {x : Rat}, x ≤ 0 → x / gj A k k k ≤ 0 := fun {x} h => by
    by_cases q : x / gj A k k k ≤ 0
    · exact q
    · exfalso
      have h2 : 0 < x / gj A k k k := by grind
      rw [Rat.lt_div_iff hp] at h2
      grind
  refine ⟨fun l hl => ?_, fun i j hi hj hkj hne => ?_, fun j hj hkj => ?_⟩
  · by_cases e : l = k
    · rw [e]; exact hp
    · exact g.piv l (by omega)
  · show el k (gj A k) i j ≤ 0
    unfold el
    have a1 := g.off k j hk hj (by omega) (by omega)
    by_cases e : i = k
    · rw [if_pos e]; exact hdiv a1
    · rw [if_neg e]
      have a2 := g.off i j hi hj (by omega) hne
      have a3 := g.off i k hi hk (Nat.le_refl k) e
      have a4 := hdiv a1
      have := Rat.mul_nonneg (a := - gj A k i k) (b := - (gj A k k j / gj A k k k)) (by grind) (by grind)
      grind
  · have a1 := hdiv (g.off k j hk hj (by omega) (by omega))
    have e1 : tl (k + 1) n (fun i => gj A (k + 1) i j) = tl (k + 1) n fun i => gj A k i j - gj A k i k * (gj A k k j / gj A k k k) := tl_congr fun i h1 h2 => by
      show el k (gj A k) i j = _
      unfold el
      rw [if_neg (by omega)]
    rw [e1, tl_lin]
    have t1 := g.col j hj (by omega)
    have t2 := g.col k hk (Nat.le_refl k)
    rw [tl_succ hk] at t1 t2
    have := Rat.mul_nonneg (a := - (gj A k k j / gj A k k k)) (b := gj A k k k + tl (k + 1) n fun i => gj A k i k) (by grind) t2
    have e2 : gj A k k j / gj A k k k * gj A k k k = gj A k k j := by grind
    grind
theorem Sub.good {n : Nat} {A S : Mx} (s : Sub n A S) : ∀ {k : Nat}, k ≤ n → Good n A k
  | 0, _ => by
    refine ⟨fun l hl => by omega, fun i j hi hj _ hne => ?_, fun j hj _ => ?_⟩
    · show A i j ≤ 0
      rw [s.a i j hi hj]
      have := s.nn i j hi hj
      unfold dl
      rw [if_neg hne]
      grind
    · show 0 ≤ tl 0 n fun i => A i j
      rw [tl_zero]
      have e : sm n (fun i => A i j) = sm n fun i => 1 * dl i j + -1 * S i j := sm_congr fun i hi => by rw [s.a i j hi hj]; grind
      rw [e, sm_lin, dl_sum hj]
      have := s.col j hj
      grind
  | k + 1, h => (s.good (k := k) (by omega)).step s (by omega)
/-- the answer is one -/
theorem Sub.sol {n : Nat} {A S : Mx} (s : Sub n A S) : ∀ r, r < n → (sm n fun c => A r c * gj A n c n) = A r n := by
  have g := s.good (Nat.le_refl n)
  have h := (dot_gj (x := fun c => if c < n then gj A n c n else -1) (Nat.le_refl n) g.p).mp fun r hr => by
    unfold dot
    rw [sm]; dsimp only; rw [if_neg (Nat.lt_irrefl n)]
    have e : sm n (fun c => gj A n r c * (if c < n then gj A n c n else -1)) = sm n fun c => dl r c * gj A n c n := sm_congr fun c hc => by rw [if_pos hc, gj_unit g.p r c hc]
    rw [e, dl_dot hr]
    grind
  intro r hr
  have q := h r hr
  unfold dot at q
  rw [sm] at q; dsimp only at q; rw [if_neg (Nat.lt_irrefl n)] at q
  have e : sm n (fun c => A r c * (if c < n then gj A n c n else -1)) = sm n fun c => A r c * gj A n c n := sm_congr fun c hc => by rw [if_pos hc]
  rw [e] at q
  grind
theorem Sub.uniq {n : Nat} {A S : Mx} (s : Sub n A S) {v : Nat → Rat} (h : ∀ r, r < n → (sm n fun c => A r c * v c) = A r n) : ∀ c, c < n → v c = gj A n c n := by
  have g := s.good (Nat.le_refl n)
  have q := (dot_gj (x := fun c => if c < n then v c else -1) (Nat.le_refl n) g.p).mpr fun r hr => by
    unfold dot
    rw [sm]; dsimp only; rw [if_neg (Nat.lt_irrefl n)]
    have e : sm n (fun c => A r c * (if c < n then v c else -1)) = sm n fun c => A r c * v c := sm_congr fun c hc => by rw [if_pos hc]
    rw [e, h r hr]
    grind
  intro r hr
  have z := q r hr
  unfold dot at z
  rw [sm] at z; dsimp only at z; rw [if_neg (Nat.lt_irrefl n)] at z
  have e : sm n (fun c => gj A n r c * (if c < n then v c else -1)) = sm n fun c => dl r c * v c := sm_congr fun c hc => by rw [if_pos hc, gj_unit g.p r c hc]
  rw [e, dl_dot hr] at z
  grind
end Bv

set_option pp.maxSteps 600
/-! Fractions told by their numbers. -/
namespace Bv
open PySem L2 PyProof.Rows
def fq (x : Rat) : Int × Int := (x.num, (x.den : Int))
theorem fq_pos (x : Rat) : 0 < (fq x).2 := by
  have := x.den_pos
  show (0 : Int) < (x.den : Int)
  omega
theorem rt_fq (x : Rat) : rt (fq x) = x := by
  show (x.num : Rat) / ((x.den : Int) : Rat) = x
  rw [← Rat.divInt_eq_div]
  exact Rat.num_divInt_den x
theorem rat_cross {a b c d : Int} (hb : 0 < b) (hd : 0 < d) (h : (a : Rat) / b = (c : Rat) / d) : a * d = c * b := by
  have c1 := cast_pos hb
  have c2 := cast_pos hd
  have e : ((a * d : Int) : Rat) = ((c * b : Int) : Rat) := by
    rw [Rat.intCast_mul, Rat.intCast_mul]
    have h1 : (a : Rat) = (c : Rat) / d * b := by rw [← h]; grind
    rw [h1]
    grind
  exact_mod_cast e
theorem red_uniq {a b c d : Int} (hb : 0 < b) (hd : 0 < d) (g1 : Int.gcd a b = 1) (g2 : Int.gcd c d = 1) (h : a * d = c * b) : a = c ∧ b = d := by
  have h1 : b ∣ d := coprime_dvd (b := a) ⟨c, by rw [h]; exact Int.mul_comm ..⟩ g1
  have h2 : d ∣ b := coprime_dvd (b := c) ⟨a, by rw [← h]; exact Int.mul_comm ..⟩ g2
  have e : b = d := by
    have := Int.le_of_dvd hd h1
    have := Int.le_of_dvd hb h2
    omega
  subst e
  exact ⟨Int.eq_of_mul_eq_mul_right (by omega) h, rfl⟩
theorem fq_gcd (x : Rat) : Int.gcd (fq x).1 (fq x).2 = 1 := by
  show Nat.gcd x.num.natAbs (x.den : Int).natAbs = 1
  have := x.reduced
  rw [Int.natAbs_natCast]
  exact this
theorem fq_uniq {q : Int × Int} (h0 : 0 < q.2) (hg : Int.gcd q.1 q.2 = 1) : q = fq (rt q) := by
  obtain ⟨a, b⟩ := q
  have h : rt (fq (rt (a, b))) = rt (a, b) := rt_fq _
  have h2 := fq_pos (rt (a, b))
  have h3 := fq_gcd (rt (a, b))
  generalize fq (rt (a, b)) = r at *
  obtain ⟨c, d⟩ := r
  have e := rat_cross h2 h0 (by unfold rt at h; exact h)
  obtain ⟨e1, e2⟩ := red_uniq h2 h0 h3 hg e
  exact Prod.ext e1.symm e2.symm
theorem fq_inj {x y : Rat} (h : fq x = fq y) : x = y := by rw [← rt_fq x, ← rt_fq y, h]
theorem low_pos {t b : Int} (hb : 0 < b) : 0 < (low t b).2 := by
  obtain ⟨g, hg, e1, e2⟩ := low_eq (t := t) hb
  exact Int.pos_of_mul_pos_left (by rw [← e2]; exact hb) hg
theorem low_fq {t b : Int} (hb : 0 < b) : low t b = fq ((t : Rat) / (b : Rat)) := by
  rw [← rt_low hb]
  exact fq_uniq (low_pos hb) (low_coprime hb)
theorem less_fq (x y : Rat) : less (fq x) (fq y) = fq (x - y) := by
  have h := rt_less (fq_pos x) (fq_pos y)
  rw [rt_fq, rt_fq] at h
  rw [← h]
  exact fq_uniq (low_pos (Int.mul_pos (fq_pos x) (fq_pos y))) (low_coprime (Int.mul_pos (fq_pos x) (fq_pos y)))
theorem more_fq (x y : Rat) : more (fq x) (fq y) = fq (x + y) := by
  have h := rt_more (fq_pos x) (fq_pos y)
  rw [rt_fq, rt_fq] at h
  rw [← h]
  exact fq_uniq (low_pos (Int.mul_pos (fq_pos x) (fq_pos y))) (low_coprime (Int.mul_pos (fq_pos x) (fq_pos y)))
theorem fq_top (x : Rat) : ((fq x).1 : Rat) = x * ((fq x).2 : Rat) := by
  have h : ((fq x).1 : Rat) / ((fq x).2 : Rat) = x := rt_fq x
  have c1 := cast_pos (fq_pos x)
  generalize ((fq x).1 : Rat) = p at *
  generalize ((fq x).2 : Rat) = q at *
  rw [← h]
  grind
theorem div4 {x y b d : Rat} (hb : b ≠ 0) (hd : d ≠ 0) : x * b * (y * d) / (b * d) = x * y := by
  have h : b * d ≠ 0 := fun z => (Rat.mul_eq_zero.mp z).elim hb hd
  have e : x * b * (y * d) = x * y * (b * d) := by grind
  rw [e, Rat.div_def, Rat.mul_assoc, Rat.mul_inv_cancel _ h, Rat.mul_one]
theorem mul_fq (x y : Rat) : low ((fq x).1 * (fq y).1) ((fq x).2 * (fq y).2) = fq (x * y) := by
  rw [low_fq (Int.mul_pos (fq_pos x) (fq_pos y)), Rat.intCast_mul, Rat.intCast_mul]
  congr 1
  have c1 := cast_pos (fq_pos x)
  have c2 := cast_pos (fq_pos y)
  have e1 := fq_top x
  have e2 := fq_top y
  rw [e1, e2]
  exact div4 (by grind) (by grind)
theorem fq_int (i : Int) : fq (i : Rat) = (i, 1) := by
  have h := fq_uniq (q := (i, 1)) (show (0 : Int) < 1 by decide) (Int.gcd_one_right ..)
  rw [h]
  congr 1
  unfold rt
  show (i : Rat) = (i : Rat) / ((1 : Int) : Rat)
  have : ((1 : Int) : Rat) = 1 := rfl
  rw [this]
  grind
theorem fq_zero : fq 0 = (0, 1) := rfl
theorem fq_one : fq 1 = (1, 1) := rfl
theorem inv_fq {x : Rat} (h : 0 < x) : 0 < (fq x).1 ∧ low (fq x).2 (fq x).1 = fq (1 / x) := by
  have h1 : ((fq x).1 : Rat) / ((fq x).2 : Rat) = x := rt_fq x
  have c2 := cast_pos (fq_pos x)
  have e1 : ((fq x).1 : Rat) = x * ((fq x).2 : Rat) := by rw [← h1]; grind
  have p : (0 : Rat) < ((fq x).1 : Rat) := by rw [e1]; exact Rat.mul_pos h c2
  have p' : 0 < (fq x).1 := by exact_mod_cast p
  refine ⟨p', ?_⟩
  rw [low_fq p', e1]
  congr 1
  grind
def frR (x : Rat) : Val := frP (fq x)
theorem eqS_R {x y : Rat} {F : MH} {Q : Bool → Prop} (h : Q (decide (x = y))) : eqS (frR x) (frR y) F Q := by
  refine eqS_fr ?_
  have e : decide (fq x = fq y) = decide (x = y) := by
    by_cases h : x = y
    · rw [h]; simp
    · rw [decide_eq_false h, decide_eq_false fun z => h (fq_inj z)]
  rw [e]
  exact h
/-- bounds of the bottom and of the top, in bits -/
structure Bd (a c : Nat) (x : Rat) : Prop where
  dn : (x.den : Int) ≤ 2 ^ a
  nm : x.num.natAbs ≤ 2 ^ c
theorem Bd.mono {a c a' c' : Nat} {x : Rat} (h : Bd a c x) (ha : a ≤ a') (hc : c ≤ c') : Bd a' c' x := by
  refine ⟨Int.le_trans h.dn ?_, Nat.le_trans h.nm (Nat.pow_le_pow_right (by decide) hc)⟩
  have := Nat.pow_le_pow_right (n := 2) (by decide) ha
  exact_mod_cast this
theorem Bd.sm {a c : Nat} {x : Rat} (h : Bd a c x) (ha : a < 9000) (hc : c < 9000) : SmP (fq x) := by
  refine ⟨Nat.lt_of_le_of_lt h.nm (Nat.pow_lt_pow_right (by decide) hc), bits_ok (Int.le_of_lt (fq_pos x)) h.dn ha⟩
theorem Bd.prod {a c a' c' : Nat} {x y : Rat} (h : Bd a c x) (g : Bd a' c' y) (ha : a + a' < 9000) : Sm ((fq x).2 * (fq y).2) := by
  refine bits_ok (n := a + a') (Int.le_of_lt (Int.mul_pos (fq_pos x) (fq_pos y))) ?_ ha
  rw [Int.pow_add]
  have h1 : (fq x).2 * (fq y).2 ≤ 2 ^ a * (fq y).2 := Int.mul_le_mul_of_nonneg_right h.dn (Int.le_of_lt (fq_pos y))
  have h2 : (2 : Int) ^ a * (fq y).2 ≤ 2 ^ a * 2 ^ a' := Int.mul_le_mul_of_nonneg_left g.dn (Int.pow_nonneg (by decide))
  omega
/-- a fraction of two whole numbers, reduced -/
theorem Bd.of {a c : Nat} {x : Rat} {r s : Int} (hs : s ≠ 0) (h : x * (s : Rat) = (r : Rat)) (h1 : s.natAbs ≤ 2 ^ a) (h2 : r.natAbs ≤ 2 ^ c) : Bd a c x := by
  have c1 := cast_pos (fq_pos x)
  have e0 : ((fq x).1 : Rat) / ((fq x).2 : Rat) = x := rt_fq x
  have e : (fq x).1 * s = r * (fq x).2 := by
    have e1 : (((fq x).1 * s : Int) : Rat) = ((r * (fq x).2 : Int) : Rat) := by
      rw [Rat.intCast_mul, Rat.intCast_mul, ← h]
      have : ((fq x).1 : Rat) = x * ((fq x).2 : Rat) := by
        generalize ((fq x).1 : Rat) = p at *
        generalize ((fq x).2 : Rat) = q at *
        rw [← e0]; grind
      rw [this]
      grind
    exact_mod_cast e1
  have hd : (fq x).2 ∣ s := coprime_dvd (b := (fq x).1) ⟨r, by rw [e]; exact Int.mul_comm ..⟩ (fq_gcd x)
  obtain ⟨g, hg⟩ := hd
  have hg0 : g ≠ 0 := fun z => hs (by rw [hg, z, Int.mul_zero])
  have hr : (fq x).1 * g = r := by
    have : (fq x).1 * g * (fq x).2 = r * (fq x).2 := by rw [← e, hg]; grind
    exact Int.eq_of_mul_eq_mul_right (by have := fq_pos x; omega) this
  have g1 : 1 ≤ g.natAbs := by omega
  refine ⟨?_, ?_⟩
  · have h3 : s.natAbs = (fq x).2.natAbs * g.natAbs := by rw [hg, Int.natAbs_mul]
    have h4 : (fq x).2.natAbs * 1 ≤ (fq x).2.natAbs * g.natAbs := Nat.mul_le_mul_left _ g1
    have h5 : (fq x).2.natAbs ≤ 2 ^ a := by omega
    have h6 : (fq x).2 = ((fq x).2.natAbs : Int) := by have := fq_pos x; omega
    show (fq x).2 ≤ 2 ^ a
    rw [h6]
    exact_mod_cast h5
  · have h3 : r.natAbs = (fq x).1.natAbs * g.natAbs := by rw [← hr, Int.natAbs_mul]
    have h4 : (fq x).1.natAbs * 1 ≤ (fq x).1.natAbs * g.natAbs := Nat.mul_le_mul_left _ g1
    show (fq x).1.natAbs ≤ 2 ^ c
    omega
theorem Bd.mul {a c a' c' : Nat} {x y : Rat} (h : Bd a c x) (g : Bd a' c' y) : Bd (a + a') (c + c') (x * y) := by
  have e1 : ((fq x).1 : Rat) = x * ((fq x).2 : Rat) := by
    have := rt_fq x
    unfold rt at this
    have c1 := cast_pos (fq_pos x)
    generalize ((fq x).1 : Rat) = p at *
    generalize ((fq x).2 : Rat) = q at *
    rw [← this]; grind
  have e2 : ((fq y).1 : Rat) = y * ((fq y).2 : Rat) := by
    have := rt_fq y
    unfold rt at this
    have c1 := cast_pos (fq_pos y)
    generalize ((fq y).1 : Rat) = p at *
    generalize ((fq y).2 : Rat) = q at *
    rw [← this]; grind
  refine Bd.of (r := (fq x).1 * (fq y).1) (s := (fq x).2 * (fq y).2) (by have := Int.mul_pos (fq_pos x) (fq_pos y); omega) (by rw [Rat.intCast_mul, Rat.intCast_mul, e1, e2]; grind) ?_ ?_
  · rw [Int.natAbs_mul, Nat.pow_add]
    have h1 := h.dn
    have h2 := g.dn
    have p1 := fq_pos x
    have p2 := fq_pos y
    refine Nat.mul_le_mul ?_ ?_
    · show (x.den : Int).natAbs ≤ _
      rw [Int.natAbs_natCast]; exact_mod_cast h1
    · show (y.den : Int).natAbs ≤ _
      rw [Int.natAbs_natCast]; exact_mod_cast h2
  · rw [Int.natAbs_mul, Nat.pow_add]
    exact Nat.mul_le_mul h.nm g.nm
theorem ab_nat {z : Int} {B : Rat} {n : Nat} (h : Ab (z : Rat) B) (hB : B ≤ ((2 ^ n : Nat) : Rat)) : z.natAbs ≤ 2 ^ n := by
  obtain ⟨h1, h2⟩ := h
  have a1 : (z : Rat) ≤ (((2 ^ n : Nat) : Int) : Rat) := by
    have : (((2 ^ n : Nat) : Int) : Rat) = ((2 ^ n : Nat) : Rat) := rfl
    rw [this]; grind
  have a2 : ((-((2 ^ n : Nat) : Int) : Int) : Rat) ≤ (z : Rat) := by
    rw [Rat.intCast_neg]
    have : (((2 ^ n : Nat) : Int) : Rat) = ((2 ^ n : Nat) : Rat) := rfl
    rw [this]; grind
  have b1 : z ≤ ((2 ^ n : Nat) : Int) := by exact_mod_cast a1
  have b2 : -((2 ^ n : Nat) : Int) ≤ z := by exact_mod_cast a2
  omega
theorem Bd.fq {x W T : Rat} {a c : Nat} (h : Fq x W T) (h1 : W ≤ ((2 ^ a : Nat) : Rat)) (h2 : W * T ≤ ((2 ^ c : Nat) : Rat)) : Bd a c x := by
  obtain ⟨r, s, hs, e, b1, b2⟩ := h
  exact Bd.of hs e (ab_nat b1 h1) (ab_nat b2 h2)
theorem Bd.zero {a c : Nat} : Bd a c 0 := ⟨by
  show (1 : Int) ≤ 2 ^ a
  have : 0 < (2 : Int) ^ a := Int.pow_pos (by decide)
  omega, by show 0 ≤ _; exact Nat.zero_le _⟩
theorem Bd.one {a c : Nat} : Bd a c 1 := ⟨by
  show (1 : Int) ≤ 2 ^ a
  have : 0 < (2 : Int) ^ a := Int.pow_pos (by decide)
  omega, by show 1 ≤ _; exact Nat.one_le_two_pow⟩
/-! ### what the small defs give -/
def spMinusR : Spec := fun vs F Q _ => ∃ (x y : Rat) (a c a' c' : Nat), vs = [frR x, frR y] ∧ Bd a c x ∧ Bd a' c' y ∧ a + a' < 9000 ∧ c < 9000 ∧ c' < 9000 ∧ Q (frR (x - y)) F
theorem minusR {vs : List Val} {F : MH} {Q : Q1} {E : X1} (h : spMinusR vs F Q E) : spMinus vs F Q E := by
  obtain ⟨x, y, a, c, a', c', rfl, h1, h2, h3, h4, h5, h⟩ := h
  exact ⟨fq x, fq y, rfl, h1.sm (by omega) h4, h2.sm (by omega) h5, Int.mul_pos (fq_pos x) (fq_pos y), h1.prod h2 h3, by rw [less_fq]; exact h⟩
theorem addedR {vs : List Val} {F : MH} {Q : Q1} {E : X1} (h : ∃ (x y : Rat) (a c a' c' : Nat), vs = [frR x, frR y] ∧ Bd a c x ∧ Bd a' c' y ∧ a + a' < 9000 ∧ c < 9000 ∧ c' < 9000 ∧ Q (frR (x + y)) F) : spAdded vs F Q E := by
  obtain ⟨x, y, a, c, a', c', rfl, h1, h2, h3, h4, h5, h⟩ := h
  exact ⟨fq x, fq y, rfl, h1.sm (by omega) h4, h2.sm (by omega) h5, Int.mul_pos (fq_pos x) (fq_pos y), h1.prod h2 h3, by rw [more_fq]; exact h⟩
def spMul : Spec := fun vs F Q _ => ∃ (x y : Rat) (a c a' c' : Nat), vs = [frR x, frR y] ∧ Bd a c x ∧ Bd a' c' y ∧ a + a' < 9000 ∧ c < 9000 ∧ c' < 9000 ∧ Q (frR (x * y)) F
theorem w_multiplied {Γ : Amb} {r : CallR1 Γ "made"} (hr : r.sp = spMade) : ∀ vs F Q E, spMul vs F Q E → wpB (fun C fs _ F => E C fs F) (c_multiplied r) (start1 n_multiplied vs) F (fun _ F => Q .non F) Q := by
  rintro vs F Q E ⟨x, y, a, c, a', c', rfl, h1, h2, h3, h4, h5, h⟩
  unfold c_multiplied
  simp only [wpB, wpS, wpE, wpEs, wpT, wpTs, wpCs, wpP, wpIt, wpBl, bindT, biS, bmS, recS, tyS, truS, start1, List.map, List.length, List.replicate, List.append_nil, List.nil_append, List.cons_append, Nat.sub_self, Nat.reduceSub, Nat.reduceAdd, List.length_cons, List.length_nil, List.getElem?_cons_zero, List.getElem?_cons_succ, List.set_cons_zero, List.set_cons_succ, setAll, wipe1, Tg.slots, binS, subS, fdivS, modS, powS, cmpS, ltS, isS, isNS, asStrs, asBls, newLs, n_multiplied, hr]
  have s1 := h1.sm (by omega) h4
  have s2 := h2.sm (by omega) h5
  refine ix0 (ix0 (mul_i (s1.a.mul s2.a) (ix1 (ix1 (mul_i (s1.b.mul s2.b) ?_)))))
  refine ⟨_, _, rfl, Int.mul_pos (fq_pos x) (fq_pos y), h1.prod h2 h3, ?_⟩
  rw [mul_fq]
  exact h
end Bv

set_option pp.maxSteps 600
/-! Rows lessened, equations solved. -/
namespace Bv
open PySem L2 PyProof.Rows
theorem set_ls {p : Addr} {vs : List Val} {j : Nat} {v : Val} {F : MH} {Q : MH → Prop} (e : F p = some (.lst vs)) (hl : j < vs.length) (q : Q (mset F p (.lst (vs.set j v)))) : setS (.ref p) (.int (j : Int)) v F Q := by
  have e2 : ixN vs.length (j : Int) = some j := by
    unfold ixN
    rw [if_pos (by omega), if_pos (by omega)]
    simp
  simp only [setS, e, e2]
  exact q
/-- a row told by its numbers -/
def rowL (n : Nat) (f : Nat → Rat) : List Val := (List.range (n + 1)).map fun c => frR (f c)
def rowV (n : Nat) (f : Nat → Rat) : Val := .lst (rowL n f)
theorem rowL_len (n : Nat) (f : Nat → Rat) : (rowL n f).length = n + 1 := by unfold rowL; rw [List.length_map, List.length_range]
theorem rowL_get {n : Nat} {f : Nat → Rat} {c : Nat} (h : c ≤ n) : (rowL n f)[c]? = some (frR (f c)) := by
  unfold rowL
  rw [List.getElem?_map, List.getElem?_range (by omega)]
  rfl
theorem rowL_at {n : Nat} {f : Nat → Rat} {c : Nat} {v : Val} (h : (rowL n f)[c]? = some v) : c ≤ n ∧ v = frR (f c) := by
  have hl := (List.getElem?_eq_some_iff.mp h).1
  rw [rowL_len] at hl
  rw [rowL_get (by omega)] at h
  cases h
  exact ⟨by omega, rfl⟩
theorem rowV_congr {n : Nat} {f g : Nat → Rat} (h : ∀ c, c ≤ n → f c = g c) : rowV n f = rowV n g := by
  unfold rowV rowL
  congr 1
  apply List.map_congr_left
  intro c hc
  rw [List.mem_range] at hc
  rw [h c (by omega)]
theorem rowL_take {n : Nat} {f : Nat → Rat} {i : Nat} (h : i ≤ n) : (List.range (i + 1)).map (fun c => frR (f c)) = (List.range i).map (fun c => frR (f c)) ++ [frR (f i)] := by
  rw [List.range_succ, List.map_append]
  rfl
/-- a table: n rows of n + 1 numbers -/
def tabL (n : Nat) (M : Mx) : List Val := (List.range n).map fun r => rowV n (M r)
theorem tabL_len (n : Nat) (M : Mx) : (tabL n M).length = n := by unfold tabL; rw [List.length_map, List.length_range]
theorem tabL_get {n : Nat} {M : Mx} {r : Nat} (h : r < n) : (tabL n M)[r]? = some (rowV n (M r)) := by
  unfold tabL
  rw [List.getElem?_map, List.getElem?_range h]
  rfl
theorem tabL_congr {n : Nat} {M N : Mx} (h : ∀ r c, r < n → c ≤ n → M r c = N r c) : tabL n M = tabL n N := by
  unfold tabL
  apply List.map_congr_left
  intro r hr
  rw [List.mem_range] at hr
  exact rowV_congr fun c hc => h r c hr hc
theorem tabL_set {n : Nat} {M : Mx} {r : Nat} {f : Nat → Rat} (h : r < n) : (tabL n M).set r (rowV n f) = tabL n fun s c => if s = r then f c else M s c := by
  apply List.ext_getElem?
  intro i
  rw [List.getElem?_set]
  by_cases hi : i < n
  · rw [tabL_get (M := fun s c => if s = r then f c else M s c) hi, tabL_len]
    by_cases e : r = i
    · subst e
      rw [if_pos rfl, if_pos h]
      congr 1
      exact rowV_congr fun c _ => (if_pos rfl).symm
    · rw [if_neg e, tabL_get hi]
      congr 1
      exact rowV_congr fun c _ => (if_neg (Ne.symm e)).symm
  · have n1 : (tabL n fun s c => if s = r then f c else M s c)[i]? = none := List.getElem?_eq_none (by rw [tabL_len]; omega)
    have n2 : (tabL n M)[i]? = none := List.getElem?_eq_none (by rw [tabL_len]; omega)
    rw [n1, if_neg (by omega), n2]
theorem ix_row {n : Nat} {f : Nat → Rat} {c : Nat} {F : MH} {Q : Q1} (h : c ≤ n) (q : Q (frR (f c)) F) : ixS (rowV n f) (.int (c : Int)) F Q := by
  refine ix_list (vs := rowL n f) rfl (by omega) ?_ q
  rw [Int.toNat_natCast]
  exact rowL_get h
theorem ix_row' {n : Nat} {f : Nat → Rat} {c : Nat} {F : MH} {Q : Q1} (h : c ≤ n) (q : Q (frR (f c)) F) : ixS (rowV n f) (.int (0 + (c : Int))) F Q := by
  rw [Int.zero_add]; exact ix_row h q
theorem ix_tab {n : Nat} {M : Mx} {r : Nat} {p : Addr} {F : MH} {Q : Q1} (e : F p = some (.lst (tabL n M))) (h : r < n) (q : Q (rowV n (M r)) F) : ixS (.ref p) (.int (r : Int)) F Q := by
  refine ix_list (vs := tabL n M) (by simp only [lsOf, e]) (by omega) ?_ q
  rw [Int.toNat_natCast]
  exact tabL_get h
/-- bounds of what stands in rows -/
abbrev BdC (x : Rat) : Prop := Bd 2900 4000 x
def spLessened : Spec := fun vs F Q _ => ∃ (n : Nat) (f g : Nat → Rat) (z : Rat), vs = [rowV n f, rowV n g, frR z] ∧ n ≤ 8 ∧ (∀ c, c ≤ n → BdC (f c) ∧ BdC (g c)) ∧ BdC z ∧ Q (rowV n fun c => f c - z * g c) F
theorem w_lessened {Γ : Amb} {r1 : CallR1 Γ "minus"} {r2 : CallR1 Γ "multiplied"} (h1 : r1.sp = spMinus) (h2 : r2.sp = spMul) : ∀ vs F Q E, spLessened vs F Q E → wpB (fun C fs _ F => E C fs F) (c_lessened r1 r2) (start1 n_lessened vs) F (fun _ F => Q .non F) Q := by
  rintro vs F Q E ⟨n, f, g, z, rfl, hn, hb, hz, h⟩
  unfold c_lessened
  simp only [wpB, wpS, wpE, wpEs, wpT, wpTs, wpCs, wpP, wpIt, wpBl, bindT, biS, recS, truS, start1, List.map, List.length, List.replicate, List.append_nil, List.nil_append, List.cons_append, Nat.sub_self, Nat.reduceSub, Nat.reduceAdd, List.length_cons, List.length_nil, List.getElem?_cons_zero, List.getElem?_cons_succ, List.set_cons_zero, List.set_cons_succ, setAll, wipe1, Tg.slots, binS, subS, fdivS, modS, powS, cmpS, ltS, isS, isNS, asStrs, asBls, newLs, n_lessened, h1, h2, rowV]
  rw [show ∀ F, lsOf F (.lst (rowL n f)) = some (rowL n f) from fun _ => rfl, show ∀ F, lsOf F (.lst (rowL n g)) = some (rowL n g) from fun _ => rfl]
  simp only []
  have hlen : (zipV (rowL n f) (rowL n g)).length = n + 1 := by unfold zipV; rw [List.length_zipWith, rowL_len, rowL_len, Nat.min_self]
  refine lcGo_inv (fun i acc F1 => acc = (List.range i).map (fun c => frR (f c - z * g c)) ∧ F1 = F) (by rw [hlen, sizeLine_eq]; omega) (fun _ _ _ h => ⟨rfl, rfl⟩) ?_ ?_ ⟨rfl, rfl⟩
  · rintro i v acc F1 k hv ⟨rfl, rfl⟩ hk _
    unfold zipV at hv
    rw [List.getElem?_zipWith] at hv
    have hi : i ≤ n := by
      by_cases q : i ≤ n
      · exact q
      · rw [List.getElem?_eq_none (by rw [rowL_len]; omega)] at hv
        cases hv
    rw [rowL_get hi, rowL_get hi] at hv
    cases hv
    obtain ⟨b1, b2⟩ := hb i hi
    simp only [wpB, wpS, wpE, wpEs, wpT, wpTs, wpCs, wpP, wpIt, wpBl, bindT, biS, recS, truS, start1, List.map, List.length, List.replicate, List.append_nil, List.nil_append, List.cons_append, Nat.sub_self, Nat.reduceSub, Nat.reduceAdd, List.length_cons, List.length_nil, List.getElem?_cons_zero, List.getElem?_cons_succ, List.set_cons_zero, List.set_cons_succ, setAll, wipe1, Tg.slots, binS, subS, fdivS, modS, powS, cmpS, ltS, isS, isNS, asStrs, asBls, newLs]
    refine ⟨trivial, z, g i, 2900, 4000, 2900, 4000, rfl, hz, b2, by omega, by omega, by omega, ?_⟩
    refine minusR ⟨f i, z * g i, 2900, 4000, 2900 + 2900, 4000 + 4000, rfl, b1, hz.mul b2, by omega, by omega, by omega, ?_⟩
    refine hk _ _ ⟨?_, rfl⟩
    rw [List.range_succ, List.map_append]
    rfl
  · rintro acc F1 ⟨rfl, rfl⟩
    rw [hlen]
    exact h
/-- the sum of some fractions -/
def sumR (xs : List Rat) : Rat := xs.sum
def spTotal : Spec := fun vs F Q _ => ∃ (v : Val) (xs : List Rat) (a c a' c' : Nat), vs = [v] ∧ lsOf F v = some (xs.map frR) ∧ xs.length ≤ 64 ∧ (∀ i, i ≤ xs.length → Bd a c (xs.take i).sum) ∧ (∀ x ∈ xs, Bd a' c' x) ∧ a + a' < 9000 ∧ c < 9000 ∧ c' < 9000 ∧ Q (frR xs.sum) F
theorem w_total {Γ : Amb} {r : CallR1 Γ "added"} (hr : r.sp = spAdded) : ∀ vs F Q E, spTotal vs F Q E → wpB (fun C fs _ F => E C fs F) (c_total r) (start1 n_total vs) F (fun _ F => Q .non F) Q := by
  rintro vs F Q E ⟨v, xs, a, c, a', c', rfl, hv, hl, hb, hb2, h1, h2, h3, h⟩
  unfold c_total
  simp only [wpB, wpS, wpE, wpEs, wpT, wpTs, wpCs, wpP, wpIt, wpBl, bindT, biS, recS, truS, start1, List.map, List.length, List.replicate, List.append_nil, List.nil_append, List.cons_append, Nat.sub_self, Nat.reduceSub, Nat.reduceAdd, List.length_cons, List.length_nil, List.getElem?_cons_zero, List.getElem?_cons_succ, List.set_cons_zero, List.set_cons_succ, setAll, wipe1, Tg.slots, binS, subS, fdivS, modS, powS, cmpS, ltS, isS, isNS, asStrs, asBls, newLs, n_total, hr]
  rw [hv]
  refine ⟨by rw [sizeLine_eq]; decide, ?_⟩
  refine forGo_inv (fun i σ F1 => ∃ s3, σ = [some v, some (frR (xs.take i).sum), s3] ∧ F1 = F) (fun _ _ _ ⟨_, _, e⟩ => by rw [e]; exact hv) ?_ ?_ ⟨none, rfl, rfl⟩
  · rintro i x σ F1 k hx ⟨s3, rfl, rfl⟩ hk
    rw [List.getElem?_map] at hx
    obtain ⟨y, hy, rfl⟩ := Option.map_eq_some_iff.mp hx
    have hi := (List.getElem?_eq_some_iff.mp hy).1
    simp only [wpB, wpS, wpE, wpEs, wpT, wpTs, wpCs, wpP, wpIt, wpBl, bindT, biS, recS, truS, start1, List.map, List.length, List.replicate, List.append_nil, List.nil_append, List.cons_append, Nat.sub_self, Nat.reduceSub, Nat.reduceAdd, List.length_cons, List.length_nil, List.getElem?_cons_zero, List.getElem?_cons_succ, List.set_cons_zero, List.set_cons_succ, setAll, wipe1, Tg.slots, binS, subS, fdivS, modS, powS, cmpS, ltS, isS, isNS, asStrs, asBls, newLs]
    refine addedR ⟨(xs.take i).sum, y, a, c, a', c', rfl, hb i (by omega), hb2 y (List.mem_of_getElem? hy), h1, h2, h3, ?_⟩
    refine hk _ _ ⟨some (frR y), ?_, rfl⟩
    have e : (xs.take (i + 1)).sum = (xs.take i).sum + y := by
      rw [List.take_add_one, hy, List.sum_append]
      show _ + ([y] : List Rat).sum = _
      rw [List.sum_cons, List.sum_nil]
      grind
    rw [e]
  · rintro σ F1 ⟨s3, rfl, rfl⟩
    simp only [wpB, wpS, wpE, wpEs, wpT, wpTs, wpCs, wpP, wpIt, wpBl, bindT, biS, recS, truS, start1, List.map, List.length, List.replicate, List.append_nil, List.nil_append, List.cons_append, Nat.sub_self, Nat.reduceSub, Nat.reduceAdd, List.length_cons, List.length_nil, List.getElem?_cons_zero, List.getElem?_cons_succ, List.set_cons_zero, List.set_cons_succ, setAll, wipe1, Tg.slots, binS, subS, fdivS, modS, powS, cmpS, ltS, isS, isNS, asStrs, asBls, newLs]
    rw [List.length_map, List.take_length]
    exact h
end Bv

set_option pp.maxSteps 900
/-! Equations solved. -/
namespace Bv
open PySem L2 PyProof.Rows
theorem ix_k {r1 : Int} {n : Nat} {M : Mx} {r c : Nat} {p : Addr} {F : MH} {Q : Q1} (e : F p = some (.lst (tabL n M))) (h : r < n) (hc : c ≤ n) (q : Q (frR (M r c)) F) : ixS (.ref p) (.int (r : Int)) F fun x F1 => ixS x (.int (c : Int)) F1 Q := ix_tab e h (ix_row hc q)
/-- row k made, the rows ahead of j lessened -/
def mid (M : Mx) (k j : Nat) : Mx := fun r c => if r = k then M k c / M k k else if r < j then M r c - M r k * (M k c / M k k) else M r c
theorem mid_el {n : Nat} {M : Mx} {k : Nat} : tabL n (mid M k n) = tabL n (el k M) := tabL_congr fun r c hr _ => by
  unfold mid el
  by_cases h : r = k
  · rw [if_pos h, if_pos h]
  · rw [if_neg h, if_neg h, if_pos hr]
theorem ix_lastv {v : Val} {vs : List Val} {x : Val} {F : MH} {Q : Q1} (e : lsOf F v = some (vs ++ [x])) (q : Q x F) : ixS v (.int (-1)) F Q := by
  have h : atI (vs ++ [x]) (-1) = some x := by
    unfold atI ixN
    rw [if_neg (by decide), if_pos (by rw [List.length_append, List.length_singleton]; omega)]
    show (vs ++ [x])[((-1 : Int) + ((vs ++ [x]).length : Int)).toNat]? = _
    have e2 : ((-1 : Int) + ((vs ++ [x]).length : Int)).toNat = vs.length := by rw [List.length_append, List.length_singleton]; omega
    rw [e2, List.getElem?_append_right (Nat.le_refl _), Nat.sub_self]
    rfl
  have h2 : atS (vs ++ [x]) (-1) F Q := by unfold atS; rw [h]; exact q
  cases v with
  | lst ws => cases e; exact h2
  | ref p => simp only [ixS, e]; exact h2
  | _ => cases e
theorem ix_end {n : Nat} {f : Nat → Rat} {F : MH} {Q : Q1} (q : Q (frR (f n)) F) : ixS (rowV n f) (.int (-1)) F Q := by
  refine ix_lastv (vs := (List.range n).map fun c => frR (f c)) (x := frR (f n)) ?_ q
  show some (rowL n f) = _
  unfold rowL
  rw [List.range_succ, List.map_append]
  rfl
def spSolved : Spec := fun vs F Q _ => ∃ (v : Val) (n : Nat) (A : Mx), vs = [v] ∧ lsOf F v = some (tabL n A) ∧ n ≤ 8 ∧ (∀ k, k < n → 0 < gj A k k k ∧ Bd 2900 2900 (gj A k k k)) ∧ (∀ k i j, k ≤ n → i < n → j ≤ n → BdC (gj A k i j)) ∧
  ∀ F', Ext F F' → Q (.lst ((List.range n).map fun r => frR (gj A n r n))) F'
theorem Ext.refl (F : MH) : Ext F F := fun _ _ h => h
theorem len_ls {v : Val} {vs : List Val} {F : MH} {Q : Q1} (e : lsOf F v = some vs) (q : Q (.int vs.length) F) : lenS v F Q := by
  cases v with
  | lst ws => cases e; exact q
  | ref p => simp only [lenS, e]; exact q
  | _ => cases e
theorem ls_cell {p : Addr} {vs : List Val} {F : MH} : lsOf (mset F p (.lst vs)) (.ref p) = some vs := by simp only [lsOf, mset_same]
theorem Bd.inv {a c : Nat} {x : Rat} (h : Bd a c x) (hp : 0 < x) : Bd c a (1 / x) := by
  obtain ⟨i1, _⟩ := inv_fq hp
  refine Bd.of (r := (Bv.fq x).2) (s := (Bv.fq x).1) (by omega) ?_ h.nm ?_
  · rw [fq_top x]; grind
  · have := h.dn
    show (x.den : Int).natAbs ≤ 2 ^ a
    rw [Int.natAbs_natCast]
    exact_mod_cast this
theorem lsOf_ext {F F' : MH} {v : Val} {vs : List Val} (ex : Ext F F') (h : lsOf F v = some vs) : lsOf F' v = some vs := by
  cases v with
  | ref p =>
    simp only [lsOf] at h ⊢
    cases e : F p with
    | none => rw [e] at h; cases h
    | some c => rw [ex p c e]; rw [e] at h; exact h
  | _ => exact h
theorem w_solved {Γ : Amb} {r1 : CallR1 Γ "lessened"} {r2 : CallR1 Γ "multiplied"} {r3 : CallR1 Γ "made"} (h1 : r1.sp = spLessened) (h2 : r2.sp = spMul) (h3 : r3.sp = spMade) : ∀ vs F Q E, spSolved vs F Q E → wpB (fun C fs _ F => E C fs F) (c_solved r1 r2 r3) (start1 n_solved vs) F (fun _ F => Q .non F) Q := by
  rintro vs F Q E ⟨v, n, A, rfl, hv, hn, hp, hb, h⟩
  unfold c_solved
  simp only [wpB, wpS, wpE, wpEs, wpT, wpTs, wpCs, wpP, wpIt, wpBl, bindT, biS, recS, truS, start1, List.map, List.length, List.replicate, List.append_nil, List.nil_append, List.cons_append, Nat.sub_self, Nat.reduceSub, Nat.reduceAdd, List.length_cons, List.length_nil, List.getElem?_cons_zero, List.getElem?_cons_succ, List.set_cons_zero, List.set_cons_succ, setAll, wipe1, Tg.slots, binS, subS, fdivS, modS, powS, cmpS, ltS, isS, isNS, asStrs, asBls, newLs, n_solved, h1, h2, h3]
  rw [hv]
  simp only []
  refine lcGo_inv (fun i acc F1 => acc = (List.range i).map (fun r => rowV n (A r)) ∧ F1 = F) (by rw [tabL_len, sizeLine_eq]; omega) (fun _ _ _ ⟨_, e⟩ => by rw [e]; exact hv) ?_ ?_ ⟨rfl, rfl⟩
  · rintro i x acc F1 k hx ⟨rfl, rfl⟩ hk _
    have hi : i < n := by have := (List.getElem?_eq_some_iff.mp hx).1; rwa [tabL_len] at this
    rw [tabL_get hi] at hx
    cases hx
    simp only [wpB, wpS, wpE, wpEs, wpT, wpTs, wpCs, wpP, wpIt, wpBl, bindT, biS, recS, truS, start1, List.map, List.length, List.replicate, List.append_nil, List.nil_append, List.cons_append, Nat.sub_self, Nat.reduceSub, Nat.reduceAdd, List.length_cons, List.length_nil, List.getElem?_cons_zero, List.getElem?_cons_succ, List.set_cons_zero, List.set_cons_succ, setAll, wipe1, Tg.slots, binS, subS, fdivS, modS, powS, cmpS, ltS, isS, isNS, asStrs, asBls, newLs, rowV, listF]
    rw [show lsOf F1 (.lst (rowL n (A i))) = some (rowL n (A i)) from rfl]
    refine hk _ _ ⟨?_, rfl⟩
    rw [List.range_succ, List.map_append]
    rfl
  · rintro acc F1 ⟨rfl, rfl⟩
    rw [tabL_len]
    show ∀ p, F1 p = none → _
    intro p hpn
    rw [show (List.range n).map (fun r => rowV n (A r)) = tabL n A from rfl]
    refine len_ls ls_cell ?_
    rw [tabL_len]
    refine ⟨by omega, by omega, ?_⟩
    rw [show ((n : Int)).toNat = n from Int.toNat_natCast n]
    have exF : ∀ M, Ext F1 (mset F1 p (.lst (tabL n M))) := fun M => (Ext.refl F1).new hpn
    refine forGo_inv (fun i σ F2 => ∃ s3 s4 s5 s6 s7 s8, σ = [some v, some (.ref p), some (.int n), s3, s4, s5, s6, s7, s8] ∧ F2 = mset F1 p (.lst (tabL n (gj A i)))) (fun _ _ _ _ => trivial) ?_ ?_ ⟨_, _, _, _, _, _, rfl, rfl⟩
    · rintro k x σ F2 kk hx ⟨s3, s4, s5, s6, s7, s8, rfl, rfl⟩ hk
      unfold rngV at hx
      rw [List.getElem?_map] at hx
      obtain ⟨j, hj, rfl⟩ := Option.map_eq_some_iff.mp hx
      obtain ⟨hj1, hj2⟩ := List.getElem?_eq_some_iff.mp hj
      rw [List.getElem_range] at hj2
      subst hj2
      rw [List.length_range] at hj1
      obtain ⟨hpk, hpb⟩ := hp k hj1
      have hbk := hb k
      rw [show ((0 : Int) + (k : Int)) = (k : Int) from Int.zero_add _]
      have eM : gj A (k + 1) = el k (gj A k) := rfl
      have hbe : ∀ i j, i < n → j ≤ n → BdC (el k (gj A k) i j) := fun i j hi hj => by rw [← eM]; exact hb (k + 1) i j (by omega) hi hj
      generalize gj A k = M at *
      have hbM : ∀ i j, i < n → j ≤ n → BdC (M i j) := fun i j => hbk i j (by omega)
      have hrow : ∀ c, c ≤ n → BdC (M k c / M k k) := fun c hc => by
        have := hbe k c hj1 hc
        unfold el at this
        rwa [if_pos rfl] at this
      simp only [wpB, wpS, wpE, wpEs, wpT, wpTs, wpCs, wpP, wpIt, wpBl, bindT, biS, recS, truS, start1, List.map, List.length, List.replicate, List.append_nil, List.nil_append, List.cons_append, Nat.sub_self, Nat.reduceSub, Nat.reduceAdd, List.length_cons, List.length_nil, List.getElem?_cons_zero, List.getElem?_cons_succ, List.set_cons_zero, List.set_cons_succ, setAll, wipe1, Tg.slots, binS, subS, fdivS, modS, powS, cmpS, ltS, isS, isNS, asStrs, asBls, newLs]
      refine ⟨fun m σ F3 => m = 0 ∧ σ = [some v, some (.ref p), some (.int n), some (.int (k : Int)), some (.int (k : Int)), s5, s6, s7, s8] ∧ F3 = mset F1 p (.lst (tabL n M)), ⟨0, rfl, rfl, rfl⟩, ?_⟩
      rintro m σ F3 ⟨rfl, rfl, rfl⟩
      simp only [wpB, wpS, wpE, wpEs, wpT, wpTs, wpCs, wpP, wpIt, wpBl, bindT, biS, recS, truS, start1, List.map, List.length, List.replicate, List.append_nil, List.nil_append, List.cons_append, Nat.sub_self, Nat.reduceSub, Nat.reduceAdd, List.length_cons, List.length_nil, List.getElem?_cons_zero, List.getElem?_cons_succ, List.set_cons_zero, List.set_cons_succ, setAll, wipe1, Tg.slots, binS, subS, fdivS, modS, powS, cmpS, ltS, isS, isNS, asStrs, asBls, newLs]
      refine ix_tab mset_same hj1 (ix_row (by omega) ?_)
      refine ⟨by rw [sizeLine_eq]; decide, ?_⟩
      show eqS (frR _) (frR 0) _ _
      refine eqS_R ?_
      rw [decide_eq_false (by grind)]
      simp only [wpB, wpS, wpE, wpEs, wpT, wpTs, wpCs, wpP, wpIt, wpBl, bindT, biS, recS, truS, start1, List.map, List.length, List.replicate, List.append_nil, List.nil_append, List.cons_append, Nat.sub_self, Nat.reduceSub, Nat.reduceAdd, List.length_cons, List.length_nil, List.getElem?_cons_zero, List.getElem?_cons_succ, List.set_cons_zero, List.set_cons_succ, setAll, wipe1, Tg.slots, binS, subS, fdivS, modS, powS, cmpS, ltS, isS, isNS, asStrs, asBls, newLs]
      refine ix_tab mset_same hj1 (ix_tab mset_same hj1 ?_)
      refine ⟨by rw [sizeLine_eq]; decide, ?_⟩
      refine set_ls mset_same (by rw [tabL_len]; exact hj1) ?_
      have sk : (tabL n M).set k (rowV n (M k)) = tabL n M := by
        rw [tabL_set hj1]
        exact tabL_congr fun r c _ _ => by by_cases e : r = k <;> simp [e]
      rw [sk, mset_mset]
      refine set_ls mset_same (by rw [tabL_len]; exact hj1) ?_
      rw [sk, mset_mset]
      refine ix_tab mset_same hj1 (ix_row (by omega) (ix1 (ix_tab mset_same hj1 (ix_row (by omega) (ix0 ?_)))))
      obtain ⟨i1, i2⟩ := inv_fq hpk
      refine ⟨_, _, rfl, i1, ((hbM k k hj1 (by omega)).sm (by omega) (by omega)).a, ?_⟩
      rw [i2]
      refine ix_tab mset_same hj1 ?_
      rw [show ∀ F, lsOf F (rowV n (M k)) = some (rowL n (M k)) from fun _ => rfl]
      have hbi : Bd 2900 2900 (1 / M k k) := hpb.inv hpk
      refine lcGo_inv (fun i acc F4 => acc = (List.range i).map (fun c => frR (M k c / M k k)) ∧ F4 = mset F1 p (.lst (tabL n M))) (by rw [rowL_len, sizeLine_eq]; omega) (fun _ _ _ _ => rfl) ?_ ?_ ⟨rfl, rfl⟩
      · rintro i x acc F4 k4 hx ⟨rfl, rfl⟩ hk4 _
        obtain ⟨hi, rfl⟩ := rowL_at hx
        refine ⟨1 / M k k, M k i, 2900, 2900, 2900, 4000, rfl, hbi, hbM k i hj1 hi, by omega, by omega, by omega, ?_⟩
        refine hk4 _ _ ⟨?_, rfl⟩
        rw [List.range_succ, List.map_append]
        have : 1 / M k k * M k i = M k i / M k k := by grind
        rw [this]
        rfl
      · rintro acc F4 ⟨rfl, rfl⟩
        rw [rowL_len, show (Val.lst ((List.range (n + 1)).map fun c => frR (M k c / M k k))) = rowV n (fun c => M k c / M k k) from rfl]
        refine set_ls mset_same (by rw [tabL_len]; exact hj1) ?_
        rw [tabL_set hj1, mset_mset]
        have m0 : (fun s c => if s = k then M k c / M k k else M s c) = mid M k 0 := by
          funext s c
          unfold mid
          by_cases e : s = k <;> simp [e]
        rw [m0]
        refine ⟨by omega, by omega, ?_⟩
        rw [show ((n : Int)).toNat = n from Int.toNat_natCast n]
        refine forGo_inv (fun i σ F4 => ∃ s6 s7 s8, σ = [some v, some (.ref p), some (.int n), some (.int (k : Int)), some (.int (k : Int)), some (frR (1 / M k k)), s6, s7, s8] ∧ F4 = mset F1 p (.lst (tabL n (mid M k i)))) (fun _ _ _ _ => trivial) ?_ ?_ ⟨_, _, _, rfl, rfl⟩
        · rintro j x σ F4 k4 hx ⟨s6, s7, s8, rfl, rfl⟩ hk4
          unfold rngV at hx
          rw [List.getElem?_map] at hx
          obtain ⟨j', hj', rfl⟩ := Option.map_eq_some_iff.mp hx
          obtain ⟨hjj, hj2⟩ := List.getElem?_eq_some_iff.mp hj'
          rw [List.getElem_range] at hj2
          subst hj2
          rw [List.length_range] at hjj
          rw [show ((0 : Int) + (j : Int)) = (j : Int) from Int.zero_add _]
          have step : tabL n (mid M k (j + 1)) = if j = k then tabL n (mid M k j) else (tabL n (mid M k j)).set j (rowV n fun c => M j c - M j k * (M k c / M k k)) := by
            by_cases e : j = k
            · rw [if_pos e]
              refine tabL_congr fun r c _ _ => ?_
              unfold mid
              by_cases e2 : r = k
              · rw [if_pos e2, if_pos e2]
              · rw [if_neg e2, if_neg e2]
                by_cases e3 : r < j
                · rw [if_pos e3, if_pos (by omega)]
                · rw [if_neg e3, if_neg (by omega)]
            · rw [if_neg e, tabL_set hjj]
              refine tabL_congr fun r c _ _ => ?_
              unfold mid
              by_cases e1 : r = j
              · subst e1
                rw [if_neg e, if_pos (by omega), if_pos rfl]
              · by_cases e2 : r = k
                · rw [if_pos e2, if_neg e1, if_pos e2]
                · rw [if_neg e2, if_neg e1, if_neg e2]
                  by_cases e3 : r < j
                  · rw [if_pos e3, if_pos (by omega)]
                  · rw [if_neg e3, if_neg (by omega)]
          have mj : j ≠ k → mid M k j j = M j := fun e => by
            funext c
            unfold mid
            rw [if_neg e, if_neg (Nat.lt_irrefl j)]
          have mk : mid M k j k = fun c => M k c / M k k := by
            funext c
            unfold mid
            rw [if_pos rfl]
          simp only [wpB, wpS, wpE, wpEs, wpT, wpTs, wpCs, wpP, wpIt, wpBl, bindT, biS, recS, truS, start1, List.map, List.length, List.replicate, List.append_nil, List.nil_append, List.cons_append, Nat.sub_self, Nat.reduceSub, Nat.reduceAdd, List.length_cons, List.length_nil, List.getElem?_cons_zero, List.getElem?_cons_succ, List.set_cons_zero, List.set_cons_succ, setAll, wipe1, Tg.slots, binS, subS, fdivS, modS, powS, cmpS, ltS, isS, isNS, asStrs, asBls, newLs]
          refine eqS_i ?_
          by_cases e : j = k
          · rw [decide_eq_true (by omega)]
            rw [if_pos e] at step
            simp only [Bool.not_true]
            refine hk4 _ _ ⟨_, _, _, rfl, by rw [step]⟩
          · rw [decide_eq_false (by omega)]
            rw [if_neg e] at step
            simp only [Bool.not_false]
            refine ix_tab mset_same hjj (ix_row (by omega) ?_)
            rw [mj e]
            refine ⟨by rw [sizeLine_eq]; decide, ?_⟩
            show eqS (frR _) (frR 0) _ _
            refine eqS_R ?_
            by_cases z : M j k = 0
            · rw [decide_eq_true z]
              simp only [Bool.not_true]
              refine hk4 _ _ ⟨_, _, _, rfl, ?_⟩
              rw [step]
              have : (rowV n fun c => M j c - M j k * (M k c / M k k)) = rowV n (M j) := rowV_congr fun c _ => by rw [z]; grind
              rw [this]
              have sk : (tabL n (mid M k j)).set j (rowV n (M j)) = tabL n (mid M k j) := by
                rw [tabL_set hjj]
                exact tabL_congr fun r c _ _ => by by_cases e2 : r = j <;> simp [e2, mj e]
              rw [sk]
            · rw [decide_eq_false z]
              simp only [Bool.not_false]
              refine ix_tab mset_same hjj (ix_tab mset_same hj1 (ix_tab mset_same hjj (ix_row (by omega) ?_)))
              rw [mj e, mk]
              refine ⟨n, M j, fun c => M k c / M k k, M j k, rfl, hn, fun c hc => ⟨hbM j c hjj hc, hrow c hc⟩, hbM j k hjj (by omega), ?_⟩
              refine set_ls mset_same (by rw [tabL_len]; exact hjj) ?_
              rw [mset_mset]
              refine hk4 _ _ ⟨_, _, _, rfl, by rw [step]⟩
        · rintro σ F4 ⟨s6, s7, s8, rfl, rfl⟩
          rw [show (rngV 0 n).length = n from by unfold rngV; rw [List.length_map, List.length_range]]
          rw [mid_el, ← eM]
          refine hk _ _ ⟨_, _, _, _, _, _, rfl, ?_⟩
          rw [eM]
    · rintro σ F2 ⟨s3, s4, s5, s6, s7, s8, rfl, rfl⟩
      rw [show (rngV 0 n).length = n from by unfold rngV; rw [List.length_map, List.length_range]]
      simp only [wpB, wpS, wpE, wpEs, wpT, wpTs, wpCs, wpP, wpIt, wpBl, bindT, biS, recS, truS, start1, List.map, List.length, List.replicate, List.append_nil, List.nil_append, List.cons_append, Nat.sub_self, Nat.reduceSub, Nat.reduceAdd, List.length_cons, List.length_nil, List.getElem?_cons_zero, List.getElem?_cons_succ, List.set_cons_zero, List.set_cons_succ, setAll, wipe1, Tg.slots, binS, subS, fdivS, modS, powS, cmpS, ltS, isS, isNS, asStrs, asBls, newLs]
      rw [ls_cell]
      refine lcGo_inv (fun i acc F4 => acc = (List.range i).map (fun r => frR (gj A n r n)) ∧ F4 = mset F1 p (.lst (tabL n (gj A n)))) (by rw [tabL_len, sizeLine_eq]; omega) (fun _ _ _ ⟨_, e⟩ => by rw [e]; exact ls_cell) ?_ ?_ ⟨rfl, rfl⟩
      · rintro i x acc F4 k4 hx ⟨rfl, rfl⟩ hk4 _
        have hi : i < n := by have := (List.getElem?_eq_some_iff.mp hx).1; rwa [tabL_len] at this
        rw [tabL_get hi] at hx
        cases hx
        refine ix_end ?_
        refine hk4 _ _ ⟨?_, rfl⟩
        rw [List.range_succ, List.map_append]
        rfl
      · rintro acc F4 ⟨rfl, rfl⟩
        rw [tabL_len]
        exact h _ (exF _)
end Bv

set_option pp.maxSteps 900
/-! Houses by names, their shares; the whole group. -/
namespace Bv
open PySem L2 PyProof.Rows
/-- the houses' names -/
def nmL (hs : List Hs) : List Str := sortS (hs.map (·.nm))
theorem nmL_len (hs : List Hs) : (nmL hs).length = hs.length := by unfold nmL; rw [sortS_length, List.length_map]
theorem nmL_mem {hs : List Hs} {y : Str} : y ∈ nmL hs ↔ y ∈ hs.map (·.nm) := mem_sortS
theorem nmL_nodup {hs : List Hs} (h : (hs.map (·.nm)).Nodup) : (nmL hs).Nodup := (sortS_perm _).nodup_iff.mpr h
def fh (hs : List Hs) (y : Str) : Option Hs := hs.find? fun x => decide (x.nm = y)
theorem fh_mem {hs : List Hs} {y : Str} {x : Hs} (h : fh hs y = some x) : x ∈ hs ∧ x.nm = y := by
  unfold fh at h
  refine ⟨List.mem_of_find?_eq_some h, ?_⟩
  have := List.find?_some h
  simpa using this
theorem fh_some {hs : List Hs} {y : Str} (h : y ∈ hs.map (·.nm)) : ∃ x, fh hs y = some x := by
  obtain ⟨x, hx, e⟩ := List.mem_map.mp h
  cases q : fh hs y with
  | some x => exact ⟨x, rfl⟩
  | none => exact absurd (by simpa using e) (List.find?_eq_none.mp q x hx)
theorem fh_of {hs : List Hs} (nd : (hs.map (·.nm)).Nodup) {x : Hs} (hx : x ∈ hs) : fh hs x.nm = some x := by
  obtain ⟨y, hy⟩ := fh_some (List.mem_map.mpr ⟨x, hx, rfl⟩)
  obtain ⟨h1, h2⟩ := fh_mem hy
  rw [hy, map_inj nd h1 hx h2]
/-- what is held of a house -/
def hel (hs : List Hs) (y : Str) : Held := ((fh hs y).map (·.held)).getD []
def num3 (hs : List Hs) (y : Str) : N3 := ((fh hs y).map (·.nums)).getD (0, 0, 0)
theorem hel_of {hs : List Hs} (nd : (hs.map (·.nm)).Nodup) {x : Hs} (hx : x ∈ hs) : hel hs x.nm = x.held := by unfold hel; rw [fh_of nd hx]; rfl
theorem num3_of {hs : List Hs} (nd : (hs.map (·.nm)).Nodup) {x : Hs} (hx : x ∈ hs) : num3 hs x.nm = x.nums := by unfold num3; rw [fh_of nd hx]; rfl
/-- a share as a number -/
def shr (l : Held) (z : Str) : Rat := rt ((hget l z).getD (0, 1))
/-- shares in lowest terms -/
def Can (hs : List Hs) : Prop := ∀ x ∈ hs, ∀ z v, hget x.held z = some v → 0 < v.2 ∧ Int.gcd v.1 v.2 = 1
theorem can_fq {hs : List Hs} (c : Can hs) {x : Hs} (hx : x ∈ hs) (z : Str) : (hget x.held z).getD (0, 1) = fq (shr x.held z) := by
  unfold shr
  cases e : hget x.held z with
  | none =>
    show ((0, 1) : Int × Int) = fq (rt (0, 1))
    rw [rt_zero]
    rfl
  | some v => obtain ⟨h1, h2⟩ := c x hx z v e; exact fq_uniq h1 h2
theorem mem_showS {l : Held} {z : Str} : z ∈ showS l ↔ ∃ v, hget l z = some v ∧ v ≠ (0, 1) := by
  unfold showS
  rw [List.mem_filter, mem_sortS]
  constructor
  · rintro ⟨h1, h2⟩
    cases e : hget l z with
    | none => exact absurd h1 (hget_none.mp e)
    | some v =>
      refine ⟨v, rfl, fun h => ?_⟩
      rw [e, h] at h2
      simp at h2
  · rintro ⟨v, h1, h2⟩
    refine ⟨?_, by rw [h1]; simpa using h2⟩
    by_cases h : z ∈ l.map (·.1)
    · exact h
    · rw [hget_none.mpr h] at h1; cases h1
theorem shr_show {hs : List Hs} (c : Can hs) {x : Hs} (hx : x ∈ hs) {z : Str} : z ∈ showS x.held ↔ shr x.held z ≠ 0 := by
  rw [mem_showS]
  have h := can_fq c hx z
  constructor
  · rintro ⟨v, h1, h2⟩ e
    rw [h1, e] at h
    exact h2 h
  · intro h0
    cases e : hget x.held z with
    | none => exact absurd (by unfold shr; rw [e]; exact rt_zero) h0
    | some v =>
      refine ⟨v, rfl, fun q => h0 ?_⟩
      unfold shr
      rw [e, q]
      exact rt_zero
/-- a state of which only the book's own things are wanted -/
theorem Gr.kg {CB CE : Addr} {un : List Str} {F : MH} {b pl en : Addr} {ps : List Str} {hs : List Hs} (g : Gr CB CE un F b pl en ps hs) {x : Hs} (hx : x ∈ hs) : kget (entD hs) x.nm = some (.ref x.e) := kget_of (by rw [entD_keys]; exact g.nd) (List.mem_map.mpr ⟨x, hx, rfl⟩)
theorem sort_strs {m : Bool} {v : Val} {l : List Str} {F : MH} {Q : Q1} (e : lsOf F v = some (l.map .str)) (hl : l.length < 64) (q : newLs m ((sortS l).map .str) F Q) : sortedF m v F Q := by
  unfold sortedF
  simp only [e, asStrs_map]
  exact ⟨hl, q⟩
def spPersons (CB : Addr) : Spec := fun vs F Q _ => ∃ b pl en ps es, vs = [.ref b] ∧ BkC CB F b pl en ps es ∧ ps.length < 64 ∧ Q (.lst ((sortS ps).map .str)) F
theorem w_persons {Γ : Amb} {CB : Addr} {fp : FldR Γ "people"} (h1 : fp.C = CB) : ∀ vs F Q E, spPersons CB vs F Q E → wpB (fun C fs _ F => E C fs F) (c_Book_persons fp) (start1 n_Book_persons vs) F (fun _ F => Q .non F) Q := by
  rintro vs F Q E ⟨b, pl, en, ps, es, rfl, bk, hl, h⟩
  unfold c_Book_persons
  simp only [wpB, wpS, wpE, wpEs, wpT, wpTs, wpCs, wpP, wpIt, wpBl, bindT, biS, recS, truS, start1, List.map, List.length, List.replicate, List.append_nil, List.nil_append, List.cons_append, Nat.sub_self, Nat.reduceSub, Nat.reduceAdd, List.length_cons, List.length_nil, List.getElem?_cons_zero, List.getElem?_cons_succ, List.set_cons_zero, List.set_cons_succ, setAll, wipe1, Tg.slots, binS, subS, fdivS, modS, powS, cmpS, ltS, isS, isNS, asStrs, asBls, newLs, n_Book_persons, bk.b, h1, fld_people]
  exact ⟨trivial, sort_strs (l := ps) (by simp only [lsOf, bk.pl]) hl h⟩
theorem fld_numbers {n : Val} {h : Addr} : (entFs n h).lookup ("numbers" : Str) = some n := rfl
def spOf (CB CE : Addr) : Spec := fun vs F Q _ => ∃ b x pl en ps es e h nums held, vs = [.ref b, .str x] ∧ BkC CB F b pl en ps es ∧ kget es x = some (.ref e) ∧ EnC CE F e h nums held ∧ Q nums F
theorem w_of {Γ : Amb} {CB CE CN : Addr} {fn : FldR Γ "numbers"} {t : MethR Γ "entry_of"} (h1 : fn.C = CE) (ht : t.sp = spEntryOf CB CN) (hc : t.C = CB) : ∀ vs F Q E, spOf CB CE vs F Q E → wpB (fun C fs _ F => E C fs F) (c_Book_of fn t) (start1 n_Book_of vs) F (fun _ F => Q .non F) Q := by
  rintro vs F Q E ⟨b, x, pl, en, ps, es, e, h, nums, held, rfl, bk, hx, ec, hq⟩
  unfold c_Book_of
  simp only [wpB, wpS, wpE, wpEs, wpT, wpTs, wpCs, wpP, wpIt, wpBl, bindT, biS, recS, truS, start1, List.map, List.length, List.replicate, List.append_nil, List.nil_append, List.cons_append, Nat.sub_self, Nat.reduceSub, Nat.reduceAdd, List.length_cons, List.length_nil, List.getElem?_cons_zero, List.getElem?_cons_succ, List.set_cons_zero, List.set_cons_succ, setAll, wipe1, Tg.slots, binS, subS, fdivS, modS, powS, cmpS, ltS, isS, isNS, asStrs, asBls, newLs, n_Book_of, bk.b, h1, ht, hc]
  refine ⟨trivial, rfl, b, x, pl, en, ps, es, rfl, bk, .inl ⟨_, hx, ?_⟩⟩
  simp only [ec.e, fld_numbers]
  exact ⟨trivial, hq⟩
theorem Ext.trans {F F' F'' : MH} (h : Ext F F') (h2 : Ext F' F'') : Ext F F'' := fun a c e => h2 a c (h a c e)
theorem lsOf_lst {F : MH} {vs : List Val} : lsOf F (.lst vs) = some vs := rfl
theorem eqS_str {a b : Str} {F : MH} {Q : Bool → Prop} (h1 : VS a) (h2 : VS b) (h : Q (decide (a = b))) : eqS (.str a) (.str b) F Q := by
  refine ⟨h1, h2, ?_⟩
  have e : PyData.eqv (toPD (rdF F (.str a))) (toPD (rdF F (.str b))) = decide (a = b) := by
    simp only [rdF, toPD, PyData.eqv]
    by_cases q : a = b <;> simp [q]
  rw [e]
  exact h
open TL in
/-- the book, its shares in lowest terms, all names texts -/
structure Gc (CB CE : Addr) (un : List Str) (F : MH) (b pl en : Addr) (ps : List Str) (hs : List Hs) : Prop where
  g : Gr CB CE un F b pl en ps hs
  c : Can hs
  vu : ∀ w ∈ un, VS w
  hu : ∀ x ∈ hs, x.nm ∈ un
  pu : ∀ z ∈ ps, z ∈ un
  pl6 : ps.length ≤ 6
theorem Gc.ext {CB CE : Addr} {un : List Str} {F F' : MH} {b pl en : Addr} {ps : List Str} {hs : List Hs} (h : Gc CB CE un F b pl en ps hs) (e : Ext F F') : Gc CB CE un F' b pl en ps hs := { h with g := h.g.ext e }
/-! ### share_of -/
def spShareOf (CB CE : Addr) : Spec := fun vs F Q _ => ∃ b y z un pl en ps hs, vs = [.ref b, .str y, .str z] ∧ Gc CB CE un F b pl en ps hs ∧ z ∈ un ∧ y ∈ hs.map (·.nm) ∧ Q (frR (shr (hel hs y) z)) F
theorem w_share_of {Γ : Amb} {CB CE CN : Addr} {t : MethR Γ "shares"} (ht : t.sp = spShares CB CE CN) (htc : t.C = CB) : ∀ vs F Q E, spShareOf CB CE vs F Q E → wpB (fun C fs _ F => E C fs F) (c_share_of t) (start1 n_share_of vs) F (fun _ F => Q .non F) Q := by
  rintro vs F Q E ⟨b, y, z, un, pl, en, ps, hs, rfl, gc, hzu, hy, h⟩
  have g := gc.g
  have c := gc.c
  obtain ⟨x, hx, rfl⟩ := mem_names hy
  rw [hel_of g.nd hx] at h
  unfold c_share_of
  simp only [wpB, wpS, wpE, wpEs, wpT, wpTs, wpCs, wpP, wpIt, wpBl, bindT, biS, recS, truS, start1, List.map, List.length, List.replicate, List.append_nil, List.nil_append, List.cons_append, Nat.sub_self, Nat.reduceSub, Nat.reduceAdd, List.length_cons, List.length_nil, List.getElem?_cons_zero, List.getElem?_cons_succ, List.set_cons_zero, List.set_cons_succ, setAll, wipe1, Tg.slots, binS, subS, fdivS, modS, powS, cmpS, ltS, isS, isNS, asStrs, asBls, newLs, n_share_of, ht, htc, g.c.b]
  refine ⟨trivial, rfl, b, x.nm, pl, en, ps, entD hs, x.e, x.h, numV x.nums, x.held, rfl, g.c, g.kg hx, g.ent x hx, g.hl x hx, ?_⟩
  simp only [lsOf_lst]
  refine forGo_inv (fun i σ F2 => (∃ s3 s4, σ = [some (.ref b), some (.str x.nm), some (.str z), s3, s4]) ∧ F2 = F ∧ z ∉ (showS x.held).take i) (fun _ _ _ _ => by first | rfl | trivial) ?_ ?_ ⟨⟨_, _, rfl⟩, rfl, by simp⟩
  · rintro i v σ F2 k hv ⟨⟨s3, s4, rfl⟩, rfl, hz⟩ hk
    rw [List.getElem?_map] at hv
    obtain ⟨w, hw, rfl⟩ := Option.map_eq_some_iff.mp hv
    simp only [wpB, wpS, wpE, wpEs, wpT, wpTs, wpCs, wpP, wpIt, wpBl, bindT, biS, recS, truS, start1, List.map, List.length, List.replicate, List.append_nil, List.nil_append, List.cons_append, Nat.sub_self, Nat.reduceSub, Nat.reduceAdd, List.length_cons, List.length_nil, List.getElem?_cons_zero, List.getElem?_cons_succ, List.set_cons_zero, List.set_cons_succ, setAll, wipe1, Tg.slots, binS, subS, fdivS, modS, powS, cmpS, ltS, isS, isNS, asStrs, asBls, newLs]
    have hwu : w ∈ un := by
      have := List.mem_of_getElem? hw
      exact g.unm x hx w (mem_sortS.mp (List.mem_filter.mp this).1)
    refine ⟨trivial, eqS_str (gc.vu w hwu) (gc.vu z hzu) ?_⟩
    by_cases e : w = z
    · subst e
      rw [decide_eq_true rfl]
      simp only [wpB, wpS, wpE, wpEs, wpT, wpTs, wpCs, wpP, wpIt, wpBl, bindT, biS, recS, truS, start1, List.map, List.length, List.replicate, List.append_nil, List.nil_append, List.cons_append, Nat.sub_self, Nat.reduceSub, Nat.reduceAdd, List.length_cons, List.length_nil, List.getElem?_cons_zero, List.getElem?_cons_succ, List.set_cons_zero, List.set_cons_succ, setAll, wipe1, Tg.slots, binS, subS, fdivS, modS, powS, cmpS, ltS, isS, isNS, asStrs, asBls, newLs]
      obtain ⟨v, hv2, _⟩ := mem_showS.mp (List.mem_of_getElem? hw)
      have e2 := can_fq c hx w
      rw [hv2] at e2 ⊢
      show Q (frP v) F2
      rw [show v = fq (shr x.held w) from e2]
      exact h
    · rw [decide_eq_false e]
      refine hk _ _ ⟨⟨_, _, rfl⟩, rfl, fun q => ?_⟩
      rw [List.take_add_one, hw] at q
      rcases List.mem_append.mp q with q | q
      · exact hz q
      · exact e (by simpa using q : z = w).symm
  · rintro σ F2 ⟨⟨s3, s4, rfl⟩, rfl, hz⟩
    rw [List.length_map, List.take_length] at hz
    refine ⟨by rw [sizeLine_eq]; decide, ?_⟩
    have h0 : shr x.held z = 0 := by
      by_cases q : shr x.held z = 0
      · exact q
      · exact absurd ((shr_show c hx).mpr q) hz
    rw [h0] at h
    exact h
/-! ### things_of -/
def spThingsOf (CB CE : Addr) : Spec := fun vs F Q _ => ∃ b un pl en ps hs, vs = [.ref b] ∧ Gr CB CE un F b pl en ps hs ∧ Q (.lst ((nmL hs).map fun y => frR (((num3 hs y).1 : Int) : Rat))) F
/-! ### the whole group -/
theorem all_bls {vs : List Val} {bs : List Bool} {F : MH} {Q : Q1} (e : vs = bs.map .bl) (q : Q (.bl (bs.all id)) F) : boolsF (fun bs => bs.all id) (.lst vs) F Q := by
  subst e
  unfold boolsF
  simp only [lsOf_lst, asBls_map]
  exact q

def stepG (hs : List Hs) (g : List Str) : List Str := g.filter fun y => (showS (hel hs y)).all fun z => decide (z ∈ g)
def wgN (hs : List Hs) : Nat → List Str
  | 0 => nmL hs
  | k + 1 => stepG hs (wgN hs k)
def wg (hs : List Hs) : List Str := wgN hs (hs.length + 1)
theorem stepG_le (hs : List Hs) (g : List Str) : (stepG hs g).length ≤ g.length := List.length_filter_le _ _
theorem stepG_fix {hs : List Hs} {g : List Str} (h : (stepG hs g).length = g.length) : stepG hs g = g := by
  unfold stepG at h ⊢
  exact List.filter_eq_self.mpr (List.length_filter_eq_length_iff.mp h)
theorem wgN_fix {hs : List Hs} {k : Nat} (h : stepG hs (wgN hs k) = wgN hs k) : ∀ j, k ≤ j → wgN hs j = wgN hs k := by
  intro j hj
  induction j with
  | zero => rw [show k = 0 by omega]
  | succ j ih =>
    by_cases e : k = j + 1
    · rw [e]
    · show stepG hs (wgN hs j) = _
      rw [ih (by omega), h]
theorem wgN_sub {hs : List Hs} : ∀ {k : Nat} {y : Str}, y ∈ wgN hs k → y ∈ hs.map (·.nm)
  | 0, y, h => nmL_mem.mp h
  | k + 1, y, h => wgN_sub (k := k) (List.mem_filter.mp h).1
/-- groups that hold all of themselves are in it -/
theorem wgN_great {hs : List Hs} {T : Str → Prop} (hT : ∀ y, T y → y ∈ hs.map (·.nm) ∧ ∀ z ∈ showS (hel hs y), T z) : ∀ (k : Nat) (y : Str), T y → y ∈ wgN hs k
  | 0, y, h => nmL_mem.mpr (hT y h).1
  | k + 1, y, h => by
    refine List.mem_filter.mpr ⟨wgN_great hT k y h, List.all_eq_true.mpr fun z hz => decide_eq_true (wgN_great hT k z ((hT y h).2 z hz))⟩
theorem wgN_len {hs : List Hs} : ∀ {k : Nat}, (∀ j, j < k → stepG hs (wgN hs j) ≠ wgN hs j) → (wgN hs k).length + k ≤ hs.length
  | 0, _ => by show (nmL hs).length + 0 ≤ _; rw [nmL_len]; omega
  | k + 1, h => by
    have ih := wgN_len (k := k) fun j hj => h j (by omega)
    have h1 := stepG_le hs (wgN hs k)
    have h2 : (stepG hs (wgN hs k)).length ≠ (wgN hs k).length := fun e => h k (by omega) (stepG_fix e)
    show (stepG hs (wgN hs k)).length + (k + 1) ≤ _
    omega
theorem wg_is {hs : List Hs} {k : Nat} (h0 : ∀ j, j < k → stepG hs (wgN hs j) ≠ wgN hs j) (h : stepG hs (wgN hs k) = wgN hs k) : wgN hs k = wg hs := by
  have := wgN_len h0
  exact (wgN_fix h (hs.length + 1) (by omega)).symm
def spWhole (CB CE : Addr) : Spec := fun vs F Q _ => ∃ b un pl en ps hs, vs = [.ref b] ∧ Gr CB CE un F b pl en ps hs ∧ ∀ F', Ext F F' → Q (.lst ((wg hs).map .str)) F'
theorem w_whole_group {Γ : Amb} {CB CE CN : Addr} {t1 : MethR Γ "shares"} {t2 : MethR Γ "houses"} (h1 : t1.sp = spShares CB CE CN) (h1c : t1.C = CB) (h2 : t2.sp = spHouses CB) (h2c : t2.C = CB) : ∀ vs F Q E, spWhole CB CE vs F Q E → wpB (fun C fs _ F => E C fs F) (c_whole_group t1 t2) (start1 n_whole_group vs) F (fun _ F => Q .non F) Q := by
  rintro vs F Q E ⟨b, un, pl, en, ps, hs, rfl, g, h⟩
  have hlen := g.len
  unfold c_whole_group
  simp only [wpB, wpS, wpE, wpEs, wpT, wpTs, wpCs, wpP, wpIt, wpBl, bindT, biS, recS, truS, start1, List.map, List.length, List.replicate, List.append_nil, List.nil_append, List.cons_append, Nat.sub_self, Nat.reduceSub, Nat.reduceAdd, List.length_cons, List.length_nil, List.getElem?_cons_zero, List.getElem?_cons_succ, List.set_cons_zero, List.set_cons_succ, setAll, wipe1, Tg.slots, binS, subS, fdivS, modS, powS, cmpS, ltS, isS, isNS, asStrs, asBls, newLs, n_whole_group, h1, h1c, h2, h2c, g.c.b]
  refine ⟨trivial, rfl, b, pl, en, ps, entD hs, rfl, g.c, by unfold entD; rw [List.length_map]; omega, ?_⟩
  rw [entD_keys]
  refine ⟨fun m σ F1 => Ext F F1 ∧ ∃ (k : Nat) (gv : Val) (bl : Bool) (s3 s4 s5 s6 : Option Val), σ = [some (.ref b), some gv, some (.bl bl), s3, s4, s5, s6] ∧ lsOf F1 gv = some ((wgN hs k).map .str) ∧ ((bl = true ∧ m = (wgN hs k).length + 1 ∧ ∀ j, j < k → stepG hs (wgN hs j) ≠ wgN hs j) ∨ (bl = false ∧ m = 0 ∧ (∃ p, gv = .ref p ∧ F1 p = some (.lst ((wgN hs k).map .str)) ∧ F p = none) ∧ wgN hs k = wg hs)), ⟨_, Ext.refl F, 0, _, true, _, _, _, _, rfl, rfl, .inl ⟨rfl, rfl, fun j hj => by omega⟩⟩, ?_⟩
  rintro m σ F1 ⟨ex, k, gv, bl, s3, s4, s5, s6, rfl, hgv, hc⟩
  rcases hc with ⟨rfl, rfl, hne⟩ | ⟨rfl, rfl, ⟨p, rfl, hp, hpn⟩, hw⟩
  · simp only [wpB, wpS, wpE, wpEs, wpT, wpTs, wpCs, wpP, wpIt, wpBl, bindT, biS, recS, truS, start1, List.map, List.length, List.replicate, List.append_nil, List.nil_append, List.cons_append, Nat.sub_self, Nat.reduceSub, Nat.reduceAdd, List.length_cons, List.length_nil, List.getElem?_cons_zero, List.getElem?_cons_succ, List.set_cons_zero, List.set_cons_succ, setAll, wipe1, Tg.slots, binS, subS, fdivS, modS, powS, cmpS, ltS, isS, isNS, asStrs, asBls, newLs]
    refine ⟨by rw [sizeLine_eq]; decide, ?_⟩
    intro p' hp'
    have exn : ∀ l : List Val, Ext F1 (mset F1 p' (.lst l)) := fun l => (Ext.refl F1).new hp'
    rw [lsOf_ext (exn []) hgv]
    simp only []
    refine forGo_inv (fun i σ F2 => (∃ s4 s5 s6, σ = [some (.ref b), some gv, some (.bl true), some (.ref p'), s4, s5, s6]) ∧ F2 = mset F1 p' (.lst ((((wgN hs k).take i).filter fun y => (showS (hel hs y)).all fun z => decide (z ∈ wgN hs k)).map .str))) (fun _ _ _ ⟨_, e⟩ => by rw [e]; exact lsOf_ext (exn _) hgv) ?_ ?_ ⟨⟨_, _, _, rfl⟩, rfl⟩
    · rintro i v σ F2 kk hv ⟨⟨s4, s5, s6, rfl⟩, rfl⟩ hk
      rw [List.getElem?_map] at hv
      obtain ⟨y, hy, rfl⟩ := Option.map_eq_some_iff.mp hv
      obtain ⟨x, hx, rfl⟩ := mem_names (wgN_sub (List.mem_of_getElem? hy))
      have g2 := (g.ext ex).ext (exn ((((wgN hs k).take i).filter fun y => (showS (hel hs y)).all fun z => decide (z ∈ wgN hs k)).map .str))
      have hg2 := lsOf_ext (exn ((((wgN hs k).take i).filter fun y => (showS (hel hs y)).all fun z => decide (z ∈ wgN hs k)).map .str)) hgv
      have hk1 : ∀ F', F' = mset F1 p' (.lst ((((wgN hs k).take (i + 1)).filter fun y => (showS (hel hs y)).all fun z => decide (z ∈ wgN hs k)).map .str)) → ∀ s4 s5 s6, kk [some (.ref b), some gv, some (.bl true), some (.ref p'), s4, s5, s6] F' := fun F' e s4 s5 s6 => hk _ _ ⟨⟨_, _, _, rfl⟩, e⟩
      rw [List.take_add_one, hy, List.filter_append] at hk1
      have hmm : ∀ l, mset F1 p' (.lst l) p' = some (.lst l) := fun l => mset_same
      have hms : ∀ l l2 : List Val, mset (mset F1 p' (.lst l)) p' (.lst l2) = mset F1 p' (.lst l2) := fun l l2 => mset_mset
      have hle : ((((wgN hs k).take i).filter fun y => (showS (hel hs y)).all fun z => decide (z ∈ wgN hs k)).map Val.str).length ≤ 8 := by
        rw [List.length_map]
        have := List.length_filter_le (fun y => (showS (hel hs y)).all fun z => decide (z ∈ wgN hs k)) ((wgN hs k).take i)
        have h3 : ((wgN hs k).take i).length ≤ (wgN hs k).length := by rw [List.length_take]; omega
        have h4 : (wgN hs k).length ≤ hs.length := by have := wgN_len hne; omega
        omega
      generalize hL : ((((wgN hs k).take i).filter fun y => (showS (hel hs y)).all fun z => decide (z ∈ wgN hs k)).map Val.str) = L at *
      simp only [wpB, wpS, wpE, wpEs, wpT, wpTs, wpCs, wpP, wpIt, wpBl, bindT, biS, recS, truS, start1, List.map, List.length, List.replicate, List.append_nil, List.nil_append, List.cons_append, Nat.sub_self, Nat.reduceSub, Nat.reduceAdd, List.length_cons, List.length_nil, List.getElem?_cons_zero, List.getElem?_cons_succ, List.set_cons_zero, List.set_cons_succ, setAll, wipe1, Tg.slots, binS, subS, fdivS, modS, powS, cmpS, ltS, isS, isNS, asStrs, asBls, newLs, g2.c.b]
      refine ⟨trivial, rfl, b, x.nm, pl, en, ps, entD hs, x.e, x.h, numV x.nums, x.held, rfl, g2.c, g.kg hx, g2.ent x hx, g.hl x hx, ?_⟩
      simp only [lsOf_lst]
      have hshl : (showS x.held).length < 64 := by
        unfold showS
        have h2 := List.length_filter_le (fun k => decide (hget x.held k ≠ some (0, 1))) (sortS (x.held.map (·.1)))
        rw [sortS_length, List.length_map] at h2
        have := g.hl x hx
        omega
      refine lcGo_inv (fun i acc F3 => acc = ((showS x.held).take i).map (fun z => .bl (decide (z ∈ wgN hs k))) ∧ F3 = mset F1 p' (.lst L)) (by rw [List.length_map, sizeLine_eq]; omega) (fun _ _ _ _ => by first | rfl | trivial) ?_ ?_ ⟨rfl, rfl⟩
      · rintro i2 v acc F3 k3 hv ⟨rfl, rfl⟩ hk3 _
        rw [List.getElem?_map] at hv
        obtain ⟨w, hw, rfl⟩ := Option.map_eq_some_iff.mp hv
        simp only [wpB, wpS, wpE, wpEs, wpT, wpTs, wpCs, wpP, wpIt, wpBl, bindT, biS, recS, truS, start1, List.map, List.length, List.replicate, List.append_nil, List.nil_append, List.cons_append, Nat.sub_self, Nat.reduceSub, Nat.reduceAdd, List.length_cons, List.length_nil, List.getElem?_cons_zero, List.getElem?_cons_succ, List.set_cons_zero, List.set_cons_succ, setAll, wipe1, Tg.slots, binS, subS, fdivS, modS, powS, cmpS, ltS, isS, isNS, asStrs, asBls, newLs]
        refine ⟨trivial, in_strs hg2 ?_⟩
        refine hk3 _ _ ⟨?_, rfl⟩
        rw [List.take_add_one, hw, List.map_append]
        rfl
      · rintro acc F3 ⟨rfl, rfl⟩
        rw [List.length_map, List.take_length]
        refine all_bls (bs := (showS x.held).map fun z => decide (z ∈ wgN hs k)) (by rw [List.map_map]; rfl) ?_
        have hP : ((showS x.held).map fun z => decide (z ∈ wgN hs k)).all id = ((showS (hel hs x.nm)).all fun z => decide (z ∈ wgN hs k)) := by
          rw [hel_of g.nd hx, List.all_map]
          rfl
        rw [hP]
        have hfT : List.filter (fun y => (showS (hel hs y)).all fun z => decide (z ∈ wgN hs k)) [x.nm] = if ((showS (hel hs x.nm)).all fun z => decide (z ∈ wgN hs k)) = true then [x.nm] else [] := by
          rw [List.filter_cons]
          rfl
        cases hB : ((showS (hel hs x.nm)).all fun z => decide (z ∈ wgN hs k)) with
        | true =>
          simp only []
          refine ⟨⟨p', _, rfl, mset_same⟩, ?_⟩
          simp only [bmS, hmm, hms]
          refine ⟨by rw [sizeLine_eq]; omega, hk1 _ ?_ _ _ _⟩
          show mset F1 p' _ = mset F1 p' _
          rw [show (some x.nm).toList = [x.nm] from rfl, hfT, hB, if_pos rfl, List.map_append, hL]
          rfl
        | false =>
          simp only []
          refine hk1 _ ?_ _ _ _
          rw [show (some x.nm).toList = [x.nm] from rfl, hfT, hB, if_neg Bool.false_ne_true, List.append_nil, hL]
    · rintro σ F2 ⟨⟨s4, s5, s6, rfl⟩, rfl⟩
      rw [List.length_map, List.take_length]
      rw [show (wgN hs k).filter (fun y => (showS (hel hs y)).all fun z => decide (z ∈ wgN hs k)) = wgN hs (k + 1) from rfl]
      have hgv2 := lsOf_ext (exn ((wgN hs (k + 1)).map .str)) hgv
      simp only [wpB, wpS, wpE, wpEs, wpT, wpTs, wpCs, wpP, wpIt, wpBl, bindT, biS, recS, truS, start1, List.map, List.length, List.replicate, List.append_nil, List.nil_append, List.cons_append, Nat.sub_self, Nat.reduceSub, Nat.reduceAdd, List.length_cons, List.length_nil, List.getElem?_cons_zero, List.getElem?_cons_succ, List.set_cons_zero, List.set_cons_succ, setAll, wipe1, Tg.slots, binS, subS, fdivS, modS, powS, cmpS, ltS, isS, isNS, asStrs, asBls, newLs]
      refine len_ls ls_cell (len_ls hgv2 ?_)
      have hpf : F p' = none := ex.none hp'
      rw [List.length_map, List.length_map]
      refine ⟨if (wgN hs (k + 1)).length < (wgN hs k).length then (wgN hs (k + 1)).length + 1 else 0, ?_, ex.trans (exn _), k + 1, .ref p', decide (((wgN hs (k + 1)).length : Int) < ((wgN hs k).length : Int)), _, _, _, _, rfl, ls_cell, ?_⟩
      · split <;> omega
      · by_cases hlt : (wgN hs (k + 1)).length < (wgN hs k).length
        · left
          refine ⟨decide_eq_true (by omega), if_pos hlt, fun j hj => ?_⟩
          by_cases e : j = k
          · subst e
            intro q
            have : (wgN hs (j + 1)).length = (wgN hs j).length := congrArg List.length q
            omega
          · exact hne j (by omega)
        · right
          have hle := stepG_le hs (wgN hs k)
          have hfix : stepG hs (wgN hs k) = wgN hs k := stepG_fix (by
            have : (stepG hs (wgN hs k)).length = (wgN hs (k + 1)).length := rfl
            omega)
          refine ⟨decide_eq_false (by omega), if_neg hlt, ⟨p', rfl, mset_same, hpf⟩, ?_⟩
          show stepG hs (wgN hs k) = _
          rw [hfix]
          exact wg_is hne hfix
  · simp only [wpB, wpS, wpE, wpEs, wpT, wpTs, wpCs, wpP, wpIt, wpBl, bindT, biS, recS, truS, start1, List.map, List.length, List.replicate, List.append_nil, List.nil_append, List.cons_append, Nat.sub_self, Nat.reduceSub, Nat.reduceAdd, List.length_cons, List.length_nil, List.getElem?_cons_zero, List.getElem?_cons_succ, List.set_cons_zero, List.set_cons_succ, setAll, wipe1, Tg.slots, binS, subS, fdivS, modS, powS, cmpS, ltS, isS, isNS, asStrs, asBls, newLs, hp]
    rw [hw]
    refine h _ fun a c e => ?_
    have : a ≠ p := fun z => by rw [z, hpn] at e; cases e
    rw [mdel_ne this]
    exact ex a c e
end Bv

set_option pp.maxSteps 900
/-! Worths and parts. -/
namespace Bv
open PySem L2 PyProof.Rows
def nmA (hs : List Hs) (r : Nat) : Str := (nmL hs).getD r Str.empty
theorem nmA_get {hs : List Hs} {r : Nat} (h : r < hs.length) : (nmL hs)[r]? = some (nmA hs r) := by
  unfold nmA
  have h2 : r < (nmL hs).length := by rw [nmL_len]; exact h
  rw [List.getElem?_eq_getElem h2, List.getD_eq_getElem?_getD, List.getElem?_eq_getElem h2]
  rfl
theorem nmA_mem {hs : List Hs} {r : Nat} (h : r < hs.length) : nmA hs r ∈ hs.map (·.nm) := nmL_mem.mp (List.mem_of_getElem? (nmA_get h))
theorem nmL_range (hs : List Hs) : nmL hs = (List.range hs.length).map (nmA hs) := by
  apply List.ext_getElem?
  intro i
  rw [List.getElem?_map]
  by_cases h : i < hs.length
  · rw [nmA_get h, List.getElem?_range h]; rfl
  · rw [List.getElem?_eq_none (by rw [nmL_len]; omega), List.getElem?_eq_none (by rw [List.length_range]; omega)]; rfl
theorem nmA_inj {hs : List Hs} (nd : (hs.map (·.nm)).Nodup) {r c : Nat} (hr : r < hs.length) (hc : c < hs.length) (h : nmA hs r = nmA hs c) : r = c := by
  have h1 := nmA_get hr
  have h2 := nmA_get hc
  rw [h] at h1
  have nd2 := nmL_nodup nd
  exact (List.getElem?_inj (by rw [nmL_len]; exact hr) nd2).mp (h1.trans h2.symm)
/-- what house r has of house c -/
def shm (hs : List Hs) : Mx := fun r c => shr (hel hs (nmA hs c)) (nmA hs r)
/-- the equations of the worths -/
def amx (hs : List Hs) (t : Nat → Rat) : Mx := fun r c => if c = hs.length then t r else dl r c - shm hs r c
def wor (hs : List Hs) (t : Nat → Rat) (r : Nat) : Rat := gj (amx hs t) hs.length r hs.length
structure Okm (hs : List Hs) (t : Nat → Rat) : Prop where
  sb : ∀ r c, r < hs.length → c < hs.length → Bd 2900 2900 (shm hs r c)
  pv : ∀ k, k < hs.length → 0 < gj (amx hs t) k k k ∧ Bd 2900 2900 (gj (amx hs t) k k k)
  bd : ∀ k i j, k ≤ hs.length → i < hs.length → j ≤ hs.length → BdC (gj (amx hs t) k i j)
theorem ne_refl0 {F : MH} {Q : Bool → Prop} (h : Q true) : eqS (.lst []) (.lst []) F Q := by
  refine ⟨by simp [rdF, okD], by simp [rdF, okD], ?_⟩
  have e : PyData.eqv (toPD (rdF F (.lst []))) (toPD (rdF F (.lst []))) = true := by simp [rdF, toPD, PyData.eqv, PyData.eqvAll]
  rw [e]
  exact h
/-! ### must_part -/
/-- refused with the group, or let through -/
def orW (CW : Addr) (g : List Str) (E : X1) (Q : MH → Prop) : MH → Prop := fun F => if g = [] then Q F else E CW [("group", .lst (g.map .str))] F
theorem orW_nil {CW : Addr} {E : X1} {Q : MH → Prop} {F : MH} {g : List Str} (h : g = []) : orW CW g E Q F = Q F := if_pos h
theorem orW_cons {CW : Addr} {E : X1} {Q : MH → Prop} {F : MH} {g : List Str} (h : g ≠ []) : orW CW g E Q F = E CW [("group", .lst (g.map .str))] F := if_neg h
def spMustPart (CB CE CW : Addr) : Spec := fun vs F Q E => ∃ b un pl en ps hs, vs = [.ref b] ∧ Gr CB CE un F b pl en ps hs ∧ ∀ F', Ext F F' → orW CW (wg hs) E (fun F => Q .non F) F'
theorem w_must_part {Γ : Amb} {CB CE CW : Addr} {yw : RaiGR Γ "Whole" "group"} {r : CallR1 Γ "whole_group"} (hy : yw.C = CW) (hr : r.sp = spWhole CB CE) : ∀ vs F Q E, spMustPart CB CE CW vs F Q E → wpB (fun C fs _ F => E C fs F) (c_must_part yw r) (start1 n_must_part vs) F (fun _ F => Q .non F) Q := by
  rintro vs F Q E ⟨b, un, pl, en, ps, hs, rfl, g, h⟩
  unfold c_must_part
  simp only [wpB, wpS, wpE, wpEs, wpT, wpTs, wpCs, wpP, wpIt, wpBl, bindT, biS, recS, truS, start1, List.map, List.length, List.replicate, List.append_nil, List.nil_append, List.cons_append, Nat.sub_self, Nat.reduceSub, Nat.reduceAdd, List.length_cons, List.length_nil, List.getElem?_cons_zero, List.getElem?_cons_succ, List.set_cons_zero, List.set_cons_succ, setAll, wipe1, Tg.slots, binS, subS, fdivS, modS, powS, cmpS, ltS, isS, isNS, asStrs, asBls, newLs, n_must_part, hr, hy]
  refine ⟨b, un, pl, en, ps, hs, rfl, g, fun F' ex => ?_⟩
  refine ⟨by rw [sizeLine_eq]; decide, ?_⟩
  have h := h F' ex
  refine eqS_strs (l := wg hs) (m := []) rfl rfl (fun z hz => ?_) (fun _ h => nomatch h) ?_
  · obtain ⟨x, hx, rfl⟩ := mem_names (wgN_sub hz)
    exact g.vs x hx
  · by_cases hw : wg hs = []
    · rw [orW_nil hw] at h
      rw [decide_eq_true hw]
      exact h
    · rw [orW_cons hw] at h
      rw [decide_eq_false hw]
      exact h
/-! ### worths_by -/
theorem frR_int (i : Int) : frR (i : Rat) = .tup [.int i, .int 1] := by unfold frR; rw [fq_int]; rfl
theorem add_ls {xs ys : List Val} {F : MH} {Q : Q1} (hl : xs.length + ys.length ≤ sizeLine) (q : Q (.lst (xs ++ ys)) F) : addS (.lst xs) (.lst ys) F Q := ⟨hl, q⟩
def spWorthsBy (CB CE : Addr) : Spec := fun vs F Q _ => ∃ b un pl en ps hs t, vs = [.ref b, .lst ((List.range hs.length).map fun r => frR (t r))] ∧ Gc CB CE un F b pl en ps hs ∧ Okm hs t ∧ ∀ F', Ext F F' → Q (.lst ((List.range hs.length).map fun r => frR (wor hs t r))) F'
theorem w_worths_by {Γ : Amb} {CB CE : Addr} {r1 : CallR1 Γ "solved"} {r2 : CallR1 Γ "minus"} {r3 : CallR1 Γ "share_of"} {t1 : MethR Γ "houses"} (h1 : r1.sp = spSolved) (h2 : r2.sp = spMinus) (h3 : r3.sp = spShareOf CB CE) (h4 : t1.sp = spHouses CB) (h4c : t1.C = CB) :
    ∀ vs F Q E, spWorthsBy CB CE vs F Q E → wpB (fun C fs _ F => E C fs F) (c_worths_by r1 r2 r3 t1) (start1 n_worths_by vs) F (fun _ F => Q .non F) Q := by
  rintro vs F Q E ⟨b, un, pl, en, ps, hs, t, rfl, gc, ok, h⟩
  have g := gc.g
  have hlen := g.len
  unfold c_worths_by
  simp only [wpB, wpS, wpE, wpEs, wpT, wpTs, wpCs, wpP, wpIt, wpBl, bindT, biS, recS, truS, start1, List.map, List.length, List.replicate, List.append_nil, List.nil_append, List.cons_append, Nat.sub_self, Nat.reduceSub, Nat.reduceAdd, List.length_cons, List.length_nil, List.getElem?_cons_zero, List.getElem?_cons_succ, List.set_cons_zero, List.set_cons_succ, setAll, wipe1, Tg.slots, binS, subS, fdivS, modS, powS, cmpS, ltS, isS, isNS, asStrs, asBls, newLs, n_worths_by, h1, h2, h3, h4, h4c, g.c.b]
  refine ⟨trivial, rfl, b, pl, en, ps, entD hs, rfl, g.c, by unfold entD; rw [List.length_map]; omega, ?_⟩
  rw [entD_keys, show sortS (hs.map (·.nm)) = nmL hs from rfl]
  generalize hN : hs.length = n at *
  refine ⟨by rw [sizeLine_eq]; decide, ?_⟩
  intro p hp
  simp only [lsOf_lst]
  have ex : ∀ l : List Val, Ext F (mset F p (.lst l)) := fun l => (Ext.refl F).new hp
  refine forGo_inv (fun i σ F2 => (∃ s4 s5 s6, σ = [some (.ref b), some (.lst ((List.range n).map fun r => frR (t r))), some (.lst ((nmL hs).map .str)), some (.ref p), s4, s5, s6, none]) ∧ F2 = mset F p (.lst ((List.range i).map fun r => rowV n (amx hs t r)))) (fun _ _ _ _ => by first | rfl | trivial) ?_ ?_ ⟨⟨_, _, _, rfl⟩, rfl⟩
  · rintro i v σ F2 kk hv ⟨⟨s4, s5, s6, rfl⟩, rfl⟩ hk
    have hi : i < n := by
      have := (List.getElem?_eq_some_iff.mp hv).1
      unfold enumV at this
      rw [List.length_zipWith, List.length_range, List.length_map, nmL_len] at this
      omega
    have hv2 : v = .tup [.int (i : Int), .str (nmA hs i)] := by
      unfold enumV at hv
      rw [List.getElem?_zipWith, List.getElem?_range (by rw [List.length_map, nmL_len]; omega), List.getElem?_map, nmA_get (by omega)] at hv
      exact (Option.some.inj hv).symm
    subst hv2
    have gc2 := gc.ext (ex ((List.range i).map fun r => rowV n (amx hs t r)))
    have g2 := gc2.g
    simp only [wpB, wpS, wpE, wpEs, wpT, wpTs, wpCs, wpP, wpIt, wpBl, bindT, biS, recS, truS, start1, List.map, List.length, List.replicate, List.append_nil, List.nil_append, List.cons_append, Nat.sub_self, Nat.reduceSub, Nat.reduceAdd, List.length_cons, List.length_nil, List.getElem?_cons_zero, List.getElem?_cons_succ, List.set_cons_zero, List.set_cons_succ, setAll, wipe1, Tg.slots, binS, subS, fdivS, modS, powS, cmpS, ltS, isS, isNS, asStrs, asBls, newLs, lsOf_lst, g2.c.b]
    refine ⟨trivial, ?_⟩
    refine lcGo_inv (fun j acc F3 => acc = (List.range j).map (fun c => frR (amx hs t i c)) ∧ F3 = mset F p (.lst ((List.range i).map fun r => rowV n (amx hs t r)))) (by rw [List.length_map, nmL_len, sizeLine_eq]; omega) (fun _ _ _ _ => by first | rfl | trivial) ?_ ?_ ⟨rfl, rfl⟩
    · rintro j v acc F3 k3 hv ⟨rfl, rfl⟩ hk3 _
      rw [List.getElem?_map] at hv
      obtain ⟨y, hy, rfl⟩ := Option.map_eq_some_iff.mp hv
      have hj : j < hs.length := by have := (List.getElem?_eq_some_iff.mp hy).1; rwa [nmL_len] at this
      rw [nmA_get hj] at hy
      cases hy
      have hmi := nmA_mem (hs := hs) (r := i) (by omega)
      have hmj := nmA_mem hj
      have hui : nmA hs i ∈ un := by obtain ⟨x, hx, e⟩ := mem_names hmi; rw [← e]; exact gc.hu x hx
      have huj : nmA hs j ∈ un := by obtain ⟨x, hx, e⟩ := mem_names hmj; rw [← e]; exact gc.hu x hx
      refine eqS_str (gc.vu _ hui) (gc.vu _ huj) ?_
      have hd : decide (nmA hs i = nmA hs j) = decide (i = j) := by
        by_cases e : i = j
        · rw [e]; simp
        · rw [decide_eq_false e, decide_eq_false fun z => e (nmA_inj g.nd (by omega) hj z)]
      rw [hd]
      have hdl : frR (dl i j) = .tup [.int (if decide (i = j) = true then 1 else 0), .int 1] := by
        by_cases e : i = j
        · rw [if_pos (decide_eq_true e)]
          unfold dl
          rw [if_pos e]
          rfl
        · rw [if_neg (by simpa using e)]
          unfold dl
          rw [if_neg e]
          rfl
      have hbd : Bd 1 1 (dl i j) := by
        unfold dl
        split
        · exact Bd.one
        · exact Bd.zero
      show 2 ≤ sizeLine ∧ _
      refine ⟨by rw [sizeLine_eq]; decide, b, nmA hs j, nmA hs i, un, pl, en, ps, hs, rfl, gc2, hui, hmj, ?_⟩
      refine minusR ⟨dl i j, shm hs i j, 1, 1, 2900, 2900, ?_, hbd, ok.sb i j (by omega) hj, by omega, by omega, by omega, ?_⟩
      · rw [hdl]; rfl
      refine hk3 _ _ ⟨?_, rfl⟩
      rw [List.range_succ, List.map_append]
      congr 1
      show [_] = [frR (amx hs t i j)]
      unfold amx
      rw [if_neg (by omega)]
    · rintro acc F3 ⟨rfl, rfl⟩
      rw [List.length_map, nmL_len]
      refine ⟨⟨p, _, rfl, mset_same⟩, ?_⟩
      refine ix_list (vs := (List.range n).map fun r => frR (t r)) rfl (by omega) (v := frR (t i)) (by rw [Int.toNat_natCast, List.getElem?_map, List.getElem?_range hi]; rfl) ?_
      refine ⟨by rw [sizeLine_eq]; decide, add_ls (by rw [List.length_map, List.length_range, sizeLine_eq]; simp only [List.length_cons, List.length_nil]; omega) ?_⟩
      simp only [bmS, mset_same, mset_mset]
      refine ⟨by rw [List.length_map, List.length_range, sizeLine_eq]; omega, hk _ _ ⟨⟨_, _, _, rfl⟩, ?_⟩⟩
      rw [List.range_succ, List.map_append]
      congr 3
      show [_] = [rowV n (amx hs t i)]
      unfold rowV rowL
      rw [List.range_succ, List.map_append, hN]
      congr 3
      show [frR (t i)] = [frR (amx hs t i n)]
      unfold amx
      rw [if_pos hN.symm]
  · rintro σ F2 ⟨⟨s4, s5, s6, rfl⟩, rfl⟩
    have hel : (enumV ((nmL hs).map Val.str)).length = n := by
      unfold enumV
      rw [List.length_zipWith, List.length_range, List.length_map, nmL_len]
      omega
    rw [hel]
    simp only [wpB, wpS, wpE, wpEs, wpT, wpTs, wpCs, wpP, wpIt, wpBl, bindT, biS, recS, truS, start1, List.map, List.length, List.replicate, List.append_nil, List.nil_append, List.cons_append, Nat.sub_self, Nat.reduceSub, Nat.reduceAdd, List.length_cons, List.length_nil, List.getElem?_cons_zero, List.getElem?_cons_succ, List.set_cons_zero, List.set_cons_succ, setAll, wipe1, Tg.slots, binS, subS, fdivS, modS, powS, cmpS, ltS, isS, isNS, asStrs, asBls, newLs]
    refine ⟨.ref p, n, amx hs t, rfl, ls_cell, by omega, ?_, ?_, fun F' ex2 => ?_⟩
    · rw [← hN]; exact ok.pv
    · rw [← hN]; exact ok.bd
    · have := h F' ((ex _).trans ex2)
      unfold wor at this
      rw [hN] at this
      exact this
/-! ### worths -/
def thg (hs : List Hs) (r : Nat) : Rat := (((num3 hs (nmA hs r)).1 : Int) : Rat)
theorem thg_list (hs : List Hs) : ((nmL hs).map fun y => frR (((num3 hs y).1 : Int) : Rat)) = (List.range hs.length).map fun r => frR (thg hs r) := by
  rw [nmL_range, List.map_map]
  rfl
def worL (hs : List Hs) : List Val := (List.range hs.length).map fun r => .tup [.str (nmA hs r), frR (wor hs (thg hs) r)]
def spWorths (CB CE CW : Addr) : Spec := fun vs F Q E => ∃ b un pl en ps hs, vs = [.ref b] ∧ Gc CB CE un F b pl en ps hs ∧ (wg hs = [] → Okm hs (thg hs)) ∧ ∀ F', Ext F F' → orW CW (wg hs) E (Q (.lst (worL hs))) F'
/-! ### parts -/
/-- what comes to a holder of worths -/
def partS (hs : List Hs) (t : Nat → Rat) (z : Str) : Rat := sm hs.length fun r => shr (hel hs (nmA hs r)) z * wor hs t r
def spPartOf (CB CE : Addr) : Spec := fun vs F Q _ => ∃ b z un pl en ps hs, ∃ (v : Nat → Rat) (a c : Nat), vs = [.ref b, .str z, .lst ((List.range hs.length).map fun r => frR (v r))] ∧ Gc CB CE un F b pl en ps hs ∧ z ∈ un ∧ a < 4500 ∧ c < 9000 ∧
  (∀ r, r < hs.length → Bd 2900 2900 (shr (hel hs (nmA hs r)) z) ∧ BdC (v r) ∧ Bd a c (shr (hel hs (nmA hs r)) z * v r)) ∧ (∀ i, i ≤ hs.length → Bd a c (sm i fun r => shr (hel hs (nmA hs r)) z * v r)) ∧
  ∀ F', Ext F F' → Q (frR (sm hs.length fun r => shr (hel hs (nmA hs r)) z * v r)) F'
theorem sm_sum (f : Nat → Rat) : ∀ n, ((List.range n).map f).sum = sm n f
  | 0 => rfl
  | n + 1 => by
    rw [List.range_succ, List.map_append, List.sum_append, sm_sum f n, sm]
    show _ + ([f n] : List Rat).sum = _
    rw [List.sum_cons, List.sum_nil]
    grind
theorem w_part_of {Γ : Amb} {CB CE : Addr} {r1 : CallR1 Γ "total"} {t1 : MethR Γ "houses"} {r2 : CallR1 Γ "multiplied"} {r3 : CallR1 Γ "share_of"} (h1 : r1.sp = spTotal) (h2 : r2.sp = spMul) (h3 : r3.sp = spShareOf CB CE) (h4 : t1.sp = spHouses CB) (h4c : t1.C = CB) :
    ∀ vs F Q E, spPartOf CB CE vs F Q E → wpB (fun C fs _ F => E C fs F) (c_part_of r1 t1 r2 r3) (start1 n_part_of vs) F (fun _ F => Q .non F) Q := by
  rintro vs F Q E ⟨b, z, un, pl, en, ps, hs, v, a, c, rfl, gc, hzu, ha, hc, hb1, hb2, h⟩
  have g := gc.g
  have hlen := g.len
  unfold c_part_of
  simp only [wpB, wpS, wpE, wpEs, wpT, wpTs, wpCs, wpP, wpIt, wpBl, bindT, biS, recS, truS, start1, List.map, List.length, List.replicate, List.append_nil, List.nil_append, List.cons_append, Nat.sub_self, Nat.reduceSub, Nat.reduceAdd, List.length_cons, List.length_nil, List.getElem?_cons_zero, List.getElem?_cons_succ, List.set_cons_zero, List.set_cons_succ, setAll, wipe1, Tg.slots, binS, subS, fdivS, modS, powS, cmpS, ltS, isS, isNS, asStrs, asBls, newLs, n_part_of, h1, h2, h3, h4, h4c]
  refine ⟨by rw [sizeLine_eq]; decide, ?_⟩
  intro p hp
  have ex : ∀ l : List Val, Ext F (mset F p (.lst l)) := fun l => (Ext.refl F).new hp
  have gc0 := gc.ext (ex [])
  simp only [gc0.g.c.b]
  refine ⟨trivial, rfl, b, pl, en, ps, entD hs, rfl, gc0.g.c, by unfold entD; rw [List.length_map]; omega, ?_⟩
  rw [entD_keys, show sortS (hs.map (·.nm)) = nmL hs from rfl]
  simp only [lsOf_lst]
  have hzl : (zipV ((nmL hs).map .str) ((List.range hs.length).map fun r => frR (v r))).length = hs.length := by
    unfold zipV
    rw [List.length_zipWith, List.length_map, nmL_len, List.length_map, List.length_range, Nat.min_self]
  refine forGo_inv (fun i σ F2 => (∃ s4 s5, σ = [some (.ref b), some (.str z), some (.lst ((List.range hs.length).map fun r => frR (v r))), some (.ref p), s4, s5]) ∧ F2 = mset F p (.lst ((List.range i).map fun r => frR (shr (hel hs (nmA hs r)) z * v r)))) (fun _ _ _ _ => by first | exact ⟨rfl, rfl⟩ | exact ⟨trivial, trivial⟩ | trivial) ?_ ?_ ⟨⟨_, _, rfl⟩, rfl⟩
  · rintro i w σ F2 kk hv ⟨⟨s4, s5, rfl⟩, rfl⟩ hk
    have hi : i < hs.length := by have := (List.getElem?_eq_some_iff.mp hv).1; rwa [hzl] at this
    have hv2 : w = .tup [.str (nmA hs i), frR (v i)] := by
      unfold zipV at hv
      rw [List.getElem?_zipWith, List.getElem?_map, nmA_get hi, List.getElem?_map, List.getElem?_range hi] at hv
      exact (Option.some.inj hv).symm
    subst hv2
    have gc2 := gc.ext (ex ((List.range i).map fun r => frR (shr (hel hs (nmA hs r)) z * v r)))
    obtain ⟨b1, b2, b3⟩ := hb1 i hi
    simp only [wpB, wpS, wpE, wpEs, wpT, wpTs, wpCs, wpP, wpIt, wpBl, bindT, biS, recS, truS, start1, List.map, List.length, List.replicate, List.append_nil, List.nil_append, List.cons_append, Nat.sub_self, Nat.reduceSub, Nat.reduceAdd, List.length_cons, List.length_nil, List.getElem?_cons_zero, List.getElem?_cons_succ, List.set_cons_zero, List.set_cons_succ, setAll, wipe1, Tg.slots, binS, subS, fdivS, modS, powS, cmpS, ltS, isS, isNS, asStrs, asBls, newLs]
    refine ⟨trivial, ⟨p, _, rfl, mset_same⟩, b, nmA hs i, z, un, pl, en, ps, hs, rfl, gc2, hzu, nmA_mem hi, ?_⟩
    refine ⟨_, v i, 2900, 2900, 2900, 4000, rfl, b1, b2, by omega, by omega, by omega, ?_⟩
    simp only [bmS, mset_same, mset_mset]
    refine ⟨by rw [List.length_map, List.length_range, sizeLine_eq]; omega, hk _ _ ⟨⟨_, _, rfl⟩, ?_⟩⟩
    rw [List.range_succ, List.map_append]
    rfl
  · rintro σ F2 ⟨⟨s4, s5, rfl⟩, rfl⟩
    rw [hzl]
    simp only [wpB, wpS, wpE, wpEs, wpT, wpTs, wpCs, wpP, wpIt, wpBl, bindT, biS, recS, truS, start1, List.map, List.length, List.replicate, List.append_nil, List.nil_append, List.cons_append, Nat.sub_self, Nat.reduceSub, Nat.reduceAdd, List.length_cons, List.length_nil, List.getElem?_cons_zero, List.getElem?_cons_succ, List.set_cons_zero, List.set_cons_succ, setAll, wipe1, Tg.slots, binS, subS, fdivS, modS, powS, cmpS, ltS, isS, isNS, asStrs, asBls, newLs]
    refine ⟨.ref p, (List.range hs.length).map (fun r => shr (hel hs (nmA hs r)) z * v r), a, c, a, c, rfl, ?_, by rw [List.length_map, List.length_range]; omega, fun i hi => ?_, fun x hx => ?_, by omega, hc, hc, ?_⟩
    · rw [ls_cell, List.map_map]
      rfl
    · rw [List.length_map, List.length_range] at hi
      rw [← List.map_take, List.take_range, Nat.min_eq_left hi, sm_sum]
      exact hb2 i hi
    · obtain ⟨r, hr, rfl⟩ := List.mem_map.mp hx
      exact (hb1 r (List.mem_range.mp hr)).2.2
    · rw [sm_sum]
      exact h _ (ex _)
structure Okp (hs : List Hs) (t : Nat → Rat) (z : Str) (a c : Nat) : Prop where
  sb : ∀ r, r < hs.length → Bd 2900 2900 (shr (hel hs (nmA hs r)) z) ∧ Bd a c (shr (hel hs (nmA hs r)) z * wor hs t r)
  sm : ∀ i, i ≤ hs.length → Bd a c (sm i fun r => shr (hel hs (nmA hs r)) z * wor hs t r)
def parL (hs : List Hs) (ps : List Str) : List Val := (sortS ps).map fun z => .tup [.str z, frR (partS hs (thg hs) z)]
def spParts (CB CE CW : Addr) : Spec := fun vs F Q E => ∃ b un pl en ps hs, ∃ (a c : Nat), vs = [.ref b] ∧ Gc CB CE un F b pl en ps hs ∧ (wg hs = [] → Okm hs (thg hs)) ∧ a < 4500 ∧ c < 9000 ∧ (wg hs = [] → ∀ z ∈ ps, Okp hs (thg hs) z a c) ∧ ∀ F', Ext F F' → orW CW (wg hs) E (Q (.lst (parL hs ps))) F'
end Bv

set_option pp.maxSteps 900
/-! What is held of houses as equations. -/
namespace Bv
open PySem L2 PyProof.Rows
theorem hget_cons (a : Str × (Int × Int)) (l : Held) (z : Str) : hget (a :: l) z = if a.1 = z then some a.2 else hget l z := by
  unfold hget
  by_cases h : a.1 = z
  · rw [if_pos h, List.find?_cons_of_pos (by simp [h])]; rfl
  · rw [if_neg h, List.find?_cons_of_neg (by simp [h])]
theorem sum_put {f g : Str → Rat} {y : Str} {w : Rat} (h1 : f y = w) (h0 : g y = 0) (h : ∀ z, z ≠ y → f z = g z) : ∀ {ns : List Str}, ns.Nodup → (ns.map f).sum = (ns.map g).sum + if y ∈ ns then w else 0
  | [], _ => by
    rw [List.map_nil, List.map_nil, List.sum_nil, if_neg (by simp)]
    grind
  | a :: ns, nd => by
    rw [List.nodup_cons] at nd
    have ih := sum_put h1 h0 h nd.2
    rw [List.map_cons, List.sum_cons, List.map_cons, List.sum_cons, ih]
    by_cases e : a = y
    · subst e
      rw [if_neg nd.1, if_pos List.mem_cons_self, h1, h0]
      grind
    · rw [h a e]
      by_cases q : y ∈ ns
      · rw [if_pos q, if_pos (List.mem_cons_of_mem _ q)]; grind
      · rw [if_neg q, if_neg (fun z => (List.mem_cons.mp z).elim (fun z => e z.symm) q)]; grind
theorem shr_none {l : Held} {z : Str} (h : z ∉ l.map (·.1)) : shr l z = 0 := by
  unfold shr
  rw [hget_none.mpr h]
  exact rt_zero
theorem sum_names {ns : List Str} (nd : ns.Nodup) : ∀ {l : Held}, (l.map (·.1)).Nodup → (ns.map (shr l)).sum + (l.map fun x => if x.1 ∈ ns then 0 else rt x.2).sum = sumT l
  | [], _ => by
    have : ∀ ns : List Str, (ns.map (shr [])).sum = 0 := fun ns => by
      induction ns with
      | nil => rfl
      | cons a ns ih =>
        rw [List.map_cons, List.sum_cons, ih]
        have : shr [] a = 0 := rt_zero
        rw [this]
        grind
    rw [this]
    unfold sumT
    rw [List.map_nil, List.map_nil, List.sum_nil]
    grind
  | a :: l, h => by
    rw [List.map_cons, List.nodup_cons] at h
    have ih := sum_names nd h.2
    rw [sumT_cons, ← ih, List.map_cons, List.sum_cons]
    rw [sum_put (f := shr (a :: l)) (g := shr l) (y := a.1) (w := rt a.2) (by unfold shr; rw [hget_cons, if_pos rfl]; rfl) (shr_none h.1) (fun z hz => by unfold shr; rw [hget_cons, if_neg (Ne.symm hz)]) nd]
    by_cases e : a.1 ∈ ns
    · rw [if_pos e, if_pos e]; grind
    · rw [if_neg e, if_neg e]; grind
theorem sum_zero {l : List Rat} (h : ∀ x ∈ l, 0 ≤ x) (e : l.sum = 0) : ∀ x ∈ l, x = 0 := by
  induction l with
  | nil => intro x hx; cases hx
  | cons a l ih =>
    rw [List.sum_cons] at e
    have h1 := h a List.mem_cons_self
    have h2 := sum_nonneg fun x hx => h x (List.mem_cons_of_mem _ hx)
    intro x hx
    rcases List.mem_cons.mp hx with q | q
    · rw [q]; grind
    · exact ih (fun x hx => h x (List.mem_cons_of_mem _ hx)) (by grind) x q
/-- all shares of each house come to one, bottoms bounded -/
structure Led (hs : List Hs) (K : Nat) : Prop where
  c : Can hs
  nd : (hs.map (·.nm)).Nodup
  len : hs.length ≤ 8
  hn : ∀ x ∈ hs, (x.held.map (·.1)).Nodup
  tot : ∀ x ∈ hs, sumT x.held = 1
  nn : ∀ x ∈ hs, ∀ z, 0 ≤ shr x.held z ∧ shr x.held z ≤ 1
  dn : ∃ f : Str → Nat, (∀ x ∈ hs, ∃ L : Int, 0 < L ∧ L ≤ (10 ^ 29) ^ f x.nm ∧ ∀ z, IsI (shr x.held z * (L : Rat))) ∧ (hs.map fun x => f x.nm).sum ≤ K
theorem Led.at {hs : List Hs} {K : Nat} (h : Led hs K) {r : Nat} (hr : r < hs.length) : ∃ x ∈ hs, x.nm = nmA hs r ∧ hel hs (nmA hs r) = x.held := by
  obtain ⟨x, hx, e⟩ := mem_names (nmA_mem hr)
  exact ⟨x, hx, e, by rw [← e]; exact hel_of h.nd hx⟩
theorem rt_nn {l : Held} (hn : (l.map (·.1)).Nodup) (h : ∀ z, 0 ≤ shr l z) : ∀ x ∈ l, 0 ≤ rt x.2 := fun x hx => by
  have := h x.1
  unfold shr at this
  rw [hget_mem hn hx] at this
  exact this
theorem shm_sum {hs : List Hs} {c : Nat} : sm hs.length (fun r => shm hs r c) = ((nmL hs).map (shr (hel hs (nmA hs c)))).sum := by
  rw [← sm_sum, nmL_range, List.map_map]
  rfl
theorem Led.sub {hs : List Hs} {K : Nat} (h : Led hs K) (hw : wg hs = []) (t : Nat → Rat) : Sub hs.length (amx hs t) (shm hs) := by
  have key : ∀ c, c < hs.length → sm hs.length (fun r => shm hs r c) ≤ 1 ∧ (sm hs.length (fun r => shm hs r c) = 1 → ∀ z, shr (hel hs (nmA hs c)) z ≠ 0 → z ∈ nmL hs) := fun c hc => by
    obtain ⟨x, hx, e, eh⟩ := h.at hc
    rw [shm_sum, eh]
    have hs1 := sum_names (nmL_nodup h.nd) (h.hn x hx)
    rw [h.tot x hx] at hs1
    have nn := rt_nn (h.hn x hx) fun z => (h.nn x hx z).1
    have n2 : ∀ y ∈ (x.held.map fun x => if x.1 ∈ nmL hs then 0 else rt x.2), (0 : Rat) ≤ y := fun y hy => by
      obtain ⟨w, hw, rfl⟩ := List.mem_map.mp hy
      split
      · exact Rat.le_refl
      · exact nn w hw
    have n3 := sum_nonneg n2
    refine ⟨by grind, fun e1 z hz => ?_⟩
    have z0 := sum_zero n2 (by grind)
    by_cases q : z ∈ nmL hs
    · exact q
    · exfalso
      cases e2 : hget x.held z with
      | none => exact hz (by unfold shr; rw [e2]; exact rt_zero)
      | some v =>
        have := z0 (rt v) (List.mem_map.mpr ⟨(z, v), mem_of_hget e2, if_neg q⟩)
        exact hz (by unfold shr; rw [e2]; exact this)
  refine ⟨fun r c _ hc => ?_, fun r c _ hc => ?_, fun c hc => (key c hc).1, fun T ⟨c0, hc0, ht0⟩ hT => ?_⟩
  · unfold amx
    rw [if_neg (by omega)]
  · obtain ⟨x, hx, e, eh⟩ := h.at hc
    unfold shm
    rw [eh]
    exact (h.nn x hx _).1
  · have hg := wgN_great (hs := hs) (T := fun y => ∃ c, c < hs.length ∧ T c ∧ nmA hs c = y) (fun y hy => by
      obtain ⟨c, hc, ht, rfl⟩ := hy
      refine ⟨nmA_mem hc, fun z hz => ?_⟩
      obtain ⟨h1, h2⟩ := hT c hc ht
      have hz0 : shr (hel hs (nmA hs c)) z ≠ 0 := by
        obtain ⟨x, hx, e, eh⟩ := h.at hc
        rw [eh] at hz ⊢
        exact (shr_show h.c hx).mp hz
      have hzn := (key c hc).2 h1 z hz0
      rw [nmL_range] at hzn
      obtain ⟨r, hr, rfl⟩ := List.mem_map.mp hzn
      have hr := List.mem_range.mp hr
      exact ⟨r, hr, h2 r hr hz0, rfl⟩) (hs.length + 1) (nmA hs c0) ⟨c0, hc0, ht0, rfl⟩
    have : wgN hs (hs.length + 1) = [] := hw
    rw [this] at hg
    cases hg
/-- a common bottom of the answers -/
theorem gj_common {n : Nat} {A : Mx} {D : Nat → Rat} {T : Rat} (m : Mat n A D T) (h : Piv A n) : ∃ s : Int, s ≠ 0 ∧ Ab (s : Rat) (fc n * pr n D) ∧ ∀ i, i < n → (∃ q : Int, gj A n i n * (s : Rat) = (q : Rat) * D i) ∧ Ab (gj A n i n * (s : Rat)) (fc n * pr n D * T) := by
  have hP := pP_ne h
  have hd : ∀ c, c < n → 1 ≤ D c := fun c hc => m.d1 c (by omega)
  have hs0 := det_int (n := n) (M := A) (D := D) fun r c hr hc => m.int r c (by omega) (by omega)
  rw [pP_det h] at hs0
  have hs1 := det_ab (n := n) (M := A) (b := fun _ => 1) fun r c hr hc => m.ent r c (by omega) (by omega)
  rw [pP_det h, pr_one] at hs1
  have hprn := pr_ge (n := n) (f := D) hd
  have abP : Ab (pr n D) (pr n D) := ⟨by grind, by grind⟩
  obtain ⟨s, es⟩ := hs0
  have hfn := fc_pos n
  refine ⟨s, ?_, ?_, fun i hi => ?_⟩
  · rintro rfl
    have h1 : pP A n * pr n D = 0 := es
    have h3 : pr n D ≠ 0 := by grind
    exact (Rat.mul_eq_zero.mp h1).elim hP h3
  · rw [← es]
    have q := (hs1.le (B := fc n) (by grind)).mul abP
    exact q
  · have q := gj_high (k := n) (j := n) h hi
    have i0 := det_int (n := n) (M := fun r c => A r (if c = i then n else c)) (D := fun c => if c = i then 1 else D c) fun r c hr hc => by
      show IsI (A r (if c = i then n else c) * (if c = i then 1 else D c))
      by_cases z : c = i
      · rw [if_pos z, if_pos z]
        have := m.int r n hr (Nat.le_refl n)
        rwa [m.dn] at this
      · rw [if_neg z, if_neg z]; exact m.int r c (by omega) (by omega)
    rw [q] at i0
    have sw := pr_swap (k := n) (i := i) (f := D) (x := 1) hi
    obtain ⟨qq, eq⟩ := i0
    have e1 : gj A n i n * (s : Rat) = (qq : Rat) * D i := by
      rw [← eq, ← es]
      have : pP A n * gj A n i n * pr n (fun c => if c = i then 1 else D c) * D i = pP A n * gj A n i n * (pr n (fun c => if c = i then 1 else D c) * D i) := by grind
      rw [this, sw]
      grind
    refine ⟨⟨qq, e1⟩, ?_⟩
    have a0 := det_ab (n := n) (M := fun r c => A r (if c = i then n else c)) (b := fun c => if c = i then T else 1) fun r c hr hc => by
      show Ab (A r (if c = i then n else c)) (if c = i then T else 1)
      by_cases z : c = i
      · rw [if_pos z, if_pos z]; exact m.aug r hr
      · rw [if_neg z, if_neg z]; exact m.ent r c (by omega) (by omega)
    rw [q] at a0
    have sw2 := pr_swap (k := n) (i := i) (f := fun _ => 1) (x := T) hi
    rw [pr_one] at sw2
    have e3 : pr n (fun c => if c = i then T else (1 : Rat)) = T := by grind
    rw [e3] at a0
    have a1 := a0.mul abP
    have e4 : pP A n * gj A n i n * pr n D = gj A n i n * (s : Rat) := by rw [← es]; grind
    have e5 : fc n * T * pr n D = fc n * pr n D * T := by grind
    rw [e4, e5] at a1
    exact a1
theorem perm_sum {l m : List Nat} (h : l.Perm m) : l.sum = m.sum := by
  induction h with
  | nil => rfl
  | cons x _ ih => rw [List.sum_cons, List.sum_cons, ih]
  | swap x y l => simp only [List.sum_cons]; omega
  | trans _ _ h1 h2 => exact h1.trans h2
theorem cast_pow (b k : Nat) : ((b ^ k : Nat) : Rat) = (b : Rat) ^ k := by
  induction k with
  | zero => rfl
  | succ k ih => rw [Nat.pow_succ, Rat.natCast_mul, ih, Rat.pow_succ]
theorem pr_le {D : Nat → Rat} {g : Nat → Nat} : ∀ {n : Nat}, (∀ c, c < n → 1 ≤ D c ∧ D c ≤ (((10 ^ 29) ^ g c : Nat) : Rat)) → pr n D ≤ (((10 ^ 29) ^ ((List.range n).map g).sum : Nat) : Rat)
  | 0, _ => by show (1 : Rat) ≤ ((1 : Nat) : Rat); exact Rat.le_refl
  | n + 1, h => by
    have ih := pr_le (n := n) fun c hc => h c (by omega)
    have h1 := pr_ge (n := n) fun c hc => (h c (by omega)).1
    obtain ⟨h2, h3⟩ := h n (by omega)
    rw [pr_last, List.range_succ, List.map_append, List.sum_append, show (List.map g [n]).sum = g n by simp, Nat.pow_add, Rat.natCast_mul]
    generalize (((10 ^ 29) ^ ((List.range n).map g).sum : Nat) : Rat) = a at *
    generalize (((10 ^ 29) ^ g n : Nat) : Rat) = b at *
    have e1 := Rat.mul_nonneg (a := a - pr n D) (b := D n) (by grind) (by grind)
    have e2 := Rat.mul_nonneg (a := a) (b := b - D n) (by grind) (by grind)
    grind
theorem fc8 : fc 8 ≤ ((2 ^ 16 : Nat) : Rat) := by
  have e : fc 8 = 40320 := by decide +kernel
  rw [e]
  decide +kernel
/-- the bottoms that stand behind a ledger -/
theorem Led.mat {hs : List Hs} {K : Nat} (h : Led hs K) {t : Nat → Rat} {T : Rat} (hT : 1 ≤ T) (ht : ∀ r, r < hs.length → Ab (t r) T ∧ IsI (t r)) : ∃ D : Nat → Rat, Mat hs.length (amx hs t) D T ∧ (∀ r, r < hs.length → ∀ z, IsI (shr (hel hs (nmA hs r)) z * D r)) ∧ fc hs.length * pr hs.length D ≤ ((2 ^ (97 * K + 16) : Nat) : Rat) := by
  obtain ⟨f, hf, hsum⟩ := h.dn
  have hch : ∀ r : Nat, ∃ L : Int, 0 < L ∧ (r < hs.length → L ≤ (10 ^ 29) ^ f (nmA hs r) ∧ ∀ z, IsI (shr (hel hs (nmA hs r)) z * (L : Rat))) ∧ (¬ r < hs.length → L = 1) := fun r => by
    by_cases hr : r < hs.length
    · obtain ⟨x, hx, e, eh⟩ := h.at hr
      obtain ⟨L, l0, l1, l2⟩ := hf x hx
      rw [e] at l1
      exact ⟨L, l0, fun _ => ⟨l1, fun z => by rw [eh]; exact l2 z⟩, fun q => absurd hr q⟩
    · exact ⟨1, by decide, fun q => absurd q hr, fun _ => rfl⟩
  obtain ⟨L, hL⟩ := Classical.axiomOfChoice hch
  have hD1 : ∀ c, 1 ≤ ((L c : Int) : Rat) := fun c => by
    have : ((1 : Int) : Rat) ≤ ((L c : Int) : Rat) := Rat.intCast_le_intCast.mpr (hL c).1
    exact this
  refine ⟨fun r => ((L r : Int) : Rat), ⟨fun r c hr hc => ?_, fun r hr => ?_, hT, fun r c hr hc => ?_, fun c _ => hD1 c, fun c _ => ⟨L c, rfl⟩, ?_⟩, fun r hr z => ((hL r).2.1 hr).2 z, ?_⟩
  · obtain ⟨x, hx, e, eh⟩ := h.at hc
    unfold amx
    rw [if_neg (by omega)]
    unfold shm
    rw [eh]
    obtain ⟨n1, n2⟩ := h.nn x hx (nmA hs r)
    unfold dl Ab
    split <;> constructor <;> grind
  · unfold amx
    rw [if_pos rfl]
    exact (ht r hr).1
  · by_cases e : c = hs.length
    · unfold amx
      rw [if_pos e]
      exact (ht r hr).2.mul ⟨L c, rfl⟩
    · unfold amx
      rw [if_neg e]
      obtain ⟨q, hq⟩ := ((hL c).2.1 (by omega)).2 (nmA hs r)
      have hdl : ∃ d : Int, dl r c = (d : Rat) := by
        unfold dl
        split
        · exact ⟨1, rfl⟩
        · exact ⟨0, rfl⟩
      obtain ⟨d, hd⟩ := hdl
      refine ⟨d * L c - q, ?_⟩
      unfold shm
      rw [Rat.intCast_sub, Rat.intCast_mul, ← hq, hd]
      grind
  · show ((L hs.length : Int) : Rat) = 1
    rw [(hL hs.length).2.2 (Nat.lt_irrefl _)]
    rfl
  · have p1 := pr_le (D := fun r => ((L r : Int) : Rat)) (g := fun r => f (nmA hs r)) (n := hs.length) fun c hc => ⟨hD1 c, by
      have := ((hL c).2.1 hc).1
      have h2 : ((L c : Int) : Rat) ≤ ((((10 ^ 29) ^ f (nmA hs c) : Nat) : Int) : Rat) := Rat.intCast_le_intCast.mpr (by
        rw [Int.natCast_pow]
        exact this)
      exact h2⟩
    have e1 : ((List.range hs.length).map fun r => f (nmA hs r)).sum ≤ K := by
      have e2 : (List.range hs.length).map (fun r => f (nmA hs r)) = (nmL hs).map f := by
        rw [nmL_range, List.map_map]
        rfl
      rw [e2]
      have e3 : ((nmL hs).map f).sum = (hs.map fun x => f x.nm).sum := by
        have := perm_sum ((sortS_perm (hs.map (·.nm))).map f)
        rw [List.map_map] at this
        exact this
      omega
    generalize ((List.range hs.length).map fun r => f (nmA hs r)).sum = k at *
    have h1 := Rat.le_trans (fc_mono h.len) fc8
    have h0 := fc_pos hs.length
    have hp0 := pr_ge (n := hs.length) (f := fun r => ((L r : Int) : Rat)) fun c _ => hD1 c
    have h2 : (((10 ^ 29) ^ k : Nat) : Rat) ≤ ((2 ^ (97 * K) : Nat) : Rat) := by
      have : (10 ^ 29) ^ k ≤ 2 ^ (97 * K) := by
        have a1 : (10 ^ 29 : Nat) ≤ 2 ^ 97 := by decide
        have a2 := Nat.pow_le_pow_left a1 k
        have a3 : ((2 : Nat) ^ 97) ^ k = 2 ^ (97 * k) := (Nat.pow_mul ..).symm
        rw [a3] at a2
        exact Nat.le_trans a2 (Nat.pow_le_pow_right (by decide) (by omega))
      exact_mod_cast this
    rw [Nat.pow_add, Rat.natCast_mul]
    generalize ((2 ^ (97 * K) : Nat) : Rat) = b at *
    generalize (((10 ^ 29) ^ k : Nat) : Rat) = d at *
    generalize ((2 ^ 16 : Nat) : Rat) = e at *
    generalize fc hs.length = u at *
    generalize pr hs.length (fun r => ((L r : Int) : Rat)) = v at *
    have e1 := Rat.mul_nonneg (a := e - u) (b := v) (by grind) (by grind)
    have e2 := Rat.mul_nonneg (a := e) (b := b - v) (by grind) (by grind)
    grind
theorem amx_t1 {x : Rat} {T : Rat} (h : Ab x T) (e : T ≤ ((2 ^ 80 : Nat) : Rat)) : Ab x ((2 ^ 80 : Nat) : Rat) := h.le e
theorem pow_rat (a b : Nat) : ((2 ^ a : Nat) : Rat) * ((2 ^ b : Nat) : Rat) = ((2 ^ (a + b) : Nat) : Rat) := by rw [← Rat.natCast_mul, ← Nat.pow_add]
theorem one_le_pow (a : Nat) : (1 : Rat) ≤ ((2 ^ a : Nat) : Rat) := by
  have : (1 : Nat) ≤ 2 ^ a := Nat.one_le_two_pow
  exact_mod_cast this
theorem pow_le_rat {a b : Nat} (h : a ≤ b) : ((2 ^ a : Nat) : Rat) ≤ ((2 ^ b : Nat) : Rat) := by
  have : (2 : Nat) ^ a ≤ 2 ^ b := Nat.pow_le_pow_right (by decide) h
  exact_mod_cast this
theorem isI_bd {x : Rat} {a : Nat} (h : IsI x) (b : Ab x ((2 ^ a : Nat) : Rat)) : Bd 0 a x := by
  obtain ⟨z, rfl⟩ := h
  exact Bd.of (r := z) (s := 1) (by decide) (by rw [show ((1 : Int) : Rat) = 1 from rfl]; grind) (by decide) (ab_nat b (by grind))
/-- things that may stand -/
structure Tok' (hs : List Hs) (t : Nat → Rat) : Prop where
  i : ∀ r, r < hs.length → IsI (t r)
  b : ∀ r, r < hs.length → Ab (t r) ((2 ^ 80 : Nat) : Rat)
theorem Led.shm_bd {hs : List Hs} {K : Nat} (h : Led hs K) (hK : K ≤ 27) {r : Nat} (hr : r < hs.length) (z : Str) : Bd 2900 2900 (shr (hel hs (nmA hs r)) z) := by
  obtain ⟨f, hf, hsum⟩ := h.dn
  obtain ⟨x, hx, e, eh⟩ := h.at hr
  rw [eh]
  obtain ⟨L, l0, l1, l2⟩ := hf x hx
  obtain ⟨q, hq⟩ := l2 z
  obtain ⟨n1, n2⟩ := h.nn x hx z
  have hfK : f x.nm ≤ K := by
    refine Nat.le_trans ?_ hsum
    have : f x.nm ∈ hs.map fun x => f x.nm := List.mem_map.mpr ⟨x, hx, rfl⟩
    generalize (hs.map fun x => f x.nm) = l at this
    induction l with
    | nil => cases this
    | cons a l ih =>
      rw [List.sum_cons]
      rcases List.mem_cons.mp this with q | q
      · omega
      · have := ih q; omega
  have hL : L ≤ 2 ^ 2900 := by
    refine Int.le_trans l1 (Int.le_trans (den_bits _) ?_)
    have : (2 : Nat) ^ (97 * f x.nm) ≤ 2 ^ 2900 := Nat.pow_le_pow_right (by decide) (by omega)
    exact_mod_cast this
  have c0 := cast_pos l0
  have hq1 : 0 ≤ q := by
    have : (0 : Rat) ≤ (q : Rat) := by rw [← hq]; exact Rat.mul_nonneg n1 (by grind)
    exact_mod_cast this
  have hq2 : q ≤ L := by
    have : (q : Rat) ≤ (L : Rat) := by
      rw [← hq]
      have := Rat.mul_nonneg (a := 1 - shr x.held z) (b := (L : Rat)) (by grind) (by grind)
      grind
    exact_mod_cast this
  have hnat : L.natAbs ≤ 2 ^ 2900 := by
    have : (L.natAbs : Int) ≤ ((2 ^ 2900 : Nat) : Int) := by
      rw [Int.natCast_pow]
      have e : (L.natAbs : Int) = L := by omega
      rw [e]
      exact hL
    exact_mod_cast this
  exact Bd.of (r := q) (s := L) (by omega) hq hnat (by omega)
theorem Led.ok {hs : List Hs} {K : Nat} (h : Led hs K) (hw : wg hs = []) (hK : K ≤ 27) {t : Nat → Rat} (ht : Tok' hs t) : Okm hs t := by
  obtain ⟨D, m, hD, hW⟩ := h.mat (T := ((2 ^ 80 : Nat) : Rat)) (one_le_pow 80) fun r hr => ⟨ht.b r hr, ht.i r hr⟩
  have sub := h.sub hw t
  have hW2 : fc hs.length * pr hs.length D ≤ ((2 ^ 2900 : Nat) : Rat) := Rat.le_trans hW (pow_le_rat (by omega))
  have hW3 : fc hs.length * pr hs.length D * ((2 ^ 80 : Nat) : Rat) ≤ ((2 ^ 4000 : Nat) : Rat) := by
    have e := pow_rat 2900 80
    have := Rat.mul_nonneg (a := ((2 ^ 2900 : Nat) : Rat) - fc hs.length * pr hs.length D) (b := ((2 ^ 80 : Nat) : Rat)) (by grind) (by have := one_le_pow 80; grind)
    have p := pow_le_rat (a := 2900 + 80) (b := 4000) (by omega)
    grind
  have hlow : ∀ k i j, k ≤ hs.length → i < hs.length → j < hs.length → Bd 2900 2900 (gj (amx hs t) k i j) := fun k i j hk hi hj => by
    have g := sub.good hk
    by_cases e : j < k
    · rw [gj_unit g.p i j e]
      unfold dl
      split
      · exact Bd.one
      · exact Bd.zero
    · have q := gj_bound m hk g.p hi (j := j) (by omega) (by omega)
      rw [if_neg (by omega)] at q
      exact Bd.fq q hW2 (by grind)
  refine ⟨fun r c hr hc => h.shm_bd hK hc (nmA hs r), fun k hk => ?_, fun k i j hk hi hj => ?_⟩
  · have g := sub.good (Nat.succ_le_of_lt hk)
    exact ⟨g.piv k (Nat.lt_succ_self k), hlow k k k (by omega) hk hk⟩
  · by_cases e : j = hs.length
    · have g := sub.good hk
      have q := gj_bound m hk g.p hi (j := j) (by omega) (by omega)
      rw [if_pos e] at q
      exact Bd.fq q hW2 hW3
    · exact (hlow k i j hk hi (by omega)).mono (by omega) (by omega)
theorem Led.okp {hs : List Hs} {K : Nat} (h : Led hs K) (hw : wg hs = []) (hK : K ≤ 27) {t : Nat → Rat} (ht : Tok' hs t) (z : Str) : Okp hs t z 2900 4000 := by
  obtain ⟨D, m, hD, hW⟩ := h.mat (T := ((2 ^ 80 : Nat) : Rat)) (one_le_pow 80) fun r hr => ⟨ht.b r hr, ht.i r hr⟩
  have sub := h.sub hw t
  have hW2 : fc hs.length * pr hs.length D ≤ ((2 ^ 2900 : Nat) : Rat) := Rat.le_trans hW (pow_le_rat (by omega))
  have hW3 : fc hs.length * pr hs.length D * ((2 ^ 80 : Nat) : Rat) ≤ ((2 ^ 2980 : Nat) : Rat) := by
    have e := pow_rat 2900 80
    have := Rat.mul_nonneg (a := ((2 ^ 2900 : Nat) : Rat) - fc hs.length * pr hs.length D) (b := ((2 ^ 80 : Nat) : Rat)) (by grind) (by have := one_le_pow 80; grind)
    rw [show 2900 + 80 = 2980 from rfl] at e
    grind
  obtain ⟨s, s0, s1, s2⟩ := gj_common m (sub.good (Nat.le_refl _)).p
  have hsn := ab_nat s1 hW2
  have one : ∀ r, r < hs.length → IsI (shr (hel hs (nmA hs r)) z * wor hs t r * (s : Rat)) ∧ Ab (shr (hel hs (nmA hs r)) z * wor hs t r * (s : Rat)) ((2 ^ 2980 : Nat) : Rat) := fun r hr => by
    obtain ⟨⟨q, hq⟩, hb⟩ := s2 r hr
    obtain ⟨x, hx, e, eh⟩ := h.at hr
    obtain ⟨n1, n2⟩ := h.nn x hx z
    rw [← eh] at n1 n2
    have hi := hD r hr z
    have hb2 := hb.le hW3
    show IsI (_ * gj (amx hs t) hs.length r hs.length * _) ∧ _
    unfold wor
    generalize gj (amx hs t) hs.length r hs.length = w at *
    generalize shr (hel hs (nmA hs r)) z = y at *
    refine ⟨?_, ?_⟩
    · have e2 : y * w * (s : Rat) = y * D r * (q : Rat) := by
        have : y * w * (s : Rat) = y * (w * (s : Rat)) := by grind
        rw [this, hq]; grind
      rw [e2]
      exact hi.mul ⟨q, rfl⟩
    · have a1 : Ab y 1 := ⟨by grind, n2⟩
      have := a1.mul hb2
      have e3 : y * (w * (s : Rat)) = y * w * (s : Rat) := by grind
      rw [e3] at this
      refine this.le (by grind)
  have fin : ∀ (x : Rat) (a : Nat), a ≤ 4000 → IsI (x * (s : Rat)) → Ab (x * (s : Rat)) ((2 ^ a : Nat) : Rat) → Bd 2900 4000 x := fun x a ha hi hb => by
    obtain ⟨r, hr⟩ := hi
    refine Bd.of (r := r) (s := s) s0 hr hsn ?_
    rw [hr] at hb
    exact ab_nat hb (pow_le_rat ha)
  refine ⟨fun r hr => ⟨h.shm_bd hK hr z, fin _ 2980 (by omega) (one r hr).1 (one r hr).2⟩, fun i hi => ?_⟩
  have e := sm_mulr i (fun r => shr (hel hs (nmA hs r)) z * wor hs t r) (s : Rat)
  refine fin _ 2990 (by omega) ?_ ?_
  · rw [e]
    exact IsI.sm fun r hr => (one r (by omega)).1
  · rw [e]
    have := Ab.sm (n := i) fun r hr => (one r (by omega)).2
    refine this.le ?_
    have h8 : ((i : Nat) : Rat) ≤ ((2 ^ 10 : Nat) : Rat) := by
      have : i ≤ 2 ^ 10 := by have := h.len; omega
      exact_mod_cast this
    have e2 := pow_rat 10 2980
    rw [show 10 + 2980 = 2990 from rfl] at e2
    have := Rat.mul_nonneg (a := ((2 ^ 10 : Nat) : Rat) - ((i : Nat) : Rat)) (b := ((2 ^ 2980 : Nat) : Rat)) (by grind) (by have := one_le_pow 2980; grind)
    grind
end Bv

set_option pp.maxSteps 900
/-! A built book's ledger; a number put down. -/
namespace Bv
open PySem L2 PyProof.Rows
theorem cut_from {α : Type} (xs : List α) {k : Nat} (h : k ≤ xs.length) : cut xs (some (k : Int)) none = xs.drop k := by
  unfold cut
  rw [HT.sIx_none, HT.sIx_nat, Nat.min_eq_left h, List.take_of_length_le]
  rw [List.length_drop]
  exact Nat.le_refl _
theorem add_tup {xs ys : List Val} {F : MH} {Q : Q1} (hl : xs.length + ys.length ≤ sizeLine) (q : Q (.tup (xs ++ ys)) F) : addS (.tup xs) (.tup ys) F Q := ⟨hl, q⟩
def put3 (w : N3) (k : Nat) (n : Int) : N3 := if k = 0 then (n, w.2.1, w.2.2) else if k = 1 then (w.1, n, w.2.2) else (w.1, w.2.1, n)
def spPutN (CB CE : Addr) : Spec := fun vs F Q _ => ∃ b x pl en ps es n e h w held, ∃ k : Nat, vs = [.ref b, .str x, .int k, .int n] ∧ BkC CB F b pl en ps es ∧ k < 3 ∧ kget es x = some (.ref e) ∧ EnC CE F e h (numV w) held ∧ Q .non (mset F e (.inst CE (entFs (numV (put3 w k n)) h)))
theorem w_put_number {Γ : Amb} {CB CE CN : Addr} {fn : FldR Γ "numbers"} {t : MethR Γ "entry_of"} (h1 : fn.C = CE) (ht : t.sp = spEntryOf CB CN) (hc : t.C = CB) : ∀ vs F Q E, spPutN CB CE vs F Q E → wpB (fun C fs _ F => E C fs F) (c_Book_put_number fn t) (start1 n_Book_put_number vs) F (fun _ F => Q .non F) Q := by
  rintro vs F Q E ⟨b, x, pl, en, ps, es, n, e, h, ⟨a1, a2, a3⟩, held, k, rfl, bk, hk, hx, ec, hq⟩
  unfold c_Book_put_number
  simp only [wpB, wpS, wpE, wpEs, wpT, wpTs, wpCs, wpP, wpIt, wpBl, bindT, biS, recS, truS, start1, List.map, List.length, List.replicate, List.append_nil, List.nil_append, List.cons_append, Nat.sub_self, Nat.reduceSub, Nat.reduceAdd, List.length_cons, List.length_nil, List.getElem?_cons_zero, List.getElem?_cons_succ, List.set_cons_zero, List.set_cons_succ, setAll, wipe1, Tg.slots, binS, subS, fdivS, modS, powS, cmpS, ltS, isS, isNS, asStrs, asBls, newLs, n_Book_put_number, bk.b, h1, ht, hc]
  refine ⟨trivial, rfl, b, x, pl, en, ps, es, rfl, bk, .inl ⟨_, hx, ?_⟩⟩
  simp only [ec.e, fld_numbers]
  refine ⟨trivial, ?_⟩
  unfold numV
  rw [show ∀ lo hi, slS (.tup [.int a1, .int a2, .int a3]) lo hi F = fun Q => Q (.tup (cut [.int a1, .int a2, .int a3] lo hi)) F from fun _ _ => rfl]
  simp only
  rw [cut_take [Val.int a1, .int a2, .int a3] (by simp only [List.length_cons, List.length_nil]; omega)]
  refine ⟨by rw [sizeLine_eq]; decide, add_tup (by rw [List.length_take, sizeLine_eq]; simp; omega) ?_⟩
  simp only [ec.e, fld_numbers]
  refine ⟨trivial, add_int ?_⟩
  rw [show ((k : Int) + 1) = ((k + 1 : Nat) : Int) by omega]
  simp only []
  rw [show ∀ lo hi, slS (numV (a1, a2, a3)) lo hi F = fun Q => Q (.tup (cut [.int a1, .int a2, .int a3] lo hi)) F from fun _ _ => rfl]
  simp only
  rw [cut_from [Val.int a1, .int a2, .int a3] (by simp only [List.length_cons, List.length_nil]; omega)]
  refine add_tup (by rw [List.length_append, List.length_take, List.length_drop, sizeLine_eq]; simp; omega) ?_
  simp only [ec.e]
  refine ⟨trivial, by show 2 < 1000; decide, ?_⟩
  have e3 : (Val.tup (([Val.int a1, .int a2, .int a3].take k ++ [Val.int n]) ++ [Val.int a1, .int a2, .int a3].drop (k + 1))) = numV (put3 (a1, a2, a3) k n) := by
    have : k = 0 ∨ k = 1 ∨ k = 2 := by omega
    rcases this with rfl | rfl | rfl <;> rfl
  rw [e3]
  exact hq
def spPut (k : Nat) (CB CE : Addr) : Spec := fun vs F Q _ => ∃ b x pl en ps es n e h w held, vs = [.ref b, .str x, .int n] ∧ BkC CB F b pl en ps es ∧ kget es x = some (.ref e) ∧ EnC CE F e h (numV w) held ∧ (k = 2 → 0 ≤ n) ∧ Q .non (mset F e (.inst CE (entFs (numV (put3 w k n)) h)))
theorem w_things {Γ : Amb} {CB CE : Addr} {t : MethR Γ "put_number"} (ht : t.sp = spPutN CB CE) (hc : t.C = CB) : ∀ vs F Q E, spPut 0 CB CE vs F Q E → wpB (fun C fs _ F => E C fs F) (c_Book_things t) (start1 n_Book_things vs) F (fun _ F => Q .non F) Q := by
  rintro vs F Q E ⟨b, x, pl, en, ps, es, n, e, h, w, held, rfl, bk, hx, ec, _, hq⟩
  unfold c_Book_things
  simp only [wpB, wpS, wpE, wpEs, wpT, wpTs, wpCs, wpP, wpIt, wpBl, bindT, biS, recS, truS, start1, List.map, List.length, List.replicate, List.append_nil, List.nil_append, List.cons_append, Nat.sub_self, Nat.reduceSub, Nat.reduceAdd, List.length_cons, List.length_nil, List.getElem?_cons_zero, List.getElem?_cons_succ, List.set_cons_zero, List.set_cons_succ, setAll, wipe1, Tg.slots, binS, subS, fdivS, modS, powS, cmpS, ltS, isS, isNS, asStrs, asBls, newLs, n_Book_things, bk.b, ht, hc]
  exact ⟨trivial, rfl, b, x, pl, en, ps, es, n, e, h, w, held, 0, rfl, bk, by decide, hx, ec, hq⟩
theorem w_mark {Γ : Amb} {CB CE : Addr} {t : MethR Γ "put_number"} (ht : t.sp = spPutN CB CE) (hc : t.C = CB) : ∀ vs F Q E, spPut 1 CB CE vs F Q E → wpB (fun C fs _ F => E C fs F) (c_Book_mark t) (start1 n_Book_mark vs) F (fun _ F => Q .non F) Q := by
  rintro vs F Q E ⟨b, x, pl, en, ps, es, n, e, h, w, held, rfl, bk, hx, ec, _, hq⟩
  unfold c_Book_mark
  simp only [wpB, wpS, wpE, wpEs, wpT, wpTs, wpCs, wpP, wpIt, wpBl, bindT, biS, recS, truS, start1, List.map, List.length, List.replicate, List.append_nil, List.nil_append, List.cons_append, Nat.sub_self, Nat.reduceSub, Nat.reduceAdd, List.length_cons, List.length_nil, List.getElem?_cons_zero, List.getElem?_cons_succ, List.set_cons_zero, List.set_cons_succ, setAll, wipe1, Tg.slots, binS, subS, fdivS, modS, powS, cmpS, ltS, isS, isNS, asStrs, asBls, newLs, n_Book_mark, bk.b, ht, hc]
  exact ⟨trivial, rfl, b, x, pl, en, ps, es, n, e, h, w, held, 1, rfl, bk, by decide, hx, ec, hq⟩
theorem w_loss {Γ : Amb} {CB CE CN : Addr} {t : MethR Γ "put_number"} {r : CallR1 Γ "must_loss"} {te : MethR Γ "entry_of"} (ht : t.sp = spPutN CB CE) (hc : t.C = CB) (hr : r.sp = spLoss) (hte : te.sp = spEntryOf CB CN) (htec : te.C = CB) : ∀ vs F Q E, spPut 2 CB CE vs F Q E → wpB (fun C fs _ F => E C fs F) (c_Book_loss t r te) (start1 n_Book_loss vs) F (fun _ F => Q .non F) Q := by
  rintro vs F Q E ⟨b, x, pl, en, ps, es, n, e, h, w, held, rfl, bk, hx, ec, hn, hq⟩
  unfold c_Book_loss
  simp only [wpB, wpS, wpE, wpEs, wpT, wpTs, wpCs, wpP, wpIt, wpBl, bindT, biS, recS, truS, start1, List.map, List.length, List.replicate, List.append_nil, List.nil_append, List.cons_append, Nat.sub_self, Nat.reduceSub, Nat.reduceAdd, List.length_cons, List.length_nil, List.getElem?_cons_zero, List.getElem?_cons_succ, List.set_cons_zero, List.set_cons_succ, setAll, wipe1, Tg.slots, binS, subS, fdivS, modS, powS, cmpS, ltS, isS, isNS, asStrs, asBls, newLs, n_Book_loss, bk.b, ht, hc, hr, hte, htec]
  refine ⟨trivial, rfl, b, x, pl, en, ps, es, rfl, bk, .inl ⟨_, hx, n, rfl, hn rfl, ?_⟩⟩
  simp only [bk.b]
  exact ⟨trivial, rfl, b, x, pl, en, ps, es, n, e, h, w, held, 2, rfl, bk, by decide, hx, ec, hq⟩
/-- a house's numbers changed -/
def setN (hs : List Hs) (y : Str) (N : N3) : List Hs := hs.map fun x => if x.nm = y then { x with nums := N } else x
theorem setN_map {β : Type} {f : Hs → β} (h : ∀ x N, f { x with nums := N } = f x) (hs : List Hs) (y : Str) (N : N3) : (setN hs y N).map f = hs.map f := by
  unfold setN
  rw [List.map_map]
  apply List.map_congr_left
  intro x _
  show f (if x.nm = y then _ else _) = _
  split
  · exact h x N
  · rfl
theorem setN_mem {hs : List Hs} {y : Str} {N : N3} {x' : Hs} (h : x' ∈ setN hs y N) : ∃ x ∈ hs, x' = if x.nm = y then { x with nums := N } else x := by
  obtain ⟨x, hx, e⟩ := List.mem_map.mp h
  exact ⟨x, hx, e.symm⟩
theorem setN_all {hs : List Hs} {y : Str} {N : N3} {P : Hs → Prop} (hP : ∀ x N, P x → P { x with nums := N }) (h : ∀ x ∈ hs, P x) : ∀ x ∈ setN hs y N, P x := fun x' hx' => by
  obtain ⟨x, hx, rfl⟩ := setN_mem hx'
  split
  · exact hP x N (h x hx)
  · exact h x hx
theorem fh_setN (hs : List Hs) (y z : Str) (N : N3) : fh (setN hs y N) z = (fh hs z).map fun x => if x.nm = y then { x with nums := N } else x := by
  unfold fh setN
  rw [List.find?_map]
  have : ((fun x : Hs => decide (x.nm = z)) ∘ fun x => if x.nm = y then { x with nums := N } else x) = fun x => decide (x.nm = z) := by
    funext x
    show decide ((if x.nm = y then { x with nums := N } else x).nm = z) = _
    split <;> rfl
  rw [this]
theorem hel_setN (hs : List Hs) (y z : Str) (N : N3) : hel (setN hs y N) z = hel hs z := by
  unfold hel
  rw [fh_setN, Option.map_map]
  cases fh hs z with
  | none => rfl
  | some x =>
    show (if x.nm = y then { x with nums := N } else x).held = x.held
    split <;> rfl
theorem num3_setN {hs : List Hs} {y z : Str} {N : N3} (hz : z ∈ hs.map (·.nm)) : num3 (setN hs y N) z = if z = y then N else num3 hs z := by
  unfold num3
  rw [fh_setN]
  obtain ⟨x, hx⟩ := fh_some hz
  rw [hx]
  obtain ⟨_, e⟩ := fh_mem hx
  show (if x.nm = y then { x with nums := N } else x).nums = if z = y then N else x.nums
  rw [e]
  split <;> rfl
theorem nmL_setN (hs : List Hs) (y : Str) (N : N3) : nmL (setN hs y N) = nmL hs := by
  unfold nmL
  rw [setN_map (fun _ _ => rfl)]
theorem nmA_setN (hs : List Hs) (y : Str) (N : N3) (r : Nat) : nmA (setN hs y N) r = nmA hs r := by
  unfold nmA
  rw [nmL_setN]
theorem setN_len (hs : List Hs) (y : Str) (N : N3) : (setN hs y N).length = hs.length := List.length_map ..
theorem shm_setN (hs : List Hs) (y : Str) (N : N3) : shm (setN hs y N) = shm hs := by
  funext r c
  unfold shm
  rw [nmA_setN, nmA_setN, hel_setN]
theorem stepG_setN (hs : List Hs) (y : Str) (N : N3) (g : List Str) : stepG (setN hs y N) g = stepG hs g := by
  unfold stepG
  simp only [hel_setN]
theorem wgN_setN (hs : List Hs) (y : Str) (N : N3) : ∀ k, wgN (setN hs y N) k = wgN hs k
  | 0 => nmL_setN hs y N
  | k + 1 => by
    show stepG _ _ = stepG _ _
    rw [wgN_setN hs y N k, stepG_setN]
theorem wg_setN (hs : List Hs) (y : Str) (N : N3) : wg (setN hs y N) = wg hs := by
  unfold wg
  rw [setN_len, wgN_setN]
section
variable {CB CE : Addr} {un : List Str} {n : Nat} {F F' : MH} {p b pl en m : Addr} {ps : List Str} {hs : List Hs}
theorem Wd.setN (w : Wd CB CE un n F p b pl en m ps hs) {x : Hs} (hx : x ∈ hs) {N : N3} (hb : B4 N) : Wd CB CE un n (mset F x.e (.inst CE (entFs (numV N) x.h))) p b pl en m ps (Bv.setN hs x.nm N) := by
  have he := (w.ent x hx).e
  have ne : ∀ {a c}, F a = some c → c ≠ .inst CE (entFs (numV x.nums) x.h) → mset F x.e (.inst CE (entFs (numV N) x.h)) a = some c := fun {a c} q hc => by
    rw [mset_ne (fun z => by rw [z, he] at q; cases q; exact hc rfl)]
    exact q
  have ex : ∀ {β : Type} {f : Hs → β}, (∀ x N, f { x with nums := N } = f x) → (Bv.setN hs x.nm N).map f = hs.map f := fun h => setN_map h hs x.nm N
  obtain ⟨i, j, hp⟩ := w.pur
  have eD : entD (Bv.setN hs x.nm N) = entD hs := ex fun _ _ => rfl
  have eM : modD (Bv.setN hs x.nm N) = modD hs := ex fun _ _ => rfl
  refine ⟨⟨ne w.c.b (fun z => ?_), ne w.c.pl (fun z => nomatch z), ?_⟩, fun x' hx' => ?_, ?_, fun x' hx' => ?_, ⟨i, j, ne hp (fun z => nomatch z)⟩, ?_, ?_, setN_all (P := fun x => RecOk un n x.held x.sh) (fun _ _ h => h) w.rc, w.ul, setN_all (P := fun x => x.nm ∈ un) (fun _ _ h => h) w.nu, ?_, setN_all (P := fun x => RecA un x.k x.held) (fun _ _ h => h) w.ra, ?_, fun x' hx' => ?_⟩
  · injection z with z1 z2
    exact (show ([("people" : Str), ("entries" : Str)] ≠ [("numbers" : Str), ("held" : Str)]) by decide) (congrArg (List.map Prod.fst) z2)
  · rw [eD]
    exact ne w.c.en (fun z => nomatch z)
  · obtain ⟨y, hy, rfl⟩ := setN_mem hx'
    by_cases e : y.nm = x.nm
    · rw [if_pos e]
      have e2 : y = x := map_inj w.nd hy hx e
      rw [e2]
      exact ⟨mset_same, ne (w.ent x hx).h (fun z => nomatch z)⟩
    · rw [if_neg e]
      refine ⟨ne (w.ent y hy).e (fun z => ?_), ne (w.ent y hy).h (fun z => nomatch z)⟩
      have e3 : y.h = x.h := by
        injection z with z1 z2
        unfold entFs at z2
        injection z2 with _ z3
        injection z3 with z4 _
        injection z4 with _ z5
        injection z5
      have ad := w.ad
      rw [List.nodup_cons, List.nodup_cons, List.nodup_append] at ad
      have e4 := map_inj (f := fun x : Hs => x.h) ad.2.2.1 hy hx e3
      exact e (by rw [e4])
  · rw [eM]
    exact ne w.md (fun z => nomatch z)
  · obtain ⟨y, hy, rfl⟩ := setN_mem hx'
    have : F y.g = some (.dict (hv y.sh)) := w.sh y hy
    split
    · exact ne this (fun z => nomatch z)
    · exact ne this (fun z => nomatch z)
  · rw [ex fun _ _ => rfl]; exact w.nd
  · rw [setN_len]; exact w.len
  · rw [ex fun _ _ => rfl, ex fun _ _ => rfl]; exact w.ad
  · rw [ex fun _ _ => rfl]; exact w.kn
  · obtain ⟨y, hy, rfl⟩ := setN_mem hx'
    split
    · exact ⟨hb, (w.bd y hy).2⟩
    · exact w.bd y hy
theorem Wd.can (w : Wd CB CE un n F p b pl en m ps hs) : Can hs := fun x hx z v e => by
  obtain ⟨L, _, _, h2⟩ := (w.ra x hx).dn
  exact ⟨(h2 z v e).pos, (w.ra x hx).lw z v e⟩
theorem Wd.gr (w : Wd CB CE un n F p b pl en m ps hs) (v : ∀ z ∈ un, VS z) : Gr CB CE un F b pl en ps hs := by
  have hul := w.ul
  refine ⟨w.c, w.ent, w.nd, w.len, fun x hx => ?_, fun x hx => (w.rc x hx).hu, w.ul, fun x hx => v _ (w.nu x hx)⟩
  have := nodup_len (w.rc x hx).hn (w.rc x hx).hu
  rw [List.length_map] at this
  omega
theorem Wd.gc (w : Wd CB CE un n F p b pl en m ps hs) (v : ∀ z ∈ un, VS z) (hp : ∀ z ∈ ps, z ∈ un) (hl : ps.length ≤ 6) : Gc CB CE un F b pl en ps hs := ⟨w.gr v, w.can, v, w.nu, hp, hl⟩
theorem Wd.led (w : Wd CB CE un n F p b pl en m ps hs) {K : Nat} (hK : n ≤ 2 * K) : Led hs K := by
  refine ⟨w.can, w.nd, w.len, fun x hx => (w.ra x hx).hn, fun x hx => (w.ra x hx).tot, fun x hx z => ?_, fun y => ((fh hs y).map (·.k)).getD 0, fun x hx => ?_, ?_⟩
  · obtain ⟨L, _, _, d⟩ := (w.ra x hx).dnD
    exact ⟨rt_nonneg' (d z).nn (d z).pos, (w.ra x hx).le1D z⟩
  · obtain ⟨L, l0, l1, d⟩ := (w.ra x hx).dnD
    refine ⟨L, l0, ?_, fun z => ?_⟩
    · show L ≤ (10 ^ 29) ^ (((fh hs x.nm).map (·.k)).getD 0)
      rw [fh_of w.nd hx]; exact l1
    · obtain ⟨q, hq⟩ := (d z).dv
      have c2 := cast_pos (d z).pos
      refine ⟨((hget x.held z).getD (0, 1)).1 * q, ?_⟩
      unfold shr rt
      rw [hq, Rat.intCast_mul, Rat.intCast_mul]
      grind
  · have : (hs.map fun x => ((fh hs x.nm).map (·.k)).getD 0) = hs.map (·.k) := List.map_congr_left fun x hx => by rw [fh_of w.nd hx]; rfl
    rw [this]
    have := w.kn
    omega
theorem Wd.tok (w : Wd CB CE un n F p b pl en m ps hs) : Tok' hs (thg hs) := by
  refine ⟨fun r hr => ⟨_, rfl⟩, fun r hr => ?_⟩
  obtain ⟨x, hx, e⟩ := mem_names (nmA_mem hr)
  have hb := (w.bd x hx).1.1
  unfold thg
  rw [← e, num3_of w.nd hx]
  have e2 : ((2 ^ 80 : Nat) : Rat) = (((2 ^ 80 : Nat) : Int) : Rat) := rfl
  refine ⟨?_, ?_⟩
  · rw [e2, ← Rat.intCast_neg]
    have : -((2 ^ 80 : Nat) : Int) ≤ x.nums.1 := by
      have h2 : (10 : Int) ^ 23 ≤ ((2 ^ 80 : Nat) : Int) := by decide
      omega
    exact Rat.intCast_le_intCast.mpr this
  · rw [e2]
    have : x.nums.1 ≤ ((2 ^ 80 : Nat) : Int) := by
      have h2 : (10 : Int) ^ 23 ≤ ((2 ^ 80 : Nat) : Int) := by decide
      omega
    exact Rat.intCast_le_intCast.mpr this
end
end Bv

set_option pp.maxSteps 900
/-! What changes of worths and parts when things change; lists kept but for some. -/
namespace Bv
open PySem L2 PyProof.Rows
theorem Led.sol {hs : List Hs} {K : Nat} (h : Led hs K) (hw : wg hs = []) (t : Nat → Rat) {r : Nat} (hr : r < hs.length) : wor hs t r - (sm hs.length fun c => shm hs r c * wor hs t c) = t r := by
  have s := h.sub hw t
  have e := s.sol r hr
  have e1 : amx hs t r hs.length = t r := by unfold amx; rw [if_pos rfl]
  rw [e1] at e
  have e2 : (sm hs.length fun c => amx hs t r c * gj (amx hs t) hs.length c hs.length) = sm hs.length fun c => 1 * (dl r c * wor hs t c) + (-1) * (shm hs r c * wor hs t c) := sm_congr fun c hc => by
    have eA : amx hs t r c = dl r c - shm hs r c := by
      unfold amx
      rw [if_neg (by omega)]
    rw [eA]
    unfold wor
    grind
  rw [e2, sm_lin, dl_dot hr] at e
  grind
open Classical in
/-- worths of houses off R stay, if things change in R only and R holds no shares' holders off R -/
theorem wor_off {hs : List Hs} {K : Nat} (h : Led hs K) (hw : wg hs = []) {t t2 : Nat → Rat} {R : Str → Prop} (hR : ∀ r, r < hs.length → t2 r ≠ t r → R (nmA hs r)) (hc : ∀ c, c < hs.length → R (nmA hs c) → ∀ z ∈ showS (hel hs (nmA hs c)), R z) :
    ∀ r, r < hs.length → ¬ R (nmA hs r) → wor hs t2 r = wor hs t r := by
  have s := h.sub hw (fun _ => 0)
  have hz : ∀ r c, r < hs.length → c < hs.length → R (nmA hs c) → ¬ R (nmA hs r) → shm hs r c = 0 := fun r c hr hcc h1 h2 => by
    by_cases q : shm hs r c = 0
    · exact q
    · exfalso
      obtain ⟨x, hx, e, eh⟩ := h.at hcc
      refine h2 (hc c hcc h1 _ ?_)
      rw [eh]
      unfold shm at q
      rw [eh] at q
      exact (shr_show h.c hx).mpr q
  let S2 : Mx := fun r c => if R (nmA hs r) ∨ R (nmA hs c) then 0 else shm hs r c
  let A2 : Mx := fun r c => if c = hs.length then 0 else dl r c - S2 r c
  have hS2 : ∀ r c, r < hs.length → c < hs.length → 0 ≤ S2 r c ∧ S2 r c ≤ shm hs r c := fun r c hr hcc => by
    have := s.nn r c hr hcc
    by_cases q : R (nmA hs r) ∨ R (nmA hs c)
    · have e : S2 r c = 0 := if_pos q
      rw [e]
      exact ⟨Rat.le_refl, this⟩
    · have e : S2 r c = shm hs r c := if_neg q
      rw [e]
      exact ⟨this, Rat.le_refl⟩
  have dif : ∀ c, c < hs.length → (sm hs.length fun r => S2 r c) = (sm hs.length fun r => shm hs r c) - sm hs.length fun r => shm hs r c - S2 r c := fun c _ => by
    have := sm_lin hs.length 1 (-1) (fun r => shm hs r c) (fun r => shm hs r c - S2 r c)
    have e : (sm hs.length fun r => 1 * shm hs r c + -1 * (shm hs r c - S2 r c)) = sm hs.length fun r => S2 r c := sm_congr fun r _ => by grind
    rw [e] at this
    grind
  have dnn : ∀ c, c < hs.length → 0 ≤ sm hs.length fun r => shm hs r c - S2 r c := fun c hcc => sm_nn fun r hr => by
    have := (hS2 r c hr hcc).2
    grind
  have s2 : Sub hs.length A2 S2 := by
    refine ⟨fun r c _ hcc => ?_, fun r c hr hcc => (hS2 r c hr hcc).1, fun c hcc => ?_, fun T ⟨c0, hc0, ht0⟩ hT => ?_⟩
    · show (if c = hs.length then _ else _) = _
      rw [if_neg (by omega)]
    · rw [dif c hcc]
      have := s.col c hcc
      have := dnn c hcc
      grind
    · refine s.no T ⟨c0, hc0, ht0⟩ fun c hcc ht => ?_
      obtain ⟨h1, h2⟩ := hT c hcc ht
      have e := dif c hcc
      rw [h1] at e
      have c1 := s.col c hcc
      have c2 := dnn c hcc
      have e3 : (sm hs.length fun r => shm hs r c - S2 r c) = 0 := by grind
      refine ⟨by grind, fun r hr hne => h2 r hr ?_⟩
      have := sm_nn0 (n := hs.length) (f := fun r => shm hs r c - S2 r c) (fun r hr => by have := (hS2 r c hr hcc).2; grind) e3 r hr
      grind
  let d : Nat → Rat := fun r => wor hs t2 r - wor hs t r
  let x : Nat → Rat := fun r => if R (nmA hs r) then 0 else d r
  have ux := s2.uniq (v := x) fun r hr => by
    have e0 : A2 r hs.length = 0 := if_pos rfl
    rw [e0]
    have e1 : (sm hs.length fun c => A2 r c * x c) = sm hs.length fun c => 1 * (dl r c * x c) + (-1) * (S2 r c * x c) := sm_congr fun c hcc => by
      have : A2 r c = dl r c - S2 r c := if_neg (by omega)
      rw [this]
      grind
    rw [e1, sm_lin, dl_dot hr]
    by_cases q : R (nmA hs r)
    · have x0 : x r = 0 := if_pos q
      rw [x0, sm_zero fun c hcc => by
        have : S2 r c = 0 := if_pos (.inl q)
        rw [this]; grind]
      grind
    · have x0 : x r = d r := if_neg q
      rw [x0]
      have ht : t2 r = t r := by
        by_cases z : t2 r = t r
        · exact z
        · exact absurd (hR r hr z) q
      have a1 := h.sol hw t hr
      have a2 := h.sol hw t2 hr
      have e2 : (sm hs.length fun c => S2 r c * x c) = sm hs.length fun c => 1 * (shm hs r c * wor hs t2 c) + (-1) * (shm hs r c * wor hs t c) := sm_congr fun c hcc => by
        by_cases w : R (nmA hs c)
        · have : S2 r c = 0 := if_pos (.inr w)
          rw [this, hz r c hr hcc w q]
          grind
        · have k1 : S2 r c = shm hs r c := if_neg (fun z => z.elim q w)
          have k2 : x c = d c := if_neg w
          rw [k1, k2]
          show shm hs r c * (wor hs t2 c - wor hs t c) = _
          grind
      rw [e2, sm_lin]
      show 1 * (wor hs t2 r - wor hs t r) + _ = 0
      grind
  have u0 := s2.uniq (v := fun _ => 0) fun r hr => by
    have e0 : A2 r hs.length = 0 := if_pos rfl
    rw [e0]
    exact sm_zero fun c _ => by grind
  intro r hr hq
  have h1 := ux r hr
  have h0 := u0 r hr
  have x0 : x r = d r := if_neg hq
  rw [x0] at h1
  have h2 : wor hs t2 r - wor hs t r = gj A2 hs.length r hs.length := h1
  have h3 : (0 : Rat) = gj A2 hs.length r hs.length := h0
  rw [← h3] at h2
  grind
open Classical in
theorem part_off {hs : List Hs} {K : Nat} (h : Led hs K) (hw : wg hs = []) {t t2 : Nat → Rat} {R : Str → Prop} (hR : ∀ r, r < hs.length → t2 r ≠ t r → R (nmA hs r)) (hc : ∀ c, c < hs.length → R (nmA hs c) → ∀ z ∈ showS (hel hs (nmA hs c)), R z) {z : Str} (hz : ¬ R z) :
    partS hs t2 z = partS hs t z := by
  unfold partS
  refine sm_congr fun r hr => ?_
  by_cases q : R (nmA hs r)
  · have : shr (hel hs (nmA hs r)) z = 0 := by
      by_cases e : shr (hel hs (nmA hs r)) z = 0
      · exact e
      · exfalso
        obtain ⟨x, hx, ex, eh⟩ := h.at hr
        refine hz (hc r hr q z ?_)
        rw [eh] at e ⊢
        exact (shr_show h.c hx).mpr e
    rw [this]
    grind
  · rw [wor_off h hw hR hc r hr q]
/-! ### lists kept but for some -/
def pairV (a : Str × Rat) : Val := .tup [.str a.1, frR a.2]
theorem pair_ok {a : Str × Rat} {n : Nat} (h : VS a.1) : okD (n + 2) (pairV a) = true := by
  have h' : (a.1).cps.all (· < 0x110000) = true := h
  simp [pairV, frR, frP, okD, h']
theorem eqS_pair {a b : Str × Rat} {F : MH} {Q : Bool → Prop} (h1 : VS a.1) (h2 : VS b.1) (h : Q (decide (a = b))) : eqS (pairV a) (pairV b) F Q := by
  refine ⟨pair_ok (n := 58) h1, pair_ok (n := 58) h2, ?_⟩
  have e : PyData.eqv (toPD (rdF F (pairV a))) (toPD (rdF F (pairV b))) = decide (a = b) := by
    obtain ⟨a1, a2⟩ := a
    obtain ⟨b1, b2⟩ := b
    have i := @fq_inj a2 b2
    simp only [pairV, frR, frP, rdF, toPD_tup, List.map_cons, List.map_nil, toPD, PyData.eqv, PyData.eqvAll, Bool.and_true, Prod.mk.injEq]
    by_cases e1 : a1 = b1
    · by_cases e2 : a2 = b2
      · simp [e1, e2]
      · have : ¬ ((Bv.fq a2).1 = (Bv.fq b2).1 ∧ (Bv.fq a2).2 = (Bv.fq b2).2) := fun z => e2 (i (Prod.ext z.1 z.2))
        by_cases q1 : (Bv.fq a2).1 = (Bv.fq b2).1 <;> by_cases q2 : (Bv.fq a2).2 = (Bv.fq b2).2 <;> simp [e1, e2, q1, q2] <;> exact this ⟨q1, q2⟩
    · simp [e1]
  rw [e]
  exact h
def spKept : Spec := fun vs F Q _ => ∃ (l1 l2 : List (Str × Rat)) (v : Val) (L : List Str), vs = [.lst (l1.map pairV), .lst (l2.map pairV), v] ∧ lsOf F v = some (L.map .str) ∧ l1.map (·.1) = l2.map (·.1) ∧ (∀ z ∈ l1.map (·.1), VS z) ∧ l1.length ≤ 64 ∧
  (∀ (i : Nat) (a b : Str × Rat), l1[i]? = some a → l2[i]? = some b → a.2 ≠ b.2 → a.1 ∈ L) ∧ Q (.bl true) F
end Bv

set_option pp.maxSteps 900
/-! Lists told again; the state of a built book through the law. -/
namespace Bv
open PySem L2 PyProof.Rows
theorem rdF_still {v : Val} {F : MH} {n : Nat} (h : okD n v = true) : rdF F v = v := by
  cases v with
  | ref p => cases n <;> simp [okD] at h
  | _ => rfl
mutual
theorem eqv_refl : ∀ {n : Nat} {v : Val}, okD n v = true → PyData.eqv (toPD v) (toPD v) = true
  | n, .non, _ => by simp [toPD, PyData.eqv]
  | n, .bl _, _ => by simp [toPD, PyData.eqv]
  | n, .int _, _ => by simp [toPD, PyData.eqv]
  | n, .str _, _ => by simp [toPD, PyData.eqv]
  | 0, .tup _, h => by simp [okD] at h
  | 0, .lst _, h => by simp [okD] at h
  | n + 1, .tup vs, h => by
    rw [toPD_tup, PyData.eqv]
    exact eqvAll_refl (n := n) h
  | n + 1, .lst vs, h => by
    rw [toPD_lst, PyData.eqv]
    exact eqvAll_refl (n := n) h
  | n, .ref _, h => by cases n <;> simp [okD] at h
  | n, .ty _, h => by cases n <;> simp [okD] at h
theorem eqvAll_refl : ∀ {n : Nat} {vs : List Val}, vs.all (okD n) = true → PyData.eqvAll (vs.map toPD) (vs.map toPD) = true
  | _, [], _ => by simp [PyData.eqvAll]
  | n, v :: vs, h => by
    rw [List.all_cons, Bool.and_eq_true] at h
    rw [List.map_cons, PyData.eqvAll, eqv_refl h.1, eqvAll_refl h.2]
    rfl
end
theorem eqS_refl {v : Val} {F : MH} {Q : Bool → Prop} (h : okD 60 v = true) (q : Q true) : eqS v v F Q := by
  have e : rdF F v = v := rdF_still h
  refine ⟨by rw [e]; exact h, by rw [e]; exact h, ?_⟩
  rw [e, eqv_refl h]
  exact q
/-- pairs told -/
def worP (hs : List Hs) : List (Str × Rat) := (List.range hs.length).map fun r => (nmA hs r, wor hs (thg hs) r)
theorem worL_pair (hs : List Hs) : worL hs = (worP hs).map pairV := by
  unfold worL worP
  rw [List.map_map]
  rfl
def parP (hs : List Hs) (ps : List Str) : List (Str × Rat) := (sortS ps).map fun z => (z, partS hs (thg hs) z)
theorem parL_pair (hs : List Hs) (ps : List Str) : parL hs ps = (parP hs ps).map pairV := by
  unfold parL parP
  rw [List.map_map]
  rfl
theorem pairs_ok {l : List (Str × Rat)} (h : ∀ a ∈ l, VS a.1) : okD 60 (.lst (l.map pairV)) = true := by
  show (l.map pairV).all (okD 59) = true
  rw [List.all_map, List.all_eq_true]
  intro a ha
  exact pair_ok (n := 57) (h a ha)
theorem nm_vs {hs : List Hs} {un : List Str} (hu : ∀ x ∈ hs, x.nm ∈ un) (vu : ∀ w ∈ un, VS w) {r : Nat} (hr : r < hs.length) : VS (nmA hs r) := by
  obtain ⟨x, hx, e⟩ := mem_names (nmA_mem hr)
  rw [← e]
  exact vu _ (hu x hx)
theorem worP_vs {hs : List Hs} {un : List Str} (hu : ∀ x ∈ hs, x.nm ∈ un) (vu : ∀ w ∈ un, VS w) : ∀ a ∈ worP hs, VS a.1 := fun a ha => by
  obtain ⟨r, hr, rfl⟩ := List.mem_map.mp ha
  exact nm_vs hu vu (List.mem_range.mp hr)
theorem parP_vs {hs : List Hs} {ps un : List Str} (hp : ∀ z ∈ ps, z ∈ un) (vu : ∀ w ∈ un, VS w) : ∀ a ∈ parP hs ps, VS a.1 := fun a ha => by
  obtain ⟨z, hz, rfl⟩ := List.mem_map.mp ha
  exact vu _ (hp z (mem_sortS.mp hz))
/-- the same shares, whatever the numbers -/
structure Sm0 (hs hs' : List Hs) : Prop where
  nm : hs'.map (·.nm) = hs.map (·.nm)
  hel : ∀ z, hel hs' z = hel hs z
  wg : wg hs' = wg hs
theorem Sm0.set (hs : List Hs) (y : Str) (N : N3) : Sm0 hs (setN hs y N) := ⟨setN_map (fun _ _ => rfl) hs y N, fun z => hel_setN hs y z N, wg_setN hs y N⟩
theorem Sm0.trans {a b c : List Hs} (h : Sm0 a b) (g : Sm0 b c) : Sm0 a c := ⟨g.nm.trans h.nm, fun z => (g.hel z).trans (h.hel z), g.wg.trans h.wg⟩
theorem Sm0.len {a b : List Hs} (h : Sm0 a b) : b.length = a.length := by have := congrArg List.length h.nm; simpa using this
theorem Sm0.nmL {a b : List Hs} (h : Sm0 a b) : nmL b = nmL a := by unfold Bv.nmL; rw [h.nm]
theorem Sm0.nmA {a b : List Hs} (h : Sm0 a b) (r : Nat) : nmA b r = nmA a r := by unfold Bv.nmA; rw [h.nmL]
theorem Sm0.shm {a b : List Hs} (h : Sm0 a b) : shm b = shm a := by
  funext r c
  unfold Bv.shm
  rw [h.nmA, h.nmA, h.hel]
theorem Sm0.amx {a b : List Hs} (h : Sm0 a b) (t : Nat → Rat) : amx b t = amx a t := by
  funext r c
  unfold Bv.amx
  rw [h.len, h.shm]
theorem Sm0.wor {a b : List Hs} (h : Sm0 a b) (t : Nat → Rat) (r : Nat) : wor b t r = wor a t r := by
  unfold Bv.wor
  rw [h.len, h.amx]
theorem Sm0.part {a b : List Hs} (h : Sm0 a b) (t : Nat → Rat) (z : Str) : partS b t z = partS a t z := by
  unfold partS
  rw [h.len]
  exact sm_congr fun r _ => by rw [h.nmA, h.hel, h.wor]
theorem wor_t {hs : List Hs} {K : Nat} (h : Led hs K) (hw : wg hs = []) {t t2 : Nat → Rat} (e : ∀ r, r < hs.length → t2 r = t r) {r : Nat} (hr : r < hs.length) : wor hs t2 r = wor hs t r :=
  wor_off h hw (R := fun _ => False) (fun r hr q => q (e r hr)) (fun _ _ q => q.elim) r hr id
theorem part_t {hs : List Hs} {K : Nat} (h : Led hs K) (hw : wg hs = []) {t t2 : Nat → Rat} (e : ∀ r, r < hs.length → t2 r = t r) (z : Str) : partS hs t2 z = partS hs t z :=
  part_off h hw (R := fun _ => False) (fun r hr q => q (e r hr)) (fun _ _ q => q.elim) id
theorem Sm0.worP {a b : List Hs} {K : Nat} (s : Sm0 a b) (h : Led a K) (hw : Bv.wg a = []) (e : ∀ r, r < a.length → thg b r = thg a r) : worP b = worP a := by
  unfold Bv.worP
  rw [s.len]
  apply List.map_congr_left
  intro r hr
  rw [s.nmA, s.wor, wor_t h hw e (List.mem_range.mp hr)]
theorem Sm0.parP {a b : List Hs} {K : Nat} (s : Sm0 a b) (h : Led a K) (hw : Bv.wg a = []) (e : ∀ r, r < a.length → thg b r = thg a r) (ps : List Str) : parP b ps = parP a ps := by
  unfold Bv.parP
  apply List.map_congr_left
  intro z _
  rw [s.part, part_t h hw e]
theorem thg_setN {hs : List Hs} {y : Str} {N : N3} {r : Nat} (hr : r < hs.length) : thg (setN hs y N) r = if nmA hs r = y then ((N.1 : Int) : Rat) else thg hs r := by
  unfold thg
  rw [nmA_setN, num3_setN (nmA_mem hr)]
  split <;> rfl
theorem Nx_sm {a b : List Hs} (nd : (a.map (·.nm)).Nodup) (s : Sm0 a b) (y z : Str) : Nx b y z ↔ Nx a y z := by
  have ndb : (b.map (·.nm)).Nodup := by rw [s.nm]; exact nd
  have one : ∀ {hs : List Hs}, (hs.map (·.nm)).Nodup → (Nx hs y z ↔ y ∈ hs.map (·.nm) ∧ z ∈ showS (hel hs y)) := fun {hs} nd => by
    constructor
    · rintro ⟨x, hx, rfl, hz⟩
      exact ⟨List.mem_map.mpr ⟨x, hx, rfl⟩, by rw [hel_of nd hx]; exact hz⟩
    · rintro ⟨hy, hz⟩
      obtain ⟨x, hx, rfl⟩ := mem_names hy
      rw [hel_of nd hx] at hz
      exact ⟨x, hx, rfl, hz⟩
  rw [one nd, one ndb, s.nm, s.hel]
theorem Rch.iff {N M : Str → Str → Prop} (h : ∀ y z, N y z ↔ M y z) {a z : Str} : Rch N a z ↔ Rch M a z := by
  have imp : ∀ {N M : Str → Str → Prop}, (∀ y z, N y z → M y z) → Rch N a z → Rch M a z := fun {N M} h r => by
    induction r with
    | one n => exact .one (h _ _ n)
    | step _ n ih => exact .step ih (h _ _ n)
  exact ⟨imp fun y z => (h y z).mp, imp fun y z => (h y z).mpr⟩
theorem asc_same {l m : List Str} (al : Asc l) (am : Asc m) (nl : l.Nodup) (nm : m.Nodup) (h : ∀ z, z ∈ l ↔ z ∈ m) : l = m := by
  refine asc_unique al am ?_
  exact (List.perm_ext_iff_of_nodup nl nm).mpr h
section
variable {CB CE : Addr} {un : List Str} {n : Nat} {F F' : MH} {p b pl en m : Addr} {ps : List Str} {hs : List Hs}
theorem Wd.ext (w : Wd CB CE un n F p b pl en m ps hs) (e : Ext F F') : Wd CB CE un n F' p b pl en m ps hs := by
  obtain ⟨i, j, hp⟩ := w.pur
  exact { w with c := ⟨e _ _ w.c.b, e _ _ w.c.pl, e _ _ w.c.en⟩, ent := fun x hx => ⟨e _ _ (w.ent x hx).e, e _ _ (w.ent x hx).h⟩, md := e _ _ w.md, sh := fun x hx => e _ _ (w.sh x hx), pur := ⟨i, j, e _ _ hp⟩ }
theorem sort_model {mm : Bool} {Q : Q1} (w : Wd CB CE un n F p b pl en m ps hs) (q : newLs mm ((nmL hs).map .str) F Q) : sortedF mm (.ref m) F Q := by
  have hl := w.len
  unfold sortedF
  simp only [lsOf, w.md, dcOf]
  refine ⟨by unfold modD; rw [List.length_map]; omega, ?_⟩
  rw [modD_keys]
  exact q
theorem len_model {Q : Q1} (w : Wd CB CE un n F p b pl en m ps hs) (q : Q (.int hs.length) F) : lenS (.ref m) F Q := by
  simp only [lenS, lsOf, w.md]
  unfold modD
  rw [List.length_map]
  exact q
theorem ix_model {Q : Q1} (w : Wd CB CE un n F p b pl en m ps hs) {x : Hs} (hx : x ∈ hs) (q : Q (.lst [.ref x.g, numV x.three]) F) : ixS (.ref m) (.str x.nm) F Q := by
  refine ix_dc (dc_of w.md) (kget_of ?_ (List.mem_map.mpr ⟨x, hx, rfl⟩)) q
  rw [modD_keys]
  exact w.nd
end
end Bv

set_option pp.maxSteps 900
/-! The law's own group; its sums; what a holder has by worths. -/
namespace Bv
open PySem L2 PyProof.Rows
/-! ### the group by the model -/
structure Mq (un : List Str) (F : MH) (m : Addr) (hs : List Hs) : Prop where
  md : Md un F m hs
  le : hs.length ≤ 8
  vu : ∀ z ∈ un, VS z
  nu : ∀ x ∈ hs, x.nm ∈ un
  sw : ∀ x ∈ hs, ∀ z, z ∈ showS x.held ↔ z ∈ x.sh.map (·.1)
  mg : ∀ x ∈ hs, x.g ≠ m
  cn : Can hs
  rl : ∀ x ∈ hs, ∀ z v, hget x.sh z = some v → hget x.held z = some v
theorem stepM {un : List Str} {F : MH} {m : Addr} {hs : List Hs} (q : Mq un F m hs) {x : Hs} (hx : x ∈ hs) (g : List Str) : ((showS (hel hs x.nm)).all fun z => decide (z ∈ g)) = decide (((x.sh.map (·.1)).filter fun z => decide (z ∉ g)) = []) := by
  rw [hel_of q.md.nd hx]
  by_cases h : ∀ z ∈ x.sh.map (·.1), z ∈ g
  · rw [decide_eq_true (List.filter_eq_nil_iff.mpr fun z hz => by simpa using h z hz)]
    exact List.all_eq_true.mpr fun z hz => decide_eq_true (h z ((q.sw x hx z).mp hz))
  · rw [decide_eq_false fun e => h fun z hz => by
      have := List.filter_eq_nil_iff.mp e z hz
      simpa using this]
    refine Bool.eq_false_iff.mpr fun e => h fun z hz => ?_
    exact of_decide_eq_true (List.all_eq_true.mp e z ((q.sw x hx z).mpr hz))
def spGroup : Spec := fun vs F Q _ => ∃ m un hs, vs = [.ref m] ∧ Mq un F m hs ∧ F m = some (.dict (modD hs)) ∧ Q (.lst ((wg hs).map .str)) F
theorem eqS_nonl {l : List Str} {F : MH} {Q : Bool → Prop} (hv : ∀ z ∈ l, VS z) (h : Q false) : eqS .non (.lst (l.map .str)) F Q := by
  refine ⟨by simp [rdF, okD], ?_, ?_⟩
  · simp only [rdF, okD]
    refine List.all_eq_true.mpr fun y hy => ?_
    obtain ⟨x, hx, rfl⟩ := List.mem_map.mp hy
    show okD 59 (.str x) = true
    have := hv x hx
    unfold VS at this
    simpa [okD] using this
  · have e : PyData.eqv (toPD (rdF F .non)) (toPD (rdF F (.lst (l.map .str)))) = false := by simp [rdF, toPD, PyData.eqv]
    rw [e]
    exact h
theorem wgN_le (hs : List Hs) : ∀ k, (wgN hs k).length ≤ hs.length
  | 0 => by show (nmL hs).length ≤ _; rw [nmL_len]; exact Nat.le_refl _
  | k + 1 => Nat.le_trans (stepG_le hs (wgN hs k)) (wgN_le hs k)
theorem sort_md {un : List Str} {F : MH} {m : Addr} {hs : List Hs} (q : Mq un F m hs) (hm : F m = some (.dict (modD hs))) {Q : Q1} (h : Q (.lst ((nmL hs).map .str)) F) : sortedF false (.ref m) F Q := by
  have hle := q.le
  unfold sortedF
  simp only [lsOf, hm, dcOf, modD_keys]
  refine ⟨by unfold modD; rw [List.length_map]; omega, ?_⟩
  exact h
theorem w_l_group {Γ : Amb} : ∀ vs F Q E, spGroup vs F Q E → wpB (fun C fs _ F => E C fs F) (c_l_group (Γ := Γ)) (start1 n_l_group vs) F (fun _ F => Q .non F) Q := by
  rintro vs F Q E ⟨m, un, hs, rfl, q, hm, h⟩
  have hle := q.le
  unfold c_l_group
  simp only [wpB, wpS, wpE, wpEs, wpT, wpTs, wpCs, wpP, wpIt, wpBl, bindT, biS, recS, truS, start1, List.map, List.length, List.replicate, List.append_nil, List.nil_append, List.cons_append, Nat.sub_self, Nat.reduceSub, Nat.reduceAdd, List.length_cons, List.length_nil, List.getElem?_cons_zero, List.getElem?_cons_succ, List.set_cons_zero, List.set_cons_succ, setAll, wipe1, Tg.slots, binS, subS, fdivS, modS, powS, cmpS, ltS, isS, isNS, asStrs, asBls, newLs, n_l_group]
  have hgv : ∀ k, ∀ z ∈ wgN hs k, VS z := fun k z hz => by
    obtain ⟨x, hx, rfl⟩ := mem_names (wgN_sub hz)
    exact q.vu _ (q.nu x hx)
  -- a round
  have round : ∀ (k : Nat) (s2 s3 s4 : Option Val) (k1 : St1 → MH → Prop), (∀ s3 s4, k1 [some (.ref m), some (.lst ((wgN hs k).map .str)), some (.lst ((wgN hs (k + 1)).map .str)), s3, s4] F) →
      wpS (fun C fs _ F => E C fs F) (.asg (.nm 2) (.lc false (.var 3) (.nm 3) (.lst (.var 1)) (.cons (.cmp .Eq (.lcK false (.var 4) (.nm 4) (.ix (.ix (.var 0) (.var 3)) (.cst (.int 0))) (.cons (.cmp .NotIn (.var 4) (.var 1)) .nil)) (.lst false .nil)) .nil)) : S Γ) [some (.ref m), some (.lst ((wgN hs k).map .str)), s2, s3, s4] F k1 Q := by
    intro k s2 s3 s4 k1 hk1
    simp only [wpB, wpS, wpE, wpEs, wpT, wpTs, wpCs, wpP, wpIt, wpBl, bindT, biS, recS, truS, start1, List.map, List.length, List.replicate, List.append_nil, List.nil_append, List.cons_append, Nat.sub_self, Nat.reduceSub, Nat.reduceAdd, List.length_cons, List.length_nil, List.getElem?_cons_zero, List.getElem?_cons_succ, List.set_cons_zero, List.set_cons_succ, setAll, wipe1, Tg.slots, binS, subS, fdivS, modS, powS, cmpS, ltS, isS, isNS, asStrs, asBls, newLs, lsOf_lst]
    refine lcGo_inv (fun i acc F2 => acc = (((wgN hs k).take i).filter fun y => (showS (hel hs y)).all fun z => decide (z ∈ wgN hs k)).map .str ∧ F2 = F) ?_ (fun _ _ _ _ => by first | rfl | trivial) ?_ ?_ ⟨rfl, rfl⟩
    · have hl := wgN_le hs k
      rw [List.length_map, sizeLine_eq]
      omega
    · rintro i v acc F2 kk hvi ⟨rfl, rfl⟩ hk hk2
      rw [List.getElem?_map] at hvi
      obtain ⟨y, hy, rfl⟩ := Option.map_eq_some_iff.mp hvi
      obtain ⟨x, hx, rfl⟩ := mem_names (wgN_sub (List.mem_of_getElem? hy))
      have hxl := q.md.snd x hx
      have hlen : x.sh.length ≤ 30 := by
        have := nodup_len hxl (q.md.unm x hx)
        rw [List.length_map] at this
        have := q.md.ul
        omega
      have hg := q.md.sh x hx
      refine ⟨x.g, hv x.sh, hg, fun u => ?_⟩
      have hmL : mset F2 x.g (.lck u (hv x.sh)) m = some (.dict (modD hs)) := by rw [mset_ne (Ne.symm (q.mg x hx))]; exact hm
      refine ix_dc (kvs := modD hs) (by simp only [dcOf, hmL]) (q.md.get hx) (ix_list rfl (by decide) rfl ⟨rfl, ?_⟩)
      rw [show (hv x.sh).map (fun kv => Val.str kv.1) = (x.sh.map (·.1)).map .str by rw [← hv_keys, List.map_map]; rfl]
      refine lcGo_inv (fun j acc F3 => acc = (((x.sh.map (·.1)).take j).filter fun z => decide (z ∉ wgN hs k)).map .str ∧ F3 = mset F2 x.g (.lck u (hv x.sh))) (by rw [List.length_map, List.length_map, sizeLine_eq]; omega) (fun _ _ _ ⟨_, e⟩ => by rw [e]; exact mset_same) ?_ ?_ ⟨rfl, rfl⟩
      · rintro j v acc F3 k3 hv3 ⟨rfl, rfl⟩ hk3 hk4
        rw [List.getElem?_map] at hv3
        obtain ⟨z, hz, rfl⟩ := Option.map_eq_some_iff.mp hv3
        have htk : (x.sh.map (·.1)).take (j + 1) = (x.sh.map (·.1)).take j ++ [z] := by rw [List.take_add_one, hz]; rfl
        refine in_strs (l := wgN hs k) rfl ?_
        by_cases hzf : z ∈ wgN hs k
        · rw [decide_eq_true hzf]
          refine hk4 _ ⟨?_, rfl⟩
          rw [htk, List.filter_append]
          simp [hzf]
        · rw [decide_eq_false hzf]
          refine hk3 _ _ ⟨?_, rfl⟩
          rw [htk, List.filter_append, List.map_append]
          simp [hzf]
      · rintro acc F3 ⟨rfl, rfl⟩
        rw [List.length_map, List.take_length]
        refine ⟨mset_same, by rw [sizeLine_eq]; decide, ?_⟩
        rw [mset_mset, mset_self hg]
        refine eqS_strs (l := (x.sh.map (·.1)).filter fun z => decide (z ∉ wgN hs k)) (m := []) rfl rfl (fun z hz => q.vu z (q.md.unm x hx z (List.mem_filter.mp hz).1)) (fun _ h => nomatch h) ?_
        rw [← stepM q hx]
        have htk : (wgN hs k).take (i + 1) = (wgN hs k).take i ++ [x.nm] := by rw [List.take_add_one, hy]; rfl
        cases hB : (showS (hel hs x.nm)).all fun z => decide (z ∈ wgN hs k) with
        | true =>
          refine hk _ _ ⟨?_, rfl⟩
          rw [htk, List.filter_append, List.map_append]
          simp [hB]
        | false =>
          refine hk2 _ ⟨?_, rfl⟩
          rw [htk, List.filter_append]
          simp [hB]
    · rintro acc F2 ⟨rfl, rfl⟩
      rw [List.length_map, List.take_length]
      exact hk1 _ _
  refine sort_md q hm ?_
  obtain ⟨J, hJ⟩ : ∃ J : Nat → St1 → MH → Prop, ∀ mm σ F1, J mm σ F1 ↔ (F1 = F ∧ ∃ (k : Nat) (s2 : Val) (s3 s4 : Option Val), σ = [some (.ref m), some (.lst ((wgN hs k).map .str)), some s2, s3, s4] ∧ ((s2 = .non ∧ k = 0 ∧ mm = hs.length + 2) ∨ (s2 = .lst ((wgN hs (k + 1)).map .str) ∧ (∀ j, j < k → stepG hs (wgN hs j) ≠ wgN hs j) ∧ k ≤ hs.length ∧ mm = hs.length + 1 - k))) := ⟨_, fun _ _ _ => Iff.rfl⟩
  refine ⟨J, ⟨_, (hJ _ _ _).mpr ⟨rfl, 0, .non, _, _, rfl, .inl ⟨rfl, rfl, rfl⟩⟩⟩, fun mm σ F1 hj => ?_⟩
  obtain ⟨rfl, k, s2, s3, s4, rfl, hc⟩ := (hJ _ _ _).mp hj
  rcases hc with ⟨rfl, rfl, rfl⟩ | ⟨rfl, hne, hk, rfl⟩
  · have r := round 0 (some .non) s3 s4 (fun σ F2 => ∃ m', m' < hs.length + 2 ∧ J m' σ F2) fun s3 s4 => ⟨hs.length + 1, by omega, (hJ _ _ _).mpr ⟨rfl, 0, _, _, _, rfl, .inr ⟨rfl, fun j hj => by omega, by omega, by omega⟩⟩⟩
    simp only [wpB, wpS, wpE, wpEs, wpT, wpTs, wpCs, wpP, wpIt, wpBl, bindT, biS, recS, truS, start1, List.map, List.length, List.replicate, List.append_nil, List.nil_append, List.cons_append, Nat.sub_self, Nat.reduceSub, Nat.reduceAdd, List.length_cons, List.length_nil, List.getElem?_cons_zero, List.getElem?_cons_succ, List.set_cons_zero, List.set_cons_succ, setAll, wipe1, Tg.slots, binS, subS, fdivS, modS, powS, cmpS, ltS, isS, isNS, asStrs, asBls, newLs, lsOf_lst] at r ⊢
    exact eqS_nonl (hgv 0) r
  · by_cases e : wgN hs (k + 1) = wgN hs k
    · simp only [wpB, wpS, wpE, wpEs, wpT, wpTs, wpCs, wpP, wpIt, wpBl, bindT, biS, recS, truS, start1, List.map, List.length, List.replicate, List.append_nil, List.nil_append, List.cons_append, Nat.sub_self, Nat.reduceSub, Nat.reduceAdd, List.length_cons, List.length_nil, List.getElem?_cons_zero, List.getElem?_cons_succ, List.set_cons_zero, List.set_cons_succ, setAll, wipe1, Tg.slots, binS, subS, fdivS, modS, powS, cmpS, ltS, isS, isNS, asStrs, asBls, newLs]
      refine eqS_strs (l := wgN hs (k + 1)) (m := wgN hs k) rfl rfl (hgv _) (hgv _) ?_
      rw [decide_eq_true e, wg_is hne e]
      exact h
    · have hne' : ∀ j, j < k + 1 → stepG hs (wgN hs j) ≠ wgN hs j := fun j hj => by
        by_cases hjk : j = k
        · rw [hjk]; exact e
        · exact hne j (by omega)
      have hl := wgN_len hne'
      have r := round (k + 1) (some (.lst ((wgN hs (k + 1)).map .str))) s3 s4 (fun σ F2 => ∃ m', m' < hs.length + 1 - k ∧ J m' σ F2) fun s3 s4 => ⟨hs.length + 1 - (k + 1), by omega, (hJ _ _ _).mpr ⟨rfl, k + 1, _, _, _, rfl, .inr ⟨rfl, hne', by omega, rfl⟩⟩⟩
      simp only [wpB, wpS, wpE, wpEs, wpT, wpTs, wpCs, wpP, wpIt, wpBl, bindT, biS, recS, truS, start1, List.map, List.length, List.replicate, List.append_nil, List.nil_append, List.cons_append, Nat.sub_self, Nat.reduceSub, Nat.reduceAdd, List.length_cons, List.length_nil, List.getElem?_cons_zero, List.getElem?_cons_succ, List.set_cons_zero, List.set_cons_succ, setAll, wipe1, Tg.slots, binS, subS, fdivS, modS, powS, cmpS, ltS, isS, isNS, asStrs, asBls, newLs, lsOf_lst] at r ⊢
      refine eqS_strs (l := wgN hs (k + 1)) (m := wgN hs k) rfl rfl (hgv _) (hgv _) ?_
      rw [decide_eq_false e]
      exact r
end Bv

set_option pp.maxSteps 900
/-! The law's own sums; what a holder has by worths. -/
namespace Bv
open PySem L2 PyProof.Rows
def spTimes : Spec := spMul
theorem w_l_times {Γ : Amb} {r : CallR1 Γ "_law_made"} (hr : r.sp = spMade) : ∀ vs F Q E, spTimes vs F Q E → wpB (fun C fs _ F => E C fs F) (c_l_times r) (start1 n_l_times vs) F (fun _ F => Q .non F) Q := by
  rintro vs F Q E ⟨x, y, a, c, a', c', rfl, h1, h2, h3, h4, h5, h⟩
  unfold c_l_times
  simp only [wpB, wpS, wpE, wpEs, wpT, wpTs, wpCs, wpP, wpIt, wpBl, bindT, biS, bmS, recS, tyS, truS, start1, List.map, List.length, List.replicate, List.append_nil, List.nil_append, List.cons_append, Nat.sub_self, Nat.reduceSub, Nat.reduceAdd, List.length_cons, List.length_nil, List.getElem?_cons_zero, List.getElem?_cons_succ, List.set_cons_zero, List.set_cons_succ, setAll, wipe1, Tg.slots, binS, subS, fdivS, modS, powS, cmpS, ltS, isS, isNS, asStrs, asBls, newLs, n_l_times, hr]
  have s1 := h1.sm (by omega) h4
  have s2 := h2.sm (by omega) h5
  refine ix0 (ix0 (mul_i (s1.a.mul s2.a) (ix1 (ix1 (mul_i (s1.b.mul s2.b) ?_)))))
  refine ⟨_, _, rfl, Int.mul_pos (fq_pos x) (fq_pos y), h1.prod h2 h3, ?_⟩
  rw [mul_fq]
  exact h
theorem w_l_sum {Γ : Amb} {r : CallR1 Γ "_law_made"} (hr : r.sp = spMade) : ∀ vs F Q E, spTotal vs F Q E → wpB (fun C fs _ F => E C fs F) (c_l_sum r) (start1 n_l_sum vs) F (fun _ F => Q .non F) Q := by
  rintro vs F Q E ⟨v, xs, a, c, a', c', rfl, hv, hl, hb, hb2, h1, h2, h3, h⟩
  unfold c_l_sum
  simp only [wpB, wpS, wpE, wpEs, wpT, wpTs, wpCs, wpP, wpIt, wpBl, bindT, biS, bmS, recS, tyS, truS, start1, List.map, List.length, List.replicate, List.append_nil, List.nil_append, List.cons_append, Nat.sub_self, Nat.reduceSub, Nat.reduceAdd, List.length_cons, List.length_nil, List.getElem?_cons_zero, List.getElem?_cons_succ, List.set_cons_zero, List.set_cons_succ, setAll, wipe1, Tg.slots, binS, subS, fdivS, modS, powS, cmpS, ltS, isS, isNS, asStrs, asBls, newLs, n_l_sum, hr]
  refine ⟨by rw [sizeLine_eq]; decide, trivial, ?_⟩
  simp only [setAll, List.set_cons_succ, List.set_cons_zero, List.getElem?_cons_succ, List.getElem?_cons_zero, hv]
  refine forGo_inv (fun i σ F1 => ∃ s1, σ = [some v, s1, some (.int (fq (xs.take i).sum).1), some (.int (fq (xs.take i).sum).2)] ∧ F1 = F) (fun _ _ _ ⟨_, _, e⟩ => by rw [e]; exact hv) ?_ ?_ ⟨none, rfl, rfl⟩
  · rintro i x σ F1 k hx ⟨s1, rfl, rfl⟩ hk
    rw [List.getElem?_map] at hx
    obtain ⟨y, hy, rfl⟩ := Option.map_eq_some_iff.mp hx
    have hi := (List.getElem?_eq_some_iff.mp hy).1
    have b1 := hb i (by omega)
    have b2 := hb2 y (List.mem_of_getElem? hy)
    have m1 := b1.sm (by omega) h2
    have m2 := b2.sm (by omega) h3
    simp only [wpB, wpS, wpE, wpEs, wpT, wpTs, wpCs, wpP, wpIt, wpBl, bindT, biS, bmS, recS, tyS, truS, start1, List.map, List.length, List.replicate, List.append_nil, List.nil_append, List.cons_append, Nat.sub_self, Nat.reduceSub, Nat.reduceAdd, List.length_cons, List.length_nil, List.getElem?_cons_zero, List.getElem?_cons_succ, List.set_cons_zero, List.set_cons_succ, setAll, wipe1, Tg.slots, binS, subS, fdivS, modS, powS, cmpS, ltS, isS, isNS, asStrs, asBls, newLs]
    refine ix1 (mul_i (m1.a.mul m2.b) (ix0 (mul_i (m2.a.mul m1.b) (add_int (ix1 (mul_i (m1.b.mul m2.b) ?_))))))
    refine ⟨_, _, rfl, Int.mul_pos (fq_pos _) (fq_pos y), b1.prod b2 h1, ?_⟩
    have e : low ((fq (xs.take i).sum).1 * (fq y).2 + (fq y).1 * (fq (xs.take i).sum).2) ((fq (xs.take i).sum).2 * (fq y).2) = fq (xs.take (i + 1)).sum := by
      have e1 := more_fq (xs.take i).sum y
      unfold more at e1
      rw [e1, List.take_add_one, hy, List.sum_append]
      show _ = fq (_ + ([y] : List Rat).sum)
      rw [List.sum_cons, List.sum_nil]
      congr 1
      grind
    rw [e]
    refine ⟨rfl, hk _ _ ⟨_, rfl, rfl⟩⟩
  · rintro σ F1 ⟨s1, rfl, rfl⟩
    simp only [wpB, wpS, wpE, wpEs, wpT, wpTs, wpCs, wpP, wpIt, wpBl, bindT, biS, bmS, recS, tyS, truS, start1, List.map, List.length, List.replicate, List.append_nil, List.nil_append, List.cons_append, Nat.sub_self, Nat.reduceSub, Nat.reduceAdd, List.length_cons, List.length_nil, List.getElem?_cons_zero, List.getElem?_cons_succ, List.set_cons_zero, List.set_cons_succ, setAll, wipe1, Tg.slots, binS, subS, fdivS, modS, powS, cmpS, ltS, isS, isNS, asStrs, asBls, newLs]
    rw [List.length_map, List.take_length]
    refine ⟨by rw [sizeLine_eq]; decide, ?_⟩
    exact h

/-- what a holder has by worths, in the model's order -/
def heldL (hs : List Hs) (z : Str) (g : Str → Rat) : List Rat := (hs.filter fun x => decide (z ∈ x.sh.map (·.1))).map fun x => shr x.held z * g x.nm
theorem kget_hv : ∀ {l : Held} {z : Str}, kget (hv l) z = (hget l z).map frP
  | [], _ => rfl
  | a :: l, z => by
    rw [hget_cons]
    show kget ((a.1, frP a.2) :: hv l) z = _
    unfold kget
    by_cases e : a.1 = z
    · rw [if_pos e]
      simp [e]
    · rw [if_neg e, ← kget_hv]
      simp [e, kget]
def spHeld : Spec := fun vs F Q _ => ∃ (m d : Addr) (z : Str) (un : List Str) (hs : List Hs) (g : Str → Rat) (kvs : List (Str × Val)) (a c : Nat), vs = [.ref m, .str z, .ref d] ∧ Mq un F m hs ∧ (F m = some (.dict (modD hs)) ∨ ∃ u, F m = some (.lck u (modD hs))) ∧ F d = some (.dict kvs) ∧ d ≠ m ∧ (∀ x ∈ hs, kget kvs x.nm = some (frR (g x.nm))) ∧ a < 4500 ∧ c < 9000 ∧
  (∀ x ∈ hs, Bd 2900 2900 (shr x.held z) ∧ BdC (g x.nm) ∧ Bd a c (shr x.held z * g x.nm)) ∧ (∀ i, i ≤ (heldL hs z g).length → Bd a c ((heldL hs z g).take i).sum) ∧ ∀ F', Ext F F' → Q (frR (heldL hs z g).sum) F'
theorem w_l_held {Γ : Amb} {r1 : CallR1 Γ "_law_sum"} {r2 : CallR1 Γ "_law_times"} (h1 : r1.sp = spTotal) (h2 : r2.sp = spTimes) : ∀ vs F Q E, spHeld vs F Q E → wpB (fun C fs _ F => E C fs F) (c_l_held r1 r2) (start1 n_l_held vs) F (fun _ F => Q .non F) Q := by
  rintro vs F Q E ⟨m, d, z, un, hs, g, kvs, a, c, rfl, q, hm, hd, hdm, hk, ha, hc, hb, hb2, h⟩
  have hle := q.le
  unfold c_l_held
  simp only [wpB, wpS, wpE, wpEs, wpT, wpTs, wpCs, wpP, wpIt, wpBl, bindT, biS, recS, truS, start1, List.map, List.length, List.replicate, List.append_nil, List.nil_append, List.cons_append, Nat.sub_self, Nat.reduceSub, Nat.reduceAdd, List.length_cons, List.length_nil, List.getElem?_cons_zero, List.getElem?_cons_succ, List.set_cons_zero, List.set_cons_succ, setAll, wipe1, Tg.slots, binS, subS, fdivS, modS, powS, cmpS, ltS, isS, isNS, asStrs, asBls, newLs, n_l_held, h1, h2]
  refine ⟨by rw [sizeLine_eq]; decide, fun p hp => ?_⟩
  have hpm : m ≠ p := fun e => by rcases hm with hm | ⟨u, hm⟩ <;> (rw [e, hp] at hm; cases hm)
  have hpd : d ≠ p := fun e => by rw [e, hp] at hd; cases hd
  have hpg : ∀ x ∈ hs, x.g ≠ p := fun x hx e => by have := q.md.sh x hx; rw [e, hp] at this; cases this
  rcases hm with hm | ⟨u, hm⟩
  · left
    refine ⟨m, modD hs, by rw [mset_ne hpm]; exact hm, fun u => ⟨rfl, ?_⟩⟩
    rw [show (modD hs).map (fun kv => Val.str kv.1) = (hs.map (·.nm)).map .str by rw [← modD_keys, List.map_map]; rfl]
    refine forGo_inv (fun (i : Nat) σ F2 => (∃ s4, σ = [some (.ref m), some (.str z), some (.ref d), some (.ref p), s4]) ∧ F2 = mset (mset F p (.lst ((((hs.take i).filter fun x => decide (z ∈ x.sh.map (·.1))).map fun x => shr x.held z * g x.nm).map frR))) m (.lck u (modD hs))) (fun _ _ _ ⟨_, e⟩ => by rw [e]; exact mset_same) ?_ ?_ ⟨⟨_, rfl⟩, rfl⟩
    · rintro i v σ F2 kk hvi ⟨⟨s4, rfl⟩, rfl⟩ hk2
      rw [List.map_map, List.getElem?_map] at hvi
      obtain ⟨x, hxi, rfl⟩ := Option.map_eq_some_iff.mp hvi
      have hx := List.mem_of_getElem? hxi
      have htk : hs.take (i + 1) = hs.take i ++ [x] := by rw [List.take_add_one, hxi]; rfl
      have hL8 : (((hs.take i).filter fun x => decide (z ∈ x.sh.map (·.1))).map fun x => shr x.held z * g x.nm).length ≤ 8 := by
        have h1 := List.length_filter_le (fun x : Hs => decide (z ∈ x.sh.map (·.1))) (hs.take i)
        rw [List.length_take] at h1
        rw [List.length_map]
        omega
      have hnext : (((hs.take (i + 1)).filter fun x => decide (z ∈ x.sh.map (·.1))).map fun x => shr x.held z * g x.nm) = (((hs.take i).filter fun x => decide (z ∈ x.sh.map (·.1))).map fun x => shr x.held z * g x.nm) ++ if z ∈ x.sh.map (·.1) then [shr x.held z * g x.nm] else [] := by
        rw [htk, List.filter_append, List.map_append]
        congr 1
        by_cases hz : z ∈ x.sh.map (·.1)
        · rw [if_pos hz, List.filter_cons_of_pos (p := fun x : Hs => decide (z ∈ x.sh.map (·.1))) (decide_eq_true hz)]; rfl
        · rw [if_neg hz, List.filter_cons_of_neg (p := fun x : Hs => decide (z ∈ x.sh.map (·.1))) (fun e => hz (of_decide_eq_true e))]; rfl
      rw [hnext] at hk2
      generalize (((hs.take i).filter fun x => decide (z ∈ x.sh.map (·.1))).map fun x => shr x.held z * g x.nm) = L at *
      have em : dcOf (mset (mset F p (.lst (L.map frR))) m (.lck u (modD hs))) m = some (modD hs) := by simp only [dcOf, mset_same]
      have eg : (mset (mset F p (.lst (L.map frR))) m (.lck u (modD hs))) x.g = some (.dict (hv x.sh)) := by rw [mset_ne (q.mg x hx), mset_ne (hpg x hx)]; exact q.md.sh x hx
      have ed : (mset (mset F p (.lst (L.map frR))) m (.lck u (modD hs))) d = some (.dict kvs) := by rw [mset_ne hdm, mset_ne hpd]; exact hd
      have ep : (mset (mset F p (.lst (L.map frR))) m (.lck u (modD hs))) p = some (.lst (L.map frR)) := by rw [mset_ne (Ne.symm hpm), mset_same]
      have enx : ∀ M : List Rat, mset (mset (mset F p (.lst (L.map frR))) m (.lck u (modD hs))) p (.lst (M.map frR)) = mset (mset F p (.lst (M.map frR))) m (.lck u (modD hs)) := fun M => by
        rw [mset_comm hpm, mset_mset]
      have hgm := q.md.get hx
      generalize (mset (mset F p (.lst (L.map frR))) m (.lck u (modD hs))) = F2 at *
      obtain ⟨b1, b2, b3⟩ := hb x hx
      simp only [wpB, wpS, wpE, wpEs, wpT, wpTs, wpCs, wpP, wpIt, wpBl, bindT, biS, recS, truS, start1, List.map, List.length, List.replicate, List.append_nil, List.nil_append, List.cons_append, Nat.sub_self, Nat.reduceSub, Nat.reduceAdd, List.length_cons, List.length_nil, List.getElem?_cons_zero, List.getElem?_cons_succ, List.set_cons_zero, List.set_cons_succ, setAll, wipe1, Tg.slots, binS, subS, fdivS, modS, powS, cmpS, ltS, isS, isNS, asStrs, asBls, newLs]
      refine ix_dc em hgm (ix_list rfl (by decide) rfl (inS_d (kvs := hv x.sh) (by simp only [dcOf, eg]) ?_))
      rw [kget_isSome, hv_keys]
      by_cases hz : z ∈ x.sh.map (·.1)
      · rw [decide_eq_true hz]
        obtain ⟨v, hv1⟩ : ∃ v, hget x.sh z = some v := by
          cases e : hget x.sh z with
          | some v => exact ⟨v, rfl⟩
          | none => exact absurd hz (hget_none.mp e)
        have hvs : v = fq (shr x.held z) := by
          have := can_fq q.cn hx z
          rw [q.rl x hx z v hv1] at this
          exact this
        refine ⟨⟨p, _, rfl, ep⟩, ix_dc em hgm (ix_list rfl (by decide) rfl (ix_dc (kvs := hv x.sh) (by simp only [dcOf, eg]) (v := frR (shr x.held z)) (by rw [kget_hv, hv1, hvs]; rfl) (ix_dc (kvs := kvs) (by simp only [dcOf, ed]) (hk x hx) ?_)))⟩
        refine ⟨shr x.held z, g x.nm, 2900, 2900, 2900, 4000, rfl, b1, b2, by omega, by omega, by omega, ?_⟩
        simp only [bmS, ep]
        refine ⟨by rw [List.length_map, sizeLine_eq]; omega, hk2 _ _ ⟨⟨_, rfl⟩, ?_⟩⟩
        rw [if_pos hz, ← enx, List.map_append]
        rfl
      · rw [decide_eq_false hz]
        refine hk2 _ _ ⟨⟨_, rfl⟩, ?_⟩
        rw [if_neg hz, ← enx, List.append_nil, mset_self ep]
    · rintro σ F2 ⟨⟨s4, rfl⟩, rfl⟩
      rw [List.length_map, List.length_map, List.take_length]
      refine ⟨mset_same, ?_⟩
      have hfl : (heldL hs z g).length ≤ 8 := by
        unfold heldL
        have h1 := List.length_filter_le (fun x : Hs => decide (z ∈ x.sh.map (·.1))) hs
        rw [List.length_map]
        omega
      rw [mset_mset, mset_self (by rw [mset_ne hpm]; exact hm)]
      refine ⟨.ref p, heldL hs z g, a, c, a, c, rfl, by rw [ls_cell]; rfl, by omega, hb2, fun x hx => ?_, by omega, hc, hc, h _ ((Ext.refl F).new hp)⟩
      unfold heldL at hx
      obtain ⟨y, hy, rfl⟩ := List.mem_map.mp hx
      exact (hb y (List.mem_filter.mp hy).1).2.2
  · right
    refine ⟨m, u, modD hs, by rw [mset_ne hpm]; exact hm, rfl, ?_⟩
    rw [show (modD hs).map (fun kv => Val.str kv.1) = (hs.map (·.nm)).map .str by rw [← modD_keys, List.map_map]; rfl]
    refine forGo_inv (fun (i : Nat) σ F2 => (∃ s4, σ = [some (.ref m), some (.str z), some (.ref d), some (.ref p), s4]) ∧ F2 = mset F p (.lst ((((hs.take i).filter fun x => decide (z ∈ x.sh.map (·.1))).map fun x => shr x.held z * g x.nm).map frR))) (fun _ _ _ ⟨_, e⟩ => by rw [e, mset_ne hpm]; exact hm) ?_ ?_ ⟨⟨_, rfl⟩, rfl⟩
    · rintro i v σ F2 kk hvi ⟨⟨s4, rfl⟩, rfl⟩ hk2
      rw [List.map_map, List.getElem?_map] at hvi
      obtain ⟨x, hxi, rfl⟩ := Option.map_eq_some_iff.mp hvi
      have hx := List.mem_of_getElem? hxi
      have htk : hs.take (i + 1) = hs.take i ++ [x] := by rw [List.take_add_one, hxi]; rfl
      have hL8 : (((hs.take i).filter fun x => decide (z ∈ x.sh.map (·.1))).map fun x => shr x.held z * g x.nm).length ≤ 8 := by
        have h1 := List.length_filter_le (fun x : Hs => decide (z ∈ x.sh.map (·.1))) (hs.take i)
        rw [List.length_take] at h1
        rw [List.length_map]
        omega
      have hnext : (((hs.take (i + 1)).filter fun x => decide (z ∈ x.sh.map (·.1))).map fun x => shr x.held z * g x.nm) = (((hs.take i).filter fun x => decide (z ∈ x.sh.map (·.1))).map fun x => shr x.held z * g x.nm) ++ if z ∈ x.sh.map (·.1) then [shr x.held z * g x.nm] else [] := by
        rw [htk, List.filter_append, List.map_append]
        congr 1
        by_cases hz : z ∈ x.sh.map (·.1)
        · rw [if_pos hz, List.filter_cons_of_pos (p := fun x : Hs => decide (z ∈ x.sh.map (·.1))) (decide_eq_true hz)]; rfl
        · rw [if_neg hz, List.filter_cons_of_neg (p := fun x : Hs => decide (z ∈ x.sh.map (·.1))) (fun e => hz (of_decide_eq_true e))]; rfl
      rw [hnext] at hk2
      generalize (((hs.take i).filter fun x => decide (z ∈ x.sh.map (·.1))).map fun x => shr x.held z * g x.nm) = L at *
      have em : dcOf (mset F p (.lst (L.map frR))) m = some (modD hs) := by simp only [dcOf, mset_ne hpm, hm]
      have eg : (mset F p (.lst (L.map frR))) x.g = some (.dict (hv x.sh)) := by rw [mset_ne (hpg x hx)]; exact q.md.sh x hx
      have ed : (mset F p (.lst (L.map frR))) d = some (.dict kvs) := by rw [mset_ne hpd]; exact hd
      have ep : (mset F p (.lst (L.map frR))) p = some (.lst (L.map frR)) := by rw [mset_same]
      have enx : ∀ M : List Rat, mset (mset F p (.lst (L.map frR))) p (.lst (M.map frR)) = mset F p (.lst (M.map frR)) := fun M => by
        rw [mset_mset]
      have hgm := q.md.get hx
      generalize (mset F p (.lst (L.map frR))) = F2 at *
      obtain ⟨b1, b2, b3⟩ := hb x hx
      simp only [wpB, wpS, wpE, wpEs, wpT, wpTs, wpCs, wpP, wpIt, wpBl, bindT, biS, recS, truS, start1, List.map, List.length, List.replicate, List.append_nil, List.nil_append, List.cons_append, Nat.sub_self, Nat.reduceSub, Nat.reduceAdd, List.length_cons, List.length_nil, List.getElem?_cons_zero, List.getElem?_cons_succ, List.set_cons_zero, List.set_cons_succ, setAll, wipe1, Tg.slots, binS, subS, fdivS, modS, powS, cmpS, ltS, isS, isNS, asStrs, asBls, newLs]
      refine ix_dc em hgm (ix_list rfl (by decide) rfl (inS_d (kvs := hv x.sh) (by simp only [dcOf, eg]) ?_))
      rw [kget_isSome, hv_keys]
      by_cases hz : z ∈ x.sh.map (·.1)
      · rw [decide_eq_true hz]
        obtain ⟨v, hv1⟩ : ∃ v, hget x.sh z = some v := by
          cases e : hget x.sh z with
          | some v => exact ⟨v, rfl⟩
          | none => exact absurd hz (hget_none.mp e)
        have hvs : v = fq (shr x.held z) := by
          have := can_fq q.cn hx z
          rw [q.rl x hx z v hv1] at this
          exact this
        refine ⟨⟨p, _, rfl, ep⟩, ix_dc em hgm (ix_list rfl (by decide) rfl (ix_dc (kvs := hv x.sh) (by simp only [dcOf, eg]) (v := frR (shr x.held z)) (by rw [kget_hv, hv1, hvs]; rfl) (ix_dc (kvs := kvs) (by simp only [dcOf, ed]) (hk x hx) ?_)))⟩
        refine ⟨shr x.held z, g x.nm, 2900, 2900, 2900, 4000, rfl, b1, b2, by omega, by omega, by omega, ?_⟩
        simp only [bmS, ep]
        refine ⟨by rw [List.length_map, sizeLine_eq]; omega, hk2 _ _ ⟨⟨_, rfl⟩, ?_⟩⟩
        rw [if_pos hz, ← enx, List.map_append]
        rfl
      · rw [decide_eq_false hz]
        refine hk2 _ _ ⟨⟨_, rfl⟩, ?_⟩
        rw [if_neg hz, ← enx, List.append_nil, mset_self ep]
    · rintro σ F2 ⟨⟨s4, rfl⟩, rfl⟩
      rw [List.length_map, List.length_map, List.take_length]
      have hfl : (heldL hs z g).length ≤ 8 := by
        unfold heldL
        have h1 := List.length_filter_le (fun x : Hs => decide (z ∈ x.sh.map (·.1))) hs
        rw [List.length_map]
        omega
      refine ⟨.ref p, heldL hs z g, a, c, a, c, rfl, by rw [ls_cell]; rfl, by omega, hb2, fun x hx => ?_, by omega, hc, hc, h _ ((Ext.refl F).new hp)⟩
      unfold heldL at hx
      obtain ⟨y, hy, rfl⟩ := List.mem_map.mp hx
      exact (hb y (List.mem_filter.mp hy).1).2.2
end Bv

set_option pp.maxSteps 900
/-! Fractions looked at; sums in any order; what comes to all persons. -/
namespace Bv
open PySem L2 PyProof.Rows
def spIsI : Spec := fun vs F Q _ => ∃ i : Int, vs = [.int i] ∧ Q (.bl true) F
theorem w_l_whole {Γ : Amb} {iI : IsR Γ "int"} {iB : IsR Γ "bool"} (h1 : iI.ans (.type "int") = some true) (h2 : iB.ans (.type "int") = some false) : ∀ vs F Q E, spIsI vs F Q E → wpB (fun C fs _ F => E C fs F) (c_l_whole iI iB) (start1 n_l_whole vs) F (fun _ F => Q .non F) Q := by
  rintro vs F Q E ⟨i, rfl, hq⟩
  unfold c_l_whole
  simp only [wpB, wpS, wpE, wpEs, wpT, wpTs, wpCs, wpP, wpIt, wpBl, bindT, biS, recS, truS, start1, List.map, List.length, List.replicate, List.append_nil, List.nil_append, List.cons_append, Nat.sub_self, Nat.reduceSub, Nat.reduceAdd, List.length_cons, List.length_nil, List.getElem?_cons_zero, List.getElem?_cons_succ, List.set_cons_zero, List.set_cons_succ, setAll, wipe1, Tg.slots, binS, subS, fdivS, modS, powS, cmpS, ltS, isS, isNS, asStrs, asBls, newLs, n_l_whole, tyS]
  rw [h1]
  simp only [wpB, wpS, wpE, wpEs, wpT, wpTs, wpCs, wpP, wpIt, wpBl, bindT, biS, recS, truS, start1, List.map, List.length, List.replicate, List.append_nil, List.nil_append, List.cons_append, Nat.sub_self, Nat.reduceSub, Nat.reduceAdd, List.length_cons, List.length_nil, List.getElem?_cons_zero, List.getElem?_cons_succ, List.set_cons_zero, List.set_cons_succ, setAll, wipe1, Tg.slots, binS, subS, fdivS, modS, powS, cmpS, ltS, isS, isNS, asStrs, asBls, newLs, tyS, h2, Bool.not_false]
  exact hq
def spFrac : Spec := fun vs F Q _ => ∃ x : Rat, vs = [frR x] ∧ Q (.bl true) F
theorem w_l_is_fraction {Γ : Amb} {r1 : CallR1 Γ "_law_divisor"} {iT : IsR Γ "tuple"} {r2 : CallR1 Γ "_law_whole"} (h1 : r1.sp = spDiv) (h2 : r2.sp = spIsI) (hT : iT.ans (.type "tuple") = some true) : ∀ vs F Q E, spFrac vs F Q E → wpB (fun C fs _ F => E C fs F) (c_l_is_fraction r1 iT r2) (start1 n_l_is_fraction vs) F (fun _ F => Q .non F) Q := by
  rintro vs F Q E ⟨x, rfl, hq⟩
  unfold c_l_is_fraction
  simp only [wpB, wpS, wpE, wpEs, wpT, wpTs, wpCs, wpP, wpIt, wpBl, bindT, biS, recS, truS, start1, List.map, List.length, List.replicate, List.append_nil, List.nil_append, List.cons_append, Nat.sub_self, Nat.reduceSub, Nat.reduceAdd, List.length_cons, List.length_nil, List.getElem?_cons_zero, List.getElem?_cons_succ, List.set_cons_zero, List.set_cons_succ, setAll, wipe1, Tg.slots, binS, subS, fdivS, modS, powS, cmpS, ltS, isS, isNS, asStrs, asBls, newLs, n_l_is_fraction, h1, h2]
  show tyS Γ.K (.tup [.int (fq x).1, .int (fq x).2]) F _
  simp only [tyS, hT, Bool.not_true]
  show lenS (.tup [.int (fq x).1, .int (fq x).2]) F _
  simp only [lenS, List.length_cons, List.length_nil]
  refine eqS_int ?_
  refine ix0 ⟨_, rfl, ix1 ⟨_, rfl, ix1 ?_⟩⟩
  have hp := fq_pos x
  show (match BoolOp.And, Val.bl (decide ((0 : Int) < (fq x).2)) with | _, _ => _ : Prop)
  rw [decide_eq_true hp]
  refine ix0 (ix1 ⟨_, _, rfl, ?_⟩)
  rw [fq_gcd]
  exact eqS_int hq
/-! ### sums in any order -/
theorem perm_sumR {l m : List Rat} (h : l.Perm m) : l.sum = m.sum := by
  induction h with
  | nil => rfl
  | cons x _ ih => rw [List.sum_cons, List.sum_cons, ih]
  | swap x y l => simp only [List.sum_cons]; grind
  | trans _ _ h1 h2 => exact h1.trans h2
theorem nm_sum {hs : List Hs} (nd : (hs.map (·.nm)).Nodup) (f : Hs → Rat) (g : Str → Rat) (h : ∀ x ∈ hs, f x = g x.nm) : (hs.map f).sum = sm hs.length fun r => g (nmA hs r) := by
  have e1 : hs.map f = (hs.map (·.nm)).map g := by
    rw [List.map_map]
    exact List.map_congr_left fun x hx => h x hx
  rw [e1, ← perm_sumR ((sortS_perm (hs.map (·.nm))).map g), ← sm_sum]
  have e2 : sortS (hs.map (·.nm)) = (List.range hs.length).map (nmA hs) := nmL_range hs
  rw [e2, List.map_map]
  rfl
theorem filter_sum {hs : List Hs} (p : Hs → Bool) (f : Hs → Rat) (h : ∀ x ∈ hs, p x = false → f x = 0) : ((hs.filter p).map f).sum = (hs.map f).sum := by
  induction hs with
  | nil => rfl
  | cons a l ih =>
    have ih := ih fun x hx => h x (List.mem_cons_of_mem _ hx)
    cases e : p a with
    | true => rw [List.filter_cons_of_pos e, List.map_cons, List.map_cons, List.sum_cons, List.sum_cons, ih]
    | false =>
      rw [List.filter_cons_of_neg (by rw [e]; exact Bool.false_ne_true), ih, List.map_cons, List.sum_cons, h a List.mem_cons_self e]
      grind
theorem held_sum {un : List Str} {F : MH} {m : Addr} {hs : List Hs} (q : Mq un F m hs) (z : Str) (g : Str → Rat) : (heldL hs z g).sum = sm hs.length fun r => shr (hel hs (nmA hs r)) z * g (nmA hs r) := by
  unfold heldL
  rw [filter_sum _ _ fun x hx e => ?_]
  · exact nm_sum q.md.nd _ (fun y => shr (hel hs y) z * g y) fun x hx => by rw [hel_of q.md.nd hx]
  · have hz : z ∉ x.sh.map (·.1) := of_decide_eq_false e
    have h0 : shr x.held z = 0 := by
      by_cases h : shr x.held z = 0
      · exact h
      · exact absurd ((q.sw x hx z).mp ((shr_show q.cn hx).mpr h)) hz
    rw [h0]
    grind
/-! ### bounds of sums in any order -/
theorem com_bd {s : Int} {a b : Nat} (s0 : s ≠ 0) (sn : s.natAbs ≤ 2 ^ a) {l : List Rat} (hl : l.length ≤ 1024) (h : ∀ x ∈ l, IsI (x * (s : Rat)) ∧ Ab (x * (s : Rat)) ((2 ^ b : Nat) : Rat)) : Bd a (b + 10) l.sum := by
  have key : ∀ l : List Rat, (∀ x ∈ l, IsI (x * (s : Rat)) ∧ Ab (x * (s : Rat)) ((2 ^ b : Nat) : Rat)) → IsI (l.sum * (s : Rat)) ∧ Ab (l.sum * (s : Rat)) ((l.length : Nat) * ((2 ^ b : Nat) : Rat)) := by
    intro l
    induction l with
    | nil =>
      intro _
      rw [List.sum_nil]
      refine ⟨⟨0, by grind⟩, ?_⟩
      unfold Ab
      constructor <;> (show _ ≤ _; simp)
    | cons x l ih =>
      intro h
      obtain ⟨h1, h2⟩ := ih fun y hy => h y (List.mem_cons_of_mem _ hy)
      obtain ⟨h3, h4⟩ := h x List.mem_cons_self
      have e : (List.sum (x :: l)) * (s : Rat) = x * (s : Rat) + l.sum * (s : Rat) := by rw [List.sum_cons]; grind
      rw [e]
      refine ⟨h3.add h1, ?_⟩
      have e2 : (((x :: l).length : Nat) : Rat) = ((l.length : Nat) : Rat) + 1 := by rw [List.length_cons]; exact Rat.natCast_add _ _
      rw [e2]
      obtain ⟨a1, a2⟩ := h2
      obtain ⟨a3, a4⟩ := h4
      unfold Ab
      constructor <;> grind
  obtain ⟨⟨z, hz⟩, h2⟩ := key l h
  refine Bd.of s0 hz sn ?_
  rw [hz] at h2
  refine ab_nat h2 ?_
  have h8 : ((l.length : Nat) : Rat) ≤ ((2 ^ 10 : Nat) : Rat) := by exact_mod_cast hl
  have e2 := pow_rat 10 b
  have := Rat.mul_nonneg (a := ((2 ^ 10 : Nat) : Rat) - ((l.length : Nat) : Rat)) (b := ((2 ^ b : Nat) : Rat)) (by grind) (by have := one_le_pow b; grind)
  rw [show b + 10 = 10 + b by omega]
  grind
end Bv

set_option pp.maxSteps 900
/-! What comes to all persons; a common bottom; the state beside the model. -/
namespace Bv
open PySem L2 PyProof.Rows
/-- worths by names -/
def gA (hs : List Hs) (v : Nat → Rat) (y : Str) : Rat := match (List.range hs.length).find? fun r => decide (nmA hs r = y) with
  | some r => v r
  | none => 0
theorem gA_h {hs : List Hs} (nd : (hs.map (·.nm)).Nodup) {v : Nat → Rat} {r : Nat} (hr : r < hs.length) : gA hs v (nmA hs r) = v r := by
  unfold gA
  cases q : (List.range hs.length).find? fun c => decide (nmA hs c = nmA hs r) with
  | none => exact absurd (by simp) (List.find?_eq_none.mp q r (List.mem_range.mpr hr))
  | some c =>
    have h1 := List.mem_range.mp (List.mem_of_find?_eq_some q)
    have h2 := List.find?_some q
    have h3 : nmA hs c = nmA hs r := by simpa using h2
    rw [nmA_inj nd h1 hr h3]
theorem list_sm (L : List Str) (n : Nat) (f : Str → Nat → Rat) : (L.map fun z => sm n (f z)).sum = sm n fun r => (L.map fun z => f z r).sum := by
  induction L with
  | nil =>
    rw [List.map_nil, List.sum_nil]
    exact (sm_zero fun i _ => by rw [List.map_nil, List.sum_nil]).symm
  | cons a l ih =>
    rw [List.map_cons, List.sum_cons, ih]
    have := sm_lin n 1 1 (f a) fun r => (l.map fun z => f z r).sum
    have e : (sm n fun r => ((a :: l).map fun z => f z r).sum) = sm n fun r => 1 * f a r + 1 * (l.map fun z => f z r).sum := sm_congr fun r _ => by
      rw [List.map_cons, List.sum_cons]
      grind
    rw [e, this]
    grind
theorem sum_mulR (L : List Str) (f : Str → Rat) (a : Rat) : (L.map fun z => f z * a).sum = (L.map f).sum * a := by
  induction L with
  | nil => rw [List.map_nil, List.map_nil, List.sum_nil]; grind
  | cons b l ih => rw [List.map_cons, List.map_cons, List.sum_cons, List.sum_cons, ih]; grind
/-- all that persons hold of a house -/
theorem pers_sum {hs : List Hs} {K : Nat} (h : Led hs K) {ps : List Str} (pn : ps.Nodup) (pd : ∀ z ∈ ps, z ∉ hs.map (·.nm)) (cov : ∀ x ∈ hs, ∀ z ∈ x.held.map (·.1), z ∈ ps ∨ z ∈ hs.map (·.nm)) {r : Nat} (hr : r < hs.length) :
    ((sortS ps).map fun z => shr (hel hs (nmA hs r)) z).sum = 1 - sm hs.length fun c => shm hs c r := by
  obtain ⟨x, hx, e, eh⟩ := h.at hr
  rw [shm_sum, eh]
  have nd : (nmL hs ++ sortS ps).Nodup := by
    rw [List.nodup_append]
    refine ⟨nmL_nodup h.nd, (sortS_perm ps).nodup_iff.mpr pn, fun a ha b hb hab => ?_⟩
    rw [hab] at ha
    exact pd b (mem_sortS.mp hb) (nmL_mem.mp ha)
  have hs1 := sum_names nd (h.hn x hx)
  rw [h.tot x hx] at hs1
  have z0 : (x.held.map fun y => if y.1 ∈ nmL hs ++ sortS ps then 0 else rt y.2).sum = 0 := by
    have : (x.held.map fun y => if y.1 ∈ nmL hs ++ sortS ps then 0 else rt y.2) = x.held.map fun _ => (0 : Rat) := by
      apply List.map_congr_left
      intro y hy
      rw [if_pos]
      rcases cov x hx y.1 (List.mem_map.mpr ⟨y, hy, rfl⟩) with q | q
      · exact List.mem_append_right _ (mem_sortS.mpr q)
      · exact List.mem_append_left _ (nmL_mem.mpr q)
    rw [this]
    generalize x.held = l
    induction l with
    | nil => rfl
    | cons a l ih => rw [List.map_cons, List.sum_cons, ih]; grind
  rw [z0, List.map_append, List.sum_append] at hs1
  have e2 : (List.map (fun z => shr x.held z) (sortS ps)).sum = (List.map (shr x.held) (sortS ps)).sum := rfl
  rw [e2]
  generalize (List.map (shr x.held) (sortS ps)).sum = u at *
  generalize (List.map (shr x.held) (nmL hs)).sum = v at *
  grind
/-- all things come to the persons -/
theorem parts_total {hs : List Hs} {K : Nat} (h : Led hs K) (hw : wg hs = []) {ps : List Str} (pn : ps.Nodup) (pd : ∀ z ∈ ps, z ∉ hs.map (·.nm)) (cov : ∀ x ∈ hs, ∀ z ∈ x.held.map (·.1), z ∈ ps ∨ z ∈ hs.map (·.nm)) (t : Nat → Rat) :
    ((sortS ps).map (partS hs t)).sum = sm hs.length t := by
  have e1 : ((sortS ps).map (partS hs t)).sum = sm hs.length fun r => ((sortS ps).map fun z => shr (hel hs (nmA hs r)) z * wor hs t r).sum := list_sm (sortS ps) hs.length fun z r => shr (hel hs (nmA hs r)) z * wor hs t r
  rw [e1]
  have e2 : (sm hs.length fun r => ((sortS ps).map fun z => shr (hel hs (nmA hs r)) z * wor hs t r).sum) = sm hs.length fun r => 1 * wor hs t r + (-1) * sm hs.length fun c => shm hs c r * wor hs t r := sm_congr fun r hr => by
    rw [sum_mulR, pers_sum h pn pd cov hr]
    have := sm_mulr hs.length (fun c => shm hs c r) (wor hs t r)
    grind
  rw [e2, sm_lin, sm_swap hs.length hs.length fun r c => shm hs c r * wor hs t r]
  have e3 := sm_lin hs.length 1 (-1) (wor hs t) fun r => sm hs.length fun c => shm hs r c * wor hs t c
  rw [← e3]
  exact sm_congr fun r hr => by
    have := h.sol hw t hr
    grind
/-- a common bottom of all that comes to anybody -/
theorem Led.com {hs : List Hs} {K : Nat} (h : Led hs K) (hw : wg hs = []) (hK : K ≤ 27) {t : Nat → Rat} (ht : Tok' hs t) : ∃ s : Int, s ≠ 0 ∧ s.natAbs ≤ 2 ^ 2900 ∧ ∀ r, r < hs.length → ∀ z, IsI (shr (hel hs (nmA hs r)) z * wor hs t r * (s : Rat)) ∧ Ab (shr (hel hs (nmA hs r)) z * wor hs t r * (s : Rat)) ((2 ^ 2980 : Nat) : Rat) := by
  obtain ⟨D, m, hD, hW⟩ := h.mat (T := ((2 ^ 80 : Nat) : Rat)) (one_le_pow 80) fun r hr => ⟨ht.b r hr, ht.i r hr⟩
  have sub := h.sub hw t
  have hW2 : fc hs.length * pr hs.length D ≤ ((2 ^ 2900 : Nat) : Rat) := Rat.le_trans hW (pow_le_rat (by omega))
  have hW3 : fc hs.length * pr hs.length D * ((2 ^ 80 : Nat) : Rat) ≤ ((2 ^ 2980 : Nat) : Rat) := by
    have e := pow_rat 2900 80
    have := Rat.mul_nonneg (a := ((2 ^ 2900 : Nat) : Rat) - fc hs.length * pr hs.length D) (b := ((2 ^ 80 : Nat) : Rat)) (by grind) (by have := one_le_pow 80; grind)
    rw [show 2900 + 80 = 2980 from rfl] at e
    grind
  obtain ⟨s, s0, s1, s2⟩ := gj_common m (sub.good (Nat.le_refl _)).p
  refine ⟨s, s0, ab_nat s1 hW2, fun r hr z => ?_⟩
  obtain ⟨⟨q, hq⟩, hb⟩ := s2 r hr
  obtain ⟨x, hx, e, eh⟩ := h.at hr
  obtain ⟨n1, n2⟩ := h.nn x hx z
  rw [← eh] at n1 n2
  have hi := hD r hr z
  have hb2 := hb.le hW3
  show IsI (_ * gj (amx hs t) hs.length r hs.length * _) ∧ _
  unfold wor
  generalize gj (amx hs t) hs.length r hs.length = w at *
  generalize shr (hel hs (nmA hs r)) z = y at *
  refine ⟨?_, ?_⟩
  · have e2 : y * w * (s : Rat) = y * D r * (q : Rat) := by
      have : y * w * (s : Rat) = y * (w * (s : Rat)) := by grind
      rw [this, hq]; grind
    rw [e2]
    exact hi.mul ⟨q, rfl⟩
  · have a1 : Ab y 1 := ⟨by grind, n2⟩
    have := a1.mul hb2
    have e3 : y * (w * (s : Rat)) = y * w * (s : Rat) := by grind
    rw [e3] at this
    refine this.le (by grind)
section
variable {hs : List Hs} {s : Int} {t : Nat → Rat} (s0 : s ≠ 0) (sn : s.natAbs ≤ 2 ^ 2900) (sc : ∀ r, r < hs.length → ∀ z, IsI (shr (hel hs (nmA hs r)) z * wor hs t r * (s : Rat)) ∧ Ab (shr (hel hs (nmA hs r)) z * wor hs t r * (s : Rat)) ((2 ^ 2980 : Nat) : Rat))
include s0 sn sc
theorem heldL_bd (nd : (hs.map (·.nm)).Nodup) (le : hs.length ≤ 8) (z : Str) (i : Nat) : Bd 2900 2990 (((heldL hs z (gA hs (wor hs t))).take i).sum) := by
  refine com_bd (b := 2980) s0 sn ?_ fun x hx => ?_
  · rw [List.length_take]
    unfold heldL
    have h1 := List.length_filter_le (fun x : Hs => decide (z ∈ x.sh.map (·.1))) hs
    rw [List.length_map]
    omega
  · have hx := List.mem_of_mem_take hx
    unfold heldL at hx
    obtain ⟨y, hy, rfl⟩ := List.mem_map.mp hx
    have hy := (List.mem_filter.mp hy).1
    have hyn : y.nm ∈ nmL hs := nmL_mem.mpr (List.mem_map.mpr ⟨y, hy, rfl⟩)
    rw [nmL_range] at hyn
    obtain ⟨r, hr, e⟩ := List.mem_map.mp hyn
    have hr := List.mem_range.mp hr
    have := sc r hr z
    rw [e, hel_of nd hy] at this
    rw [← e, gA_h nd hr]
    exact this
theorem partS_com (le : hs.length ≤ 8) (z : Str) : IsI (partS hs t z * (s : Rat)) ∧ Ab (partS hs t z * (s : Rat)) ((2 ^ 2990 : Nat) : Rat) := by
  unfold partS
  rw [sm_mulr]
  refine ⟨IsI.sm fun r hr => (sc r hr z).1, ?_⟩
  have := Ab.sm (n := hs.length) fun r hr => (sc r hr z).2
  refine this.le ?_
  have h8 : ((hs.length : Nat) : Rat) ≤ ((2 ^ 10 : Nat) : Rat) := by
    have : hs.length ≤ 2 ^ 10 := by omega
    exact_mod_cast this
  have e2 := pow_rat 10 2980
  rw [show 10 + 2980 = 2990 from rfl] at e2
  have := Rat.mul_nonneg (a := ((2 ^ 10 : Nat) : Rat) - ((hs.length : Nat) : Rat)) (b := ((2 ^ 2980 : Nat) : Rat)) (by grind) (by have := one_le_pow 2980; grind)
  grind
end
section
variable {CB CE : Addr} {un : List Str} {n : Nat} {F F' : MH} {p b pl en m : Addr} {ps : List Str} {hs : List Hs}
theorem Wd.mq (w : Wd CB CE un n F p b pl en m ps hs) (vu : ∀ z ∈ un, VS z) : Mq un F m hs := by
  refine ⟨⟨by simp only [dcOf, w.md], w.sh, w.nd, fun x hx => (w.rc x hx).sn, fun x hx => (w.rc x hx).su, w.ul⟩, w.len, vu, w.nu, fun x hx z => (w.rc x hx).show z, fun x hx e => ?_, w.can, fun x hx z v e => ?_⟩
  · have h1 := w.md
    have ad := w.ad
    rw [List.nodup_cons, List.nodup_cons] at ad
    exact ad.2.1 (List.mem_append_right _ (List.mem_map.mpr ⟨x, hx, e⟩))
  · rw [(w.rc x hx).rel z] at e
    exact nz_some e
end
end Bv

set_option pp.maxSteps 900
/-! k13: ways through, and who is refused. -/
namespace Bv
open PySem L2 PyProof.Rows
/-! ### bodies split -/
def takeS {Γ : Amb} : Nat → Ss Γ → Ss Γ
  | 0, _ => .nil
  | _ + 1, .nil => .nil
  | n + 1, .cons s r => .cons s (takeS n r)
def dropS {Γ : Amb} : Nat → Ss Γ → Ss Γ
  | 0, c => c
  | _ + 1, .nil => .nil
  | n + 1, .cons s r => dropS n r
theorem wpS_mono_ {Γ : Amb} {W : XS} {s : S Γ} {σ : St1} {F : MH} {Qn Qn' : St1 → MH → Prop} {Qr : Q1} (e : Qn = Qn') : wpS W s σ F Qn Qr = wpS W s σ F Qn' Qr := by rw [e]
theorem wpB_split {Γ : Amb} {W : XS} : ∀ (n : Nat) (c : Ss Γ) (σ : St1) (F : MH) (Qn : St1 → MH → Prop) (Qr : Q1), wpB W c σ F Qn Qr = wpB W (takeS n c) σ F (fun σ' F' => wpB W (dropS n c) σ' F' Qn Qr) Qr
  | 0, c, σ, F, Qn, Qr => by simp only [takeS, dropS, wpB]
  | _ + 1, .nil, σ, F, Qn, Qr => by simp only [takeS, dropS, wpB]
  | n + 1, .cons s r, σ, F, Qn, Qr => by
    simp only [takeS, dropS, wpB]
    exact wpS_mono_ (funext fun σ' => funext fun F' => wpB_split n r σ' F' Qn Qr)
/-- one thing of a house -/
def unit (hs : List Hs) (y : Str) (r : Nat) : Rat := if nmA hs r = y then 1 else 0
theorem unit_tok (hs : List Hs) (y : Str) : Tok' hs (unit hs y) := by
  refine ⟨fun r _ => ?_, fun r _ => ?_⟩
  · unfold unit
    split
    · exact ⟨1, rfl⟩
    · exact ⟨0, rfl⟩
  · have := one_le_pow 80
    unfold unit Ab
    split <;> constructor <;> grind
theorem find_strs {k : Str} : ∀ {l : List Str} {j : Nat}, l.Nodup → l[j]? = some k → findF (.str k) (l.map .str) = some j
  | [], j, _, h => by simp at h
  | a :: l, 0, _, h => by
    have e : a = k := by simpa using h
    subst e
    unfold findF
    rw [List.map_cons]
    simp only
    rw [if_pos (by simp [eqF])]
  | a :: l, j + 1, nd, h => by
    rw [List.nodup_cons] at nd
    have h' : l[j]? = some k := by simpa using h
    have hne : a ≠ k := fun e => nd.1 (by rw [e]; exact List.mem_of_getElem? h')
    have ih := find_strs nd.2 h'
    rw [List.map_cons]
    unfold findF
    rw [if_neg (by simp [eqF, hne]), ih]
    rfl
theorem unit_lc {hs : List Hs} {un : List Str} {y : Str} {g : MH → Prop} {F : MH} {Q : List Val → MH → Prop} (hl : hs.length ≤ 8) (hu : ∀ x ∈ hs, x.nm ∈ un) (vu : ∀ w ∈ un, VS w) (hy : VS y) (hg : g F) (q : Q ((List.range hs.length).map fun r => frR (unit hs y r)) F) :
    lcGo g (fun x F2 k => eqS (.str y) x F2 fun k_1 => intS (.bl k_1) F2 fun x F1 => 2 ≤ sizeLine ∧ k (some (.tup [x, .int 1])) F1) Q ((nmL hs).map .str) [] F := by
  refine lcGo_inv (fun i acc F1 => acc = (List.range i).map (fun r => frR (unit hs y r)) ∧ F1 = F) (by rw [List.length_map, nmL_len, sizeLine_eq]; omega) (fun _ _ _ ⟨_, e⟩ => by rw [e]; exact hg) ?_ ?_ ⟨rfl, rfl⟩
  · rintro i v acc F1 k hv ⟨rfl, rfl⟩ hk _
    rw [List.getElem?_map] at hv
    obtain ⟨z, hz, rfl⟩ := Option.map_eq_some_iff.mp hv
    have hi : i < hs.length := by have := (List.getElem?_eq_some_iff.mp hz).1; rwa [nmL_len] at this
    rw [nmA_get hi] at hz
    cases hz
    refine eqS_str hy (nm_vs hu vu hi) ?_
    refine ⟨by rw [sizeLine_eq]; decide, hk _ _ ⟨?_, rfl⟩⟩
    rw [List.range_succ, List.map_append]
    congr 1
    show [_] = [frR (unit hs y i)]
    unfold unit
    by_cases e : nmA hs i = y
    · rw [if_pos e, if_pos (decide_eq_true e.symm)]; rfl
    · rw [if_neg e, if_neg (by simpa using Ne.symm e)]; rfl
  · rintro acc F1 ⟨rfl, rfl⟩
    rw [List.length_map, nmL_len]
    exact q

/-- what through tells, or how it refuses -/
def thR (CW CH CN : Addr) (hs : List Hs) (ps : List Str) (z y : Str) (E : X1) (Q : Q1) (F : MH) : Prop :=
  if wg hs ≠ [] then E CW [("group", .lst ((wg hs).map .str))] F
  else if ¬ (z ∈ nmL hs ∨ z ∈ sortS ps) then E CH [] F
  else if y ∉ nmL hs then E CN [] F
  else if z ∈ nmL hs then ∀ r, r < hs.length → z = nmA hs r → Q (frR (wor hs (unit hs y) r)) F
  else Q (frR (partS hs (unit hs y) z)) F
def spThrough (CB CE CW CH CN : Addr) : Spec := fun vs F Q E => ∃ b z y un pl en ps hs, vs = [.ref b, .str z, .str y] ∧ Gc CB CE un F b pl en ps hs ∧ VS z ∧ VS y ∧ (wg hs = [] → y ∈ nmL hs → Okm hs (unit hs y) ∧ (z ∈ sortS ps → ∃ a c, a < 4500 ∧ c < 9000 ∧ Okp hs (unit hs y) z a c)) ∧
  ∀ F', Ext F F' → thR CW CH CN hs ps z y E Q F'
theorem w_through {Γ : Amb} {CB CE CW CH CN : Addr} {r0 : CallR1 Γ "part_of"} {r1 : CallR1 Γ "worths_by"} {x1 : RaiR Γ "NoHouse"} {t1 : MethR Γ "persons"} {x2 : RaiR Γ "NoHolder"} {t2 : MethR Γ "houses"} {r3 : CallR1 Γ "must_part"} (h0 : r0.sp = spPartOf CB CE) (h1 : r1.sp = spWorthsBy CB CE) (h2 : t1.sp = spPersons CB) (h2c : t1.C = CB) (h3 : t2.sp = spHouses CB) (h3c : t2.C = CB) (h4 : r3.sp = spMustPart CB CE CW) (hn1 : x1.C = CN) (hn2 : x2.C = CH) :
    ∀ vs F Q E, spThrough CB CE CW CH CN vs F Q E → wpB (fun C fs _ F => E C fs F) (c_through r0 r1 x1 t1 x2 t2 r3) (start1 n_through vs) F (fun _ F => Q .non F) Q := by
  rintro vs F Q E ⟨b, z, y, un, pl, en, ps, hs, rfl, gc, hzv, hyv, okk, hh⟩
  have hlen := gc.g.len
  have hp6 := gc.pl6
  unfold c_through
  simp only [wpB, wpS, wpE, wpEs, wpT, wpTs, wpCs, wpP, wpIt, wpBl, bindT, biS, recS, truS, start1, List.map, List.length, List.replicate, List.append_nil, List.nil_append, List.cons_append, Nat.sub_self, Nat.reduceSub, Nat.reduceAdd, List.length_cons, List.length_nil, List.getElem?_cons_zero, List.getElem?_cons_succ, List.set_cons_zero, List.set_cons_succ, setAll, wipe1, Tg.slots, binS, subS, fdivS, modS, powS, cmpS, ltS, isS, isNS, asStrs, asBls, newLs, n_through, h0, h1, h2, h2c, h3, h3c, h4, hn1, hn2]
  refine ⟨b, un, pl, en, ps, hs, rfl, gc.g, fun F1 ex => ?_⟩
  by_cases hw : wg hs = []
  case neg =>
    rw [orW_cons hw]
    have := hh F1 ex
    unfold thR at this
    rw [if_pos hw] at this
    exact this
  rw [orW_nil hw]
  have hh' : ∀ F', Ext F F' → (if ¬ (z ∈ nmL hs ∨ z ∈ sortS ps) then E CH [] F' else if y ∉ nmL hs then E CN [] F' else if z ∈ nmL hs then ∀ r, r < hs.length → z = nmA hs r → Q (frR (wor hs (unit hs y) r)) F' else Q (frR (partS hs (unit hs y) z)) F') := fun F' e => by
    have := hh F' e
    unfold thR at this
    rw [if_neg (fun q => q hw)] at this
    exact this
  have gc1 := gc.ext ex
  simp only [gc1.g.c.b]
  refine ⟨trivial, rfl, b, pl, en, ps, entD hs, rfl, gc1.g.c, by unfold entD; rw [List.length_map]; omega, ?_⟩
  rw [entD_keys, show sortS (hs.map (·.nm)) = nmL hs from rfl]
  refine in_strs (l := nmL hs) rfl ?_
  by_cases hzn : z ∈ nmL hs
  · rw [decide_eq_true hzn]
    simp only [Bool.not_true]
    refine in_strs (l := nmL hs) rfl ?_
    by_cases hyn : y ∈ nmL hs
    case neg =>
      rw [decide_eq_false hyn]
      simp only [Bool.not_false]
      have := hh' F1 ex
      rw [if_neg (fun q => q (.inl hzn)), if_pos hyn] at this
      exact this
    rw [decide_eq_true hyn]
    simp only [Bool.not_true, lsOf_lst]
    obtain ⟨ok, _⟩ := okk hw hyn
    refine unit_lc hlen gc.hu gc.vu hyv trivial ?_
    refine ⟨b, un, pl, en, ps, hs, unit hs y, rfl, gc1, ok, fun F2 ex2 => ?_⟩
    refine in_strs (l := nmL hs) rfl ?_
    rw [decide_eq_true hzn]
    refine ⟨⟨_, rfl⟩, ?_⟩
    have hzr := hzn
    rw [nmL_range] at hzr
    obtain ⟨r, hr, rfl⟩ := List.mem_map.mp hzr
    have hr := List.mem_range.mp hr
    have hf := find_strs (nmL_nodup gc.g.nd) (nmA_get hr)
    simp only [bmS, lsOf_lst, hf]
    refine ⟨rfl, flat_strs _, ?_⟩
    refine ix_list (vs := (List.range hs.length).map fun r => frR (wor hs (unit hs y) r)) rfl (by omega) (v := frR (wor hs (unit hs y) r)) (by rw [Int.toNat_natCast, List.getElem?_map, List.getElem?_range hr]; rfl) ?_
    have := hh' F2 (ex.trans ex2)
    rw [if_neg (fun q => q (.inl hzn)), if_neg (fun q => q hyn), if_pos hzn] at this
    exact this r hr rfl
  · rw [decide_eq_false hzn]
    simp only [Bool.not_false, gc1.g.c.b]
    refine ⟨trivial, rfl, b, pl, en, ps, entD hs, rfl, gc1.g.c, by omega, ?_⟩
    refine in_strs (l := sortS ps) rfl ?_
    by_cases hzp : z ∈ sortS ps
    case neg =>
      rw [decide_eq_false hzp]
      simp only [Bool.not_false]
      have := hh' F1 ex
      rw [if_pos (fun q => q.elim hzn hzp)] at this
      exact this
    rw [decide_eq_true hzp]
    simp only [Bool.not_true]
    refine in_strs (l := nmL hs) rfl ?_
    by_cases hyn : y ∈ nmL hs
    case neg =>
      rw [decide_eq_false hyn]
      simp only [Bool.not_false]
      have := hh' F1 ex
      rw [if_neg (fun q => q (.inr hzp)), if_pos hyn] at this
      exact this
    rw [decide_eq_true hyn]
    simp only [Bool.not_true, lsOf_lst]
    obtain ⟨ok, okz⟩ := okk hw hyn
    obtain ⟨a, c, ha, hc, okp⟩ := okz hzp
    refine unit_lc hlen gc.hu gc.vu hyv trivial ?_
    refine ⟨b, un, pl, en, ps, hs, unit hs y, rfl, gc1, ok, fun F2 ex2 => ?_⟩
    refine in_strs (l := nmL hs) rfl ?_
    rw [decide_eq_false hzn]
    refine ⟨b, z, un, pl, en, ps, hs, fun r => wor hs (unit hs y) r, a, c, rfl, gc1.ext ex2, gc.pu z (mem_sortS.mp hzp), ha, hc, fun r hr => ⟨(okp.sb r hr).1, ok.bd hs.length r hs.length (Nat.le_refl _) hr (Nat.le_refl _), (okp.sb r hr).2⟩, okp.sm, fun F3 ex3 => ?_⟩
    have := hh' F3 ((ex.trans ex2).trans ex3)
    rw [if_neg (fun q => q (.inr hzp)), if_neg (fun q => q hyn), if_neg hzn] at this
    exact this
/-- what is due of a refusal -/
def dueB (hs : List Hs) (ps : List Str) (z y : Str) : List Bool :=
  if wg hs ≠ [] then [true, false, false, false] else if ¬ (z ∈ nmL hs ∨ z ∈ sortS ps) then [false, true, false, false] else [false, false, decide (y ∉ nmL hs), false]
def spCaught (CB CE : Addr) : Spec := fun vs F Q _ => ∃ b z y un pl en ps hs, vs = [.ref b, .str z, .str y] ∧ Gc CB CE un F b pl en ps hs ∧ VS z ∧ VS y ∧ (wg hs = [] → y ∈ nmL hs → Okm hs (unit hs y) ∧ (z ∈ sortS ps → ∃ a c, a < 4500 ∧ c < 9000 ∧ Okp hs (unit hs y) z a c)) ∧
  ∀ F', Ext F F' → Q (.lst ((dueB hs ps z y).map .bl)) F'
/-- how isinstance answers of a class -/
structure IsX {Γ : Amb} {iL : IsR Γ "NoLoss"} {iN : IsR Γ "NoName"} {iS : IsR Γ "NoShare"} {iT : IsR Γ "NoText"} {iM : IsR Γ "TooMany"} {iW2 : IsR Γ "Twice"} {iW : IsR Γ "Whole"} {iH : IsR Γ "NoHolder"} {iO : IsR Γ "NoHouse"} (t : Value) (w h o : Bool) : Prop where
  h1 : iL.ans t = some false
  h2 : iN.ans t = some false
  h3 : iS.ans t = some false
  h4 : iT.ans t = some false
  h5 : iM.ans t = some false
  h6 : iW2.ans t = some false
  h7 : iW.ans t = some w
  h8 : iH.ans t = some h
  h9 : iO.ans t = some o
theorem w_l_caught {Γ : Amb} {CB CE CW CH CN : Addr} {iL : IsR Γ "NoLoss"} {iN : IsR Γ "NoName"} {iS : IsR Γ "NoShare"} {iT : IsR Γ "NoText"} {iM : IsR Γ "TooMany"} {iW2 : IsR Γ "Twice"} {iW : IsR Γ "Whole"} {iH : IsR Γ "NoHolder"} {iO : IsR Γ "NoHouse"} {e : ExR Γ "OwnError"} {r : CallR1 Γ "through"}
    (hr : r.sp = spThrough CB CE CW CH CN) (e1 : e.ans CW = some true) (e2 : e.ans CH = some true) (e3 : e.ans CN = some true) (x1 : ExcC Γ.K CW) (x2 : ExcC Γ.K CH) (x3 : ExcC Γ.K CN)
    (a1 : IsX (iL := iL) (iN := iN) (iS := iS) (iT := iT) (iM := iM) (iW2 := iW2) (iW := iW) (iH := iH) (iO := iO) (.ref CW) true false false)
    (a2 : IsX (iL := iL) (iN := iN) (iS := iS) (iT := iT) (iM := iM) (iW2 := iW2) (iW := iW) (iH := iH) (iO := iO) (.ref CH) false true false)
    (a3 : IsX (iL := iL) (iN := iN) (iS := iS) (iT := iT) (iM := iM) (iW2 := iW2) (iW := iW) (iH := iH) (iO := iO) (.ref CN) false false true)
    (a0 : IsX (iL := iL) (iN := iN) (iS := iS) (iT := iT) (iM := iM) (iW2 := iW2) (iW := iW) (iH := iH) (iO := iO) (.type "NoneType") false false false) :
    ∀ vs F Q E, spCaught CB CE vs F Q E → wpB (fun C fs _ F => E C fs F) (c_l_caught iL iN iS iT iM iW2 iW iH iO e r) (start1 n_l_caught vs) F (fun _ F => Q .non F) Q := by
  rintro vs F Q E ⟨b, z, y, un, pl, en, ps, hs, rfl, gc, hzv, hyv, okk, hq⟩
  rw [wpB_split 2]
  have tail : ∀ (v : Val) (F1 : MH) (t : Value) (w h o : Bool), Ext F F1 → (∀ F', Ext F1 F' → ∀ R : Value → Prop, R t → tyS Γ.K v F' R) → IsX (iL := iL) (iN := iN) (iS := iS) (iT := iT) (iM := iM) (iW2 := iW2) (iW := iW) (iH := iH) (iO := iO) t w h o → dueB hs ps z y = [w, h, o, false] →
      wpB (fun C fs _ F => E C fs F) (dropS 2 (c_l_caught iL iN iS iT iM iW2 iW iH iO e r)) [some (.ref b), some (.str z), some (.str y), some v, none, none] F1 (fun _ F => Q .non F) Q := by
    intro v F1 t w h o ex hty a hd
    unfold c_l_caught
    simp only [dropS, wpB, wpS, wpE, wpEs, wpT, wpTs, wpCs, wpP, wpIt, wpBl, bindT, biS, recS, truS, start1, List.map, List.length, List.replicate, List.append_nil, List.nil_append, List.cons_append, Nat.sub_self, Nat.reduceSub, Nat.reduceAdd, List.length_cons, List.length_nil, List.getElem?_cons_zero, List.getElem?_cons_succ, List.set_cons_zero, List.set_cons_succ, setAll, wipe1, Tg.slots, binS, subS, fdivS, modS, powS, cmpS, ltS, isS, isNS, asStrs, asBls, newLs]
    refine hty F1 (Ext.refl _) _ ?_
    simp only [a.h7]
    refine hty F1 (Ext.refl _) _ ?_
    simp only [a.h8]
    refine hty F1 (Ext.refl _) _ ?_
    simp only [a.h9]
    refine ⟨by rw [sizeLine_eq]; simp, fun p hp => ?_⟩
    refine ⟨⟨p, _, rfl, mset_same⟩, by decide, ?_⟩
    refine hty _ ((Ext.refl F1).new hp) _ ?_
    simp only [ansL, a.h1, a.h2, a.h3, a.h4, a.h5, a.h6, bmS, mset_same, mset_mset]
    refine ⟨by rw [sizeLine_eq]; simp, ?_⟩
    rw [hd] at hq
    refine hq _ fun c d hc => ?_
    have hc1 := ex c d hc
    have hne : c ≠ p := fun e => by rw [e, hp] at hc1; cases hc1
    rw [mdel_ne hne, mset_ne hne]
    exact hc1
  generalize dropS 2 (c_l_caught iL iN iS iT iM iW2 iW iH iO e r) = T at *
  unfold c_l_caught
  simp only [takeS, wpB, wpS, wpE, wpEs, wpT, wpTs, wpCs, wpP, wpIt, wpBl, bindT, biS, recS, truS, start1, List.map, List.length, List.replicate, List.append_nil, List.nil_append, List.cons_append, Nat.sub_self, Nat.reduceSub, Nat.reduceAdd, List.length_cons, List.length_nil, List.getElem?_cons_zero, List.getElem?_cons_succ, List.set_cons_zero, List.set_cons_succ, setAll, wipe1, Tg.slots, binS, subS, fdivS, modS, powS, cmpS, ltS, isS, isNS, asStrs, asBls, newLs, n_l_caught, hr]
  refine ⟨b, z, y, un, pl, en, ps, hs, rfl, gc, hzv, hyv, okk, fun F1 ex => ?_⟩
  have exn : ∀ (C : Addr) (fs : List (Str × Val)) (w h o : Bool), ExcC Γ.K C → IsX (iL := iL) (iN := iN) (iS := iS) (iT := iT) (iM := iM) (iW2 := iW2) (iW := iW) (iH := iH) (iO := iO) (.ref C) w h o → dueB hs ps z y = [w, h, o, false] → ∀ p, F1 p = none →
      wpB (fun C fs x F => E C fs F) T [some (Val.ref b), some (Val.str z), some (Val.str y), some (Val.ref p), none, none] (mset F1 p (Cell.exn C fs)) (fun x F => Q Val.non F) Q := by
    intro C fs w h o x a hd p hp
    have ex2 : Ext F1 (mset F1 p (.exn C fs)) := (Ext.refl F1).new hp
    refine tail (.ref p) _ (.ref C) w h o (ex.trans ex2) (fun F' e' R hR => ?_) a hd
    have := e' _ _ (mset_same (F := F1) (a := p) (c := .exn C fs))
    simp only [tyS, this]
    exact ⟨x, hR⟩
  unfold thR
  by_cases hw : wg hs ≠ []
  · rw [if_pos hw]
    simp only [e1]
    exact exn CW _ true false false x1 a1 (by unfold dueB; rw [if_pos hw])
  rw [if_neg hw]
  by_cases hz : ¬ (z ∈ nmL hs ∨ z ∈ sortS ps)
  · rw [if_pos hz]
    simp only [e2]
    exact exn CH _ false true false x2 a2 (by unfold dueB; rw [if_neg hw, if_pos hz])
  rw [if_neg hz]
  by_cases hy : y ∉ nmL hs
  · rw [if_pos hy]
    simp only [e3]
    exact exn CN _ false false true x3 a3 (by unfold dueB; rw [if_neg hw, if_neg hz, decide_eq_true hy])
  rw [if_neg hy]
  have fin : wpB (fun C fs x F => E C fs F) T [some (Val.ref b), some (Val.str z), some (Val.str y), some Val.non, none, none] F1 (fun x F => Q Val.non F) Q :=
    tail .non F1 (.type "NoneType") false false false ex (fun F' _ R hR => hR) a0 (by unfold dueB; rw [if_neg hw, if_neg hz, decide_eq_false hy])
  split
  · exact fun _ _ _ => fin
  · exact fin
end Bv

set_option pp.maxSteps 900
/-! k13: what is due; all ways from a house. -/
namespace Bv
open PySem L2 PyProof.Rows
def spDueL : Spec := fun vs F Q _ => ∃ m z y un ps hs, vs = [.lst ((sortS ps).map .str), .ref m, .lst ((wg hs).map .str), .str z, .str y] ∧ Mq un F m hs ∧ Q (.lst ((dueB hs ps z y).map .bl)) F
theorem w_l_due {Γ : Amb} : ∀ vs F Q E, spDueL vs F Q E → wpB (fun C fs _ F => E C fs F) (c_l_due (Γ := Γ)) (start1 n_l_due vs) F (fun _ F => Q .non F) Q := by
  rintro vs F Q E ⟨m, z, y, un, ps, hs, rfl, q, hq⟩
  have hgv : ∀ z ∈ wg hs, VS z := fun z hz => by
    obtain ⟨x, hx, rfl⟩ := mem_names (wgN_sub hz)
    exact q.vu _ (q.nu x hx)
  have inm : ∀ {z : Str} {R : Bool → Prop}, R (decide (z ∈ nmL hs)) → inS (.str z) (.ref m) F R := fun {z R} h => by
    refine inS_d q.md.m ?_
    rw [kget_isSome, modD_keys]
    by_cases e : z ∈ hs.map (·.nm)
    · rw [decide_eq_true e]
      rw [decide_eq_true (nmL_mem.mpr e)] at h
      exact h
    · rw [decide_eq_false e]
      rw [decide_eq_false (fun e2 => e (nmL_mem.mp e2))] at h
      exact h
  unfold c_l_due
  simp only [wpB, wpS, wpE, wpEs, wpT, wpTs, wpCs, wpP, wpIt, wpBl, bindT, biS, recS, truS, start1, List.map, List.length, List.replicate, List.append_nil, List.nil_append, List.cons_append, Nat.sub_self, Nat.reduceSub, Nat.reduceAdd, List.length_cons, List.length_nil, List.getElem?_cons_zero, List.getElem?_cons_succ, List.set_cons_zero, List.set_cons_succ, setAll, wipe1, Tg.slots, binS, subS, fdivS, modS, powS, cmpS, ltS, isS, isNS, asStrs, asBls, newLs, n_l_due]
  refine ⟨by rw [sizeLine_eq]; decide, ?_⟩
  refine eqS_strs (l := wg hs) (m := []) rfl rfl hgv (fun _ h => nomatch h) ?_
  unfold dueB at hq
  by_cases hw : wg hs ≠ []
  · rw [decide_eq_false hw]
    rw [if_pos hw] at hq
    exact ⟨by rw [sizeLine_eq]; simp, hq⟩
  have hwg : wg hs = [] := by
    by_cases q : wg hs = []
    · exact q
    · exact absurd q hw
  rw [decide_eq_true hwg]
  rw [if_neg hw] at hq
  simp only [Bool.not_true]
  refine inm ?_
  by_cases hz : z ∈ nmL hs
  · rw [decide_eq_true hz]
    rw [if_neg (fun q => q (.inl hz))] at hq
    simp only [Bool.not_true]
    refine inm ⟨by rw [sizeLine_eq]; simp, ?_⟩
    rw [← decide_not]
    exact hq
  · rw [decide_eq_false hz]
    simp only [Bool.not_false]
    refine in_strs (l := sortS ps) rfl ?_
    by_cases hp : z ∈ sortS ps
    · rw [decide_eq_true hp]
      rw [if_neg (fun q => q (.inr hp))] at hq
      simp only [Bool.not_true]
      refine inm ⟨by rw [sizeLine_eq]; simp, ?_⟩
      rw [← decide_not]
      exact hq
    · rw [decide_eq_false hp]
      rw [if_pos (fun q => q.elim hz hp)] at hq
      exact ⟨by rw [sizeLine_eq]; simp, hq⟩
theorem nmA_of {hs : List Hs} {x : Hs} (hx : x ∈ hs) : ∃ r, r < hs.length ∧ nmA hs r = x.nm := by
  have hyn : x.nm ∈ nmL hs := nmL_mem.mpr (List.mem_map.mpr ⟨x, hx, rfl⟩)
  rw [nmL_range] at hyn
  obtain ⟨r, hr, e⟩ := List.mem_map.mp hyn
  exact ⟨r, List.mem_range.mp hr, e⟩
theorem Mq.ext {un : List Str} {F F' : MH} {m : Addr} {hs : List Hs} (q : Mq un F m hs) (e : Ext F F') : Mq un F' m hs := by
  refine { q with md := { q.md with m := ?_, sh := fun x hx => e _ _ (q.md.sh x hx) } }
  have h := q.md.m
  unfold dcOf at h ⊢
  cases hc : F m with
  | none => rw [hc] at h; cases h
  | some c => rw [hc] at h; rw [e _ _ hc]; exact h
theorem Mq.lock {un : List Str} {F : MH} {m : Addr} {hs : List Hs} (q : Mq un F m hs) (u : HO) : Mq un (mset F m (.lck u (modD hs))) m hs :=
  { q with md := { q.md with m := by simp only [dcOf, mset_same], sh := fun x hx => by rw [mset_ne (q.mg x hx)]; exact q.md.sh x hx } }

/-- ways through by names, in the model's order -/
def byP (hs : List Hs) (t : Nat → Rat) (i : Nat) : List (Str × Val) := (hs.take i).map fun x => (x.nm, frR (gA hs (wor hs t) x.nm))
theorem byP_get {hs : List Hs} (nd : (hs.map (·.nm)).Nodup) (t : Nat → Rat) {x : Hs} (hx : x ∈ hs) : kget (byP hs t hs.length) x.nm = some (frR (gA hs (wor hs t) x.nm)) := by
  unfold byP
  rw [List.take_length]
  refine kget_of ?_ (List.mem_map.mpr ⟨x, hx, rfl⟩)
  rw [List.map_map]
  exact nd
theorem byP_next {hs : List Hs} (nd : (hs.map (·.nm)).Nodup) (t : Nat → Rat) {i : Nat} {x : Hs} (hx : hs[i]? = some x) : kput (byP hs t i) x.nm (frR (gA hs (wor hs t) x.nm)) = byP hs t (i + 1) := by
  have hk : x.nm ∉ (byP hs t i).map (·.1) := by
    unfold byP
    rw [List.map_map]
    intro h
    obtain ⟨w, hw, e⟩ := List.mem_map.mp h
    obtain ⟨j, hj⟩ := List.mem_iff_getElem?.mp hw
    have hji : j < i := by
      have := (List.getElem?_eq_some_iff.mp hj).1
      rw [List.length_take] at this
      omega
    rw [List.getElem?_take_of_lt hji] at hj
    have e2 : w = x := map_inj nd (List.mem_of_getElem? hj) (List.mem_of_getElem? hx) e
    subst e2
    have hl := (List.getElem?_eq_some_iff.mp hx).1
    have h1 : (hs.map (·.nm))[j]? = (hs.map (·.nm))[i]? := by rw [List.getElem?_map, List.getElem?_map, hj, hx]
    have := (List.getElem?_inj (by rw [List.length_map]; omega) nd).mp h1
    omega
  rw [kput_new hk]
  unfold byP
  rw [List.take_add_one, hx, List.map_append]
  rfl
def spFrom (CB CE : Addr) : Spec := fun vs F Q _ => ∃ (b m : Addr) (y : Str) (un : List Str) (pl en : Addr) (ps : List Str) (hs : List Hs) (u : HO), vs = [.ref b, .lst ((sortS ps).map .str), .ref m, .str y] ∧ Gc CB CE un F b pl en ps hs ∧ Mq un F m hs ∧ F m = some (.lck u (modD hs)) ∧ Led hs 24 ∧ wg hs = [] ∧ y ∈ nmL hs ∧ ps.Nodup ∧
  (∀ z ∈ ps, z ∉ hs.map (·.nm)) ∧ (∀ x ∈ hs, ∀ z ∈ x.held.map (·.1), z ∈ ps ∨ z ∈ hs.map (·.nm)) ∧ (∀ z ∈ ps, VS z) ∧ ∀ F', Ext F F' → Q (.bl true) F'
theorem w_l_from {Γ : Amb} {CB CE CW CH CN : Addr} {rs : CallR1 Γ "_law_sum"} {rf : CallR1 Γ "_law_is_fraction"} {rh : CallR1 Γ "_law_held"} {rt : CallR1 Γ "through"} (hrs : rs.sp = spTotal) (hrf : rf.sp = spFrac) (hrh : rh.sp = spHeld) (hrt : rt.sp = spThrough CB CE CW CH CN) :
    ∀ vs F Q E, spFrom CB CE vs F Q E → wpB (fun C fs _ F => E C fs F) (c_l_from rs rf rh rt) (start1 n_l_from vs) F (fun _ F => Q .non F) Q := by
  rintro vs F Q E ⟨b, m, y, un, pl, en, ps, hs, u, rfl, gc, q, hm, led, hwg, hy, pnd, pd, cov, hpv, hq⟩
  have tok := unit_tok hs y
  have ok1 := led.ok hwg (by omega) tok
  obtain ⟨s, s0, sn, sc⟩ := led.com hwg (by omega) tok
  have hle := q.le
  have nd := q.md.nd
  have hp6 := gc.pl6
  have hnv : ∀ z ∈ nmL hs, VS z := fun z hz => by
    obtain ⟨x, hx, rfl⟩ := mem_names (nmL_mem.mp hz)
    exact q.vu _ (q.nu x hx)
  have hyv := hnv y hy
  -- a way through
  have thru : ∀ (z : Str) (F2 : MH) (Q2 : Q1) (E2 : X1), Ext F F2 → VS z → (z ∈ nmL hs ∨ z ∈ sortS ps) → (∀ F', Ext F2 F' → (z ∈ nmL hs → Q2 (frR (gA hs (wor hs (unit hs y)) z)) F') ∧ (z ∉ nmL hs → Q2 (frR (partS hs (unit hs y) z)) F')) → spThrough CB CE CW CH CN [.ref b, .str z, .str y] F2 Q2 E2 := by
    intro z F2 Q2 E2 ex hzv hzin hh
    refine ⟨b, z, y, un, pl, en, ps, hs, rfl, gc.ext ex, hzv, hyv, fun _ _ => ⟨ok1, fun _ => ⟨2900, 4000, by omega, by omega, led.okp hwg (by omega) tok z⟩⟩, fun F' ex' => ?_⟩
    unfold thR
    rw [if_neg (fun q => q hwg), if_neg (fun q => q hzin), if_neg (fun q => q hy)]
    obtain ⟨h1, h2⟩ := hh F' ex'
    by_cases hz : z ∈ nmL hs
    · rw [if_pos hz]
      rintro r hr rfl
      have := h1 hz
      rw [gA_h nd hr] at this
      exact this
    · rw [if_neg hz]
      exact h2 hz
  have hkeys : (modD hs).map (fun kv => Val.str kv.1) = hs.map (fun x => .str x.nm) := by unfold modD; rw [List.map_map]; rfl
  unfold c_l_from
  simp only [wpB, wpS, wpE, wpEs, wpT, wpTs, wpCs, wpP, wpIt, wpBl, bindT, biS, recS, truS, start1, List.map, List.length, List.replicate, List.append_nil, List.nil_append, List.cons_append, Nat.sub_self, Nat.reduceSub, Nat.reduceAdd, List.length_cons, List.length_nil, List.getElem?_cons_zero, List.getElem?_cons_succ, List.set_cons_zero, List.set_cons_succ, setAll, wipe1, Tg.slots, binS, subS, fdivS, modS, powS, cmpS, ltS, isS, isNS, asStrs, asBls, newLs, n_l_from, hrs, hrf, hrh, hrt]
  intro d hd
  have hmd : m ≠ d := fun e => by rw [e, hd] at hm; cases hm
  right
  refine ⟨m, u, modD hs, by rw [mset_ne hmd]; exact hm, rfl, ?_⟩
  rw [hkeys]
  refine forGo_inv (fun (i : Nat) σ F2 => (∃ s5 s6 s7 s8, σ = [some (.ref b), some (.lst ((sortS ps).map .str)), some (.ref m), some (.str y), some (.ref d), s5, s6, s7, s8]) ∧ Ext F F2 ∧ F2 d = some (.dict (byP hs (unit hs y) i))) (fun _ _ _ ⟨_, e, _⟩ => e _ _ hm) ?_ ?_ ⟨⟨_, _, _, _, rfl⟩, (Ext.refl F).new hd, mset_same⟩
  · rintro i v σ F2 kk hvi ⟨⟨s5, s6, s7, s8, rfl⟩, ex, hdd⟩ hk2
    rw [List.getElem?_map] at hvi
    obtain ⟨x, hxi, rfl⟩ := Option.map_eq_some_iff.mp hvi
    have hx := List.mem_of_getElem? hxi
    have hxn : x.nm ∈ nmL hs := nmL_mem.mpr (List.mem_map.mpr ⟨x, hx, rfl⟩)
    simp only [List.set_cons_succ, List.set_cons_zero, List.getElem?_cons_succ, List.getElem?_cons_zero]
    refine thru x.nm F2 _ _ ex (hnv _ hxn) (.inl hxn) fun F3 ex3 => ⟨fun _ => ?_, fun q => absurd hxn q⟩
    have hd3 := ex3 _ _ hdd
    have hbl : (byP hs (unit hs y) i).length ≤ 8 := by
      unfold byP
      rw [List.length_map, List.length_take]
      omega
    refine set_d hd3 (by rw [sizeLine_eq]; omega) ?_
    rw [byP_next nd (unit hs y) hxi]
    have hg : kget (byP hs (unit hs y) (i + 1)) x.nm = some (frR (gA hs (wor hs (unit hs y)) x.nm)) := by
      refine kget_of ?_ ?_
      · unfold byP
        rw [List.map_map, List.map_take]
        exact List.Sublist.nodup (List.take_sublist _ _) nd
      · unfold byP
        rw [List.take_add_one, hxi]
        exact List.mem_map.mpr ⟨x, List.mem_append_right _ (by simp), rfl⟩
    refine ix_dc (kvs := byP hs (unit hs y) (i + 1)) (by simp only [dcOf, mset_same]) hg ⟨_, rfl, ?_⟩
    exact hk2 _ _ ⟨⟨_, _, _, _, rfl⟩, (ex.trans ex3).new hd, mset_same⟩
  rintro σ F2 ⟨⟨s5, s6, s7, s8, rfl⟩, ex2, hd2⟩
  rw [List.length_map] at hd2
  simp only [wpB, wpS, wpE, wpEs, wpT, wpTs, wpCs, wpP, wpIt, wpBl, bindT, biS, recS, truS, start1, List.map, List.length, List.replicate, List.append_nil, List.nil_append, List.cons_append, Nat.sub_self, Nat.reduceSub, Nat.reduceAdd, List.length_cons, List.length_nil, List.getElem?_cons_zero, List.getElem?_cons_succ, List.set_cons_zero, List.set_cons_succ, setAll, wipe1, Tg.slots, binS, subS, fdivS, modS, powS, cmpS, ltS, isS, isNS, asStrs, asBls, newLs]
  right
  refine ⟨m, u, modD hs, ex2 _ _ hm, rfl, ?_⟩
  rw [hkeys]
  have q2 := q.ext ex2
  have hm2 := ex2 _ _ hm
  -- what a holder has
  have held : ∀ (z : Str) (F8 : MH) (Q2 : Q1) (E2 : X1), Ext F2 F8 → (∀ F9, Ext F8 F9 → Q2 (frR (sm hs.length fun c => shr (hel hs (nmA hs c)) z * wor hs (unit hs y) c)) F9) → spHeld [.ref m, .str z, .ref d] F8 Q2 E2 := by
    intro z F8 Q2 E2 e8 hh
    have q8 := q2.ext e8
    have okz := led.okp hwg (by omega) tok z
    refine ⟨m, d, z, un, hs, gA hs (wor hs (unit hs y)), byP hs (unit hs y) hs.length, 2900, 4000, rfl, q8, .inr ⟨u, e8 _ _ hm2⟩, e8 _ _ hd2, fun e => hmd e.symm, fun w hw => byP_get nd _ hw, by omega, by omega, fun w hw => ?_, fun i _ => (heldL_bd s0 sn sc nd hle z i).mono (by omega) (by omega), fun F9 e9 => ?_⟩
    · obtain ⟨c, hc, e⟩ := nmA_of hw
      have h1 := (okz.sb c hc)
      rw [e, hel_of nd hw] at h1
      rw [← e, gA_h nd hc]
      exact ⟨h1.1, ok1.bd hs.length c hs.length (Nat.le_refl _) hc (Nat.le_refl _), h1.2⟩
    · have eh : (heldL hs z (gA hs (wor hs (unit hs y)))).sum = sm hs.length fun c => shr (hel hs (nmA hs c)) z * wor hs (unit hs y) c := by
        rw [held_sum q8]
        exact sm_congr fun c hc => by rw [gA_h nd hc]
      rw [eh]
      exact hh F9 e9
  refine forGo_inv (fun (i : Nat) σ F8 => (∃ s5 s6 s7 s8, σ = [some (.ref b), some (.lst ((sortS ps).map .str)), some (.ref m), some (.str y), some (.ref d), s5, s6, s7, s8]) ∧ Ext F2 F8) (fun _ _ _ ⟨_, e⟩ => e _ _ hm2) ?_ ?_ ⟨⟨_, _, _, _, rfl⟩, Ext.refl _⟩
  · rintro i v σ F8 kk hvi ⟨⟨s5, s6, s7, s8, rfl⟩, e8⟩ hk8
    rw [List.getElem?_map] at hvi
    obtain ⟨x, hxi, rfl⟩ := Option.map_eq_some_iff.mp hvi
    have hx := List.mem_of_getElem? hxi
    obtain ⟨r, hr, er⟩ := nmA_of hx
    have hxn : x.nm ∈ nmL hs := nmL_mem.mpr (List.mem_map.mpr ⟨x, hx, rfl⟩)
    simp only [List.set_cons_succ, List.set_cons_zero, List.getElem?_cons_succ, List.getElem?_cons_zero]
    refine ix_dc (kvs := byP hs (unit hs y) hs.length) (by simp only [dcOf, e8 _ _ hd2]) (byP_get nd _ hx) ?_
    refine eqS_str (hnv _ hxn) hyv ?_
    show 2 ≤ sizeLine ∧ _
    refine ⟨by rw [sizeLine_eq]; decide, held x.nm F8 _ _ e8 fun F9 e9 => ⟨by rw [sizeLine_eq]; decide, ?_⟩⟩
    have hU : Val.tup [.int (if decide (x.nm = y) = true then 1 else 0), .int 1] = frR (unit hs y r) := by
      unfold unit
      rw [er]
      by_cases e : x.nm = y
      · rw [if_pos (decide_eq_true e), if_pos e]; rfl
      · rw [if_neg (by simpa using e), if_neg e]; rfl
    have eh : (sm hs.length fun c => shr (hel hs (nmA hs c)) x.nm * wor hs (unit hs y) c) = sm hs.length fun c => shm hs r c * wor hs (unit hs y) c := sm_congr fun c hc => by
      unfold shm
      rw [er]
    have esol := led.sol hwg (unit hs y) hr
    have bh := (partS_com s0 sn sc hle x.nm)
    have bh2 : Bd 2900 4000 (partS hs (unit hs y) x.nm) := (led.okp hwg (by omega) tok x.nm).sm hs.length (Nat.le_refl _)
    unfold partS at bh2
    rw [eh] at bh2 ⊢
    have bt : Bd 0 80 (unit hs y r) := isI_bd (tok.i r hr) (tok.b r hr)
    generalize (sm hs.length fun c => shm hs r c * wor hs (unit hs y) c) = hsum at *
    have hs2 : ([unit hs y r, hsum] : List Rat).sum = wor hs (unit hs y) r := by
      rw [List.sum_cons, List.sum_cons, List.sum_nil]
      grind
    have hs1 : ([unit hs y r] : List Rat).sum = unit hs y r := by
      rw [List.sum_cons, List.sum_nil]; grind
    refine ⟨_, [unit hs y r, hsum], 2900, 4000, 2900, 4000, rfl, by rw [List.map_cons, List.map_cons, List.map_nil, ← hU]; rfl, (show 2 ≤ 64 by decide), fun i hi => ?_, fun y hy => ?_, by omega, by omega, by omega, ?_⟩
    · have : i = 0 ∨ i = 1 ∨ i = 2 := by simp at hi; omega
      rcases this with rfl | rfl | rfl
      · exact Bd.zero
      · show Bd _ _ ([unit hs y r] : List Rat).sum
        rw [hs1]; exact bt.mono (by omega) (by omega)
      · show Bd _ _ ([unit hs y r, hsum] : List Rat).sum
        rw [hs2]; exact ok1.bd hs.length r hs.length (Nat.le_refl _) hr (Nat.le_refl _)
    · simp only [List.mem_cons, List.not_mem_nil, or_false] at hy
      rcases hy with rfl | rfl
      · exact bt.mono (by omega) (by omega)
      · exact bh2
    · rw [hs2]
      refine eqS_R ?_
      rw [← er, gA_h nd hr, decide_eq_true rfl]
      exact hk8 _ _ ⟨⟨_, _, _, _, rfl⟩, e8.trans e9⟩
  rintro σ F8 ⟨⟨s5, s6, s7, s8, rfl⟩, e8⟩
  simp only [wpB, wpS, wpE, wpEs, wpT, wpTs, wpCs, wpP, wpIt, wpBl, bindT, biS, recS, truS, start1, List.map, List.length, List.replicate, List.append_nil, List.nil_append, List.cons_append, Nat.sub_self, Nat.reduceSub, Nat.reduceAdd, List.length_cons, List.length_nil, List.getElem?_cons_zero, List.getElem?_cons_succ, List.set_cons_zero, List.set_cons_succ, setAll, wipe1, Tg.slots, binS, subS, fdivS, modS, powS, cmpS, ltS, isS, isNS, asStrs, asBls, newLs]
  have hpn : ∀ z ∈ sortS ps, z ∉ nmL hs := fun z hz h => pd z (mem_sortS.mp hz) (nmL_mem.mp h)
  have hpv2 : ∀ z ∈ sortS ps, VS z := fun z hz => hpv z (mem_sortS.mp hz)
  have hpl : (sortS ps).length ≤ 6 := by rw [sortS_length]; exact hp6
  refine lcGo_inv (fun i acc F9 => acc = ((sortS ps).take i).map (fun z => frR (partS hs (unit hs y) z)) ∧ Ext F8 F9) (by rw [List.length_map, sizeLine_eq]; omega) (fun _ _ _ _ => by first | rfl | trivial) ?_ ?_ ⟨rfl, Ext.refl _⟩
  · rintro i v acc F9 k9 hvi ⟨rfl, e9⟩ hk9 _
    rw [List.getElem?_map] at hvi
    obtain ⟨z, hz, rfl⟩ := Option.map_eq_some_iff.mp hvi
    have hzm := List.mem_of_getElem? hz
    refine thru z F9 _ _ ((ex2.trans e8).trans e9) (hpv2 z hzm) (.inr hzm) fun F' ex' => ⟨fun q => absurd q (hpn z hzm), fun _ => ?_⟩
    refine hk9 _ _ ⟨?_, e9.trans ex'⟩
    rw [List.take_add_one, hz, List.map_append]
    rfl
  rintro acc F9 ⟨rfl, e9⟩
  rw [List.length_map, List.take_length]
  simp only [lsOf_lst]
  generalize hL : ((sortS ps).map fun z => frR (partS hs (unit hs y) z)) = L at *
  have hzl : (zipV ((sortS ps).map .str) L).length = (sortS ps).length := by
    rw [← hL]
    unfold zipV
    rw [List.length_zipWith, List.length_map, List.length_map, Nat.min_self]
  refine forGo_inv (fun (i : Nat) σ F10 => (∃ s5 s7 s8, σ = [some (.ref b), some (.lst ((sortS ps).map .str)), some (.ref m), some (.str y), some (.ref d), s5, some (.lst L), s7, s8]) ∧ Ext F9 F10) (fun _ _ _ _ => by first | exact ⟨rfl, rfl⟩ | exact ⟨trivial, trivial⟩ | trivial) ?_ ?_ ⟨⟨_, _, _, rfl⟩, Ext.refl _⟩
  · rintro i v σ F10 kk hvi ⟨⟨s5, s7, s8, rfl⟩, e10⟩ hk10
    have hi : i < (sortS ps).length := by have := (List.getElem?_eq_some_iff.mp hvi).1; rwa [hzl] at this
    obtain ⟨z, hz⟩ : ∃ z, (sortS ps)[i]? = some z := ⟨_, List.getElem?_eq_getElem hi⟩
    have hv2 : v = .tup [.str z, frR (partS hs (unit hs y) z)] := by
      rw [← hL] at hvi
      unfold zipV at hvi
      rw [List.getElem?_zipWith, List.getElem?_map, hz, List.getElem?_map, hz] at hvi
      exact (Option.some.inj hvi).symm
    subst hv2
    have hzm := List.mem_of_getElem? hz
    refine ⟨rfl, ?_⟩
    simp only [setAll, List.set_cons_succ, List.set_cons_zero, List.getElem?_cons_succ, List.getElem?_cons_zero]
    refine ⟨_, rfl, ?_⟩
    refine held z F10 _ _ ((e8.trans e9).trans e10) fun F11 e11 => ?_
    refine eqS_R ?_
    rw [decide_eq_true (show partS hs (unit hs y) z = sm hs.length fun c => shr (hel hs (nmA hs c)) z * wor hs (unit hs y) c from rfl)]
    exact hk10 _ _ ⟨⟨_, _, _, rfl⟩, e10.trans e11⟩
  rintro σ F10 ⟨⟨s5, s7, s8, rfl⟩, e10⟩
  simp only [wpB, wpS, wpE, wpEs, wpT, wpTs, wpCs, wpP, wpIt, wpBl, bindT, biS, recS, truS, start1, List.map, List.length, List.replicate, List.append_nil, List.nil_append, List.cons_append, Nat.sub_self, Nat.reduceSub, Nat.reduceAdd, List.length_cons, List.length_nil, List.getElem?_cons_zero, List.getElem?_cons_succ, List.set_cons_zero, List.set_cons_succ, setAll, wipe1, Tg.slots, binS, subS, fdivS, modS, powS, cmpS, ltS, isS, isNS, asStrs, asBls, newLs]
  refine ⟨_, (sortS ps).map (partS hs (unit hs y)), 2900, 3000, 2900, 4000, rfl, by rw [← hL, List.map_map]; rfl, by rw [List.length_map]; omega, fun i _ => ?_, fun x hx => ?_, by omega, by omega, by omega, ?_⟩
  · refine com_bd (b := 2990) s0 sn ?_ fun x hx => ?_
    · rw [List.length_take, List.length_map]; omega
    · obtain ⟨z, hz, rfl⟩ := List.mem_map.mp (List.mem_of_mem_take hx)
      exact partS_com s0 sn sc hle z
  · obtain ⟨z, hz, rfl⟩ := List.mem_map.mp hx
    exact (led.okp hwg (by omega) tok z).sm hs.length (Nat.le_refl _)
  have e1 : ((sortS ps).map (partS hs (unit hs y))).sum = 1 := by
    rw [parts_total led hwg pnd pd cov (unit hs y)]
    have hyr := hy
    rw [nmL_range] at hyr
    obtain ⟨r, hr, er⟩ := List.mem_map.mp hyr
    have hr := List.mem_range.mp hr
    rw [sm_one hr fun i hi hne => ?_]
    · unfold unit
      rw [if_pos er]
    · unfold unit
      exact if_neg fun e => hne (nmA_inj nd hi hr (e.trans er.symm))
  rw [e1]
  refine ⟨by rw [sizeLine_eq]; decide, ?_⟩
  refine eqS_R (x := 1) (y := 1) ?_
  rw [decide_eq_true rfl]
  exact hq _ (((ex2.trans e8).trans e9).trans e10)
end Bv

set_option pp.maxSteps 900
/-! k13: the law. -/
namespace Bv
open PySem L2 PyProof.Rows
theorem Wd.gcL {CB CE : Addr} {un : List Str} {n : Nat} {F : MH} {p b pl en m : Addr} {ps : List Str} {hs : List Hs} (w : Wd CB CE un n F p b pl en m ps hs) (v : ∀ z ∈ un, VS z) (hp : ∀ z ∈ ps, z ∈ un) (hl : ps.length ≤ 6) (u : HO) : Gc CB CE un (mset F m (.lck u (modD hs))) b pl en ps hs := by
  have gc := w.gc v hp hl
  have ad := w.ad
  rw [List.nodup_cons, List.nodup_cons] at ad
  have ne : ∀ {a : Addr} {c : Cell}, F a = some c → c ≠ .dict (modD hs) → mset F m (.lck u (modD hs)) a = some c := fun {a c} h hc => by
    rw [mset_ne (fun z => by rw [z, w.md] at h; cases h; exact hc rfl)]
    exact h
  refine { gc with g := { gc.g with c := ⟨ne w.c.b (fun z => nomatch z), ne w.c.pl (fun z => nomatch z), ?_⟩, ent := fun x hx => ⟨ne (w.ent x hx).e (fun z => nomatch z), ?_⟩ } }
  · rw [mset_ne (fun z => ad.1 (by rw [z]; exact List.mem_cons_self))]
    exact w.c.en
  · rw [mset_ne (fun z => ad.2.1 (by rw [← z]; exact List.mem_append_left _ (List.mem_map.mpr ⟨x, hx, rfl⟩)))]
    exact (w.ent x hx).h
theorem bls_ok (l : List Bool) : okD 60 (.lst (l.map .bl)) = true := by
  show (l.map Val.bl).all (okD 59) = true
  rw [List.all_map, List.all_eq_true]
  intro a _
  rfl
def spLaw : Spec := fun vs F Q _ => ∃ (v : Val) (ns : List Int), vs = [v] ∧ lsOf F v = some (ns.map .int) ∧ ns.length ≤ 63 ∧ (∀ z ∈ ns, Builtin.Int.intBits z ≤ 2 ^ 20) ∧ ∀ F', Q (.bl true) F'
theorem w_law {Γ : Amb} {CB CE : Addr} {rf : CallR1 Γ "_law_from"} {rc : CallR1 Γ "_law_caught"} {rdu : CallR1 Γ "_law_due"} {rd : CallR1 Γ "_law_draw"} {rg : CallR1 Γ "_law_group"} {rb : CallR1 Γ "_law_built"} {rp : CallR1 Γ "_law_purse"}
    (hrf : rf.sp = spFrom CB CE) (hrc : rc.sp = spCaught CB CE) (hrdu : rdu.sp = spDueL) (hrd : rd.sp = spDraw) (hrg : rg.sp = spGroup) (hrb : rb.sp = spBuilt CB CE) (hrp : rp.sp = spPurse) :
    ∀ vs F Q E, spLaw vs F Q E → wpB noX (c_law rf rc rdu rd rg rb rp) (start1 n_law vs) F (fun _ F => Q .non F) Q := by
  rintro vs F Q E ⟨v0, ns, rfl, hv0, hl0, hbits, hq⟩
  unfold c_law
  simp only [wpB, wpS, wpE, wpEs, wpT, wpTs, wpCs, wpP, wpIt, wpBl, bindT, biS, recS, truS, start1, List.map, List.length, List.replicate, List.append_nil, List.nil_append, List.cons_append, Nat.sub_self, Nat.reduceSub, Nat.reduceAdd, List.length_cons, List.length_nil, List.getElem?_cons_zero, List.getElem?_cons_succ, List.set_cons_zero, List.set_cons_succ, setAll, wipe1, Tg.slots, binS, subS, fdivS, modS, powS, cmpS, ltS, isS, isNS, asStrs, asBls, newLs, n_law, hrf, hrc, hrdu, hrd, hrg, hrb, hrp]
  refine ⟨v0, ns, rfl, hv0, hl0, hbits, fun p a b hp0 => ?_⟩
  refine ⟨p, 5, rfl, by decide, .set, fun F1 bk pl en m un n ps hs w hvu hvp hpl hpd hn8 hsl hcov h3 hpnd hpu hp1 => ?_⟩
  refine ⟨rfl, ?_⟩
  simp only [setAll, List.set_cons_succ, List.set_cons_zero, List.getElem?_cons_succ, List.getElem?_cons_zero]
  refine ⟨m, un, hs, rfl, w.mq hvu, w.md, ?_⟩
  have hgv : ∀ z ∈ wg hs, VS z := fun z hz => by
    obtain ⟨x, hx, rfl⟩ := mem_names (wgN_sub hz)
    exact hvu _ (w.nu x hx)
  have hnv : ∀ z ∈ nmL hs, VS z := fun z hz => by
    obtain ⟨x, hx, rfl⟩ := mem_names (nmL_mem.mp hz)
    exact hvu _ (w.nu x hx)
  have hle := w.len
  refine sort_md (w.mq hvu) w.md ?_
  have hL : ∀ z ∈ sortS ps ++ nmL hs ++ [("nobody" : Str), ""], VS z := fun z hz => by
    rcases List.mem_append.mp hz with hz | hz
    · rcases List.mem_append.mp hz with hz | hz
      · exact hvp z (mem_sortS.mp hz)
      · exact hnv z hz
    · simp only [List.mem_cons, List.not_mem_nil, or_false] at hz
      rcases hz with rfl | rfl
      · unfold VS; decide +kernel
      · unfold VS; decide +kernel
  refine add_ls (by rw [List.length_map, List.length_map, sortS_length, nmL_len, sizeLine_eq]; omega) ?_
  refine ⟨by rw [sizeLine_eq]; decide, add_ls (by rw [List.length_append, List.length_map, List.length_map, sortS_length, nmL_len, sizeLine_eq]; simp; omega) ?_⟩
  generalize hS : (sortS ps ++ nmL hs ++ [("nobody" : Str), ""]) = S at *
  rw [show (List.map Val.str (sortS ps) ++ List.map Val.str (nmL hs)) ++ [Val.str "nobody", Val.str ""] = S.map .str by rw [← hS, List.map_append, List.map_append]; rfl]
  have hSl : S.length ≤ 20 ∧ 0 < S.length := by
    rw [← hS, List.length_append, List.length_append, sortS_length, nmL_len]
    simp only [List.length_cons, List.length_nil]
    omega
  have led := w.led (K := 24) (by omega)
  refine ⟨by decide, by decide, ?_⟩
  refine forGo_inv (fun (i : Nat) σ F2 => (∃ s4 s5 s9, σ = [some v0, some (.ref p), some (.lst ((wg hs).map .str)), some (.lst (S.map .str)), s4, s5, some (.ref bk), some (.lst ((sortS ps).map .str)), some (.ref m), s9]) ∧ Wd CB CE un n F2 p bk pl en m ps hs) (fun _ _ _ _ => by first | rfl | trivial) ?_ ?_ ⟨⟨_, _, _, rfl⟩, w⟩
  · rintro i v σ F2 kk hvi ⟨⟨s4, s5, s9, rfl⟩, w2⟩ hk2
    simp only [List.set_cons_succ, List.set_cons_zero, List.getElem?_cons_succ, List.getElem?_cons_zero, lenS, List.length_map]
    refine ⟨p, S.length, by first | rfl | rw [List.length_map], by omega, .of_small (by omega) (by omega), w2.pur, fun r a b r0 r1 => ?_⟩
    have w3 := w2.draw (F' := mset F2 p (.lst [.int a, .int b])) .set .set
    generalize mset F2 p (.lst [.int a, .int b]) = F3 at w3
    obtain ⟨z, hz⟩ : ∃ z, S[r.toNat]? = some z := ⟨_, List.getElem?_eq_getElem (by omega)⟩
    refine ix_list (v := .str z) rfl r0 (by rw [List.getElem?_map, hz]; rfl) ?_
    refine ⟨p, S.length, by rw [List.length_map], by omega, .of_small (by omega) (by omega), w3.pur, fun r' a b r0' r1' => ?_⟩
    have w4 := w3.draw (F' := mset F3 p (.lst [.int a, .int b])) .set .set
    generalize mset F3 p (.lst [.int a, .int b]) = F4 at w4
    obtain ⟨y, hy⟩ : ∃ y, S[r'.toNat]? = some y := ⟨_, List.getElem?_eq_getElem (by omega)⟩
    refine ix_list (v := .str y) rfl r0' (by rw [List.getElem?_map, hy]; rfl) ?_
    refine ⟨bk, z, y, un, pl, en, ps, hs, rfl, w4.gc hvu hpu (by omega), hL z (List.mem_of_getElem? hz), hL y (List.mem_of_getElem? hy), fun hwg _ => ⟨led.ok hwg (by omega) (unit_tok hs y), fun _ => ⟨2900, 4000, by omega, by omega, led.okp hwg (by omega) (unit_tok hs y) z⟩⟩, fun F5 ex5 => ?_⟩
    have w5 := w4.ext ex5
    refine ⟨m, z, y, un, ps, hs, rfl, w5.mq hvu, ?_⟩
    refine eqS_refl (bls_ok _) ?_
    exact hk2 _ _ ⟨⟨_, _, _, rfl⟩, w5⟩
  rintro σ F2 ⟨⟨s4, s5, s9, rfl⟩, w2⟩
  simp only [wpB, wpS, wpE, wpEs, wpT, wpTs, wpCs, wpP, wpIt, wpBl, bindT, biS, recS, truS, start1, List.map, List.length, List.replicate, List.append_nil, List.nil_append, List.cons_append, Nat.sub_self, Nat.reduceSub, Nat.reduceAdd, List.length_cons, List.length_nil, List.getElem?_cons_zero, List.getElem?_cons_succ, List.set_cons_zero, List.set_cons_succ, setAll, wipe1, Tg.slots, binS, subS, fdivS, modS, powS, cmpS, ltS, isS, isNS, asStrs, asBls, newLs]
  refine ⟨by rw [sizeLine_eq]; decide, ?_⟩
  refine eqS_strs (l := wg hs) (m := []) rfl rfl hgv (fun _ h => nomatch h) ?_
  by_cases hwg0 : wg hs ≠ []
  · rw [decide_eq_false hwg0]
    exact hq _
  have hwg : wg hs = [] := by
    by_cases q : wg hs = []
    · exact q
    · exact absurd q hwg0
  clear hwg0
  rw [decide_eq_true hwg]
  simp only [Bool.not_true]
  refine ⟨m, modD hs, w2.md, fun u => ⟨rfl, ?_⟩⟩
  rw [show (modD hs).map (fun kv => Val.str kv.1) = hs.map (fun x => .str x.nm) by unfold modD; rw [List.map_map]; rfl]
  have gL := w2.gcL hvu hpu (by omega) u
  have qL := (w2.mq hvu).lock u
  have hmL : (mset F2 m (.lck u (modD hs))) m = some (.lck u (modD hs)) := mset_same
  generalize mset F2 m (.lck u (modD hs)) = FL at *
  refine forGo_inv (fun (i : Nat) σ F3 => (∃ s4 s5 s9, σ = [some v0, some (.ref p), some (.lst ((wg hs).map .str)), some (.lst (S.map .str)), s4, s5, some (.ref bk), some (.lst ((sortS ps).map .str)), some (.ref m), s9]) ∧ Ext FL F3) (fun _ _ _ ⟨_, e⟩ => e _ _ hmL) ?_ ?_ ⟨⟨_, _, _, rfl⟩, Ext.refl _⟩
  · rintro i v σ F3 kk hvi ⟨⟨s4, s5, s9, rfl⟩, e3⟩ hk3
    rw [List.getElem?_map] at hvi
    obtain ⟨x, hxi, rfl⟩ := Option.map_eq_some_iff.mp hvi
    have hx := List.mem_of_getElem? hxi
    simp only [List.set_cons_succ, List.set_cons_zero, List.getElem?_cons_succ, List.getElem?_cons_zero]
    refine ⟨bk, m, x.nm, un, pl, en, ps, hs, u, rfl, gL.ext e3, qL.ext e3, e3 _ _ hmL, led, hwg, nmL_mem.mpr (List.mem_map.mpr ⟨x, hx, rfl⟩), hpnd, hpd, fun x hx z hz => hcov z ((w.rc x hx).hu z hz), hvp, fun F' ex' => ?_⟩
    exact hk3 _ _ ⟨⟨_, _, _, rfl⟩, e3.trans ex'⟩
  rintro σ F3 ⟨⟨s4, s5, s9, rfl⟩, e3⟩
  exact ⟨e3 _ _ hmL, hq _⟩
end Bv

set_option pp.maxSteps 100
/-! Every def's promise, and the law. -/
namespace Bv
open PySem L2 PyProof.Rows
abbrev Gm (P : Program) (w : World) (K : PySem.W.Frag) (mg : Str → Option Value) (base : Heap) (k : Nat) : Amb := ⟨P, w, K, mg, base, k⟩
section
variable {P : Program} {w : World} {K : PySem.W.Frag} {mg : Str → Option Value} {base : Heap}
def mkCall {x : Str} {sp : Spec} {f : Addr} {fd : FuncData} {ps : List Str} {j : Nat} (k : Nat) (hj : j ≤ k) (hm : mg x = some (.ref f)) (hk : PySem.W.keepIn K (.ref f) = true) (hb : Binds K fd ps []) (O : FnOk P w K mg base (L2.CX P w) j f fd ps (liftSp K sp)) : CallR1 (Gm P w K mg base k) x :=
  ⟨sp, f, fd, ps, j, hj, hm, hk, hb, O⟩
def mkMeth {m : Str} {sp : Spec} {C f : Addr} {fd : FuncData} {ps : List Str} {j : Nat} (k : Nat) (cl : Cls K C) (hj : j ≤ k) (hm : Meth K C m f) (hb : Binds K fd ps []) (O : FnOk P w K mg base (L2.CX P w) j f fd ps (liftSp K sp)) : MethR (Gm P w K mg base k) m :=
  ⟨C, sp, cl, f, fd, ps, j, hj, hm, hb, O⟩
def mkNew {x : Str} {sp : Spec} {C f : Addr} {fd : FuncData} {ps : List Str} {j : Nat} (k : Nat) (hj : j + 1 ≤ k) (hm : Mk K C f) (hx : mg x = some (.ref C)) (hb : Binds K fd ps []) (O : FnOk P w K mg base (L2.CX P w) j f fd ps (liftSp K sp)) : MkR (Gm P w K mg base k) x :=
  ⟨C, sp, f, fd, ps, j, hj, hm, hx, hb, O⟩
def mkFld {f : Str} {C : Addr} (k : Nat) (cl : Cls K C) (no : NoAttr K C f) : FldR (Gm P w K mg base k) f := ⟨C, cl, no⟩
def mkRai {x : Str} {C : Addr} (k : Nat) (h1 : PySem.W.excIn K C [.type "ValueError", .type "Exception", .type "BaseException", .type "object"] "ValueError.__new__" = true) (h2 : mg x = some (.ref C)) (h3 : PySem.W.keepIn K (.ref C) = true) (h4 : PySem.W.subIn K (.ref C) (.type "BaseException") = some true) (h5 : PySem.W.typeIn K (.ref C) = some (.type "type")) : RaiR (Gm P w K mg base k) x := ⟨C, h1, h2, h3, h4, h5⟩
def mkGlS {x : Str} {z : Str} {tk : Tok} (k : Nat) (h : mg x = some (.str z tk)) : GlR (Gm P w K mg base k) x := ⟨.str z, .str z tk, .str z, h, ⟨tk, rfl⟩, fun _ => .str z⟩
def mkGlI {x : Str} {i : Int} {tk : Tok} (k : Nat) (h : mg x = some (.int i tk)) : GlR (Gm P w K mg base k) x := ⟨.int i, .int i tk, .int i, h, ⟨tk, rfl⟩, fun _ => .int i⟩
def mkIs {x : Str} {C : Addr} (k : Nat) (h : mg x = some (.ref C)) : IsR (Gm P w K mg base k) x := ⟨.ref C, .ref C, rfl, .own C, .inl h, fun t => PySem.W.kitOne K t (.ref C), fun _ _ h => h⟩
def mkIsT {x : Str} {n : String} (k : Nat) (h : mg x = none) (h2 : bootBuiltins x = some (.type n)) (h3 : x ≠ "__name__") : IsR (Gm P w K mg base k) x := ⟨.type n, .ty n, rfl, .ty n, .inr ⟨h, h2, h3⟩, fun t => PySem.W.kitOne K t (.type n), fun _ _ h => h⟩
def mkEx {x : Str} {C : Addr} (k : Nat) (h : mg x = some (.ref C)) : ExR (Gm P w K mg base k) x := ⟨C, h, fun D => PySem.W.exmOne K (.ref D) (.ref C), fun _ _ h => h⟩
def mkRaiG {x f : Str} {C fI : Addr} {fd : FuncData} {ps : List Str} {j : Nat} (k : Nat) (hj : j + 1 ≤ k) (T : OexC K C) (iC : PySem.W.findIn K (.ref C) "__init__" = some (some (.ref fI))) (tI : PySem.W.typeIn K (.ref fI) = some (.type "function")) (hm : mg x = some (.ref C)) (hb : Binds K fd ps []) (O : FnOk P w K mg base L2.CX0 j fI fd ps (initSp C f)) : RaiGR (Gm P w K mg base k) x f :=
  ⟨C, fI, fd, ps, j, hj, T, iC, tI, hm, hb, O⟩
def mkXfl {f : Str} {C : Addr} (k : Nat) (h1 : PySem.W.findIn K (.ref C) "__getattribute__" = some (some (.builtin "BaseException.__getattribute__"))) (h2 : PySem.W.findIn K (.ref C) "__getattr__" = some none) (h3 : PySem.W.subIn K (.ref C) (.type "BaseException") = some true) (h4 : PySem.W.hasDictIn K C = true) (h5 : PySem.W.findIn K (.ref C) f = some none) : XflR (Gm P w K mg base k) f := ⟨C, ⟨h1, h2, h3, h4⟩, h5⟩
theorem fn_no {f : Addr} {fd : FuncData} {ps : List Str} (_ : Binds K fd ps []) {CX : CXT} {j : Nat} : FnOk P w K mg base CX j f fd ps (liftSp K fun _ _ _ _ => False) :=
  ⟨fun vs H Q E h => by obtain ⟨B, N, F, as, Q0, E0, o, d, w, _, _⟩ := h; exact w.elim, fun A outer s H args us vs Q E hr he hb hv h => by obtain ⟨B, N, F, as, Q0, E0, o, d, w, _, _⟩ := h; exact w.elim⟩
theorem kit_cls {t : Value} {C : Addr} {b : Bool} (h1 : PySem.W.isClsIn K C = true) (h2 : PySem.W.typeIn K (.ref C) = some (.type "type")) (h3 : PySem.W.subIn K t (.ref C) = some b) : PySem.W.kitCls K t (.ref C) = some b := by
  have h1' : (PySem.W.clsIn K C).isSome = true := h1
  show (if ((PySem.W.clsIn K C).isSome && PySem.W.typeIn K (.ref C) == some (.type "type")) = true then PySem.W.subIn K t (.ref C) else none) = some b
  rw [if_pos (by rw [h1', h2]; rfl)]
  exact h3
theorem kit_own {D C : Addr} {b : Bool} (ne : (Value.ref D == Value.ref C) = false) (h1 : PySem.W.isClsIn K C = true) (h2 : PySem.W.typeIn K (.ref C) = some (.type "type")) (h3 : PySem.W.subIn K (.ref D) (.ref C) = some b) : PySem.W.kitOne K (.ref D) (.ref C) = some b := by
  unfold PySem.W.kitOne
  rw [if_neg (by rw [ne]; exact Bool.false_ne_true)]
  exact kit_cls h1 h2 h3
theorem kit_self {D : Addr} : PySem.W.kitOne K (.ref D) (.ref D) = some true := by
  unfold PySem.W.kitOne
  rw [if_pos (by simp)]
theorem kit_ty {D : Addr} {n : String} {b : Bool} (h1 : PySem.W.kitMeta n = true) (h3 : PySem.W.subIn K (.ref D) (.type n) = some b) : PySem.W.kitOne K (.ref D) (.type n) = some b := by
  unfold PySem.W.kitOne
  have ne : (Value.ref D == Value.type n) = false := rfl
  rw [if_neg (by rw [ne]; exact Bool.false_ne_true)]
  show (if PySem.W.kitMeta n = true then PySem.W.subIn K (.ref D) (.type n) else none) = some b
  rw [if_pos h1]
  exact h3
theorem kit_tt {m n : String} {b : Bool} (ne : (Value.type m == Value.type n) = false) (h1 : PySem.W.kitMeta n = true) (h3 : (fastBuiltinMro m).map (·.contains (.type n)) = some b) : PySem.W.kitOne K (.type m) (.type n) = some b := by
  unfold PySem.W.kitOne
  rw [if_neg (by rw [ne]; exact Bool.false_ne_true)]
  show (if PySem.W.kitMeta n = true then PySem.W.subIn K (.type m) (.type n) else none) = some b
  rw [if_pos h1]
  exact h3
theorem kit_tyself {n : String} : PySem.W.kitOne K (.type n) (.type n) = some true := by
  unfold PySem.W.kitOne
  rw [if_pos (by simp)]
theorem kit_nt {C : Addr} {n : String} {b : Bool} (h1 : PySem.W.isClsIn K C = true) (h2 : PySem.W.typeIn K (.ref C) = some (.type "type")) (h3 : PySem.W.subIn K (.type n) (.ref C) = some b) : PySem.W.kitOne K (.type n) (.ref C) = some b := by
  unfold PySem.W.kitOne
  have ne : (Value.type n == Value.ref C) = false := rfl
  rw [if_neg (by rw [ne]; exact Bool.false_ne_true)]
  exact kit_cls h1 h2 h3
theorem exm_own {D C : Addr} (h0 : PySem.W.subIn K (.ref C) (.type "BaseException") = some true) (h1 : PySem.W.isClsIn K C = true) (h2 : PySem.W.typeIn K (.ref C) = some (.type "type")) (h3 : PySem.W.subIn K (.ref D) (.ref C) = some true) : PySem.W.exmOne K (.ref D) (.ref C) = some true := by
  unfold PySem.W.exmOne
  rw [if_pos (by rw [h0]; rfl)]
  exact kit_cls h1 h2 h3
end
theorem all_fns {P : Program} {w : World} {K : PySem.W.Frag} {h : Heap} {mg : Str → Option Value} {fa : Addr} (X : K.In h) (G : h.Ns mainGlobals mg) (hfa : mg "law" = some (.ref fa))
    {CB CE C_NoHolder C_NoHouse C_NoLoss C_NoName C_NoShare C_NoText C_OwnError C_TooMany C_Twice C_Whole : Addr} {f0 f1 f2 f3 f4 f5 f6 f7 f8 f9 f10 f11 f12 f13 f14 f15 f16 f17 f18 f19 f20 f21 f22 f23 f24 f25 f26 f27 f28 f29 f30 f31 f32 f33 f34 f35 f36 f37 f38 f39 f40 f41 f42 f43 f44 f45 f46 f47 : Addr}
    {od0 an0 od1 an1 od2 an2 od3 an3 od4 an4 od5 an5 od6 an6 od7 an7 od8 an8 od9 an9 od10 an10 od11 an11 od12 an12 od13 an13 od14 an14 od15 an15 od16 an16 od17 an17 od18 an18 od19 an19 od20 an20 od21 an21 od22 an22 od23 an23 od24 an24 od25 an25 od26 an26 od27 an27 od28 an28 od29 an29 od30 an30 od31 an31 od32 an32 od33 an33 od34 an34 od35 an35 od36 an36 od37 an37 od38 an38 od39 an39 od40 an40 od41 an41 od42 an42 od43 an43 od44 an44 od45 an45 od46 an46 od47 an47 : Option Addr} {sl0 sl1 sl2 sl3 sl4 sl5 sl6 sl7 sl8 sl9 sl10 sl11 sl12 sl13 sl14 sl15 sl16 sl17 sl18 sl19 sl20 sl21 sl22 sl23 sl24 sl25 sl26 sl27 sl28 sl29 sl30 sl31 sl32 sl33 sl34 sl35 sl36 sl37 sl38 sl39 sl40 sl41 sl42 sl43 sl44 sl45 sl46 sl47 : Array (Option Value)} {oc0 kV0 dc0 pm0 cd0 ct0 oc1 kV1 dc1 pm1 cd1 ct1 oc2 kV2 dc2 pm2 cd2 ct2 oc3 kV3 dc3 pm3 cd3 ct3 oc4 kV4 dc4 pm4 cd4 ct4 oc5 kV5 dc5 pm5 cd5 ct5 oc6 kV6 dc6 pm6 cd6 ct6 oc7 kV7 dc7 pm7 cd7 ct7 oc8 kV8 dc8 pm8 cd8 ct8 oc9 kV9 dc9 pm9 cd9 ct9 oc10 kV10 dc10 pm10 cd10 ct10 oc11 kV11 dc11 pm11 cd11 ct11 oc12 kV12 dc12 pm12 cd12 ct12 oc13 kV13 dc13 pm13 cd13 ct13 oc14 kV14 dc14 pm14 cd14 ct14 oc15 kV15 dc15 pm15 cd15 ct15 oc16 kV16 dc16 pm16 cd16 ct16 oc17 kV17 dc17 pm17 cd17 ct17 oc18 kV18 dc18 pm18 cd18 ct18 oc19 kV19 dc19 pm19 cd19 ct19 oc20 kV20 dc20 pm20 cd20 ct20 oc21 kV21 dc21 pm21 cd21 ct21 oc22 kV22 dc22 pm22 cd22 ct22 oc23 kV23 dc23 pm23 cd23 ct23 oc24 kV24 dc24 pm24 cd24 ct24 oc25 kV25 dc25 pm25 cd25 ct25 oc26 kV26 dc26 pm26 cd26 ct26 oc27 kV27 dc27 pm27 cd27 ct27 oc28 kV28 dc28 pm28 cd28 ct28 oc29 kV29 dc29 pm29 cd29 ct29 oc30 kV30 dc30 pm30 cd30 ct30 oc31 kV31 dc31 pm31 cd31 ct31 oc32 kV32 dc32 pm32 cd32 ct32 oc33 kV33 dc33 pm33 cd33 ct33 oc34 kV34 dc34 pm34 cd34 ct34 oc35 kV35 dc35 pm35 cd35 ct35 oc36 kV36 dc36 pm36 cd36 ct36 oc37 kV37 dc37 pm37 cd37 ct37 oc38 kV38 dc38 pm38 cd38 ct38 oc39 kV39 dc39 pm39 cd39 ct39 oc40 kV40 dc40 pm40 cd40 ct40 oc41 kV41 dc41 pm41 cd41 ct41 oc42 kV42 dc42 pm42 cd42 ct42 oc43 kV43 dc43 pm43 cd43 ct43 oc44 kV44 dc44 pm44 cd44 ct44 oc45 kV45 dc45 pm45 cd45 ct45 oc46 kV46 dc46 pm46 cd46 ct46 oc47 kV47 dc47 pm47 cd47 ct47 : Value}
    {zL : Str} {tkL tkP tkH : Tok}
    {fnWhole : Addr} {ocnWhole : Value} {odnWhole : Option Addr} {slnWhole : Array (Option Value)} {annWhole : Option Addr} {kVnWhole dcnWhole pmnWhole cdnWhole ctnWhole : Value}
    {xnWhole xqWhole : Str} {xNWhole : Addr} {xbsWhole xbmWhole xsubWhole : List Value} {xsnWhole : List Str} {xabWhole : Bool} {xcolWhole : Option Bool} {xddWhole : Option Addr} {xk0Whole xk1Whole xk2Whole xk3Whole xk5Whole : Option Value}
    (aCB : PySem.W.nsIn K mainGlobals "Book" = some (some (.ref CB)))
    (aCE : PySem.W.nsIn K mainGlobals "Entry" = some (some (.ref CE)))
    (aC_NoHolder : PySem.W.nsIn K mainGlobals "NoHolder" = some (some (.ref C_NoHolder)))
    (aC_NoHouse : PySem.W.nsIn K mainGlobals "NoHouse" = some (some (.ref C_NoHouse)))
    (aC_NoLoss : PySem.W.nsIn K mainGlobals "NoLoss" = some (some (.ref C_NoLoss)))
    (aC_NoName : PySem.W.nsIn K mainGlobals "NoName" = some (some (.ref C_NoName)))
    (aC_NoShare : PySem.W.nsIn K mainGlobals "NoShare" = some (some (.ref C_NoShare)))
    (aC_NoText : PySem.W.nsIn K mainGlobals "NoText" = some (some (.ref C_NoText)))
    (aC_OwnError : PySem.W.nsIn K mainGlobals "OwnError" = some (some (.ref C_OwnError)))
    (aC_TooMany : PySem.W.nsIn K mainGlobals "TooMany" = some (some (.ref C_TooMany)))
    (aC_Twice : PySem.W.nsIn K mainGlobals "Twice" = some (some (.ref C_Twice)))
    (aC_Whole : PySem.W.nsIn K mainGlobals "Whole" = some (some (.ref C_Whole)))
    (a0 : PySem.W.nsIn K mainGlobals "divisor" = some (some (.ref f0)))
    (l0 : K.lookup f0 = some ⟨oc0, od0, .func (PySem.W.fnOf "divisor" "divisor" (defArgs s_divisor) (defBody s_divisor) (defScope s_divisor) .none kV0 dc0 pm0 an0 cd0 ct0), sl0⟩)
    (c0 : PySem.W.codeIn K cd0 "divisor" = true)
    (k0 : PySem.W.keepIn K (.ref f0) = true)
    (a1 : PySem.W.nsIn K mainGlobals "is_less" = some (some (.ref f1)))
    (l1 : K.lookup f1 = some ⟨oc1, od1, .func (PySem.W.fnOf "is_less" "is_less" (defArgs s_is_less) (defBody s_is_less) (defScope s_is_less) .none kV1 dc1 pm1 an1 cd1 ct1), sl1⟩)
    (c1 : PySem.W.codeIn K cd1 "is_less" = true)
    (k1 : PySem.W.keepIn K (.ref f1) = true)
    (a2 : PySem.W.nsIn K mainGlobals "is_name" = some (some (.ref f2)))
    (l2 : K.lookup f2 = some ⟨oc2, od2, .func (PySem.W.fnOf "is_name" "is_name" (defArgs s_is_name) (defBody s_is_name) (defScope s_is_name) .none kV2 dc2 pm2 an2 cd2 ct2), sl2⟩)
    (c2 : PySem.W.codeIn K cd2 "is_name" = true)
    (k2 : PySem.W.keepIn K (.ref f2) = true)
    (a3 : PySem.W.nsIn K mainGlobals "must_loss" = some (some (.ref f3)))
    (l3 : K.lookup f3 = some ⟨oc3, od3, .func (PySem.W.fnOf "must_loss" "must_loss" (defArgs s_must_loss) (defBody s_must_loss) (defScope s_must_loss) .none kV3 dc3 pm3 an3 cd3 ct3), sl3⟩)
    (c3 : PySem.W.codeIn K cd3 "must_loss" = true)
    (k3 : PySem.W.keepIn K (.ref f3) = true)
    (a4 : PySem.W.findIn K (.ref CE) "__init__" = some (some (.ref f4)))
    (i4 : PySem.W.isFn K (.ref f4) = true)
    (l4 : K.lookup f4 = some ⟨oc4, od4, .func (PySem.W.fnOf "__init__" "Entry.__init__" (defArgs s_Entry_init) (defBody s_Entry_init) (defScope s_Entry_init) .none kV4 dc4 pm4 an4 cd4 ct4), sl4⟩)
    (c4 : PySem.W.codeIn K cd4 "Entry.__init__" = true)
    (k4 : PySem.W.keepIn K (.ref f4) = true)
    (a5 : PySem.W.findIn K (.ref CB) "__init__" = some (some (.ref f5)))
    (i5 : PySem.W.isFn K (.ref f5) = true)
    (l5 : K.lookup f5 = some ⟨oc5, od5, .func (PySem.W.fnOf "__init__" "Book.__init__" (defArgs s_Book_init) (defBody s_Book_init) (defScope s_Book_init) .none kV5 dc5 pm5 an5 cd5 ct5), sl5⟩)
    (c5 : PySem.W.codeIn K cd5 "Book.__init__" = true)
    (k5 : PySem.W.keepIn K (.ref f5) = true)
    (a6 : PySem.W.findIn K (.ref CB) "must_hold" = some (some (.ref f6)))
    (i6 : PySem.W.isFn K (.ref f6) = true)
    (l6 : K.lookup f6 = some ⟨oc6, od6, .func (PySem.W.fnOf "must_hold" "Book.must_hold" (defArgs s_Book_must_hold) (defBody s_Book_must_hold) (defScope s_Book_must_hold) .none kV6 dc6 pm6 an6 cd6 ct6), sl6⟩)
    (c6 : PySem.W.codeIn K cd6 "Book.must_hold" = true)
    (k6 : PySem.W.keepIn K (.ref f6) = true)
    (a7 : PySem.W.findIn K (.ref CB) "entry_of" = some (some (.ref f7)))
    (i7 : PySem.W.isFn K (.ref f7) = true)
    (l7 : K.lookup f7 = some ⟨oc7, od7, .func (PySem.W.fnOf "entry_of" "Book.entry_of" (defArgs s_Book_entry_of) (defBody s_Book_entry_of) (defScope s_Book_entry_of) .none kV7 dc7 pm7 an7 cd7 ct7), sl7⟩)
    (c7 : PySem.W.codeIn K cd7 "Book.entry_of" = true)
    (k7 : PySem.W.keepIn K (.ref f7) = true)
    (a8 : PySem.W.nsIn K mainGlobals "_law_mixed" = some (some (.ref f8)))
    (l8 : K.lookup f8 = some ⟨oc8, od8, .func (PySem.W.fnOf "_law_mixed" "_law_mixed" (defArgs s_l_mixed) (defBody s_l_mixed) (defScope s_l_mixed) .none kV8 dc8 pm8 an8 cd8 ct8), sl8⟩)
    (c8 : PySem.W.codeIn K cd8 "_law_mixed" = true)
    (k8 : PySem.W.keepIn K (.ref f8) = true)
    (a9 : PySem.W.nsIn K mainGlobals "_law_draw" = some (some (.ref f9)))
    (l9 : K.lookup f9 = some ⟨oc9, od9, .func (PySem.W.fnOf "_law_draw" "_law_draw" (defArgs s_l_draw) (defBody s_l_draw) (defScope s_l_draw) .none kV9 dc9 pm9 an9 cd9 ct9), sl9⟩)
    (c9 : PySem.W.codeIn K cd9 "_law_draw" = true)
    (k9 : PySem.W.keepIn K (.ref f9) = true)
    (a10 : PySem.W.nsIn K mainGlobals "_law_divisor" = some (some (.ref f10)))
    (l10 : K.lookup f10 = some ⟨oc10, od10, .func (PySem.W.fnOf "_law_divisor" "_law_divisor" (defArgs s_l_divisor) (defBody s_l_divisor) (defScope s_l_divisor) .none kV10 dc10 pm10 an10 cd10 ct10), sl10⟩)
    (c10 : PySem.W.codeIn K cd10 "_law_divisor" = true)
    (k10 : PySem.W.keepIn K (.ref f10) = true)
    (a11 : PySem.W.findIn K (.ref CB) "houses" = some (some (.ref f11)))
    (i11 : PySem.W.isFn K (.ref f11) = true)
    (l11 : K.lookup f11 = some ⟨oc11, od11, .func (PySem.W.fnOf "houses" "Book.houses" (defArgs s_Book_houses) (defBody s_Book_houses) (defScope s_Book_houses) .none kV11 dc11 pm11 an11 cd11 ct11), sl11⟩)
    (c11 : PySem.W.codeIn K cd11 "Book.houses" = true)
    (k11 : PySem.W.keepIn K (.ref f11) = true)
    (a12 : PySem.W.findIn K (.ref CB) "persons" = some (some (.ref f12)))
    (i12 : PySem.W.isFn K (.ref f12) = true)
    (l12 : K.lookup f12 = some ⟨oc12, od12, .func (PySem.W.fnOf "persons" "Book.persons" (defArgs s_Book_persons) (defBody s_Book_persons) (defScope s_Book_persons) .none kV12 dc12 pm12 an12 cd12 ct12), sl12⟩)
    (c12 : PySem.W.codeIn K cd12 "Book.persons" = true)
    (k12 : PySem.W.keepIn K (.ref f12) = true)
    (a13 : PySem.W.nsIn K mainGlobals "_law_group" = some (some (.ref f13)))
    (l13 : K.lookup f13 = some ⟨oc13, od13, .func (PySem.W.fnOf "_law_group" "_law_group" (defArgs s_l_group) (defBody s_l_group) (defScope s_l_group) .none kV13 dc13 pm13 an13 cd13 ct13), sl13⟩)
    (c13 : PySem.W.codeIn K cd13 "_law_group" = true)
    (k13 : PySem.W.keepIn K (.ref f13) = true)
    (a14 : PySem.W.nsIn K mainGlobals "_law_whole" = some (some (.ref f14)))
    (l14 : K.lookup f14 = some ⟨oc14, od14, .func (PySem.W.fnOf "_law_whole" "_law_whole" (defArgs s_l_whole) (defBody s_l_whole) (defScope s_l_whole) .none kV14 dc14 pm14 an14 cd14 ct14), sl14⟩)
    (c14 : PySem.W.codeIn K cd14 "_law_whole" = true)
    (k14 : PySem.W.keepIn K (.ref f14) = true)
    (a15 : PySem.W.nsIn K mainGlobals "_law_due" = some (some (.ref f15)))
    (l15 : K.lookup f15 = some ⟨oc15, od15, .func (PySem.W.fnOf "_law_due" "_law_due" (defArgs s_l_due) (defBody s_l_due) (defScope s_l_due) .none kV15 dc15 pm15 an15 cd15 ct15), sl15⟩)
    (c15 : PySem.W.codeIn K cd15 "_law_due" = true)
    (k15 : PySem.W.keepIn K (.ref f15) = true)
    (a16 : PySem.W.nsIn K mainGlobals "made" = some (some (.ref f16)))
    (l16 : K.lookup f16 = some ⟨oc16, od16, .func (PySem.W.fnOf "made" "made" (defArgs s_made) (defBody s_made) (defScope s_made) .none kV16 dc16 pm16 an16 cd16 ct16), sl16⟩)
    (c16 : PySem.W.codeIn K cd16 "made" = true)
    (k16 : PySem.W.keepIn K (.ref f16) = true)
    (a17 : PySem.W.findIn K (.ref CB) "must_be_new" = some (some (.ref f17)))
    (i17 : PySem.W.isFn K (.ref f17) = true)
    (l17 : K.lookup f17 = some ⟨oc17, od17, .func (PySem.W.fnOf "must_be_new" "Book.must_be_new" (defArgs s_Book_must_be_new) (defBody s_Book_must_be_new) (defScope s_Book_must_be_new) .none kV17 dc17 pm17 an17 cd17 ct17), sl17⟩)
    (c17 : PySem.W.codeIn K cd17 "Book.must_be_new" = true)
    (k17 : PySem.W.keepIn K (.ref f17) = true)
    (a18 : PySem.W.nsIn K mainGlobals "_law_purse" = some (some (.ref f18)))
    (l18 : K.lookup f18 = some ⟨oc18, od18, .func (PySem.W.fnOf "_law_purse" "_law_purse" (defArgs s_l_purse) (defBody s_l_purse) (defScope s_l_purse) .none kV18 dc18 pm18 an18 cd18 ct18), sl18⟩)
    (c18 : PySem.W.codeIn K cd18 "_law_purse" = true)
    (k18 : PySem.W.keepIn K (.ref f18) = true)
    (a19 : PySem.W.nsIn K mainGlobals "_law_made" = some (some (.ref f19)))
    (l19 : K.lookup f19 = some ⟨oc19, od19, .func (PySem.W.fnOf "_law_made" "_law_made" (defArgs s_l_made) (defBody s_l_made) (defScope s_l_made) .none kV19 dc19 pm19 an19 cd19 ct19), sl19⟩)
    (c19 : PySem.W.codeIn K cd19 "_law_made" = true)
    (k19 : PySem.W.keepIn K (.ref f19) = true)
    (a20 : PySem.W.nsIn K mainGlobals "_law_names" = some (some (.ref f20)))
    (l20 : K.lookup f20 = some ⟨oc20, od20, .func (PySem.W.fnOf "_law_names" "_law_names" (defArgs s_l_names) (defBody s_l_names) (defScope s_l_names) .none kV20 dc20 pm20 an20 cd20 ct20), sl20⟩)
    (c20 : PySem.W.codeIn K cd20 "_law_names" = true)
    (k20 : PySem.W.keepIn K (.ref f20) = true)
    (a21 : PySem.W.nsIn K mainGlobals "_law_number" = some (some (.ref f21)))
    (l21 : K.lookup f21 = some ⟨oc21, od21, .func (PySem.W.fnOf "_law_number" "_law_number" (defArgs s_l_number) (defBody s_l_number) (defScope s_l_number) .none kV21 dc21 pm21 an21 cd21 ct21), sl21⟩)
    (c21 : PySem.W.codeIn K cd21 "_law_number" = true)
    (k21 : PySem.W.keepIn K (.ref f21) = true)
    (a22 : PySem.W.findIn K (.ref CB) "shares" = some (some (.ref f22)))
    (i22 : PySem.W.isFn K (.ref f22) = true)
    (l22 : K.lookup f22 = some ⟨oc22, od22, .func (PySem.W.fnOf "shares" "Book.shares" (defArgs s_Book_shares) (defBody s_Book_shares) (defScope s_Book_shares) .none kV22 dc22 pm22 an22 cd22 ct22), sl22⟩)
    (c22 : PySem.W.codeIn K cd22 "Book.shares" = true)
    (k22 : PySem.W.keepIn K (.ref f22) = true)
    (a23 : PySem.W.nsIn K mainGlobals "_law_is_fraction" = some (some (.ref f23)))
    (l23 : K.lookup f23 = some ⟨oc23, od23, .func (PySem.W.fnOf "_law_is_fraction" "_law_is_fraction" (defArgs s_l_is_fraction) (defBody s_l_is_fraction) (defScope s_l_is_fraction) .none kV23 dc23 pm23 an23 cd23 ct23), sl23⟩)
    (c23 : PySem.W.codeIn K cd23 "_law_is_fraction" = true)
    (k23 : PySem.W.keepIn K (.ref f23) = true)
    (a24 : PySem.W.nsIn K mainGlobals "added" = some (some (.ref f24)))
    (l24 : K.lookup f24 = some ⟨oc24, od24, .func (PySem.W.fnOf "added" "added" (defArgs s_added) (defBody s_added) (defScope s_added) .none kV24 dc24 pm24 an24 cd24 ct24), sl24⟩)
    (c24 : PySem.W.codeIn K cd24 "added" = true)
    (k24 : PySem.W.keepIn K (.ref f24) = true)
    (a25 : PySem.W.nsIn K mainGlobals "minus" = some (some (.ref f25)))
    (l25 : K.lookup f25 = some ⟨oc25, od25, .func (PySem.W.fnOf "minus" "minus" (defArgs s_minus) (defBody s_minus) (defScope s_minus) .none kV25 dc25 pm25 an25 cd25 ct25), sl25⟩)
    (c25 : PySem.W.codeIn K cd25 "minus" = true)
    (k25 : PySem.W.keepIn K (.ref f25) = true)
    (a26 : PySem.W.findIn K (.ref CB) "person" = some (some (.ref f26)))
    (i26 : PySem.W.isFn K (.ref f26) = true)
    (l26 : K.lookup f26 = some ⟨oc26, od26, .func (PySem.W.fnOf "person" "Book.person" (defArgs s_Book_person) (defBody s_Book_person) (defScope s_Book_person) .none kV26 dc26 pm26 an26 cd26 ct26), sl26⟩)
    (c26 : PySem.W.codeIn K cd26 "Book.person" = true)
    (k26 : PySem.W.keepIn K (.ref f26) = true)
    (a27 : PySem.W.findIn K (.ref CB) "house" = some (some (.ref f27)))
    (i27 : PySem.W.isFn K (.ref f27) = true)
    (l27 : K.lookup f27 = some ⟨oc27, od27, .func (PySem.W.fnOf "house" "Book.house" (defArgs s_Book_house) (defBody s_Book_house) (defScope s_Book_house) .none kV27 dc27 pm27 an27 cd27 ct27), sl27⟩)
    (c27 : PySem.W.codeIn K cd27 "Book.house" = true)
    (k27 : PySem.W.keepIn K (.ref f27) = true)
    (a28 : PySem.W.nsIn K mainGlobals "_law_part" = some (some (.ref f28)))
    (l28 : K.lookup f28 = some ⟨oc28, od28, .func (PySem.W.fnOf "_law_part" "_law_part" (defArgs s_l_part) (defBody s_l_part) (defScope s_l_part) .none kV28 dc28 pm28 an28 cd28 ct28), sl28⟩)
    (c28 : PySem.W.codeIn K cd28 "_law_part" = true)
    (k28 : PySem.W.keepIn K (.ref f28) = true)
    (a29 : PySem.W.nsIn K mainGlobals "multiplied" = some (some (.ref f29)))
    (l29 : K.lookup f29 = some ⟨oc29, od29, .func (PySem.W.fnOf "multiplied" "multiplied" (defArgs s_multiplied) (defBody s_multiplied) (defScope s_multiplied) .none kV29 dc29 pm29 an29 cd29 ct29), sl29⟩)
    (c29 : PySem.W.codeIn K cd29 "multiplied" = true)
    (k29 : PySem.W.keepIn K (.ref f29) = true)
    (a30 : PySem.W.nsIn K mainGlobals "share_of" = some (some (.ref f30)))
    (l30 : K.lookup f30 = some ⟨oc30, od30, .func (PySem.W.fnOf "share_of" "share_of" (defArgs s_share_of) (defBody s_share_of) (defScope s_share_of) .none kV30 dc30 pm30 an30 cd30 ct30), sl30⟩)
    (c30 : PySem.W.codeIn K cd30 "share_of" = true)
    (k30 : PySem.W.keepIn K (.ref f30) = true)
    (a31 : PySem.W.nsIn K mainGlobals "whole_group" = some (some (.ref f31)))
    (l31 : K.lookup f31 = some ⟨oc31, od31, .func (PySem.W.fnOf "whole_group" "whole_group" (defArgs s_whole_group) (defBody s_whole_group) (defScope s_whole_group) .none kV31 dc31 pm31 an31 cd31 ct31), sl31⟩)
    (c31 : PySem.W.codeIn K cd31 "whole_group" = true)
    (k31 : PySem.W.keepIn K (.ref f31) = true)
    (a32 : PySem.W.nsIn K mainGlobals "_law_sum" = some (some (.ref f32)))
    (l32 : K.lookup f32 = some ⟨oc32, od32, .func (PySem.W.fnOf "_law_sum" "_law_sum" (defArgs s_l_sum) (defBody s_l_sum) (defScope s_l_sum) .none kV32 dc32 pm32 an32 cd32 ct32), sl32⟩)
    (c32 : PySem.W.codeIn K cd32 "_law_sum" = true)
    (k32 : PySem.W.keepIn K (.ref f32) = true)
    (a33 : PySem.W.nsIn K mainGlobals "_law_times" = some (some (.ref f33)))
    (l33 : K.lookup f33 = some ⟨oc33, od33, .func (PySem.W.fnOf "_law_times" "_law_times" (defArgs s_l_times) (defBody s_l_times) (defScope s_l_times) .none kV33 dc33 pm33 an33 cd33 ct33), sl33⟩)
    (c33 : PySem.W.codeIn K cd33 "_law_times" = true)
    (k33 : PySem.W.keepIn K (.ref f33) = true)
    (a34 : PySem.W.findIn K (.ref CB) "sale" = some (some (.ref f34)))
    (i34 : PySem.W.isFn K (.ref f34) = true)
    (l34 : K.lookup f34 = some ⟨oc34, od34, .func (PySem.W.fnOf "sale" "Book.sale" (defArgs s_Book_sale) (defBody s_Book_sale) (defScope s_Book_sale) .none kV34 dc34 pm34 an34 cd34 ct34), sl34⟩)
    (c34 : PySem.W.codeIn K cd34 "Book.sale" = true)
    (k34 : PySem.W.keepIn K (.ref f34) = true)
    (a35 : PySem.W.nsIn K mainGlobals "total" = some (some (.ref f35)))
    (l35 : K.lookup f35 = some ⟨oc35, od35, .func (PySem.W.fnOf "total" "total" (defArgs s_total) (defBody s_total) (defScope s_total) .none kV35 dc35 pm35 an35 cd35 ct35), sl35⟩)
    (c35 : PySem.W.codeIn K cd35 "total" = true)
    (k35 : PySem.W.keepIn K (.ref f35) = true)
    (a36 : PySem.W.nsIn K mainGlobals "lessened" = some (some (.ref f36)))
    (l36 : K.lookup f36 = some ⟨oc36, od36, .func (PySem.W.fnOf "lessened" "lessened" (defArgs s_lessened) (defBody s_lessened) (defScope s_lessened) .none kV36 dc36 pm36 an36 cd36 ct36), sl36⟩)
    (c36 : PySem.W.codeIn K cd36 "lessened" = true)
    (k36 : PySem.W.keepIn K (.ref f36) = true)
    (a37 : PySem.W.nsIn K mainGlobals "must_part" = some (some (.ref f37)))
    (l37 : K.lookup f37 = some ⟨oc37, od37, .func (PySem.W.fnOf "must_part" "must_part" (defArgs s_must_part) (defBody s_must_part) (defScope s_must_part) .none kV37 dc37 pm37 an37 cd37 ct37), sl37⟩)
    (c37 : PySem.W.codeIn K cd37 "must_part" = true)
    (k37 : PySem.W.keepIn K (.ref f37) = true)
    (a38 : PySem.W.nsIn K mainGlobals "_law_held" = some (some (.ref f38)))
    (l38 : K.lookup f38 = some ⟨oc38, od38, .func (PySem.W.fnOf "_law_held" "_law_held" (defArgs s_l_held) (defBody s_l_held) (defScope s_l_held) .none kV38 dc38 pm38 an38 cd38 ct38), sl38⟩)
    (c38 : PySem.W.codeIn K cd38 "_law_held" = true)
    (k38 : PySem.W.keepIn K (.ref f38) = true)
    (a39 : PySem.W.nsIn K mainGlobals "_law_sold" = some (some (.ref f39)))
    (l39 : K.lookup f39 = some ⟨oc39, od39, .func (PySem.W.fnOf "_law_sold" "_law_sold" (defArgs s_l_sold) (defBody s_l_sold) (defScope s_l_sold) .none kV39 dc39 pm39 an39 cd39 ct39), sl39⟩)
    (c39 : PySem.W.codeIn K cd39 "_law_sold" = true)
    (k39 : PySem.W.keepIn K (.ref f39) = true)
    (a40 : PySem.W.nsIn K mainGlobals "solved" = some (some (.ref f40)))
    (l40 : K.lookup f40 = some ⟨oc40, od40, .func (PySem.W.fnOf "solved" "solved" (defArgs s_solved) (defBody s_solved) (defScope s_solved) .none kV40 dc40 pm40 an40 cd40 ct40), sl40⟩)
    (c40 : PySem.W.codeIn K cd40 "solved" = true)
    (k40 : PySem.W.keepIn K (.ref f40) = true)
    (a41 : PySem.W.nsIn K mainGlobals "part_of" = some (some (.ref f41)))
    (l41 : K.lookup f41 = some ⟨oc41, od41, .func (PySem.W.fnOf "part_of" "part_of" (defArgs s_part_of) (defBody s_part_of) (defScope s_part_of) .none kV41 dc41 pm41 an41 cd41 ct41), sl41⟩)
    (c41 : PySem.W.codeIn K cd41 "part_of" = true)
    (k41 : PySem.W.keepIn K (.ref f41) = true)
    (a42 : PySem.W.nsIn K mainGlobals "_law_built" = some (some (.ref f42)))
    (l42 : K.lookup f42 = some ⟨oc42, od42, .func (PySem.W.fnOf "_law_built" "_law_built" (defArgs s_l_built) (defBody s_l_built) (defScope s_l_built) .none kV42 dc42 pm42 an42 cd42 ct42), sl42⟩)
    (c42 : PySem.W.codeIn K cd42 "_law_built" = true)
    (k42 : PySem.W.keepIn K (.ref f42) = true)
    (a43 : PySem.W.nsIn K mainGlobals "worths_by" = some (some (.ref f43)))
    (l43 : K.lookup f43 = some ⟨oc43, od43, .func (PySem.W.fnOf "worths_by" "worths_by" (defArgs s_worths_by) (defBody s_worths_by) (defScope s_worths_by) .none kV43 dc43 pm43 an43 cd43 ct43), sl43⟩)
    (c43 : PySem.W.codeIn K cd43 "worths_by" = true)
    (k43 : PySem.W.keepIn K (.ref f43) = true)
    (a44 : PySem.W.nsIn K mainGlobals "through" = some (some (.ref f44)))
    (l44 : K.lookup f44 = some ⟨oc44, od44, .func (PySem.W.fnOf "through" "through" (defArgs s_through) (defBody s_through) (defScope s_through) .none kV44 dc44 pm44 an44 cd44 ct44), sl44⟩)
    (c44 : PySem.W.codeIn K cd44 "through" = true)
    (k44 : PySem.W.keepIn K (.ref f44) = true)
    (a45 : PySem.W.nsIn K mainGlobals "_law_caught" = some (some (.ref f45)))
    (l45 : K.lookup f45 = some ⟨oc45, od45, .func (PySem.W.fnOf "_law_caught" "_law_caught" (defArgs s_l_caught) (defBody s_l_caught) (defScope s_l_caught) .none kV45 dc45 pm45 an45 cd45 ct45), sl45⟩)
    (c45 : PySem.W.codeIn K cd45 "_law_caught" = true)
    (k45 : PySem.W.keepIn K (.ref f45) = true)
    (a46 : PySem.W.nsIn K mainGlobals "_law_from" = some (some (.ref f46)))
    (l46 : K.lookup f46 = some ⟨oc46, od46, .func (PySem.W.fnOf "_law_from" "_law_from" (defArgs s_l_from) (defBody s_l_from) (defScope s_l_from) .none kV46 dc46 pm46 an46 cd46 ct46), sl46⟩)
    (c46 : PySem.W.codeIn K cd46 "_law_from" = true)
    (k46 : PySem.W.keepIn K (.ref f46) = true)
    (a47 : PySem.W.nsIn K mainGlobals "law" = some (some (.ref f47)))
    (l47 : K.lookup f47 = some ⟨oc47, od47, .func (PySem.W.fnOf "law" "law" (defArgs s_law) (defBody s_law) (defScope s_law) .none kV47 dc47 pm47 an47 cd47 ct47), sl47⟩)
    (c47 : PySem.W.codeIn K cd47 "law" = true)
    (k47 : PySem.W.keepIn K (.ref f47) = true)
    (pgCB : PySem.W.plainGet K CB Str.empty = true)
    (hdCB : PySem.W.hasDictIn K CB = true)
    (poCB : PySem.W.plainOver K CB = true)
    (saCB : PySem.W.findIn K (.ref CB) "__setattr__" = some (some (.builtin "object.__setattr__")))
    (mkCB : PySem.W.makesIn K CB = true)
    (kpCB : PySem.W.keepIn K (.ref CB) = true)
    (pgCE : PySem.W.plainGet K CE Str.empty = true)
    (hdCE : PySem.W.hasDictIn K CE = true)
    (poCE : PySem.W.plainOver K CE = true)
    (saCE : PySem.W.findIn K (.ref CE) "__setattr__" = some (some (.builtin "object.__setattr__")))
    (mkCE : PySem.W.makesIn K CE = true)
    (kpCE : PySem.W.keepIn K (.ref CE) = true)
    (no_people : PySem.W.findIn K (.ref CB) "people" = some none)
    (no_entries : PySem.W.findIn K (.ref CB) "entries" = some none)
    (no_numbers : PySem.W.findIn K (.ref CE) "numbers" = some none)
    (no_held : PySem.W.findIn K (.ref CE) "held" = some none)
    (x_NoHouse : PySem.W.excIn K C_NoHouse [.type "ValueError", .type "Exception", .type "BaseException", .type "object"] "ValueError.__new__" = true)
    (xk_NoHouse : PySem.W.keepIn K (.ref C_NoHouse) = true)
    (xb_NoHouse : PySem.W.subIn K (.ref C_NoHouse) (.type "BaseException") = some true)
    (x_NoLoss : PySem.W.excIn K C_NoLoss [.type "ValueError", .type "Exception", .type "BaseException", .type "object"] "ValueError.__new__" = true)
    (xk_NoLoss : PySem.W.keepIn K (.ref C_NoLoss) = true)
    (xb_NoLoss : PySem.W.subIn K (.ref C_NoLoss) (.type "BaseException") = some true)
    (x_Twice : PySem.W.excIn K C_Twice [.type "ValueError", .type "Exception", .type "BaseException", .type "object"] "ValueError.__new__" = true)
    (xk_Twice : PySem.W.keepIn K (.ref C_Twice) = true)
    (xb_Twice : PySem.W.subIn K (.ref C_Twice) (.type "BaseException") = some true)
    (x_NoName : PySem.W.excIn K C_NoName [.type "ValueError", .type "Exception", .type "BaseException", .type "object"] "ValueError.__new__" = true)
    (xk_NoName : PySem.W.keepIn K (.ref C_NoName) = true)
    (xb_NoName : PySem.W.subIn K (.ref C_NoName) (.type "BaseException") = some true)
    (x_NoHolder : PySem.W.excIn K C_NoHolder [.type "ValueError", .type "Exception", .type "BaseException", .type "object"] "ValueError.__new__" = true)
    (xk_NoHolder : PySem.W.keepIn K (.ref C_NoHolder) = true)
    (xb_NoHolder : PySem.W.subIn K (.ref C_NoHolder) (.type "BaseException") = some true)
    (x_TooMany : PySem.W.excIn K C_TooMany [.type "ValueError", .type "Exception", .type "BaseException", .type "object"] "ValueError.__new__" = true)
    (xk_TooMany : PySem.W.keepIn K (.ref C_TooMany) = true)
    (xb_TooMany : PySem.W.subIn K (.ref C_TooMany) (.type "BaseException") = some true)
    (x_NoShare : PySem.W.excIn K C_NoShare [.type "ValueError", .type "Exception", .type "BaseException", .type "object"] "ValueError.__new__" = true)
    (xk_NoShare : PySem.W.keepIn K (.ref C_NoShare) = true)
    (xb_NoShare : PySem.W.subIn K (.ref C_NoShare) (.type "BaseException") = some true)
    (xk_Whole : PySem.W.keepIn K (.ref C_Whole) = true)
    (xb_Whole : PySem.W.subIn K (.ref C_Whole) (.type "BaseException") = some true)
    (xi_Whole : PySem.W.findIn K (.ref C_Whole) "__init__" = some (some (.ref fnWhole)))
    (xt_Whole : PySem.W.typeIn K (.ref fnWhole) = some (.type "function"))
    (xl_Whole : K.lookup fnWhole = some ⟨ocnWhole, odnWhole, .func (PySem.W.fnOf "__init__" "Whole.__init__" (defArgs s_Whole_init) (defBody s_Whole_init) (defScope s_Whole_init) .none kVnWhole dcnWhole pmnWhole annWhole cdnWhole ctnWhole), slnWhole⟩)
    (xc_Whole : PySem.W.codeIn K cdnWhole "Whole.__init__" = true)
    (xf_Whole : PySem.W.keepIn K (.ref fnWhole) = true)
    (xo_Whole : K.lookup C_Whole = some (excClassObj xnWhole xqWhole C_Whole xNWhole xbsWhole xbmWhole true xsnWhole xsubWhole xabWhole xcolWhole xddWhole xk0Whole xk1Whole xk2Whole xk3Whole xk5Whole "ValueError.__new__"))
    (xr_Whole : PySem.HandSPX.refsVE xbmWhole = true)
    (xs_Whole : PySem.W.findIn K (.ref C_Whole) "__setattr__" = some (some (.builtin "object.__setattr__")))
    (xn_Whole : PySem.W.findIn K (.ref C_Whole) "group" = some none)
    (xx_Whole : PySem.W.subIn K (.ref C_Whole) (.ref C_Whole) = some true)
    (og : PySem.W.specialIn K (.ref C_OwnError) "__getattribute__" = some (some (.builtin "type.__getattribute__")))
    (ord : PySem.W.readsIn K C_OwnError (.type "type") = true)
    (ofc : PySem.W.findCls K (.ref C_OwnError) (.type "type") "__init__" = some (.val (.builtin "ValueError.__init__")))
    (ty_NoHolder : PySem.W.typeIn K (.ref C_NoHolder) = some (.type "type"))
    (ty_NoHouse : PySem.W.typeIn K (.ref C_NoHouse) = some (.type "type"))
    (ty_NoLoss : PySem.W.typeIn K (.ref C_NoLoss) = some (.type "type"))
    (ty_NoName : PySem.W.typeIn K (.ref C_NoName) = some (.type "type"))
    (ty_NoShare : PySem.W.typeIn K (.ref C_NoShare) = some (.type "type"))
    (ty_NoText : PySem.W.typeIn K (.ref C_NoText) = some (.type "type"))
    (ty_OwnError : PySem.W.typeIn K (.ref C_OwnError) = some (.type "type"))
    (ty_TooMany : PySem.W.typeIn K (.ref C_TooMany) = some (.type "type"))
    (ty_Twice : PySem.W.typeIn K (.ref C_Twice) = some (.type "type"))
    (ty_Whole : PySem.W.typeIn K (.ref C_Whole) = some (.type "type"))
    (ic_NoHolder : PySem.W.isClsIn K C_NoHolder = true)
    (ic_NoHouse : PySem.W.isClsIn K C_NoHouse = true)
    (ic_NoLoss : PySem.W.isClsIn K C_NoLoss = true)
    (ic_NoName : PySem.W.isClsIn K C_NoName = true)
    (ic_NoShare : PySem.W.isClsIn K C_NoShare = true)
    (ic_NoText : PySem.W.isClsIn K C_NoText = true)
    (ic_OwnError : PySem.W.isClsIn K C_OwnError = true)
    (ic_TooMany : PySem.W.isClsIn K C_TooMany = true)
    (ic_Twice : PySem.W.isClsIn K C_Twice = true)
    (ic_Whole : PySem.W.isClsIn K C_Whole = true)
    (sb_Whole_NoHolder : PySem.W.subIn K (.ref C_Whole) (.ref C_NoHolder) = some false)
    (ne_Whole_NoHolder : (Value.ref C_Whole == Value.ref C_NoHolder) = false)
    (sb_Whole_NoHouse : PySem.W.subIn K (.ref C_Whole) (.ref C_NoHouse) = some false)
    (ne_Whole_NoHouse : (Value.ref C_Whole == Value.ref C_NoHouse) = false)
    (sb_Whole_NoLoss : PySem.W.subIn K (.ref C_Whole) (.ref C_NoLoss) = some false)
    (ne_Whole_NoLoss : (Value.ref C_Whole == Value.ref C_NoLoss) = false)
    (sb_Whole_NoName : PySem.W.subIn K (.ref C_Whole) (.ref C_NoName) = some false)
    (ne_Whole_NoName : (Value.ref C_Whole == Value.ref C_NoName) = false)
    (sb_Whole_NoShare : PySem.W.subIn K (.ref C_Whole) (.ref C_NoShare) = some false)
    (ne_Whole_NoShare : (Value.ref C_Whole == Value.ref C_NoShare) = false)
    (sb_Whole_NoText : PySem.W.subIn K (.ref C_Whole) (.ref C_NoText) = some false)
    (ne_Whole_NoText : (Value.ref C_Whole == Value.ref C_NoText) = false)
    (sb_Whole_OwnError : PySem.W.subIn K (.ref C_Whole) (.ref C_OwnError) = some true)
    (ne_Whole_OwnError : (Value.ref C_Whole == Value.ref C_OwnError) = false)
    (sb_Whole_TooMany : PySem.W.subIn K (.ref C_Whole) (.ref C_TooMany) = some false)
    (ne_Whole_TooMany : (Value.ref C_Whole == Value.ref C_TooMany) = false)
    (sb_Whole_Twice : PySem.W.subIn K (.ref C_Whole) (.ref C_Twice) = some false)
    (ne_Whole_Twice : (Value.ref C_Whole == Value.ref C_Twice) = false)
    (sv_Whole : PySem.W.subIn K (.ref C_Whole) (.type "ValueError") = some true)
    (eg_Whole : PySem.W.findIn K (.ref C_Whole) "__getattribute__" = some (some (.builtin "BaseException.__getattribute__")))
    (ek_Whole : PySem.W.findIn K (.ref C_Whole) "__getattr__" = some none)
    (ed_Whole : PySem.W.hasDictIn K C_Whole = true)
    (ea_Whole : PySem.W.findIn K (.ref C_Whole) "__class__" = some (some (.builtin "object.__class__")))
    (em_Whole : PySem.W.mroIn K C_Whole (.type "object") = some true)
    (sb_NoHolder_NoHouse : PySem.W.subIn K (.ref C_NoHolder) (.ref C_NoHouse) = some false)
    (ne_NoHolder_NoHouse : (Value.ref C_NoHolder == Value.ref C_NoHouse) = false)
    (sb_NoHolder_NoLoss : PySem.W.subIn K (.ref C_NoHolder) (.ref C_NoLoss) = some false)
    (ne_NoHolder_NoLoss : (Value.ref C_NoHolder == Value.ref C_NoLoss) = false)
    (sb_NoHolder_NoName : PySem.W.subIn K (.ref C_NoHolder) (.ref C_NoName) = some false)
    (ne_NoHolder_NoName : (Value.ref C_NoHolder == Value.ref C_NoName) = false)
    (sb_NoHolder_NoShare : PySem.W.subIn K (.ref C_NoHolder) (.ref C_NoShare) = some false)
    (ne_NoHolder_NoShare : (Value.ref C_NoHolder == Value.ref C_NoShare) = false)
    (sb_NoHolder_NoText : PySem.W.subIn K (.ref C_NoHolder) (.ref C_NoText) = some false)
    (ne_NoHolder_NoText : (Value.ref C_NoHolder == Value.ref C_NoText) = false)
    (sb_NoHolder_OwnError : PySem.W.subIn K (.ref C_NoHolder) (.ref C_OwnError) = some true)
    (ne_NoHolder_OwnError : (Value.ref C_NoHolder == Value.ref C_OwnError) = false)
    (sb_NoHolder_TooMany : PySem.W.subIn K (.ref C_NoHolder) (.ref C_TooMany) = some false)
    (ne_NoHolder_TooMany : (Value.ref C_NoHolder == Value.ref C_TooMany) = false)
    (sb_NoHolder_Twice : PySem.W.subIn K (.ref C_NoHolder) (.ref C_Twice) = some false)
    (ne_NoHolder_Twice : (Value.ref C_NoHolder == Value.ref C_Twice) = false)
    (sb_NoHolder_Whole : PySem.W.subIn K (.ref C_NoHolder) (.ref C_Whole) = some false)
    (ne_NoHolder_Whole : (Value.ref C_NoHolder == Value.ref C_Whole) = false)
    (sv_NoHolder : PySem.W.subIn K (.ref C_NoHolder) (.type "ValueError") = some true)
    (eg_NoHolder : PySem.W.findIn K (.ref C_NoHolder) "__getattribute__" = some (some (.builtin "BaseException.__getattribute__")))
    (ek_NoHolder : PySem.W.findIn K (.ref C_NoHolder) "__getattr__" = some none)
    (ed_NoHolder : PySem.W.hasDictIn K C_NoHolder = true)
    (ea_NoHolder : PySem.W.findIn K (.ref C_NoHolder) "__class__" = some (some (.builtin "object.__class__")))
    (em_NoHolder : PySem.W.mroIn K C_NoHolder (.type "object") = some true)
    (sb_NoHouse_NoHolder : PySem.W.subIn K (.ref C_NoHouse) (.ref C_NoHolder) = some false)
    (ne_NoHouse_NoHolder : (Value.ref C_NoHouse == Value.ref C_NoHolder) = false)
    (sb_NoHouse_NoLoss : PySem.W.subIn K (.ref C_NoHouse) (.ref C_NoLoss) = some false)
    (ne_NoHouse_NoLoss : (Value.ref C_NoHouse == Value.ref C_NoLoss) = false)
    (sb_NoHouse_NoName : PySem.W.subIn K (.ref C_NoHouse) (.ref C_NoName) = some false)
    (ne_NoHouse_NoName : (Value.ref C_NoHouse == Value.ref C_NoName) = false)
    (sb_NoHouse_NoShare : PySem.W.subIn K (.ref C_NoHouse) (.ref C_NoShare) = some false)
    (ne_NoHouse_NoShare : (Value.ref C_NoHouse == Value.ref C_NoShare) = false)
    (sb_NoHouse_NoText : PySem.W.subIn K (.ref C_NoHouse) (.ref C_NoText) = some false)
    (ne_NoHouse_NoText : (Value.ref C_NoHouse == Value.ref C_NoText) = false)
    (sb_NoHouse_OwnError : PySem.W.subIn K (.ref C_NoHouse) (.ref C_OwnError) = some true)
    (ne_NoHouse_OwnError : (Value.ref C_NoHouse == Value.ref C_OwnError) = false)
    (sb_NoHouse_TooMany : PySem.W.subIn K (.ref C_NoHouse) (.ref C_TooMany) = some false)
    (ne_NoHouse_TooMany : (Value.ref C_NoHouse == Value.ref C_TooMany) = false)
    (sb_NoHouse_Twice : PySem.W.subIn K (.ref C_NoHouse) (.ref C_Twice) = some false)
    (ne_NoHouse_Twice : (Value.ref C_NoHouse == Value.ref C_Twice) = false)
    (sb_NoHouse_Whole : PySem.W.subIn K (.ref C_NoHouse) (.ref C_Whole) = some false)
    (ne_NoHouse_Whole : (Value.ref C_NoHouse == Value.ref C_Whole) = false)
    (sv_NoHouse : PySem.W.subIn K (.ref C_NoHouse) (.type "ValueError") = some true)
    (eg_NoHouse : PySem.W.findIn K (.ref C_NoHouse) "__getattribute__" = some (some (.builtin "BaseException.__getattribute__")))
    (ek_NoHouse : PySem.W.findIn K (.ref C_NoHouse) "__getattr__" = some none)
    (ed_NoHouse : PySem.W.hasDictIn K C_NoHouse = true)
    (ea_NoHouse : PySem.W.findIn K (.ref C_NoHouse) "__class__" = some (some (.builtin "object.__class__")))
    (em_NoHouse : PySem.W.mroIn K C_NoHouse (.type "object") = some true)
    (en_ : PySem.W.specialIn K (.builtin "object.__class__") "__get__" = some (some (.builtin "getset_descriptor.__get__")))
    (et : PySem.W.takesIn K (.builtin "object.__class__") = some true)
    (xb_OwnError : PySem.W.subIn K (.ref C_OwnError) (.type "BaseException") = some true)
    (b_len : PySem.W.nsIn K mainGlobals "len" = some none)
    (b_abs : PySem.W.nsIn K mainGlobals "abs" = some none)
    (b_int : PySem.W.nsIn K mainGlobals "int" = some none)
    (b_str : PySem.W.nsIn K mainGlobals "str" = some none)
    (b_sorted : PySem.W.nsIn K mainGlobals "sorted" = some none)
    (b_list : PySem.W.nsIn K mainGlobals "list" = some none)
    (b_all : PySem.W.nsIn K mainGlobals "all" = some none)
    (b_any : PySem.W.nsIn K mainGlobals "any" = some none)
    (b_tuple : PySem.W.nsIn K mainGlobals "tuple" = some none)
    (b_max : PySem.W.nsIn K mainGlobals "max" = some none)
    (b_isinstance : PySem.W.nsIn K mainGlobals "isinstance" = some none)
    (b_range : PySem.W.nsIn K mainGlobals "range" = some none)
    (b_zip : PySem.W.nsIn K mainGlobals "zip" = some none)
    (b_enumerate : PySem.W.nsIn K mainGlobals "enumerate" = some none)
    (b_dict : PySem.W.nsIn K mainGlobals "dict" = some none)
    (b_bool : PySem.W.nsIn K mainGlobals "bool" = some none)
    (sn_NoLoss : PySem.W.subIn K (.type "NoneType") (.ref C_NoLoss) = some false)
    (sn_NoName : PySem.W.subIn K (.type "NoneType") (.ref C_NoName) = some false)
    (sn_NoShare : PySem.W.subIn K (.type "NoneType") (.ref C_NoShare) = some false)
    (sn_NoText : PySem.W.subIn K (.type "NoneType") (.ref C_NoText) = some false)
    (sn_TooMany : PySem.W.subIn K (.type "NoneType") (.ref C_TooMany) = some false)
    (sn_Twice : PySem.W.subIn K (.type "NoneType") (.ref C_Twice) = some false)
    (sn_Whole : PySem.W.subIn K (.type "NoneType") (.ref C_Whole) = some false)
    (sn_NoHolder : PySem.W.subIn K (.type "NoneType") (.ref C_NoHolder) = some false)
    (sn_NoHouse : PySem.W.subIn K (.type "NoneType") (.ref C_NoHouse) = some false)
    (gL : PySem.W.nsIn K mainGlobals "LETTERS" = some (some (.str zL tkL)))
    (gLe : zL = abc)
    (gP : PySem.W.nsIn K mainGlobals "MOST_PERSONS" = some (some (.int 6 tkP)))
    (gH : PySem.W.nsIn K mainGlobals "MOST_HOUSES" = some (some (.int 8 tkH))) :
    ∃ fd : FuncData, (∀ (s : Shared) (u : Value), BindsTo s fd ⟨[u], []⟩ [("_law_script", u)]) ∧ ∀ base : Heap, K.In base → base.Ns mainGlobals mg → FnOk P w K mg base CX0 9 fa fd ["_law_script"] (liftSp K spLaw) := by
  have e := hfa.symm.trans (PySem.W.mg_of X G a47)
  cases e
  subst gLe
  have clCB : Cls K CB := ⟨pgCB, hdCB, poCB, saCB⟩
  have clCE : Cls K CE := ⟨pgCE, hdCE, poCE, saCE⟩
  have hIs_Whole_NoHolder : PySem.W.kitOne K (.ref C_Whole) (.ref C_NoHolder) = some false := kit_own ne_Whole_NoHolder ic_NoHolder ty_NoHolder sb_Whole_NoHolder
  have hIs_Whole_NoHouse : PySem.W.kitOne K (.ref C_Whole) (.ref C_NoHouse) = some false := kit_own ne_Whole_NoHouse ic_NoHouse ty_NoHouse sb_Whole_NoHouse
  have hIs_Whole_NoLoss : PySem.W.kitOne K (.ref C_Whole) (.ref C_NoLoss) = some false := kit_own ne_Whole_NoLoss ic_NoLoss ty_NoLoss sb_Whole_NoLoss
  have hIs_Whole_NoName : PySem.W.kitOne K (.ref C_Whole) (.ref C_NoName) = some false := kit_own ne_Whole_NoName ic_NoName ty_NoName sb_Whole_NoName
  have hIs_Whole_NoShare : PySem.W.kitOne K (.ref C_Whole) (.ref C_NoShare) = some false := kit_own ne_Whole_NoShare ic_NoShare ty_NoShare sb_Whole_NoShare
  have hIs_Whole_NoText : PySem.W.kitOne K (.ref C_Whole) (.ref C_NoText) = some false := kit_own ne_Whole_NoText ic_NoText ty_NoText sb_Whole_NoText
  have hIs_Whole_OwnError : PySem.W.kitOne K (.ref C_Whole) (.ref C_OwnError) = some true := kit_own ne_Whole_OwnError ic_OwnError ty_OwnError sb_Whole_OwnError
  have hIs_Whole_TooMany : PySem.W.kitOne K (.ref C_Whole) (.ref C_TooMany) = some false := kit_own ne_Whole_TooMany ic_TooMany ty_TooMany sb_Whole_TooMany
  have hIs_Whole_Twice : PySem.W.kitOne K (.ref C_Whole) (.ref C_Twice) = some false := kit_own ne_Whole_Twice ic_Twice ty_Twice sb_Whole_Twice
  have hIs_Whole_Whole : PySem.W.kitOne K (.ref C_Whole) (.ref C_Whole) = some true := kit_self
  have hIs_Whole_ValueError : PySem.W.kitOne K (.ref C_Whole) (.type "ValueError") = some true := kit_ty (by decide +kernel) sv_Whole
  have hOwn_Whole : PySem.W.exmOne K (.ref C_Whole) (.ref C_OwnError) = some true := exm_own xb_OwnError ic_OwnError ty_OwnError sb_Whole_OwnError
  have hExc_Whole : ExcC K C_Whole := ⟨eg_Whole, ek_Whole, xb_Whole, ed_Whole, ea_Whole, en_, et, em_Whole⟩
  have hIs_NoHolder_NoHouse : PySem.W.kitOne K (.ref C_NoHolder) (.ref C_NoHouse) = some false := kit_own ne_NoHolder_NoHouse ic_NoHouse ty_NoHouse sb_NoHolder_NoHouse
  have hIs_NoHolder_NoLoss : PySem.W.kitOne K (.ref C_NoHolder) (.ref C_NoLoss) = some false := kit_own ne_NoHolder_NoLoss ic_NoLoss ty_NoLoss sb_NoHolder_NoLoss
  have hIs_NoHolder_NoName : PySem.W.kitOne K (.ref C_NoHolder) (.ref C_NoName) = some false := kit_own ne_NoHolder_NoName ic_NoName ty_NoName sb_NoHolder_NoName
  have hIs_NoHolder_NoShare : PySem.W.kitOne K (.ref C_NoHolder) (.ref C_NoShare) = some false := kit_own ne_NoHolder_NoShare ic_NoShare ty_NoShare sb_NoHolder_NoShare
  have hIs_NoHolder_NoText : PySem.W.kitOne K (.ref C_NoHolder) (.ref C_NoText) = some false := kit_own ne_NoHolder_NoText ic_NoText ty_NoText sb_NoHolder_NoText
  have hIs_NoHolder_OwnError : PySem.W.kitOne K (.ref C_NoHolder) (.ref C_OwnError) = some true := kit_own ne_NoHolder_OwnError ic_OwnError ty_OwnError sb_NoHolder_OwnError
  have hIs_NoHolder_TooMany : PySem.W.kitOne K (.ref C_NoHolder) (.ref C_TooMany) = some false := kit_own ne_NoHolder_TooMany ic_TooMany ty_TooMany sb_NoHolder_TooMany
  have hIs_NoHolder_Twice : PySem.W.kitOne K (.ref C_NoHolder) (.ref C_Twice) = some false := kit_own ne_NoHolder_Twice ic_Twice ty_Twice sb_NoHolder_Twice
  have hIs_NoHolder_Whole : PySem.W.kitOne K (.ref C_NoHolder) (.ref C_Whole) = some false := kit_own ne_NoHolder_Whole ic_Whole ty_Whole sb_NoHolder_Whole
  have hIs_NoHolder_NoHolder : PySem.W.kitOne K (.ref C_NoHolder) (.ref C_NoHolder) = some true := kit_self
  have hIs_NoHolder_ValueError : PySem.W.kitOne K (.ref C_NoHolder) (.type "ValueError") = some true := kit_ty (by decide +kernel) sv_NoHolder
  have hOwn_NoHolder : PySem.W.exmOne K (.ref C_NoHolder) (.ref C_OwnError) = some true := exm_own xb_OwnError ic_OwnError ty_OwnError sb_NoHolder_OwnError
  have hExc_NoHolder : ExcC K C_NoHolder := ⟨eg_NoHolder, ek_NoHolder, xb_NoHolder, ed_NoHolder, ea_NoHolder, en_, et, em_NoHolder⟩
  have hIs_NoHouse_NoHolder : PySem.W.kitOne K (.ref C_NoHouse) (.ref C_NoHolder) = some false := kit_own ne_NoHouse_NoHolder ic_NoHolder ty_NoHolder sb_NoHouse_NoHolder
  have hIs_NoHouse_NoLoss : PySem.W.kitOne K (.ref C_NoHouse) (.ref C_NoLoss) = some false := kit_own ne_NoHouse_NoLoss ic_NoLoss ty_NoLoss sb_NoHouse_NoLoss
  have hIs_NoHouse_NoName : PySem.W.kitOne K (.ref C_NoHouse) (.ref C_NoName) = some false := kit_own ne_NoHouse_NoName ic_NoName ty_NoName sb_NoHouse_NoName
  have hIs_NoHouse_NoShare : PySem.W.kitOne K (.ref C_NoHouse) (.ref C_NoShare) = some false := kit_own ne_NoHouse_NoShare ic_NoShare ty_NoShare sb_NoHouse_NoShare
  have hIs_NoHouse_NoText : PySem.W.kitOne K (.ref C_NoHouse) (.ref C_NoText) = some false := kit_own ne_NoHouse_NoText ic_NoText ty_NoText sb_NoHouse_NoText
  have hIs_NoHouse_OwnError : PySem.W.kitOne K (.ref C_NoHouse) (.ref C_OwnError) = some true := kit_own ne_NoHouse_OwnError ic_OwnError ty_OwnError sb_NoHouse_OwnError
  have hIs_NoHouse_TooMany : PySem.W.kitOne K (.ref C_NoHouse) (.ref C_TooMany) = some false := kit_own ne_NoHouse_TooMany ic_TooMany ty_TooMany sb_NoHouse_TooMany
  have hIs_NoHouse_Twice : PySem.W.kitOne K (.ref C_NoHouse) (.ref C_Twice) = some false := kit_own ne_NoHouse_Twice ic_Twice ty_Twice sb_NoHouse_Twice
  have hIs_NoHouse_Whole : PySem.W.kitOne K (.ref C_NoHouse) (.ref C_Whole) = some false := kit_own ne_NoHouse_Whole ic_Whole ty_Whole sb_NoHouse_Whole
  have hIs_NoHouse_NoHouse : PySem.W.kitOne K (.ref C_NoHouse) (.ref C_NoHouse) = some true := kit_self
  have hIs_NoHouse_ValueError : PySem.W.kitOne K (.ref C_NoHouse) (.type "ValueError") = some true := kit_ty (by decide +kernel) sv_NoHouse
  have hOwn_NoHouse : PySem.W.exmOne K (.ref C_NoHouse) (.ref C_OwnError) = some true := exm_own xb_OwnError ic_OwnError ty_OwnError sb_NoHouse_OwnError
  have hExc_NoHouse : ExcC K C_NoHouse := ⟨eg_NoHouse, ek_NoHouse, xb_NoHouse, ed_NoHouse, ea_NoHouse, en_, et, em_NoHouse⟩
  have hInt : PySem.W.kitOne K (.type "int") (.type "int") = some true := kit_tyself
  have hIntB : PySem.W.kitOne K (.type "int") (.type "bool") = some false := kit_tt (by decide +kernel) (by decide +kernel) (by decide +kernel)
  have hTup : PySem.W.kitOne K (.type "tuple") (.type "tuple") = some true := kit_tyself
  have hN_NoLoss : PySem.W.kitOne K (.type "NoneType") (.ref C_NoLoss) = some false := kit_nt ic_NoLoss ty_NoLoss sn_NoLoss
  have hN_NoName : PySem.W.kitOne K (.type "NoneType") (.ref C_NoName) = some false := kit_nt ic_NoName ty_NoName sn_NoName
  have hN_NoShare : PySem.W.kitOne K (.type "NoneType") (.ref C_NoShare) = some false := kit_nt ic_NoShare ty_NoShare sn_NoShare
  have hN_NoText : PySem.W.kitOne K (.type "NoneType") (.ref C_NoText) = some false := kit_nt ic_NoText ty_NoText sn_NoText
  have hN_TooMany : PySem.W.kitOne K (.type "NoneType") (.ref C_TooMany) = some false := kit_nt ic_TooMany ty_TooMany sn_TooMany
  have hN_Twice : PySem.W.kitOne K (.type "NoneType") (.ref C_Twice) = some false := kit_nt ic_Twice ty_Twice sn_Twice
  have hN_Whole : PySem.W.kitOne K (.type "NoneType") (.ref C_Whole) = some false := kit_nt ic_Whole ty_Whole sn_Whole
  have hN_NoHolder : PySem.W.kitOne K (.type "NoneType") (.ref C_NoHolder) = some false := kit_nt ic_NoHolder ty_NoHolder sn_NoHolder
  have hN_NoHouse : PySem.W.kitOne K (.type "NoneType") (.ref C_NoHouse) = some false := kit_nt ic_NoHouse ty_NoHouse sn_NoHouse
  have F0 := fun_mk (st := s_divisor) l0 c0 k0
  have B0 := F0.binds (ps := ["one", "other"]) fun _ _ _ _ _ _ us hl => match us, hl with | [_, _], _ => rfl
  have F1 := fun_mk (st := s_is_less) l1 c1 k1
  have B1 := F1.binds (ps := ["one", "other"]) fun _ _ _ _ _ _ us hl => match us, hl with | [_, _], _ => rfl
  have F2 := fun_mk (st := s_is_name) l2 c2 k2
  have B2 := F2.binds (ps := ["text"]) fun _ _ _ _ _ _ us hl => match us, hl with | [_], _ => rfl
  have F3 := fun_mk (st := s_must_loss) l3 c3 k3
  have B3 := F3.binds (ps := ["number"]) fun _ _ _ _ _ _ us hl => match us, hl with | [_], _ => rfl
  have F4 := fun_mk (st := s_Entry_init) l4 c4 k4
  have B4 := F4.binds (ps := ["self", "numbers", "held"]) fun _ _ _ _ _ _ us hl => match us, hl with | [_, _, _], _ => rfl
  have F5 := fun_mk (st := s_Book_init) l5 c5 k5
  have B5 := F5.binds (ps := ["self"]) fun _ _ _ _ _ _ us hl => match us, hl with | [_], _ => rfl
  have F6 := fun_mk (st := s_Book_must_hold) l6 c6 k6
  have B6 := F6.binds (ps := ["self", "name"]) fun _ _ _ _ _ _ us hl => match us, hl with | [_, _], _ => rfl
  have F7 := fun_mk (st := s_Book_entry_of) l7 c7 k7
  have B7 := F7.binds (ps := ["self", "house"]) fun _ _ _ _ _ _ us hl => match us, hl with | [_, _], _ => rfl
  have F8 := fun_mk (st := s_l_mixed) l8 c8 k8
  have B8 := F8.binds (ps := ["_law_cell", "_law_k"]) fun _ _ _ _ _ _ us hl => match us, hl with | [_, _], _ => rfl
  have F9 := fun_mk (st := s_l_draw) l9 c9 k9
  have B9 := F9.binds (ps := ["_law_purse_here", "_law_out_of"]) fun _ _ _ _ _ _ us hl => match us, hl with | [_, _], _ => rfl
  have F10 := fun_mk (st := s_l_divisor) l10 c10 k10
  have B10 := F10.binds (ps := ["_law_one", "_law_other"]) fun _ _ _ _ _ _ us hl => match us, hl with | [_, _], _ => rfl
  have F11 := fun_mk (st := s_Book_houses) l11 c11 k11
  have B11 := F11.binds (ps := ["self"]) fun _ _ _ _ _ _ us hl => match us, hl with | [_], _ => rfl
  have F12 := fun_mk (st := s_Book_persons) l12 c12 k12
  have B12 := F12.binds (ps := ["self"]) fun _ _ _ _ _ _ us hl => match us, hl with | [_], _ => rfl
  have F13 := fun_mk (st := s_l_group) l13 c13 k13
  have B13 := F13.binds (ps := ["_law_model"]) fun _ _ _ _ _ _ us hl => match us, hl with | [_], _ => rfl
  have F14 := fun_mk (st := s_l_whole) l14 c14 k14
  have B14 := F14.binds (ps := ["_law_found"]) fun _ _ _ _ _ _ us hl => match us, hl with | [_], _ => rfl
  have F15 := fun_mk (st := s_l_due) l15 c15 k15
  have B15 := F15.binds (ps := ["_law_persons", "_law_model", "_law_group_here", "_law_holder", "_law_house"]) fun _ _ _ _ _ _ us hl => match us, hl with | [_, _, _, _, _], _ => rfl
  have F16 := fun_mk (st := s_made) l16 c16 k16
  have B16 := F16.binds (ps := ["top", "bottom"]) fun _ _ _ _ _ _ us hl => match us, hl with | [_, _], _ => rfl
  have F17 := fun_mk (st := s_Book_must_be_new) l17 c17 k17
  have B17 := F17.binds (ps := ["self", "name"]) fun _ _ _ _ _ _ us hl => match us, hl with | [_, _], _ => rfl
  have F18 := fun_mk (st := s_l_purse) l18 c18 k18
  have B18 := F18.binds (ps := ["_law_script"]) fun _ _ _ _ _ _ us hl => match us, hl with | [_], _ => rfl
  have F19 := fun_mk (st := s_l_made) l19 c19 k19
  have B19 := F19.binds (ps := ["_law_top", "_law_bottom"]) fun _ _ _ _ _ _ us hl => match us, hl with | [_, _], _ => rfl
  have F20 := fun_mk (st := s_l_names) l20 c20 k20
  have B20 := F20.binds (ps := ["_law_purse_here", "_law_many"]) fun _ _ _ _ _ _ us hl => match us, hl with | [_, _], _ => rfl
  have F21 := fun_mk (st := s_l_number) l21 c21 k21
  have B21 := F21.binds (ps := ["_law_purse_here"]) fun _ _ _ _ _ _ us hl => match us, hl with | [_], _ => rfl
  have F22 := fun_mk (st := s_Book_shares) l22 c22 k22
  have B22 := F22.binds (ps := ["self", "house"]) fun _ _ _ _ _ _ us hl => match us, hl with | [_, _], _ => rfl
  have F23 := fun_mk (st := s_l_is_fraction) l23 c23 k23
  have B23 := F23.binds (ps := ["_law_found"]) fun _ _ _ _ _ _ us hl => match us, hl with | [_], _ => rfl
  have F24 := fun_mk (st := s_added) l24 c24 k24
  have B24 := F24.binds (ps := ["one", "other"]) fun _ _ _ _ _ _ us hl => match us, hl with | [_, _], _ => rfl
  have F25 := fun_mk (st := s_minus) l25 c25 k25
  have B25 := F25.binds (ps := ["one", "other"]) fun _ _ _ _ _ _ us hl => match us, hl with | [_, _], _ => rfl
  have F26 := fun_mk (st := s_Book_person) l26 c26 k26
  have B26 := F26.binds (ps := ["self", "name"]) fun _ _ _ _ _ _ us hl => match us, hl with | [_, _], _ => rfl
  have F27 := fun_mk (st := s_Book_house) l27 c27 k27
  have B27 := F27.binds (ps := ["self", "name", "owner", "things", "mark", "loss"]) fun _ _ _ _ _ _ us hl => match us, hl with | [_, _, _, _, _, _], _ => rfl
  have F28 := fun_mk (st := s_l_part) l28 c28 k28
  have B28 := F28.binds (ps := ["_law_purse_here", "_law_share"]) fun _ _ _ _ _ _ us hl => match us, hl with | [_, _], _ => rfl
  have F29 := fun_mk (st := s_multiplied) l29 c29 k29
  have B29 := F29.binds (ps := ["one", "other"]) fun _ _ _ _ _ _ us hl => match us, hl with | [_, _], _ => rfl
  have F30 := fun_mk (st := s_share_of) l30 c30 k30
  have B30 := F30.binds (ps := ["book", "house", "holder"]) fun _ _ _ _ _ _ us hl => match us, hl with | [_, _, _], _ => rfl
  have F31 := fun_mk (st := s_whole_group) l31 c31 k31
  have B31 := F31.binds (ps := ["book"]) fun _ _ _ _ _ _ us hl => match us, hl with | [_], _ => rfl
  have F32 := fun_mk (st := s_l_sum) l32 c32 k32
  have B32 := F32.binds (ps := ["_law_some"]) fun _ _ _ _ _ _ us hl => match us, hl with | [_], _ => rfl
  have F33 := fun_mk (st := s_l_times) l33 c33 k33
  have B33 := F33.binds (ps := ["_law_one", "_law_other"]) fun _ _ _ _ _ _ us hl => match us, hl with | [_, _], _ => rfl
  have F34 := fun_mk (st := s_Book_sale) l34 c34 k34
  have B34 := F34.binds (ps := ["self", "house", "one", "other", "share"]) fun _ _ _ _ _ _ us hl => match us, hl with | [_, _, _, _, _], _ => rfl
  have F35 := fun_mk (st := s_total) l35 c35 k35
  have B35 := F35.binds (ps := ["numbers"]) fun _ _ _ _ _ _ us hl => match us, hl with | [_], _ => rfl
  have F36 := fun_mk (st := s_lessened) l36 c36 k36
  have B36 := F36.binds (ps := ["row", "top", "by"]) fun _ _ _ _ _ _ us hl => match us, hl with | [_, _, _], _ => rfl
  have F37 := fun_mk (st := s_must_part) l37 c37 k37
  have B37 := F37.binds (ps := ["book"]) fun _ _ _ _ _ _ us hl => match us, hl with | [_], _ => rfl
  have F38 := fun_mk (st := s_l_held) l38 c38 k38
  have B38 := F38.binds (ps := ["_law_model", "_law_holder", "_law_by"]) fun _ _ _ _ _ _ us hl => match us, hl with | [_, _, _], _ => rfl
  have F39 := fun_mk (st := s_l_sold) l39 c39 k39
  have B39 := F39.binds (ps := ["_law_purse_here", "_law_model", "_law_holders", "_law_book"]) fun _ _ _ _ _ _ us hl => match us, hl with | [_, _, _, _], _ => rfl
  have F40 := fun_mk (st := s_solved) l40 c40 k40
  have B40 := F40.binds (ps := ["rows"]) fun _ _ _ _ _ _ us hl => match us, hl with | [_], _ => rfl
  have F41 := fun_mk (st := s_part_of) l41 c41 k41
  have B41 := F41.binds (ps := ["book", "person", "found"]) fun _ _ _ _ _ _ us hl => match us, hl with | [_, _, _], _ => rfl
  have F42 := fun_mk (st := s_l_built) l42 c42 k42
  have B42 := F42.binds (ps := ["_law_purse_here", "_law_most"]) fun _ _ _ _ _ _ us hl => match us, hl with | [_, _], _ => rfl
  have F43 := fun_mk (st := s_worths_by) l43 c43 k43
  have B43 := F43.binds (ps := ["book", "things"]) fun _ _ _ _ _ _ us hl => match us, hl with | [_, _], _ => rfl
  have F44 := fun_mk (st := s_through) l44 c44 k44
  have B44 := F44.binds (ps := ["book", "holder", "house"]) fun _ _ _ _ _ _ us hl => match us, hl with | [_, _, _], _ => rfl
  have F45 := fun_mk (st := s_l_caught) l45 c45 k45
  have B45 := F45.binds (ps := ["_law_book", "_law_holder", "_law_house"]) fun _ _ _ _ _ _ us hl => match us, hl with | [_, _, _], _ => rfl
  have F46 := fun_mk (st := s_l_from) l46 c46 k46
  have B46 := F46.binds (ps := ["_law_book", "_law_persons", "_law_model", "_law_house"]) fun _ _ _ _ _ _ us hl => match us, hl with | [_, _, _, _], _ => rfl
  have F47 := fun_mk (st := s_law) l47 c47 k47
  have B47 := F47.binds (ps := ["_law_script"]) fun _ _ _ _ _ _ us hl => match us, hl with | [_], _ => rfl
  refine ⟨PySem.W.fnOf "law" "law" (defArgs s_law) (defBody s_law) (defScope s_law) .none kV47 dc47 pm47 an47 cd47 ct47, fun s v => .of_eq rfl, fun base _ _ => ?_⟩
  have ga : ∀ k, AmbOk (Gm P w K mg base k) := fun k => ⟨fun x hx => by
    simp only [bltNames, List.mem_cons, List.not_mem_nil, or_false] at hx
    rcases hx with rfl | rfl | rfl | rfl | rfl | rfl | rfl | rfl | rfl | rfl | rfl | rfl | rfl | rfl | rfl
    · exact PySem.W.mg_none_of X G b_len
    · exact PySem.W.mg_none_of X G b_abs
    · exact PySem.W.mg_none_of X G b_int
    · exact PySem.W.mg_none_of X G b_str
    · exact PySem.W.mg_none_of X G b_sorted
    · exact PySem.W.mg_none_of X G b_list
    · exact PySem.W.mg_none_of X G b_all
    · exact PySem.W.mg_none_of X G b_any
    · exact PySem.W.mg_none_of X G b_tuple
    · exact PySem.W.mg_none_of X G b_max
    · exact PySem.W.mg_none_of X G b_isinstance
    · exact PySem.W.mg_none_of X G b_range
    · exact PySem.W.mg_none_of X G b_zip
    · exact PySem.W.mg_none_of X G b_enumerate
    · exact PySem.W.mg_none_of X G b_dict⟩
  have OWI : OwnI K mg "OwnError" := ⟨C_OwnError, PySem.W.mg_of X G aC_OwnError, og, ty_OwnError, ord, ofc⟩
  have OXC_Whole : OexC K C_Whole := ⟨⟨_, _, _, _, _, _, _, _, _, _, _, _, _, _, _, xo_Whole, xr_Whole⟩, xs_Whole, xb_Whole, ty_Whole, xk_Whole⟩
  have FX_Whole := fun_mk (st := s_Whole_init) xl_Whole xc_Whole xf_Whole
  have BX_Whole := FX_Whole.binds (ps := ["self", "group"]) fun _ _ _ _ _ _ us hl => match us, hl with | [_, _], _ => rfl
  have OX_Whole : FnOk P w K mg base CX0 1 fnWhole _ ["self", "group"] (initSp C_Whole "group") := init_ok (Γ := Gm P w K mg base 0) FX_Whole f_Whole_init b_Whole_init OXC_Whole xn_Whole OWI (by kernel_rfl) (by kernel_rfl) h_Whole_init.1 h_Whole_init.2.1 h_Whole_init.2.2
  have hXX_Whole : PySem.W.exmOne K (.ref C_Whole) (.ref C_Whole) = some true := exm_own xb_Whole ic_Whole ty_Whole xx_Whole
  have O0 : FnOk P w K mg base (L2.CX P w) 1 _ _ _ (liftSp K spDiv) := fun_ok (Γ := Gm P w K mg base 0) (ga 0) (sp := spDiv) F0 f_divisor (c_divisor ) (k_divisor ) (fun vs F Q E h => by obtain ⟨_, _, rfl, _⟩ := h; rfl) (w_divisor)
  have O1 : FnOk P w K mg base (L2.CX P w) 1 _ _ _ (liftSp K spLess) := fun_ok (Γ := Gm P w K mg base 0) (ga 0) (sp := spLess) F1 f_is_less (c_is_less ) (k_is_less ) (fun vs F Q E h => by obtain ⟨_, _, rfl, _⟩ := h; rfl) (w_is_less)
  have O2 : FnOk P w K mg base (L2.CX P w) 1 _ _ _ (liftSp K spIsName) := fun_ok (Γ := Gm P w K mg base 0) (ga 0) (sp := spIsName) F2 f_is_name (c_is_name (mkGlS 0 (PySem.W.mg_of X G gL))) (k_is_name _) (fun vs F Q E h => by obtain ⟨_, rfl, _⟩ := h; rfl) (w_is_name rfl)
  have O3 : FnOk P w K mg base (L2.CX P w) 1 _ _ _ (liftSp K spLoss) := fun_ok (Γ := Gm P w K mg base 0) (ga 0) (sp := spLoss) F3 f_must_loss (c_must_loss (mkRai 0 x_NoLoss (PySem.W.mg_of X G aC_NoLoss) xk_NoLoss xb_NoLoss ty_NoLoss)) (k_must_loss _) (fun vs F Q E h => by obtain ⟨_, rfl, _⟩ := h; rfl) (w_must_loss)
  have O4 : FnOk P w K mg base (L2.CX P w) 1 _ _ _ (liftSp K (spEInit CE)) := fun_ok (Γ := Gm P w K mg base 0) (ga 0) (sp := (spEInit CE)) F4 f_Entry_init (c_Entry_init (mkFld 0 clCE no_held) (mkFld 0 clCE no_numbers)) (k_Entry_init _ _) (fun vs F Q E h => by obtain ⟨_, _, _, rfl, _⟩ := h; rfl) (w_Entry_init rfl rfl)
  have O5 : FnOk P w K mg base (L2.CX P w) 1 _ _ _ (liftSp K (spBInit CB)) := fun_ok (Γ := Gm P w K mg base 0) (ga 0) (sp := (spBInit CB)) F5 f_Book_init (c_Book_init (mkFld 0 clCB no_entries) (mkFld 0 clCB no_people)) (k_Book_init _ _) (fun vs F Q E h => by obtain ⟨_, rfl, _⟩ := h; rfl) (w_Book_init rfl rfl)
  have O6 : FnOk P w K mg base (L2.CX P w) 1 _ _ _ (liftSp K (spMustHold CB)) := fun_ok (Γ := Gm P w K mg base 0) (ga 0) (sp := (spMustHold CB)) F6 f_Book_must_hold (c_Book_must_hold (mkFld 0 clCB no_people) (mkFld 0 clCB no_entries) (mkRai 0 x_NoHolder (PySem.W.mg_of X G aC_NoHolder) xk_NoHolder xb_NoHolder ty_NoHolder)) (k_Book_must_hold _ _ _) (fun vs F Q E h => by obtain ⟨_, _, _, _, _, _, rfl, _⟩ := h; rfl) (w_must_hold rfl rfl)
  have O7 : FnOk P w K mg base (L2.CX P w) 1 _ _ _ (liftSp K (spEntryOf CB C_NoHouse)) := fun_ok (Γ := Gm P w K mg base 0) (ga 0) (sp := (spEntryOf CB C_NoHouse)) F7 f_Book_entry_of (c_Book_entry_of (mkFld 0 clCB no_entries) (mkRai 0 x_NoHouse (PySem.W.mg_of X G aC_NoHouse) xk_NoHouse xb_NoHouse ty_NoHouse)) (k_Book_entry_of _ _) (fun vs F Q E h => by obtain ⟨_, _, _, _, _, _, rfl, _⟩ := h; rfl) (w_entry_of rfl rfl)
  have O8 : FnOk P w K mg base (L2.CX P w) 1 _ _ _ (liftSp K spMixed) := fun_ok (Γ := Gm P w K mg base 0) (ga 0) (sp := spMixed) F8 f_l_mixed (c_l_mixed ) (k_l_mixed ) (fun vs F Q E h => by obtain ⟨_, _, rfl, _⟩ := h; rfl) (w_l_mixed)
  have O9 : FnOk P w K mg base (L2.CX P w) 1 _ _ _ (liftSp K spDraw) := fun_ok (Γ := Gm P w K mg base 0) (ga 0) (sp := spDraw) F9 f_l_draw (c_l_draw ) (k_l_draw ) (fun vs F Q E h => by obtain ⟨_, _, rfl, _⟩ := h; rfl) (w_l_draw)
  have O10 : FnOk P w K mg base (L2.CX P w) 1 _ _ _ (liftSp K spDiv) := fun_ok (Γ := Gm P w K mg base 0) (ga 0) (sp := spDiv) F10 f_l_divisor (c_l_divisor ) (k_l_divisor ) (fun vs F Q E h => by obtain ⟨_, _, rfl, _⟩ := h; rfl) (w_l_divisor)
  have O11 : FnOk P w K mg base (L2.CX P w) 1 _ _ _ (liftSp K (spHouses CB)) := fun_ok (Γ := Gm P w K mg base 0) (ga 0) (sp := (spHouses CB)) F11 f_Book_houses (c_Book_houses (mkFld 0 clCB no_entries)) (k_Book_houses _) (fun vs F Q E h => by obtain ⟨_, _, _, _, _, rfl, _⟩ := h; rfl) (w_houses rfl)
  have O12 : FnOk P w K mg base (L2.CX P w) 1 _ _ _ (liftSp K (spPersons CB)) := fun_ok (Γ := Gm P w K mg base 0) (ga 0) (sp := (spPersons CB)) F12 f_Book_persons (c_Book_persons (mkFld 0 clCB no_people)) (k_Book_persons _) (fun vs F Q E h => by obtain ⟨_, _, _, _, _, rfl, _⟩ := h; rfl) (w_persons rfl)
  have O13 : FnOk P w K mg base (L2.CX P w) 1 _ _ _ (liftSp K spGroup) := fun_ok (Γ := Gm P w K mg base 0) (ga 0) (sp := spGroup) F13 f_l_group (c_l_group ) (k_l_group ) (fun vs F Q E h => by obtain ⟨_, _, _, rfl, _⟩ := h; rfl) (w_l_group)
  have O14 : FnOk P w K mg base (L2.CX P w) 1 _ _ _ (liftSp K spIsI) := fun_ok (Γ := Gm P w K mg base 0) (ga 0) (sp := spIsI) F14 f_l_whole (c_l_whole (mkIsT (n := "int") 0 (PySem.W.mg_none_of X G b_int) (by decide +kernel) (by decide)) (mkIsT (n := "bool") 0 (PySem.W.mg_none_of X G b_bool) (by decide +kernel) (by decide))) (k_l_whole _ _) (fun vs F Q E h => by obtain ⟨_, rfl, _⟩ := h; rfl) (w_l_whole hInt hIntB)
  have O15 : FnOk P w K mg base (L2.CX P w) 1 _ _ _ (liftSp K spDueL) := fun_ok (Γ := Gm P w K mg base 0) (ga 0) (sp := spDueL) F15 f_l_due (c_l_due ) (k_l_due ) (fun vs F Q E h => by obtain ⟨_, _, _, _, _, _, rfl, _⟩ := h; rfl) (w_l_due)
  have O16 : FnOk P w K mg base (L2.CX P w) 2 _ _ _ (liftSp K spMade) := fun_ok (Γ := Gm P w K mg base 1) (ga 1) (sp := spMade) F16 f_made (c_made (mkCall 1 (by decide) (PySem.W.mg_of X G a0) k0 B0 O0)) (k_made _) (fun vs F Q E h => by obtain ⟨_, _, rfl, _⟩ := h; rfl) (w_made rfl)
  have O17 : FnOk P w K mg base (L2.CX P w) 2 _ _ _ (liftSp K (spMustNew CB)) := fun_ok (Γ := Gm P w K mg base 1) (ga 1) (sp := (spMustNew CB)) F17 f_Book_must_be_new (c_Book_must_be_new (mkFld 1 clCB no_people) (mkFld 1 clCB no_entries) (mkRai 1 x_Twice (PySem.W.mg_of X G aC_Twice) xk_Twice xb_Twice ty_Twice) (mkCall 1 (by decide) (PySem.W.mg_of X G a2) k2 B2 O2) (mkRai 1 x_NoName (PySem.W.mg_of X G aC_NoName) xk_NoName xb_NoName ty_NoName)) (k_Book_must_be_new _ _ _ _ _) (fun vs F Q E h => by obtain ⟨_, _, _, _, _, _, rfl, _⟩ := h; rfl) (w_must_be_new rfl rfl rfl)
  have O18 : FnOk P w K mg base (L2.CX P w) 2 _ _ _ (liftSp K spPurse) := fun_ok (Γ := Gm P w K mg base 1) (ga 1) (sp := spPurse) F18 f_l_purse (c_l_purse (mkCall 1 (by decide) (PySem.W.mg_of X G a8) k8 B8 O8)) (k_l_purse _) (fun vs F Q E h => by obtain ⟨_, _, rfl, _⟩ := h; rfl) (w_l_purse rfl)
  have O19 : FnOk P w K mg base (L2.CX P w) 2 _ _ _ (liftSp K spMade) := fun_ok (Γ := Gm P w K mg base 1) (ga 1) (sp := spMade) F19 f_l_made (c_l_made (mkCall 1 (by decide) (PySem.W.mg_of X G a10) k10 B10 O10)) (k_l_made _) (fun vs F Q E h => by obtain ⟨_, _, rfl, _⟩ := h; rfl) (w_l_made rfl)
  have O20 : FnOk P w K mg base (L2.CX P w) 2 _ _ _ (liftSp K spNames) := fun_ok (Γ := Gm P w K mg base 1) (ga 1) (sp := spNames) F20 f_l_names (c_l_names (mkCall 1 (by decide) (PySem.W.mg_of X G a9) k9 B9 O9)) (k_l_names _) (fun vs F Q E h => by obtain ⟨_, _, rfl, _⟩ := h; rfl) (w_l_names rfl)
  have O21 : FnOk P w K mg base (L2.CX P w) 2 _ _ _ (liftSp K spNumber) := fun_ok (Γ := Gm P w K mg base 1) (ga 1) (sp := spNumber) F21 f_l_number (c_l_number (mkCall 1 (by decide) (PySem.W.mg_of X G a9) k9 B9 O9)) (k_l_number _) (fun vs F Q E h => by obtain ⟨_, rfl, _⟩ := h; rfl) (w_l_number rfl)
  have O22 : FnOk P w K mg base (L2.CX P w) 2 _ _ _ (liftSp K (spShares CB CE C_NoHouse)) := fun_ok (Γ := Gm P w K mg base 1) (ga 1) (sp := (spShares CB CE C_NoHouse)) F22 f_Book_shares (c_Book_shares (mkFld 1 clCE no_held) (mkMeth 1 clCB (by decide) ⟨a7, i7, k7⟩ B7 O7)) (k_Book_shares _ _) (fun vs F Q E h => by obtain ⟨_, _, _, _, _, _, _, _, _, _, rfl, _⟩ := h; rfl) (w_shares rfl rfl rfl)
  have O23 : FnOk P w K mg base (L2.CX P w) 2 _ _ _ (liftSp K spFrac) := fun_ok (Γ := Gm P w K mg base 1) (ga 1) (sp := spFrac) F23 f_l_is_fraction (c_l_is_fraction (mkCall 1 (by decide) (PySem.W.mg_of X G a10) k10 B10 O10) (mkIsT (n := "tuple") 1 (PySem.W.mg_none_of X G b_tuple) (by decide +kernel) (by decide)) (mkCall 1 (by decide) (PySem.W.mg_of X G a14) k14 B14 O14)) (k_l_is_fraction _ _ _) (fun vs F Q E h => by obtain ⟨_, rfl, _⟩ := h; rfl) (w_l_is_fraction rfl rfl hTup)
  have O24 : FnOk P w K mg base (L2.CX P w) 3 _ _ _ (liftSp K spAdded) := fun_ok (Γ := Gm P w K mg base 2) (ga 2) (sp := spAdded) F24 f_added (c_added (mkCall 2 (by decide) (PySem.W.mg_of X G a16) k16 B16 O16)) (k_added _) (fun vs F Q E h => by obtain ⟨_, _, rfl, _⟩ := h; rfl) (w_added rfl)
  have O25 : FnOk P w K mg base (L2.CX P w) 3 _ _ _ (liftSp K spMinus) := fun_ok (Γ := Gm P w K mg base 2) (ga 2) (sp := spMinus) F25 f_minus (c_minus (mkCall 2 (by decide) (PySem.W.mg_of X G a16) k16 B16 O16)) (k_minus _) (fun vs F Q E h => by obtain ⟨_, _, rfl, _⟩ := h; rfl) (w_minus rfl)
  have O26 : FnOk P w K mg base (L2.CX P w) 3 _ _ _ (liftSp K (spPerson CB)) := fun_ok (Γ := Gm P w K mg base 2) (ga 2) (sp := (spPerson CB)) F26 f_Book_person (c_Book_person (mkFld 2 clCB no_people) (mkGlI 2 (PySem.W.mg_of X G gP)) (mkRai 2 x_TooMany (PySem.W.mg_of X G aC_TooMany) xk_TooMany xb_TooMany ty_TooMany) (mkMeth 2 clCB (by decide) ⟨a17, i17, k17⟩ B17 O17)) (k_Book_person _ _ _ _) (fun vs F Q E h => by obtain ⟨_, _, _, _, _, _, rfl, _⟩ := h; rfl) (w_person rfl rfl rfl rfl)
  have O27 : FnOk P w K mg base (L2.CX P w) 3 _ _ _ (liftSp K (spHouse CB CE)) := fun_ok (Γ := Gm P w K mg base 2) (ga 2) (sp := (spHouse CB CE)) F27 f_Book_house (c_Book_house (mkFld 2 clCB no_entries) (mkNew 2 (by decide) ⟨mkCE, a4, i4, kpCE⟩ (PySem.W.mg_of X G aCE) B4 O4) (mkGlI 2 (PySem.W.mg_of X G gH)) (mkRai 2 x_TooMany (PySem.W.mg_of X G aC_TooMany) xk_TooMany xb_TooMany ty_TooMany) (mkCall 2 (by decide) (PySem.W.mg_of X G a3) k3 B3 O3) (mkMeth 2 clCB (by decide) ⟨a6, i6, k6⟩ B6 O6) (mkMeth 2 clCB (by decide) ⟨a17, i17, k17⟩ B17 O17)) (k_Book_house _ _ _ _ _ _ _) (fun vs F Q E h => by obtain ⟨_, _, _, _, _, _, _, _, _, _, rfl, _⟩ := h; rfl) (w_house rfl rfl rfl rfl rfl rfl rfl rfl rfl)
  have O28 : FnOk P w K mg base (L2.CX P w) 3 _ _ _ (liftSp K spPart) := fun_ok (Γ := Gm P w K mg base 2) (ga 2) (sp := spPart) F28 f_l_part (c_l_part (mkCall 2 (by decide) (PySem.W.mg_of X G a19) k19 B19 O19) (mkCall 2 (by decide) (PySem.W.mg_of X G a9) k9 B9 O9)) (k_l_part _ _) (fun vs F Q E h => by obtain ⟨_, _, _, rfl, _⟩ := h; rfl) (w_l_part rfl rfl)
  have O29 : FnOk P w K mg base (L2.CX P w) 3 _ _ _ (liftSp K spMul) := fun_ok (Γ := Gm P w K mg base 2) (ga 2) (sp := spMul) F29 f_multiplied (c_multiplied (mkCall 2 (by decide) (PySem.W.mg_of X G a16) k16 B16 O16)) (k_multiplied _) (fun vs F Q E h => by obtain ⟨_, _, _, _, _, _, rfl, _⟩ := h; rfl) (w_multiplied rfl)
  have O30 : FnOk P w K mg base (L2.CX P w) 3 _ _ _ (liftSp K (spShareOf CB CE)) := fun_ok (Γ := Gm P w K mg base 2) (ga 2) (sp := (spShareOf CB CE)) F30 f_share_of (c_share_of (mkMeth 2 clCB (by decide) ⟨a22, i22, k22⟩ B22 O22)) (k_share_of _) (fun vs F Q E h => by obtain ⟨_, _, _, _, _, _, _, _, rfl, _⟩ := h; rfl) (w_share_of (CN := C_NoHouse) rfl rfl)
  have O31 : FnOk P w K mg base (L2.CX P w) 3 _ _ _ (liftSp K (spWhole CB CE)) := fun_ok (Γ := Gm P w K mg base 2) (ga 2) (sp := (spWhole CB CE)) F31 f_whole_group (c_whole_group (mkMeth 2 clCB (by decide) ⟨a22, i22, k22⟩ B22 O22) (mkMeth 2 clCB (by decide) ⟨a11, i11, k11⟩ B11 O11)) (k_whole_group _ _) (fun vs F Q E h => by obtain ⟨_, _, _, _, _, _, rfl, _⟩ := h; rfl) (w_whole_group (CN := C_NoHouse) rfl rfl rfl rfl)
  have O32 : FnOk P w K mg base (L2.CX P w) 3 _ _ _ (liftSp K spTotal) := fun_ok (Γ := Gm P w K mg base 2) (ga 2) (sp := spTotal) F32 f_l_sum (c_l_sum (mkCall 2 (by decide) (PySem.W.mg_of X G a19) k19 B19 O19)) (k_l_sum _) (fun vs F Q E h => by obtain ⟨_, _, _, _, _, _, rfl, _⟩ := h; rfl) (w_l_sum rfl)
  have O33 : FnOk P w K mg base (L2.CX P w) 3 _ _ _ (liftSp K spTimes) := fun_ok (Γ := Gm P w K mg base 2) (ga 2) (sp := spTimes) F33 f_l_times (c_l_times (mkCall 2 (by decide) (PySem.W.mg_of X G a19) k19 B19 O19)) (k_l_times _) (fun vs F Q E h => by obtain ⟨_, _, _, _, _, _, rfl, _⟩ := h; rfl) (w_l_times rfl)
  have O34 : FnOk P w K mg base (L2.CX P w) 4 _ _ _ (liftSp K (spSale CB CE)) := fun_ok (Γ := Gm P w K mg base 3) (ga 3) (sp := (spSale CB CE)) F34 f_Book_sale (c_Book_sale (mkCall 3 (by decide) (PySem.W.mg_of X G a24) k24 B24 O24) (mkCall 3 (by decide) (PySem.W.mg_of X G a25) k25 B25 O25) (mkCall 3 (by decide) (PySem.W.mg_of X G a1) k1 B1 O1) (mkRai 3 x_NoShare (PySem.W.mg_of X G aC_NoShare) xk_NoShare xb_NoShare ty_NoShare) (mkMeth 3 clCB (by decide) ⟨a6, i6, k6⟩ B6 O6) (mkFld 3 clCE no_held) (mkMeth 3 clCB (by decide) ⟨a7, i7, k7⟩ B7 O7)) (k_Book_sale _ _ _ _ _ _ _) (fun vs F Q E h => by obtain ⟨_, _, _, _, _, _, _, _, _, _, _, _, _, _, rfl, _⟩ := h; rfl) (w_sale (CN := C_NoHouse) rfl rfl rfl rfl rfl rfl rfl rfl)
  have O35 : FnOk P w K mg base (L2.CX P w) 4 _ _ _ (liftSp K spTotal) := fun_ok (Γ := Gm P w K mg base 3) (ga 3) (sp := spTotal) F35 f_total (c_total (mkCall 3 (by decide) (PySem.W.mg_of X G a24) k24 B24 O24)) (k_total _) (fun vs F Q E h => by obtain ⟨_, _, _, _, _, _, rfl, _⟩ := h; rfl) (w_total rfl)
  have O36 : FnOk P w K mg base (L2.CX P w) 4 _ _ _ (liftSp K spLessened) := fun_ok (Γ := Gm P w K mg base 3) (ga 3) (sp := spLessened) F36 f_lessened (c_lessened (mkCall 3 (by decide) (PySem.W.mg_of X G a25) k25 B25 O25) (mkCall 3 (by decide) (PySem.W.mg_of X G a29) k29 B29 O29)) (k_lessened _ _) (fun vs F Q E h => by obtain ⟨_, _, _, _, rfl, _⟩ := h; rfl) (w_lessened rfl rfl)
  have O37 : FnOk P w K mg base (L2.CX P w) 4 _ _ _ (liftSp K (spMustPart CB CE C_Whole)) := fun_ok (Γ := Gm P w K mg base 3) (ga 3) (sp := (spMustPart CB CE C_Whole)) F37 f_must_part (c_must_part (mkRaiG 3 (by decide) OXC_Whole xi_Whole xt_Whole (PySem.W.mg_of X G aC_Whole) BX_Whole OX_Whole) (mkCall 3 (by decide) (PySem.W.mg_of X G a31) k31 B31 O31)) (k_must_part _ _) (fun vs F Q E h => by obtain ⟨_, _, _, _, _, _, rfl, _⟩ := h; rfl) (w_must_part rfl rfl)
  have O38 : FnOk P w K mg base (L2.CX P w) 4 _ _ _ (liftSp K spHeld) := fun_ok (Γ := Gm P w K mg base 3) (ga 3) (sp := spHeld) F38 f_l_held (c_l_held (mkCall 3 (by decide) (PySem.W.mg_of X G a32) k32 B32 O32) (mkCall 3 (by decide) (PySem.W.mg_of X G a33) k33 B33 O33)) (k_l_held _ _) (fun vs F Q E h => by obtain ⟨_, _, _, _, _, _, _, _, _, rfl, _⟩ := h; rfl) (w_l_held rfl rfl)
  have O39 : FnOk P w K mg base (L2.CX P w) 5 _ _ _ (liftSp K (spSold CB CE)) := fun_ok (Γ := Gm P w K mg base 4) (ga 4) (sp := (spSold CB CE)) F39 f_l_sold (c_l_sold (mkCall 4 (by decide) (PySem.W.mg_of X G a19) k19 B19 O19) (mkMeth 4 clCB (by decide) ⟨a34, i34, k34⟩ B34 O34) (mkCall 4 (by decide) (PySem.W.mg_of X G a28) k28 B28 O28) (mkCall 4 (by decide) (PySem.W.mg_of X G a9) k9 B9 O9)) (k_l_sold _ _ _ _) (fun vs F Q E h => by obtain ⟨_, _, _, _, _, _, _, _, _, _, rfl, _⟩ := h; rfl) (w_l_sold rfl rfl rfl rfl rfl)
  have O40 : FnOk P w K mg base (L2.CX P w) 5 _ _ _ (liftSp K spSolved) := fun_ok (Γ := Gm P w K mg base 4) (ga 4) (sp := spSolved) F40 f_solved (c_solved (mkCall 4 (by decide) (PySem.W.mg_of X G a36) k36 B36 O36) (mkCall 4 (by decide) (PySem.W.mg_of X G a29) k29 B29 O29) (mkCall 4 (by decide) (PySem.W.mg_of X G a16) k16 B16 O16)) (k_solved _ _ _) (fun vs F Q E h => by obtain ⟨_, _, _, rfl, _⟩ := h; rfl) (w_solved rfl rfl rfl)
  have O41 : FnOk P w K mg base (L2.CX P w) 5 _ _ _ (liftSp K (spPartOf CB CE)) := fun_ok (Γ := Gm P w K mg base 4) (ga 4) (sp := (spPartOf CB CE)) F41 f_part_of (c_part_of (mkCall 4 (by decide) (PySem.W.mg_of X G a35) k35 B35 O35) (mkMeth 4 clCB (by decide) ⟨a11, i11, k11⟩ B11 O11) (mkCall 4 (by decide) (PySem.W.mg_of X G a29) k29 B29 O29) (mkCall 4 (by decide) (PySem.W.mg_of X G a30) k30 B30 O30)) (k_part_of _ _ _ _) (fun vs F Q E h => by obtain ⟨_, _, _, _, _, _, _, _, _, _, rfl, _⟩ := h; rfl) (w_part_of rfl rfl rfl rfl rfl)
  have O42 : FnOk P w K mg base (L2.CX P w) 6 _ _ _ (liftSp K (spBuilt CB CE)) := fun_ok (Γ := Gm P w K mg base 5) (ga 5) (sp := (spBuilt CB CE)) F42 f_l_built (c_l_built (mkCall 5 (by decide) (PySem.W.mg_of X G a9) k9 B9 O9) (mkCall 5 (by decide) (PySem.W.mg_of X G a39) k39 B39 O39) (mkMeth 5 clCB (by decide) ⟨a27, i27, k27⟩ B27 O27) (mkCall 5 (by decide) (PySem.W.mg_of X G a21) k21 B21 O21) (mkMeth 5 clCB (by decide) ⟨a26, i26, k26⟩ B26 O26) (mkNew 5 (by decide) ⟨mkCB, a5, i5, kpCB⟩ (PySem.W.mg_of X G aCB) B5 O5) (mkCall 5 (by decide) (PySem.W.mg_of X G a20) k20 B20 O20)) (k_l_built _ _ _ _ _ _ _) (fun vs F Q E h => by obtain ⟨_, _, rfl, _⟩ := h; rfl) (w_l_built rfl rfl rfl rfl rfl rfl rfl rfl rfl rfl)
  have O43 : FnOk P w K mg base (L2.CX P w) 6 _ _ _ (liftSp K (spWorthsBy CB CE)) := fun_ok (Γ := Gm P w K mg base 5) (ga 5) (sp := (spWorthsBy CB CE)) F43 f_worths_by (c_worths_by (mkCall 5 (by decide) (PySem.W.mg_of X G a40) k40 B40 O40) (mkCall 5 (by decide) (PySem.W.mg_of X G a25) k25 B25 O25) (mkCall 5 (by decide) (PySem.W.mg_of X G a30) k30 B30 O30) (mkMeth 5 clCB (by decide) ⟨a11, i11, k11⟩ B11 O11)) (k_worths_by _ _ _ _) (fun vs F Q E h => by obtain ⟨_, _, _, _, _, _, _, rfl, _⟩ := h; rfl) (w_worths_by rfl rfl rfl rfl rfl)
  have O44 : FnOk P w K mg base (L2.CX P w) 7 _ _ _ (liftSp K (spThrough CB CE C_Whole C_NoHolder C_NoHouse)) := fun_ok (Γ := Gm P w K mg base 6) (ga 6) (sp := (spThrough CB CE C_Whole C_NoHolder C_NoHouse)) F44 f_through (c_through (mkCall 6 (by decide) (PySem.W.mg_of X G a41) k41 B41 O41) (mkCall 6 (by decide) (PySem.W.mg_of X G a43) k43 B43 O43) (mkRai 6 x_NoHouse (PySem.W.mg_of X G aC_NoHouse) xk_NoHouse xb_NoHouse ty_NoHouse) (mkMeth 6 clCB (by decide) ⟨a12, i12, k12⟩ B12 O12) (mkRai 6 x_NoHolder (PySem.W.mg_of X G aC_NoHolder) xk_NoHolder xb_NoHolder ty_NoHolder) (mkMeth 6 clCB (by decide) ⟨a11, i11, k11⟩ B11 O11) (mkCall 6 (by decide) (PySem.W.mg_of X G a37) k37 B37 O37)) (k_through _ _ _ _ _ _ _) (fun vs F Q E h => by obtain ⟨_, _, _, _, _, _, _, _, rfl, _⟩ := h; rfl) (w_through rfl rfl rfl rfl rfl rfl rfl rfl rfl)
  have O45 : FnOk P w K mg base (L2.CX P w) 8 _ _ _ (liftSp K (spCaught CB CE)) := fun_ok (Γ := Gm P w K mg base 7) (ga 7) (sp := (spCaught CB CE)) F45 f_l_caught (c_l_caught (mkIs 7 (PySem.W.mg_of X G aC_NoLoss)) (mkIs 7 (PySem.W.mg_of X G aC_NoName)) (mkIs 7 (PySem.W.mg_of X G aC_NoShare)) (mkIs 7 (PySem.W.mg_of X G aC_NoText)) (mkIs 7 (PySem.W.mg_of X G aC_TooMany)) (mkIs 7 (PySem.W.mg_of X G aC_Twice)) (mkIs 7 (PySem.W.mg_of X G aC_Whole)) (mkIs 7 (PySem.W.mg_of X G aC_NoHolder)) (mkIs 7 (PySem.W.mg_of X G aC_NoHouse)) (mkEx 7 (PySem.W.mg_of X G aC_OwnError)) (mkCall 7 (by decide) (PySem.W.mg_of X G a44) k44 B44 O44)) (k_l_caught _ _ _ _ _ _ _ _ _ _ _) (fun vs F Q E h => by obtain ⟨_, _, _, _, _, _, _, _, rfl, _⟩ := h; rfl) (w_l_caught (CW := C_Whole) (CH := C_NoHolder) (CN := C_NoHouse) rfl hOwn_Whole hOwn_NoHolder hOwn_NoHouse hExc_Whole hExc_NoHolder hExc_NoHouse ⟨hIs_Whole_NoLoss, hIs_Whole_NoName, hIs_Whole_NoShare, hIs_Whole_NoText, hIs_Whole_TooMany, hIs_Whole_Twice, hIs_Whole_Whole, hIs_Whole_NoHolder, hIs_Whole_NoHouse⟩ ⟨hIs_NoHolder_NoLoss, hIs_NoHolder_NoName, hIs_NoHolder_NoShare, hIs_NoHolder_NoText, hIs_NoHolder_TooMany, hIs_NoHolder_Twice, hIs_NoHolder_Whole, hIs_NoHolder_NoHolder, hIs_NoHolder_NoHouse⟩ ⟨hIs_NoHouse_NoLoss, hIs_NoHouse_NoName, hIs_NoHouse_NoShare, hIs_NoHouse_NoText, hIs_NoHouse_TooMany, hIs_NoHouse_Twice, hIs_NoHouse_Whole, hIs_NoHouse_NoHolder, hIs_NoHouse_NoHouse⟩ ⟨hN_NoLoss, hN_NoName, hN_NoShare, hN_NoText, hN_TooMany, hN_Twice, hN_Whole, hN_NoHolder, hN_NoHouse⟩)
  have O46 : FnOk P w K mg base (L2.CX P w) 8 _ _ _ (liftSp K (spFrom CB CE)) := fun_ok (Γ := Gm P w K mg base 7) (ga 7) (sp := (spFrom CB CE)) F46 f_l_from (c_l_from (mkCall 7 (by decide) (PySem.W.mg_of X G a32) k32 B32 O32) (mkCall 7 (by decide) (PySem.W.mg_of X G a23) k23 B23 O23) (mkCall 7 (by decide) (PySem.W.mg_of X G a38) k38 B38 O38) (mkCall 7 (by decide) (PySem.W.mg_of X G a44) k44 B44 O44)) (k_l_from _ _ _ _) (fun vs F Q E h => by obtain ⟨_, _, _, _, _, _, _, _, _, rfl, _⟩ := h; rfl) (w_l_from (CW := C_Whole) (CH := C_NoHolder) (CN := C_NoHouse) rfl rfl rfl rfl)
  exact top_ok (Γ := Gm P w K mg base 8) (ga 8) (sp := spLaw) F47 f_law (c_law (mkCall 8 (by decide) (PySem.W.mg_of X G a46) k46 B46 O46) (mkCall 8 (by decide) (PySem.W.mg_of X G a45) k45 B45 O45) (mkCall 8 (by decide) (PySem.W.mg_of X G a15) k15 B15 O15) (mkCall 8 (by decide) (PySem.W.mg_of X G a9) k9 B9 O9) (mkCall 8 (by decide) (PySem.W.mg_of X G a13) k13 B13 O13) (mkCall 8 (by decide) (PySem.W.mg_of X G a42) k42 B42 O42) (mkCall 8 (by decide) (PySem.W.mg_of X G a18) k18 B18 O18)) (k_law _ _ _ _ _ _ _) (fun vs F Q E h => by obtain ⟨_, _, rfl, _⟩ := h; rfl) (w_law (CB := CB) (CE := CE) rfl rfl rfl rfl rfl rfl rfl)
theorem no_lists {K : PySem.W.Frag} (h : (K.all fun p => !(p.2.cls == .type "list")) = true) {a : Addr} {o : Obj} (e : K.lookup a = some o) (hc : o.cls = .type "list") : False := by
  have hm : (a, o) ∈ K := by
    induction K with
    | nil => cases e
    | cons x r ih =>
      rw [List.all_cons, Bool.and_eq_true] at h
      rw [List.lookup_cons] at e
      cases hx : (a == x.1) with
      | true =>
        rw [hx] at e
        cases e
        have : a = x.1 := by simpa using hx
        rw [this]
        exact List.mem_cons_self
      | false =>
        rw [hx] at e
        exact List.mem_cons_of_mem _ (ih h.2 e)
  have := (List.all_eq_true.mp h) _ hm
  rw [hc] at this
  cases this
theorem law_top {K : PySem.W.Frag} (hK : (K.all fun p => !(p.2.cls == .type "list")) = true) {H : Hp} {a : Addr} {ns : List Int} (hl : ns.length ≤ 63) (hb : ∀ z ∈ ns, Builtin.Int.intBits z ≤ 1048576) (hO : Only H) (hS : SqL K H a (ns.map V.int)) :
    liftSp K spLaw [.ref a] H (fun v _ => v = .bl true) fun _ _ _ => False := by
  have fr : ∃ o, H a = some (.frz o (.lst (ns.map V.int))) := by
    rcases hS with (h | h) | ⟨o, its, n, h1, h2, _⟩
    · rcases hO a with q | ⟨o, xs, q⟩
      · rw [h] at q; cases q
      · rw [h] at q; cases q
    · exact h
    · exact (no_lists hK h1 h2).elim
  obtain ⟨o, ho⟩ := fr
  refine ⟨⟨fun _ => none, fun b => if b = a then some (.scr (ns.map .int)) else none, H⟩, fun _ => none, fun b => if b = a then some (.scr (ns.map .int)) else none, [.ref a], fun v _ => v = .bl true, fun _ _ _ => False, ⟨fun b x q => (nomatch q), fun b c q => ⟨rfl, ?_⟩, fun b u q _ q2 => ⟨q, rfl, q2⟩, Same.refl _⟩, .cons (.ref a) .nil, ?_, fun v x N' F' H' _ _ d q => ?_, fun _ _ _ _ _ _ _ _ _ q => q.elim⟩
  · have hb : b = a := by
      by_cases e : b = a
      · exact e
      · rw [if_neg e] at q; cases q
    rw [if_pos hb] at q
    cases q
    rw [hb]
    exact ⟨o, ns.map V.int, ho, Dvs.of_ints ns⟩
  · exact ⟨.ref a, ns, rfl, by simp [lsOf], hl, fun z hz => hb z hz, fun F' => rfl⟩
  · subst q
    cases d
    rfl
end Bv

open PySem PySem.W PyProof.Rows in
set_option maxRecDepth 100000 in
set_option maxHeartbeats 0 in
theorem PySem.Challenge.cw_wholeowners_k13_ways_through_holds : PySem.Challenge.rw_wholeowners_k13_ways_through.Holds := by
  w_on; o_law; k_head; (case hw => w_witness2)
  k_fill
  refine L2.walk_ofB (l := PySem.Challenge.rw_wholeowners_k13_ways_through) (n := 63) (k := 9) (x := "_law_script") (CX := fun _ => L2.CX0) (sp := fun w => Bv.liftSp _ Bv.spLaw) rfl (by decide) rfl ⟨rfl, by decide, by decide⟩ (fun w h Y => PySem.W.kIn_of Y) ?F (fun w H a ns hl hb hO hS => Bv.law_top ?nl hl hb hO hS) (fun _ _ _ _ _ z => z)
  case F =>
    intro w mg fa h KX G hmg
    refine' Bv.all_fns KX G hmg ?aCB ?aCE ?aC_NoHolder ?aC_NoHouse ?aC_NoLoss ?aC_NoName ?aC_NoShare ?aC_NoText ?aC_OwnError ?aC_TooMany ?aC_Twice ?aC_Whole ?a0 ?l0 ?c0 ?k0 ?a1 ?l1 ?c1 ?k1 ?a2 ?l2 ?c2 ?k2 ?a3 ?l3 ?c3 ?k3 ?a4 ?i4 ?l4 ?c4 ?k4 ?a5 ?i5 ?l5 ?c5 ?k5 ?a6 ?i6 ?l6 ?c6 ?k6 ?a7 ?i7 ?l7 ?c7 ?k7 ?a8 ?l8 ?c8 ?k8 ?a9 ?l9 ?c9 ?k9 ?a10 ?l10 ?c10 ?k10 ?a11 ?i11 ?l11 ?c11 ?k11 ?a12 ?i12 ?l12 ?c12 ?k12 ?a13 ?l13 ?c13 ?k13 ?a14 ?l14 ?c14 ?k14 ?a15 ?l15 ?c15 ?k15 ?a16 ?l16 ?c16 ?k16 ?a17 ?i17 ?l17 ?c17 ?k17 ?a18 ?l18 ?c18 ?k18 ?a19 ?l19 ?c19 ?k19 ?a20 ?l20 ?c20 ?k20 ?a21 ?l21 ?c21 ?k21 ?a22 ?i22 ?l22 ?c22 ?k22 ?a23 ?l23 ?c23 ?k23 ?a24 ?l24 ?c24 ?k24 ?a25 ?l25 ?c25 ?k25 ?a26 ?i26 ?l26 ?c26 ?k26 ?a27 ?i27 ?l27 ?c27 ?k27 ?a28 ?l28 ?c28 ?k28 ?a29 ?l29 ?c29 ?k29 ?a30 ?l30 ?c30 ?k30 ?a31 ?l31 ?c31 ?k31 ?a32 ?l32 ?c32 ?k32 ?a33 ?l33 ?c33 ?k33 ?a34 ?i34 ?l34 ?c34 ?k34 ?a35 ?l35 ?c35 ?k35 ?a36 ?l36 ?c36 ?k36 ?a37 ?l37 ?c37 ?k37 ?a38 ?l38 ?c38 ?k38 ?a39 ?l39 ?c39 ?k39 ?a40 ?l40 ?c40 ?k40 ?a41 ?l41 ?c41 ?k41 ?a42 ?l42 ?c42 ?k42 ?a43 ?l43 ?c43 ?k43 ?a44 ?l44 ?c44 ?k44 ?a45 ?l45 ?c45 ?k45 ?a46 ?l46 ?c46 ?k46 ?a47 ?l47 ?c47 ?k47 ?pgCB ?hdCB ?poCB ?saCB ?mkCB ?kpCB ?pgCE ?hdCE ?poCE ?saCE ?mkCE ?kpCE ?no_people ?no_entries ?no_numbers ?no_held ?x_NoHouse ?xk_NoHouse ?xb_NoHouse ?x_NoLoss ?xk_NoLoss ?xb_NoLoss ?x_Twice ?xk_Twice ?xb_Twice ?x_NoName ?xk_NoName ?xb_NoName ?x_NoHolder ?xk_NoHolder ?xb_NoHolder ?x_TooMany ?xk_TooMany ?xb_TooMany ?x_NoShare ?xk_NoShare ?xb_NoShare ?xk_Whole ?xb_Whole ?xi_Whole ?xt_Whole ?xl_Whole ?xc_Whole ?xf_Whole ?xo_Whole ?xr_Whole ?xs_Whole ?xn_Whole ?xx_Whole ?og ?ord ?ofc ?ty_NoHolder ?ty_NoHouse ?ty_NoLoss ?ty_NoName ?ty_NoShare ?ty_NoText ?ty_OwnError ?ty_TooMany ?ty_Twice ?ty_Whole ?ic_NoHolder ?ic_NoHouse ?ic_NoLoss ?ic_NoName ?ic_NoShare ?ic_NoText ?ic_OwnError ?ic_TooMany ?ic_Twice ?ic_Whole ?sb_Whole_NoHolder ?ne_Whole_NoHolder ?sb_Whole_NoHouse ?ne_Whole_NoHouse ?sb_Whole_NoLoss ?ne_Whole_NoLoss ?sb_Whole_NoName ?ne_Whole_NoName ?sb_Whole_NoShare ?ne_Whole_NoShare ?sb_Whole_NoText ?ne_Whole_NoText ?sb_Whole_OwnError ?ne_Whole_OwnError ?sb_Whole_TooMany ?ne_Whole_TooMany ?sb_Whole_Twice ?ne_Whole_Twice ?sv_Whole ?eg_Whole ?ek_Whole ?ed_Whole ?ea_Whole ?em_Whole ?sb_NoHolder_NoHouse ?ne_NoHolder_NoHouse ?sb_NoHolder_NoLoss ?ne_NoHolder_NoLoss ?sb_NoHolder_NoName ?ne_NoHolder_NoName ?sb_NoHolder_NoShare ?ne_NoHolder_NoShare ?sb_NoHolder_NoText ?ne_NoHolder_NoText ?sb_NoHolder_OwnError ?ne_NoHolder_OwnError ?sb_NoHolder_TooMany ?ne_NoHolder_TooMany ?sb_NoHolder_Twice ?ne_NoHolder_Twice ?sb_NoHolder_Whole ?ne_NoHolder_Whole ?sv_NoHolder ?eg_NoHolder ?ek_NoHolder ?ed_NoHolder ?ea_NoHolder ?em_NoHolder ?sb_NoHouse_NoHolder ?ne_NoHouse_NoHolder ?sb_NoHouse_NoLoss ?ne_NoHouse_NoLoss ?sb_NoHouse_NoName ?ne_NoHouse_NoName ?sb_NoHouse_NoShare ?ne_NoHouse_NoShare ?sb_NoHouse_NoText ?ne_NoHouse_NoText ?sb_NoHouse_OwnError ?ne_NoHouse_OwnError ?sb_NoHouse_TooMany ?ne_NoHouse_TooMany ?sb_NoHouse_Twice ?ne_NoHouse_Twice ?sb_NoHouse_Whole ?ne_NoHouse_Whole ?sv_NoHouse ?eg_NoHouse ?ek_NoHouse ?ed_NoHouse ?ea_NoHouse ?em_NoHouse ?en_ ?et ?xb_OwnError ?b_len ?b_abs ?b_int ?b_str ?b_sorted ?b_list ?b_all ?b_any ?b_tuple ?b_max ?b_isinstance ?b_range ?b_zip ?b_enumerate ?b_dict ?b_bool ?sn_NoLoss ?sn_NoName ?sn_NoShare ?sn_NoText ?sn_TooMany ?sn_Twice ?sn_Whole ?sn_NoHolder ?sn_NoHouse ?gL ?gLe ?gP ?gH
    (case aCB => k_is)
    (case aCE => k_is)
    (case aC_NoHolder => k_is)
    (case aC_NoHouse => k_is)
    (case aC_NoLoss => k_is)
    (case aC_NoName => k_is)
    (case aC_NoShare => k_is)
    (case aC_NoText => k_is)
    (case aC_OwnError => k_is)
    (case aC_TooMany => k_is)
    (case aC_Twice => k_is)
    (case aC_Whole => k_is)
    (case a0 => k_is)
    (case l0 => k_is)
    (case c0 => k_is)
    (case k0 => k_is)
    (case a1 => k_is)
    (case l1 => k_is)
    (case c1 => k_is)
    (case k1 => k_is)
    (case a2 => k_is)
    (case l2 => k_is)
    (case c2 => k_is)
    (case k2 => k_is)
    (case a3 => k_is)
    (case l3 => k_is)
    (case c3 => k_is)
    (case k3 => k_is)
    (case a4 => k_is)
    (case i4 => k_is)
    (case l4 => k_is)
    (case c4 => k_is)
    (case k4 => k_is)
    (case a5 => k_is)
    (case i5 => k_is)
    (case l5 => k_is)
    (case c5 => k_is)
    (case k5 => k_is)
    (case a6 => k_is)
    (case i6 => k_is)
    (case l6 => k_is)
    (case c6 => k_is)
    (case k6 => k_is)
    (case a7 => k_is)
    (case i7 => k_is)
    (case l7 => k_is)
    (case c7 => k_is)
    (case k7 => k_is)
    (case a8 => k_is)
    (case l8 => k_is)
    (case c8 => k_is)
    (case k8 => k_is)
    (case a9 => k_is)
    (case l9 => k_is)
    (case c9 => k_is)
    (case k9 => k_is)
    (case a10 => k_is)
    (case l10 => k_is)
    (case c10 => k_is)
    (case k10 => k_is)
    (case a11 => k_is)
    (case i11 => k_is)
    (case l11 => k_is)
    (case c11 => k_is)
    (case k11 => k_is)
    (case a12 => k_is)
    (case i12 => k_is)
    (case l12 => k_is)
    (case c12 => k_is)
    (case k12 => k_is)
    (case a13 => k_is)
    (case l13 => k_is)
    (case c13 => k_is)
    (case k13 => k_is)
    (case a14 => k_is)
    (case l14 => k_is)
    (case c14 => k_is)
    (case k14 => k_is)
    (case a15 => k_is)
    (case l15 => k_is)
    (case c15 => k_is)
    (case k15 => k_is)
    (case a16 => k_is)
    (case l16 => k_is)
    (case c16 => k_is)
    (case k16 => k_is)
    (case a17 => k_is)
    (case i17 => k_is)
    (case l17 => k_is)
    (case c17 => k_is)
    (case k17 => k_is)
    (case a18 => k_is)
    (case l18 => k_is)
    (case c18 => k_is)
    (case k18 => k_is)
    (case a19 => k_is)
    (case l19 => k_is)
    (case c19 => k_is)
    (case k19 => k_is)
    (case a20 => k_is)
    (case l20 => k_is)
    (case c20 => k_is)
    (case k20 => k_is)
    (case a21 => k_is)
    (case l21 => k_is)
    (case c21 => k_is)
    (case k21 => k_is)
    (case a22 => k_is)
    (case i22 => k_is)
    (case l22 => k_is)
    (case c22 => k_is)
    (case k22 => k_is)
    (case a23 => k_is)
    (case l23 => k_is)
    (case c23 => k_is)
    (case k23 => k_is)
    (case a24 => k_is)
    (case l24 => k_is)
    (case c24 => k_is)
    (case k24 => k_is)
    (case a25 => k_is)
    (case l25 => k_is)
    (case c25 => k_is)
    (case k25 => k_is)
    (case a26 => k_is)
    (case i26 => k_is)
    (case l26 => k_is)
    (case c26 => k_is)
    (case k26 => k_is)
    (case a27 => k_is)
    (case i27 => k_is)
    (case l27 => k_is)
    (case c27 => k_is)
    (case k27 => k_is)
    (case a28 => k_is)
    (case l28 => k_is)
    (case c28 => k_is)
    (case k28 => k_is)
    (case a29 => k_is)
    (case l29 => k_is)
    (case c29 => k_is)
    (case k29 => k_is)
    (case a30 => k_is)
    (case l30 => k_is)
    (case c30 => k_is)
    (case k30 => k_is)
    (case a31 => k_is)
    (case l31 => k_is)
    (case c31 => k_is)
    (case k31 => k_is)
    (case a32 => k_is)
    (case l32 => k_is)
    (case c32 => k_is)
    (case k32 => k_is)
    (case a33 => k_is)
    (case l33 => k_is)
    (case c33 => k_is)
    (case k33 => k_is)
    (case a34 => k_is)
    (case i34 => k_is)
    (case l34 => k_is)
    (case c34 => k_is)
    (case k34 => k_is)
    (case a35 => k_is)
    (case l35 => k_is)
    (case c35 => k_is)
    (case k35 => k_is)
    (case a36 => k_is)
    (case l36 => k_is)
    (case c36 => k_is)
    (case k36 => k_is)
    (case a37 => k_is)
    (case l37 => k_is)
    (case c37 => k_is)
    (case k37 => k_is)
    (case a38 => k_is)
    (case l38 => k_is)
    (case c38 => k_is)
    (case k38 => k_is)
    (case a39 => k_is)
    (case l39 => k_is)
    (case c39 => k_is)
    (case k39 => k_is)
    (case a40 => k_is)
    (case l40 => k_is)
    (case c40 => k_is)
    (case k40 => k_is)
    (case a41 => k_is)
    (case l41 => k_is)
    (case c41 => k_is)
    (case k41 => k_is)
    (case a42 => k_is)
    (case l42 => k_is)
    (case c42 => k_is)
    (case k42 => k_is)
    (case a43 => k_is)
    (case l43 => k_is)
    (case c43 => k_is)
    (case k43 => k_is)
    (case a44 => k_is)
    (case l44 => k_is)
    (case c44 => k_is)
    (case k44 => k_is)
    (case a45 => k_is)
    (case l45 => k_is)
    (case c45 => k_is)
    (case k45 => k_is)
    (case a46 => k_is)
    (case l46 => k_is)
    (case c46 => k_is)
    (case k46 => k_is)
    (case a47 => k_is)
    (case l47 => k_is)
    (case c47 => k_is)
    (case k47 => k_is)
    (case pgCB => k_is)
    (case hdCB => k_is)
    (case poCB => k_is)
    (case saCB => k_is)
    (case mkCB => k_is)
    (case kpCB => k_is)
    (case pgCE => k_is)
    (case hdCE => k_is)
    (case poCE => k_is)
    (case saCE => k_is)
    (case mkCE => k_is)
    (case kpCE => k_is)
    (case no_people => k_is)
    (case no_entries => k_is)
    (case no_numbers => k_is)
    (case no_held => k_is)
    (case x_NoHouse => k_exc)
    (case xk_NoHouse => k_is)
    (case xb_NoHouse => k_is)
    (case x_NoLoss => k_exc)
    (case xk_NoLoss => k_is)
    (case xb_NoLoss => k_is)
    (case x_Twice => k_exc)
    (case xk_Twice => k_is)
    (case xb_Twice => k_is)
    (case x_NoName => k_exc)
    (case xk_NoName => k_is)
    (case xb_NoName => k_is)
    (case x_NoHolder => k_exc)
    (case xk_NoHolder => k_is)
    (case xb_NoHolder => k_is)
    (case x_TooMany => k_exc)
    (case xk_TooMany => k_is)
    (case xb_TooMany => k_is)
    (case x_NoShare => k_exc)
    (case xk_NoShare => k_is)
    (case xb_NoShare => k_is)
    (case xk_Whole => k_is)
    (case xb_Whole => k_is)
    (case xi_Whole => k_is)
    (case xt_Whole => k_is)
    (case xl_Whole => k_is)
    (case xc_Whole => k_is)
    (case xf_Whole => k_is)
    (case xo_Whole => k_is)
    (case xr_Whole => first | rfl | decide +kernel)
    (case xs_Whole => k_is)
    (case xn_Whole => k_is)
    (case xx_Whole => k_is)
    (case og => k_is)
    (case ord => k_is)
    (case ofc => k_is)
    (case ty_NoHolder => k_is)
    (case ty_NoHouse => k_is)
    (case ty_NoLoss => k_is)
    (case ty_NoName => k_is)
    (case ty_NoShare => k_is)
    (case ty_NoText => k_is)
    (case ty_OwnError => k_is)
    (case ty_TooMany => k_is)
    (case ty_Twice => k_is)
    (case ty_Whole => k_is)
    (case ic_NoHolder => k_is)
    (case ic_NoHouse => k_is)
    (case ic_NoLoss => k_is)
    (case ic_NoName => k_is)
    (case ic_NoShare => k_is)
    (case ic_NoText => k_is)
    (case ic_OwnError => k_is)
    (case ic_TooMany => k_is)
    (case ic_Twice => k_is)
    (case ic_Whole => k_is)
    (case sb_Whole_NoHolder => k_is)
    (case ne_Whole_NoHolder => rfl)
    (case sb_Whole_NoHouse => k_is)
    (case ne_Whole_NoHouse => rfl)
    (case sb_Whole_NoLoss => k_is)
    (case ne_Whole_NoLoss => rfl)
    (case sb_Whole_NoName => k_is)
    (case ne_Whole_NoName => rfl)
    (case sb_Whole_NoShare => k_is)
    (case ne_Whole_NoShare => rfl)
    (case sb_Whole_NoText => k_is)
    (case ne_Whole_NoText => rfl)
    (case sb_Whole_OwnError => k_is)
    (case ne_Whole_OwnError => rfl)
    (case sb_Whole_TooMany => k_is)
    (case ne_Whole_TooMany => rfl)
    (case sb_Whole_Twice => k_is)
    (case ne_Whole_Twice => rfl)
    (case sv_Whole => k_is)
    (case eg_Whole => k_is)
    (case ek_Whole => k_is)
    (case ed_Whole => k_is)
    (case ea_Whole => k_is)
    (case em_Whole => k_is)
    (case sb_NoHolder_NoHouse => k_is)
    (case ne_NoHolder_NoHouse => rfl)
    (case sb_NoHolder_NoLoss => k_is)
    (case ne_NoHolder_NoLoss => rfl)
    (case sb_NoHolder_NoName => k_is)
    (case ne_NoHolder_NoName => rfl)
    (case sb_NoHolder_NoShare => k_is)
    (case ne_NoHolder_NoShare => rfl)
    (case sb_NoHolder_NoText => k_is)
    (case ne_NoHolder_NoText => rfl)
    (case sb_NoHolder_OwnError => k_is)
    (case ne_NoHolder_OwnError => rfl)
    (case sb_NoHolder_TooMany => k_is)
    (case ne_NoHolder_TooMany => rfl)
    (case sb_NoHolder_Twice => k_is)
    (case ne_NoHolder_Twice => rfl)
    (case sb_NoHolder_Whole => k_is)
    (case ne_NoHolder_Whole => rfl)
    (case sv_NoHolder => k_is)
    (case eg_NoHolder => k_is)
    (case ek_NoHolder => k_is)
    (case ed_NoHolder => k_is)
    (case ea_NoHolder => k_is)
    (case em_NoHolder => k_is)
    (case sb_NoHouse_NoHolder => k_is)
    (case ne_NoHouse_NoHolder => rfl)
    (case sb_NoHouse_NoLoss => k_is)
    (case ne_NoHouse_NoLoss => rfl)
    (case sb_NoHouse_NoName => k_is)
    (case ne_NoHouse_NoName => rfl)
    (case sb_NoHouse_NoShare => k_is)
    (case ne_NoHouse_NoShare => rfl)
    (case sb_NoHouse_NoText => k_is)
    (case ne_NoHouse_NoText => rfl)
    (case sb_NoHouse_OwnError => k_is)
    (case ne_NoHouse_OwnError => rfl)
    (case sb_NoHouse_TooMany => k_is)
    (case ne_NoHouse_TooMany => rfl)
    (case sb_NoHouse_Twice => k_is)
    (case ne_NoHouse_Twice => rfl)
    (case sb_NoHouse_Whole => k_is)
    (case ne_NoHouse_Whole => rfl)
    (case sv_NoHouse => k_is)
    (case eg_NoHouse => k_is)
    (case ek_NoHouse => k_is)
    (case ed_NoHouse => k_is)
    (case ea_NoHouse => k_is)
    (case em_NoHouse => k_is)
    (case en_ => k_is)
    (case et => k_is)
    (case xb_OwnError => k_is)
    (case b_len => k_is)
    (case b_abs => k_is)
    (case b_int => k_is)
    (case b_str => k_is)
    (case b_sorted => k_is)
    (case b_list => k_is)
    (case b_all => k_is)
    (case b_any => k_is)
    (case b_tuple => k_is)
    (case b_max => k_is)
    (case b_isinstance => k_is)
    (case b_range => k_is)
    (case b_zip => k_is)
    (case b_enumerate => k_is)
    (case b_dict => k_is)
    (case b_bool => k_is)
    (case sn_NoLoss => k_is)
    (case sn_NoName => k_is)
    (case sn_NoShare => k_is)
    (case sn_NoText => k_is)
    (case sn_TooMany => k_is)
    (case sn_Twice => k_is)
    (case sn_Whole => k_is)
    (case sn_NoHolder => k_is)
    (case sn_NoHouse => k_is)
    (case gL => k_is)
    (case gLe => rfl)
    (case gP => k_is)
    (case gH => k_is)
  case nl => kernel_rfl
