import PyProof.Rows.All
import Wide.All
import OpenK.AllK
import Wide.FinOn
import HandS.ForMost
import HandS.Wide
import HandS.TupAny
import HandS.TupMul
import HandS.Deep
import HandS.DictTup
import HandS.IsInst
import HandS.WordsDict
import HandS.WordsList
import KE.KTupSum
import KE.SortData
import HandS.Defaults
import HandS.SetFor
import HandS.Strs
import HandS.DictComp
import HandS.More
import HandS.Sort
import HandS.Dict
import HandS.Zip
import KE.GoesMore
import KE.GoesZip
import PySem.Challenge.RW_owedthen_k44_whole_sureties
set_option Elab.async false
set_option linter.all false
set_option maxRecDepth 100000
/-! GX: values as trees, their relation to the heap, footprints. -/
namespace GX
open PySem PySem.Spec PyProof.Rows L2

/-- a Python value as a tree; the Bool of a list, a dict, an instance: it is owned (one reference to it alone, it may be changed) -/
inductive PV where
  | non
  | bl (b : Bool)
  | int (i : Int)
  | str (x : Str)
  | tup (xs : List PV)
  | lst (o : Bool) (xs : List PV)
  | dic (o : Bool) (kvs : List (Key × PV))
  | ins (o : Bool) (c : Str) (fs : List (Str × PV))
  | zls (xs : List PV)
  | ty (n : String)
  | fn (x : Str)

mutual
/-- nothing owned within -/
def PV.pure : PV → Bool
  | .tup xs => PV.pures xs
  | .lst o _ => !o
  | .dic o _ => !o
  | .ins o _ _ => !o
  | _ => true
def PV.pures : List PV → Bool
  | [] => true
  | x :: xs => x.pure && PV.pures xs
end
mutual
def PV.frzD : PV → PV
  | .tup xs => .tup (PV.frzDs xs)
  | .lst true xs => .lst false (PV.frzDs xs)
  | .dic true kvs => .dic false (PV.frzDk kvs)
  | .ins true c fs => .ins false c (PV.frzDf fs)
  | x => x
def PV.frzDs : List PV → List PV
  | [] => []
  | x :: xs => x.frzD :: PV.frzDs xs
def PV.frzDk : List (Key × PV) → List (Key × PV)
  | [] => []
  | (k, x) :: xs => (k, x.frzD) :: PV.frzDk xs
def PV.frzDf : List (Str × PV) → List (Str × PV)
  | [] => []
  | (k, x) :: xs => (k, x.frzD) :: PV.frzDf xs
end
/-- what is owned is so no more -/
def PV.frz (x : PV) : PV := if x.pure then x else x.frzD

theorem pures_eq : ∀ xs : List PV, PV.pures xs = xs.all PV.pure
  | [] => rfl
  | x :: xs => by rw [PV.pures, pures_eq xs, List.all_cons]
theorem frzDs_eq : ∀ xs : List PV, PV.frzDs xs = xs.map PV.frzD
  | [] => rfl
  | x :: xs => by rw [PV.frzDs, frzDs_eq xs, List.map_cons]

/-- the script -/
def ZL (K : PySem.W.Frag) (H : Hp) (B : Addr → Prop) (a : Addr) (ys : List V) : Prop := (Rd H a (.lst ys) ∧ ¬ B a) ∨
  ∃ (o : Obj) (its : Array Value) (n : Nat), K.lookup a = some o ∧ o.cls = .type "list" ∧ o.dict = none ∧ o.data = .seq its n ∧ its.size ≤ sizeLine ∧ Vals ys its.toList
theorem ZL.sq {K : PySem.W.Frag} {H : Hp} {B : Addr → Prop} {a : Addr} {ys : List V} (h : ZL K H B a ys) : SqL K H a ys := h.imp And.left id
theorem ZL.weak {K : PySem.W.Frag} {H : Hp} {B B' : Addr → Prop} {a : Addr} {ys : List V} (h : ZL K H B a ys) (nb : B' a → B a) : ZL K H B' a ys := h.imp (fun z => ⟨z.1, fun q => z.2 (nb q)⟩) id
mutual
/-- the tree x stands at v; the last list: the addresses of what is owned in it -/
inductive RV (K : PySem.W.Frag) (mg : Str → Option Value) (H : Hp) (B : Addr → Prop) : PV → V → List Addr → Prop
  | non : RV K mg H B .non .non []
  | bl (b : Bool) : RV K mg H B (.bl b) (.bl b) []
  | int (i : Int) : RV K mg H B (.int i) (.int i) []
  | str (x : Str) : RV K mg H B (.str x) (.str x) []
  | ty (n : String) : RV K mg H B (.ty n) (.ty n) []
  | tup {a : Addr} {ys : List V} {xs : List PV} {F : List Addr} : SqT K H a ys → RVs K mg H B xs ys F → RV K mg H B (.tup xs) (.ref a) F
  | lstF {a : Addr} {ys : List V} {xs : List PV} : H a = some (.lst ys) → ¬ B a → RVs K mg H B xs ys [] → RV K mg H B (.lst false xs) (.ref a) []
  | lstO {a : Addr} {ys : List V} {xs : List PV} {F : List Addr} : H a = some (.lst ys) → B a → RVs K mg H B xs ys F → RV K mg H B (.lst true xs) (.ref a) (a :: F)
  | dicF {a : Addr} {ks : List (Key × V)} {ps : List (Key × PV)} : Rd H a (.dK ks) → ¬ B a → ps.map (·.1) = ks.map (·.1) → RVs K mg H B (ps.map (·.2)) (ks.map (·.2)) [] → RV K mg H B (.dic false ps) (.ref a) []
  | dicO {a : Addr} {ks : List (Key × V)} {ps : List (Key × PV)} {F : List Addr} : H a = some (.dK ks) → B a → ps.map (·.1) = ks.map (·.1) → RVs K mg H B (ps.map (·.2)) (ks.map (·.2)) F → RV K mg H B (.dic true ps) (.ref a) (a :: F)
  | insF {a C dx : Addr} {c : Str} {fs : List (Str × V)} {ps : List (Str × PV)} : H a = some (.ins C dx fs) → ¬ B a → mg c = some (.ref C) → ps.map (·.1) = fs.map (·.1) → RVs K mg H B (ps.map (·.2)) (fs.map (·.2)) [] → RV K mg H B (.ins false c ps) (.ref a) []
  | insO {a C dx : Addr} {c : Str} {fs : List (Str × V)} {ps : List (Str × PV)} {F : List Addr} : H a = some (.ins C dx fs) → B a → mg c = some (.ref C) → ps.map (·.1) = fs.map (·.1) → RVs K mg H B (ps.map (·.2)) (fs.map (·.2)) F → RV K mg H B (.ins true c ps) (.ref a) (a :: F)
  | zls {a : Addr} {ys : List V} {xs : List PV} : ZL K H B a ys → RVs K mg H B xs ys [] → RV K mg H B (.zls xs) (.ref a) []
  | fn {x : Str} {f : Addr} : mg x = some (.ref f) → RV K mg H B (.fn x) (.ref f) []
inductive RVs (K : PySem.W.Frag) (mg : Str → Option Value) (H : Hp) (B : Addr → Prop) : List PV → List V → List Addr → Prop
  | nil : RVs K mg H B [] [] []
  | cons {x : PV} {xs : List PV} {v : V} {vs : List V} {F G : List Addr} : RV K mg H B x v F → RVs K mg H B xs vs G → RVs K mg H B (x :: xs) (v :: vs) (F ++ G)
end

section
variable {K : PySem.W.Frag} {mg : Str → Option Value} {H H' : Hp} {B B' : Addr → Prop} {x : PV} {xs : List PV} {v : V} {vs : List V} {F G W : List Addr}

/-- all that is tracked and lies outside of W stays -/
def Keep (W : List Addr) (H : Hp) (B : Addr → Prop) (H' : Hp) (B' : Addr → Prop) : Prop := ∀ b o, H b = some o → b ∉ W → H' b = some o ∧ (B' b ↔ B b)
/-- W's objects may be changed -/
def MutW (W : List Addr) (H : Hp) (B : Addr → Prop) : Prop := ∀ b ∈ W, B b ∧ Mut (H b)

theorem Keep.rd {a : Addr} {u : HO} (k : Keep W H B H' B') (m : MutW W H B) (h : Rd H a u) (nB : ¬ B a) : Rd H' a u ∧ ¬ B' a := by
  have na : a ∉ W := fun z => nB (m a z).1
  rcases h with h | ⟨o, h⟩
  · obtain ⟨e, i⟩ := k a _ h na
    exact ⟨.inl e, fun z => nB (i.mp z)⟩
  · obtain ⟨e, i⟩ := k a _ h na
    exact ⟨.inr ⟨o, e⟩, fun z => nB (i.mp z)⟩
theorem Keep.sqT {a : Addr} {ys : List V} (k : Keep W H B H' B') (m : MutW W H B) (h : SqT K H a ys) : SqT K H' a ys := by
  rcases h with (h | ⟨o, h⟩) | h
  · have na : a ∉ W := fun z => by have := (m a z).2; rw [h] at this; exact this
    exact .inl (.inl (k a _ h na).1)
  · have na : a ∉ W := fun z => by have := (m a z).2; rw [h] at this; exact this
    exact .inl (.inr ⟨o, (k a _ h na).1⟩)
  · exact .inr h

mutual
theorem RV.keep (k : Keep W H B H' B') (m : MutW W H B) : ∀ {x : PV} {v : V} {F : List Addr}, RV K mg H B x v F → (∀ b ∈ F, b ∉ W) → RV K mg H' B' x v F
  | _, _, _, .non, _ => .non
  | _, _, _, .bl b, _ => .bl b
  | _, _, _, .int b, _ => .int b
  | _, _, _, .str b, _ => .str b
  | _, _, _, .ty b, _ => .ty b
  | _, _, _, .fn h, _ => .fn h
  | _, _, _, .tup h r, d => .tup (k.sqT m h) (RVs.keep k m r d)
  | _, _, _, .lstF h nB r, d =>
    have z := k _ _ h fun w => nB (m _ w).1
    .lstF z.1 (fun q => nB (z.2.mp q)) (RVs.keep k m r d)
  | _, _, _, .zls h r, d => .zls (h.imp (fun z => k.rd m z.1 z.2) id) (RVs.keep k m r d)
  | _, _, _, .lstO h b r, d => .lstO (k _ _ h (d _ (.head _))).1 ((k _ _ h (d _ (.head _))).2.mpr b) (RVs.keep k m r fun c hc => d c (.tail _ hc))
  | _, _, _, .dicF h nB e r, d => .dicF (k.rd m h nB).1 (k.rd m h nB).2 e (RVs.keep k m r d)
  | _, _, _, .dicO h b e r, d => .dicO (k _ _ h (d _ (.head _))).1 ((k _ _ h (d _ (.head _))).2.mpr b) e (RVs.keep k m r fun c hc => d c (.tail _ hc))
  | _, _, _, .insF h nB g e r, d =>
    have z := k _ _ h fun w => nB (m _ w).1
    .insF z.1 (fun q => nB (z.2.mp q)) g e (RVs.keep k m r d)
  | _, _, _, .insO h b g e r, d => .insO (k _ _ h (d _ (.head _))).1 ((k _ _ h (d _ (.head _))).2.mpr b) g e (RVs.keep k m r fun c hc => d c (.tail _ hc))
theorem RVs.keep (k : Keep W H B H' B') (m : MutW W H B) : ∀ {xs : List PV} {vs : List V} {F : List Addr}, RVs K mg H B xs vs F → (∀ b ∈ F, b ∉ W) → RVs K mg H' B' xs vs F
  | _, _, _, .nil, _ => .nil
  | _, _, _, .cons r t, d => .cons (RV.keep k m r fun b hb => d b (List.mem_append_left _ hb)) (RVs.keep k m t fun b hb => d b (List.mem_append_right _ hb))
end
mutual
theorem RV.mut : ∀ {x : PV} {v : V} {F : List Addr}, RV K mg H B x v F → MutW F H B
  | _, _, _, .non => fun _ h => nomatch h
  | _, _, _, .bl b => fun _ h => nomatch h
  | _, _, _, .int b => fun _ h => nomatch h
  | _, _, _, .str b => fun _ h => nomatch h
  | _, _, _, .ty b => fun _ h => nomatch h
  | _, _, _, .fn h => fun _ h => nomatch h
  | _, _, _, .tup h r => RVs.mut r
  | _, _, _, .lstF h nB r => RVs.mut r
  | _, _, _, .zls h r => RVs.mut r
  | _, _, _, .lstO h b r => fun c hc => (List.mem_cons.mp hc).elim (fun e => e ▸ ⟨b, by rw [h]; trivial⟩) (RVs.mut r c)
  | _, _, _, .dicF h nB e r => RVs.mut r
  | _, _, _, .dicO h b e r => fun c hc => (List.mem_cons.mp hc).elim (fun e => e ▸ ⟨b, by rw [h]; trivial⟩) (RVs.mut r c)
  | _, _, _, .insF h nB g e r => RVs.mut r
  | _, _, _, .insO h b g e r => fun c hc => (List.mem_cons.mp hc).elim (fun e => e ▸ ⟨b, by rw [h]; trivial⟩) (RVs.mut r c)
theorem RVs.mut : ∀ {xs : List PV} {vs : List V} {F : List Addr}, RVs K mg H B xs vs F → MutW F H B
  | _, _, _, .nil => fun _ h => nomatch h
  | _, _, _, .cons r t => fun c hc => (List.mem_append.mp hc).elim (RV.mut r c) (RVs.mut t c)
end

mutual
theorem RV.pure : ∀ {x : PV} {v : V} {F : List Addr}, RV K mg H B x v F → x.pure = true → F = []
  | _, _, _, .non, _ => rfl
  | _, _, _, .bl b, _ => rfl
  | _, _, _, .int b, _ => rfl
  | _, _, _, .str b, _ => rfl
  | _, _, _, .ty b, _ => rfl
  | _, _, _, .fn h, _ => rfl
  | _, _, _, .tup h r, e => RVs.pure r (by simpa [PV.pure] using e)
  | _, _, _, .lstF h nB r, _ => rfl
  | _, _, _, .zls h r, _ => rfl
  | _, _, _, .lstO h b r, e => by simp [PV.pure] at e
  | _, _, _, .dicF h nB q r, _ => rfl
  | _, _, _, .dicO h b q r, e => by simp [PV.pure] at e
  | _, _, _, .insF h nB g q r, _ => rfl
  | _, _, _, .insO h b g q r, e => by simp [PV.pure] at e
theorem RVs.pure : ∀ {xs : List PV} {vs : List V} {F : List Addr}, RVs K mg H B xs vs F → PV.pures xs = true → F = []
  | _, _, _, .nil, _ => rfl
  | _, _, _, .cons r t, e => by
    simp only [PV.pures, Bool.and_eq_true] at e
    rw [RV.pure r e.1, RVs.pure t e.2]
    rfl
end
theorem frzDk_fst : ∀ ps : List (Key × PV), (PV.frzDk ps).map (·.1) = ps.map (·.1)
  | [] => rfl
  | (k, x) :: ps => by rw [PV.frzDk, List.map_cons, List.map_cons, frzDk_fst ps]
theorem frzDf_fst : ∀ ps : List (Str × PV), (PV.frzDf ps).map (·.1) = ps.map (·.1)
  | [] => rfl
  | (k, x) :: ps => by rw [PV.frzDf, List.map_cons, List.map_cons, frzDf_fst ps]
theorem frzDk_snd : ∀ ps : List (Key × PV), (PV.frzDk ps).map (·.2) = PV.frzDs (ps.map (·.2))
  | [] => rfl
  | (k, x) :: ps => by rw [PV.frzDk, List.map_cons, List.map_cons, frzDk_snd ps, PV.frzDs]
theorem frzDf_snd : ∀ ps : List (Str × PV), (PV.frzDf ps).map (·.2) = PV.frzDs (ps.map (·.2))
  | [] => rfl
  | (k, x) :: ps => by rw [PV.frzDf, List.map_cons, List.map_cons, frzDf_snd ps, PV.frzDs]
mutual
/-- freezing: nothing changes but what is owned -/
theorem RV.frzD (nb : ∀ b, B' b → B b ∧ b ∉ G) : ∀ {x : PV} {v : V} {F : List Addr}, RV K mg H B x v F → (∀ b ∈ F, b ∈ G) → RV K mg H B' x.frzD v []
  | _, _, _, .non, _ => .non
  | _, _, _, .bl b, _ => .bl b
  | _, _, _, .int b, _ => .int b
  | _, _, _, .str b, _ => .str b
  | _, _, _, .ty b, _ => .ty b
  | _, _, _, .fn h, _ => .fn h
  | _, _, _, .tup h r, d => .tup h (RVs.frzD nb r d)
  | _, _, _, .lstF h nB r, d => .lstF h (fun z => nB (nb _ z).1) (RVs.weakB nb r rfl)
  | _, _, _, .zls h r, d => .zls (h.weak fun z => (nb _ z).1) (RVs.weakB nb r rfl)
  | _, _, _, .lstO h b r, d => .lstF h (fun z => (nb _ z).2 (d _ (.head _))) (RVs.frzD nb r fun c hc => d c (.tail _ hc))
  | _, _, _, .dicF h nB e r, d => .dicF h (fun z => nB (nb _ z).1) e (RVs.weakB nb r rfl)
  | _, _, _, .dicO h b e r, d => .dicF (.inl h) (fun z => (nb _ z).2 (d _ (.head _))) ((frzDk_fst _).trans e) (by rw [frzDk_snd]; exact RVs.frzD nb r fun c hc => d c (.tail _ hc))
  | _, _, _, .insF h nB g e r, d => .insF h (fun z => nB (nb _ z).1) g e (RVs.weakB nb r rfl)
  | _, _, _, .insO h b g e r, d => .insF h (fun z => (nb _ z).2 (d _ (.head _))) g ((frzDf_fst _).trans e) (by rw [frzDf_snd]; exact RVs.frzD nb r fun c hc => d c (.tail _ hc))
theorem RVs.frzD (nb : ∀ b, B' b → B b ∧ b ∉ G) : ∀ {xs : List PV} {vs : List V} {F : List Addr}, RVs K mg H B xs vs F → (∀ b ∈ F, b ∈ G) → RVs K mg H B' (PV.frzDs xs) vs []
  | _, _, _, .nil, _ => .nil
  | _, _, _, .cons r t, d => .cons (F := []) (G := []) (RV.frzD nb r fun b hb => d b (List.mem_append_left _ hb)) (RVs.frzD nb t fun b hb => d b (List.mem_append_right _ hb))
/-- the same where nothing within is owned -/
theorem RV.weakB (nb : ∀ b, B' b → B b ∧ b ∉ G) : ∀ {x : PV} {v : V} {F : List Addr}, RV K mg H B x v F → F = [] → RV K mg H B' x v []
  | _, _, _, .non, _ => .non
  | _, _, _, .bl b, _ => .bl b
  | _, _, _, .int b, _ => .int b
  | _, _, _, .str b, _ => .str b
  | _, _, _, .ty b, _ => .ty b
  | _, _, _, .fn h, _ => .fn h
  | _, _, _, .tup h r, d => .tup h (RVs.weakB nb r d)
  | _, _, _, .lstF h nB r, d => .lstF h (fun z => nB (nb _ z).1) (RVs.weakB nb r rfl)
  | _, _, _, .zls h r, d => .zls (h.weak fun z => (nb _ z).1) (RVs.weakB nb r rfl)
  | _, _, _, .lstO h b r, d => nomatch d
  | _, _, _, .dicF h nB e r, d => .dicF h (fun z => nB (nb _ z).1) e (RVs.weakB nb r rfl)
  | _, _, _, .dicO h b e r, d => nomatch d
  | _, _, _, .insF h nB g e r, d => .insF h (fun z => nB (nb _ z).1) g e (RVs.weakB nb r rfl)
  | _, _, _, .insO h b g e r, d => nomatch d
theorem RVs.weakB (nb : ∀ b, B' b → B b ∧ b ∉ G) : ∀ {xs : List PV} {vs : List V} {F : List Addr}, RVs K mg H B xs vs F → F = [] → RVs K mg H B' xs vs []
  | _, _, _, .nil, _ => .nil
  | _, _, _, .cons r t, d => .cons (F := []) (G := []) (RV.weakB nb r (List.append_eq_nil_iff.mp d).1) (RVs.weakB nb t (List.append_eq_nil_iff.mp d).2)
end

theorem RV.frz (nb : ∀ b, B' b → B b ∧ b ∉ F) (r : RV K mg H B x v F) : RV K mg H B' x.frz v [] := by
  unfold PV.frz
  split
  · rename_i h
    obtain rfl := r.pure h
    exact RV.weakB (G := []) nb r rfl
  · exact RV.frzD nb r fun b hb => hb

theorem RVs.length (r : RVs K mg H B xs vs F) : xs.length = vs.length := by
  induction xs generalizing vs F with
  | nil => cases r; rfl
  | cons x xs ih => cases r with | cons a b => simp [ih b]
/-- the i-th item -/
theorem RVs.at : ∀ {xs : List PV} {vs : List V} {F : List Addr} {i : Nat} {x : PV}, RVs K mg H B xs vs F → xs[i]? = some x →
    ∃ v F1 G F2, vs[i]? = some v ∧ RV K mg H B x v G ∧ F = F1 ++ G ++ F2 ∧ ∀ x' v' G', RV K mg H B x' v' G' → RVs K mg H B (xs.set i x') (vs.set i v') (F1 ++ G' ++ F2)
  | _, _, _, _, _, .nil, e => by simp at e
  | _, _, _, 0, x, .cons (F := F) (G := G) r t, e => by
    simp at e
    subst e
    refine ⟨_, [], F, G, rfl, r, by simp, fun x' v' G' r' => ?_⟩
    simpa using RVs.cons r' t
  | _, _, _, i + 1, x, .cons (F := F) (G := G) r t, e => by
    obtain ⟨v, F1, G1, F2, h1, h2, h3, h4⟩ := RVs.at (i := i) t (by simpa using e)
    refine ⟨v, F ++ F1, G1, F2, by simpa using h1, h2, by rw [h3]; simp, fun x' v' G' r' => ?_⟩
    have := RVs.cons r (h4 x' v' G' r')
    simpa using this
theorem RVs.none_of (r : RVs K mg H B xs vs F) {i : Nat} (e : xs[i]? = none) : vs[i]? = none := by
  have := r.length
  rw [List.getElem?_eq_none_iff] at e ⊢
  omega
theorem RVs.append : ∀ {xs ys : List PV} {vs us : List V} {F G : List Addr}, RVs K mg H B xs vs F → RVs K mg H B ys us G → RVs K mg H B (xs ++ ys) (vs ++ us) (F ++ G)
  | _, _, _, _, _, _, .nil, s => s
  | _, _, _, _, _, _, .cons r t, s => by
    have := RVs.cons r (RVs.append t s)
    simpa using this
theorem RVs.pureAt (r : RVs K mg H B xs vs []) : ∀ {i : Nat} {x : PV} {v : V}, xs[i]? = some x → vs[i]? = some v → RV K mg H B x v [] := fun {i x v} e1 e2 => by
  obtain ⟨v', F1, G, F2, h1, h2, h3, _⟩ := r.at e1
  rw [e2] at h1
  cases h1
  have : G = [] := by
    have := h3.symm
    simp at this
    exact this.2.1
  rw [this] at h2
  exact h2
theorem RVs.take : ∀ {xs : List PV} {vs : List V} {n : Nat}, RVs K mg H B xs vs [] → RVs K mg H B (xs.take n) (vs.take n) []
  | _, _, 0, _ => by simp; exact .nil
  | _, _, n + 1, r => by
    generalize hF : ([] : List Addr) = F at r
    cases r with
    | nil => exact .nil
    | cons r t =>
      obtain ⟨rfl, rfl⟩ := List.append_eq_nil_iff.mp hF.symm
      exact .cons (F := []) (G := []) r (RVs.take t)
theorem RVs.drop : ∀ {xs : List PV} {vs : List V} {n : Nat}, RVs K mg H B xs vs [] → RVs K mg H B (xs.drop n) (vs.drop n) []
  | _, _, 0, r => r
  | _, _, n + 1, r => by
    generalize hF : ([] : List Addr) = F at r
    cases r with
    | nil => exact .nil
    | cons r t =>
      obtain ⟨rfl, rfl⟩ := List.append_eq_nil_iff.mp hF.symm
      exact RVs.drop (n := n) t

/-! ### from state to state -/
theorem Keep.refl : Keep W H B H B := fun _ _ e _ => ⟨e, Iff.rfl⟩
theorem Keep.mono {W' : List Addr} (k : Keep W H B H' B') (h : ∀ b ∈ W, b ∈ W') : Keep W' H B H' B' := fun b o e n => k b o e fun z => n (h b z)
structure Step (H : Hp) (B : Addr → Prop) (F : List Addr) (H' : Hp) (B' : Addr → Prop) (F' : List Addr) : Prop where
  own : ∀ b ∈ F', b ∈ F ∨ H b = none
  keep : Keep F H B H' B'
theorem Step.refl : Step H B F H B F := ⟨fun _ h => .inl h, Keep.refl⟩
theorem Step.trans {H1 H2 : Hp} {B1 B2 : Addr → Prop} {F1 F2 : List Addr} (a : Step H B F H1 B1 F1) (b : Step H1 B1 F1 H2 B2 F2) : Step H B F H2 B2 F2 where
  own := fun c hc => by
    rcases b.own c hc with h | h
    · exact a.own c h
    · by_cases hF : c ∈ F
      · exact .inl hF
      · cases e : H c with
        | none => exact .inr rfl
        | some o => rw [(a.keep c o e hF).1] at h; cases h
  keep := fun c o e n => by
    obtain ⟨e1, i1⟩ := a.keep c o e n
    obtain ⟨e2, i2⟩ := b.keep c o e1 fun z => by
      rcases a.own c z with q | q
      · exact n q
      · rw [e] at q; cases q
    exact ⟨e2, i2.trans i1⟩
/-- less is owned behind it -/
theorem Step.less {F1 F2 : List Addr} (a : Step H B F H' B' F1) (h : ∀ b ∈ F2, b ∈ F1) : Step H B F H' B' F2 := ⟨fun b hb => a.own b (h b hb), a.keep⟩
theorem Step.congrF {F1 F2 : List Addr} (a : Step H B F H' B' F1) (h : ∀ b, b ∈ F ↔ b ∈ F2) : Step H B F2 H' B' F1 := ⟨fun b hb => (a.own b hb).imp (h b).mp id, a.keep.mono fun b hb => (h b).mp hb⟩
/-- something that is owned stands beside -/
theorem Step.beside {F1 : List Addr} (a : Step H B F H' B' F1) (W : List Addr) : Step H B (W ++ F) H' B' (W ++ F1) where
  own := fun b hb => (List.mem_append.mp hb).elim (fun z => .inl (List.mem_append_left _ z)) fun z => (a.own b z).elim (fun q => .inl (List.mem_append_right _ q)) .inr
  keep := a.keep.mono fun b hb => List.mem_append_right _ hb
theorem Keep.trans0 {H1 H2 : Hp} {B1 B2 : Addr → Prop} (a : Keep [] H B H1 B1) (b : Keep [] H1 B1 H2 B2) : Keep [] H B H2 B2 := fun c o e n => by
  obtain ⟨e1, i1⟩ := a c o e n
  obtain ⟨e2, i2⟩ := b c o e1 n
  exact ⟨e2, i2.trans i1⟩
theorem MutW.nil : MutW [] H B := fun _ h => nomatch h
theorem RV.keep0 (k : Keep [] H B H' B') (r : RV K mg H B x v F) : RV K mg H' B' x v F := r.keep k MutW.nil fun _ _ h => nomatch h
theorem RVs.keep0 (k : Keep [] H B H' B') (r : RVs K mg H B xs vs F) : RVs K mg H' B' xs vs F := r.keep k MutW.nil fun _ _ h => nomatch h
/-- a new object -/
theorem Keep.new {p : Addr} {o : HO} (h : H p = none) : Keep [] H B (upd H p o) B := fun b u e _ => ⟨by rw [upd_ne (ne_of_none e h)]; exact e, Iff.rfl⟩
/-- a new object that is owned -/
def own1 (B : Addr → Prop) (p : Addr) : Addr → Prop := fun b => b = p ∨ B b
theorem Keep.newO {p : Addr} {o : HO} (h : H p = none) : Keep [] H B (upd H p o) (own1 B p) := fun b u e _ => by
  have hb : b ≠ p := ne_of_none e h
  exact ⟨by rw [upd_ne hb]; exact e, ⟨fun z => z.elim (fun q => absurd q hb) id, .inr⟩⟩
/-- a new object that is not -/
def not1 (B : Addr → Prop) (p : Addr) : Addr → Prop := fun b => b ≠ p ∧ B b
theorem Keep.newF {p : Addr} {o : HO} (h : H p = none) : Keep [] H B (upd H p o) (not1 B p) := fun b u e _ => by
  have hb : b ≠ p := ne_of_none e h
  exact ⟨by rw [upd_ne hb]; exact e, ⟨fun z => z.2, fun z => ⟨hb, z⟩⟩⟩
end

/-! ### a def's names -/
/-- what a name holds: nothing; a value of its own; an argument that the caller owns -/
inductive Slot where
  | un
  | val (v : PV)
  | ref (v : PV)
abbrev Rho := List Slot
abbrev Sg := List (Option V)
section
variable (K : PySem.W.Frag) (mg : Str → Option Value) (H : Hp) (B : Addr → Prop)
inductive RSl : Slot → Option V → V → List Addr → Prop
  | un {y : Option V} {p : V} : RSl .un y p []
  | val {v : PV} {x p : V} {F : List Addr} : RV K mg H B v x F → RSl (.val v) (some x) p F
  | ref {v : PV} {p : V} {F : List Addr} : RV K mg H B v p F → RSl (.ref v) (some p) p F
inductive RSs : Rho → Sg → List V → List Addr → Prop
  | nil : RSs [] [] [] []
  | cons {s : Slot} {y : Option V} {p : V} {ρ : Rho} {σ : Sg} {P : List V} {F G : List Addr} : RSl K mg H B s y p F → RSs ρ σ P G → RSs (s :: ρ) (y :: σ) (p :: P) (F ++ G)
/-- the names stand -/
structure Rel (P : List V) (ρ : Rho) (σ : Sg) (F : List Addr) : Prop where
  slots : RSs K mg H B ρ σ P F
  nd : F.Nodup
end
section
variable {K : PySem.W.Frag} {mg : Str → Option Value} {H H' : Hp} {B B' : Addr → Prop} {x : PV} {xs : List PV} {v : V} {vs : List V} {F G W : List Addr} {P : List V} {ρ : Rho} {σ : Sg}
theorem RSs.keep (k : Keep W H B H' B') (m : MutW W H B) : ∀ {ρ : Rho} {σ : Sg} {P : List V} {F : List Addr}, RSs K mg H B ρ σ P F → (∀ b ∈ F, b ∉ W) → RSs K mg H' B' ρ σ P F
  | _, _, _, _, .nil, _ => .nil
  | _, _, _, _, .cons .un t, d => .cons .un (RSs.keep k m t d)
  | _, _, _, _, .cons (.val r) t, d => .cons (.val (r.keep k m fun b hb => d b (List.mem_append_left _ hb))) (RSs.keep k m t fun b hb => d b (List.mem_append_right _ hb))
  | _, _, _, _, .cons (.ref r) t, d => .cons (.ref (r.keep k m fun b hb => d b (List.mem_append_left _ hb))) (RSs.keep k m t fun b hb => d b (List.mem_append_right _ hb))
theorem RSs.keep1 {s : Slot} {y : Option V} {p : V} (k : Keep W H B H' B') (m : MutW W H B) (r : RSl K mg H B s y p F) (d : ∀ b ∈ F, b ∉ W) : RSl K mg H' B' s y p F := by
  cases r with
  | un => exact .un
  | val r => exact .val (r.keep k m d)
  | ref r => exact .ref (r.keep k m d)
theorem RSs.mut : ∀ {ρ : Rho} {σ : Sg} {P : List V} {F : List Addr}, RSs K mg H B ρ σ P F → MutW F H B
  | _, _, _, _, .nil => fun _ h => nomatch h
  | _, _, _, _, .cons .un t => RSs.mut t
  | _, _, _, _, .cons (.val r) t => fun c hc => (List.mem_append.mp hc).elim (r.mut c) (RSs.mut t c)
  | _, _, _, _, .cons (.ref r) t => fun c hc => (List.mem_append.mp hc).elim (r.mut c) (RSs.mut t c)
theorem RSs.lens : ∀ {ρ : Rho} {σ : Sg} {P : List V} {F : List Addr}, RSs K mg H B ρ σ P F → ρ.length = σ.length ∧ ρ.length = P.length
  | _, _, _, _, .nil => ⟨rfl, rfl⟩
  | _, _, _, _, .cons _ t => by simp [(RSs.lens t).1, ← (RSs.lens t).2]
/-- the i-th name; the other ones over a step that does not touch them -/
theorem RSs.at : ∀ {ρ : Rho} {σ : Sg} {P : List V} {F : List Addr} {i : Nat} {s : Slot}, RSs K mg H B ρ σ P F → ρ[i]? = some s →
    ∃ y p F1 G F2, σ[i]? = some y ∧ P[i]? = some p ∧ RSl K mg H B s y p G ∧ F = F1 ++ G ++ F2 ∧
      ∀ (H' : Hp) (B' : Addr → Prop) (W : List Addr), Keep W H B H' B' → MutW W H B → (∀ b ∈ F1, b ∉ W) → (∀ b ∈ F2, b ∉ W) →
        (∀ s' G', RSl K mg H' B' s' y p G' → RSs K mg H' B' (ρ.set i s') σ P (F1 ++ G' ++ F2)) ∧
        ∀ s' y' G', RSl K mg H' B' s' y' p G' → RSs K mg H' B' (ρ.set i s') (σ.set i y') P (F1 ++ G' ++ F2)
  | _, _, _, _, _, _, .nil, e => by simp at e
  | _, _, _, _, 0, s, .cons (F := F) (G := G) r t, e => by
    simp at e
    subst e
    refine ⟨_, _, [], F, G, rfl, rfl, r, by simp, fun H' B' W k m d1 d2 => ?_⟩
    have t' := t.keep k m d2
    exact ⟨fun s' G' r' => by simpa using RSs.cons r' t', fun s' y' G' r' => by simpa using RSs.cons r' t'⟩
  | _, _, _, _, i + 1, s, .cons (F := F) (G := G) r t, e => by
    obtain ⟨y, p, F1, G1, F2, h1, hp, h2, h3, h4⟩ := RSs.at (i := i) t (by simpa using e)
    refine ⟨y, p, F ++ F1, G1, F2, by simpa using h1, by simpa using hp, h2, by rw [h3]; simp, fun H' B' W k m d1 d2 => ?_⟩
    obtain ⟨k1, k2⟩ := h4 H' B' W k m (fun b hb => d1 b (List.mem_append_right _ hb)) d2
    have r' := RSs.keep1 k m r fun b hb => d1 b (List.mem_append_left _ hb)
    exact ⟨fun s' G' q => by simpa using RSs.cons r' (k1 s' G' q), fun s' y' G' q => by simpa using RSs.cons r' (k2 s' y' G' q)⟩
/-- every name has its place -/
theorem RSs.get (r : RSs K mg H B ρ σ P F) {i : Nat} (h : i < σ.length) : ∃ s, ρ[i]? = some s := by
  have := r.lens.1
  exact ⟨ρ[i], by rw [List.getElem?_eq_getElem]⟩
end
end GX

/-! GX: the judgements over HandS's PE, PA, PT; operands. -/
namespace GX
open PySem PySem.Spec PyProof.Rows L2

abbrev M (α : Type) := Rho → Option (α × Rho)
/-- an operand: a name (looked at when it is used), a value of its own, a value that is part of a name's -/
inductive Opd where
  | sl (i : Nat)
  | tm (v : PV)
  | pk (v : PV)
abbrev O := M Opd
def Slot.get : Slot → Option PV
  | .un => none
  | .val v => some v
  | .ref v => some v
def deref : Opd → Rho → Option PV
  | .tm v, _ => some v
  | .pk v, _ => some v
  | .sl i, ρ => (ρ[i]?).bind Slot.get
def derefs : List Opd → Rho → Option (List PV)
  | [], _ => some []
  | o :: os, ρ => (deref o ρ).bind fun v => (derefs os ρ).bind fun vs => some (v :: vs)

section
variable (q : Bool) (K : PySem.W.Frag) (mg : Str → Option Value) (P : List V)
/-- behind an expression -/
structure PoE (σ : Sg) (ρ : Rho) (H : Hp) (B : Addr → Prop) (F : List Addr) (v : PV) (ρ' : Rho) (x : V) (H' : Hp) (B' : Addr → Prop) (G F' : List Addr) : Prop where
  rv : RV K mg H' B' v x G
  sl : RSs K mg H' B' ρ' σ P F'
  nd : (G ++ F').Nodup
  st : Step H B F H' B' (G ++ F')
  ro : q = true → ρ' = ρ ∧ F' = F ∧ Keep [] H B H' B'
def tE (f : M PV) : TE := fun σ H Q => ∃ ρ B F v ρ', Rel K mg H B P ρ σ F ∧ f ρ = some (v, ρ') ∧ ∀ x H' B' G F', PoE q K mg P σ ρ H B F v ρ' x H' B' G F' → Q x H'
/-- an operand as it stands -/
def OV (σ : Sg) (H : Hp) (B : Addr → Prop) (F : List Addr) : Opd → V → List Addr → Prop
  | .sl i, x, G => σ[i]? = some (some x) ∧ G = []
  | .tm v, x, G => RV K mg H B v x G
  | .pk v, x, G => G = [] ∧ ∃ W, RV K mg H B v x W ∧ ∀ b ∈ W, b ∈ F
structure PoO (σ : Sg) (ρ : Rho) (H : Hp) (B : Addr → Prop) (F : List Addr) (o : Opd) (ρ' : Rho) (x : V) (H' : Hp) (B' : Addr → Prop) (G F' : List Addr) : Prop where
  ov : OV K mg σ H' B' F' o x G
  sl : RSs K mg H' B' ρ' σ P F'
  nd : (G ++ F').Nodup
  st : Step H B F H' B' (G ++ F')
  ro : q = true → ρ' = ρ ∧ F' = F ∧ Keep [] H B H' B'
def tO (f : O) : TE := fun σ H Q => ∃ ρ B F o ρ', Rel K mg H B P ρ σ F ∧ f ρ = some (o, ρ') ∧ ∀ x H' B' G F', PoO q K mg P σ ρ H B F o ρ' x H' B' G F' → Q x H'
inductive OVs (σ : Sg) (H : Hp) (B : Addr → Prop) (F : List Addr) : List Opd → List V → List Addr → Prop
  | nil : OVs σ H B F [] [] []
  | cons {o : Opd} {os : List Opd} {x : V} {xs : List V} {G Gs : List Addr} : OV K mg σ H B F o x G → OVs σ H B F os xs Gs → OVs σ H B F (o :: os) (x :: xs) (G ++ Gs)
structure PoA (σ : Sg) (ρ : Rho) (H : Hp) (B : Addr → Prop) (F : List Addr) (os : List Opd) (ρ' : Rho) (xs : List V) (H' : Hp) (B' : Addr → Prop) (G F' : List Addr) : Prop where
  ov : OVs K mg σ H' B' F' os xs G
  sl : RSs K mg H' B' ρ' σ P F'
  nd : (G ++ F').Nodup
  st : Step H B F H' B' (G ++ F')
  ro : q = true → ρ' = ρ ∧ F' = F ∧ Keep [] H B H' B'
def tA (f : M (List Opd)) : TA := fun σ H Q => ∃ ρ B F os ρ', Rel K mg H B P ρ σ F ∧ f ρ = some (os, ρ') ∧ ∀ xs H' B' G F', PoA q K mg P σ ρ H B F os ρ' xs H' B' G F' → Q xs H'
structure PoT (σ : Sg) (ρ : Rho) (H : Hp) (B : Addr → Prop) (F : List Addr) (ρ' : Rho) (H' : Hp) (B' : Addr → Prop) (F' : List Addr) : Prop where
  sl : RSs K mg H' B' ρ' σ P F'
  nd : F'.Nodup
  st : Step H B F H' B' F'
  ro : q = true → ρ' = ρ ∧ F' = F ∧ Keep [] H B H' B'
def tT (f : M Bool) : TT := fun σ H Q => ∃ ρ B F b ρ', Rel K mg H B P ρ σ F ∧ f ρ = some (b, ρ') ∧ ∀ H' B' F', PoT q K mg P σ ρ H B F ρ' H' B' F' → Q b H'
end

/-! ### weakening -/
theorem PE.weak {X : Cx} {e : Expr} {t t' : TE} (h : PE X e t) (w : ∀ σ H Q, t' σ H Q → t σ H Q) : PE X e t' := ⟨fun pins s σ H Q I q => h.run pins s σ H Q I (w σ H Q q)⟩
theorem PT.weak {X : Cx} {e : Expr} {t t' : TT} (h : PT X e t) (w : ∀ σ H Q, t' σ H Q → t σ H Q) : PT X e t' := ⟨fun pins s σ H Q I q => h.run pins s σ H Q I (w σ H Q q)⟩
theorem PW.weak {X : Cx} {e : Expr} {t t' : TT} (h : PW X e t) (w : ∀ σ H Q, t' σ H Q → t σ H Q) : PW X e t' := ⟨fun whole pins s σ H Q I q => h.run whole pins s σ H Q I (w σ H Q q)⟩
theorem PA.weak {X : Cx} {e : List Expr} {t t' : TA} (h : PA X e t) (w : ∀ σ H Q, t' σ H Q → t σ H Q) : PA X e t' := ⟨fun pos pins s σ H Q I q => h.run pos pins s σ H Q I (w σ H Q q)⟩
theorem PS.weak {X : Cx} {e : Stmt} {t t' : TS} (h : PS X e t) (w : ∀ D σ H, t' D σ H → t D σ H) : PS X e t' := ⟨fun pins s σ H D I q => h.run pins s σ H D I (w D σ H q)⟩
theorem PSs.weak {X : Cx} {e : List Stmt} {t t' : TS} (h : PSs X e t) (w : ∀ D σ H, t' D σ H → t D σ H) : PSs X e t' := ⟨fun pins s σ H D I q => h.run pins s σ H D I (w D σ H q)⟩
theorem PG.weak {X : Cx} {e : Expr} {t t' : TG} (h : PG X e t) (w : ∀ v σ H Q, t' v σ H Q → t v σ H Q) : PG X e t' := ⟨fun pins s σ H v u Q I r q => h.run pins s σ H v u Q I r (w v σ H Q q)⟩

section
variable {q : Bool} {K : PySem.W.Frag} {mg : Str → Option Value} {P : List V} {H H' H1 H2 : Hp} {B B' B1 B2 : Addr → Prop} {x y : V} {v w : PV} {xs : List PV} {vs : List V} {F F' F1 F2 G G1 G2 W : List Addr} {ρ ρ' ρ1 ρ2 : Rho} {σ : Sg} {o : Opd} {os : List Opd}

theorem nodup_r {A B : List Addr} (h : (A ++ B).Nodup) : B.Nodup := (List.nodup_append.mp h).2.1
theorem nodup_l {A B : List Addr} (h : (A ++ B).Nodup) : A.Nodup := (List.nodup_append.mp h).1
theorem nodup_ne {A B : List Addr} (h : (A ++ B).Nodup) : ∀ b ∈ A, b ∉ B := fun b h1 h2 => (List.nodup_append.mp h).2.2 b h1 b h2 rfl

theorem PoE.rel (p : PoE q K mg P σ ρ H B F v ρ' x H' B' G F') : Rel K mg H' B' P ρ' σ F' := ⟨p.sl, nodup_r p.nd⟩
theorem PoO.rel (p : PoO q K mg P σ ρ H B F o ρ' x H' B' G F') : Rel K mg H' B' P ρ' σ F' := ⟨p.sl, nodup_r p.nd⟩
theorem PoA.rel {xs : List V} (p : PoA q K mg P σ ρ H B F os ρ' xs H' B' G F') : Rel K mg H' B' P ρ' σ F' := ⟨p.sl, nodup_r p.nd⟩
theorem PoT.rel (p : PoT q K mg P σ ρ H B F ρ' H' B' F') : Rel K mg H' B' P ρ' σ F' := ⟨p.sl, p.nd⟩

/-- an owned temporary beside a step that does not touch it -/
theorem RV.over (r : RV K mg H1 B1 v x G) (nd : (G ++ F1).Nodup) (m : MutW F1 H1 B1) (st : Keep F1 H1 B1 H2 B2) : RV K mg H2 B2 v x G :=
  r.keep st m fun b hb => nodup_ne nd b hb
theorem nodup_beside (nd1 : (G ++ F1).Nodup) (r : MutW G H1 B1) (nd2 : F2.Nodup) (st : Step H1 B1 F1 H2 B2 F2) : (G ++ F2).Nodup := by
  refine List.nodup_append.mpr ⟨nodup_l nd1, nd2, fun a ha b hb e => ?_⟩
  subst e
  rcases st.own a hb with h | h
  · exact nodup_ne nd1 a ha h
  · have := (r a ha).2
    rw [h] at this
    exact this

/-- what an operand's value is where it is used -/
theorem OV.deref (h : OV K mg σ H B F o x G) (s : RSs K mg H B ρ σ P F) (e : deref o ρ = some v) : ∃ W, RV K mg H B v x W ∧ ∀ b ∈ W, b ∈ G ++ F := by
  cases o with
  | tm u =>
    have e : some u = some v := e
    cases e
    exact ⟨G, h, fun b hb => List.mem_append_left _ hb⟩
  | pk u =>
    have e : some u = some v := e
    cases e
    obtain ⟨rfl, W, r, m⟩ := h
    exact ⟨W, r, fun b hb => List.mem_append_right _ (m b hb)⟩
  | sl i =>
    obtain ⟨h1, rfl⟩ := h
    have e : (ρ[i]?).bind Slot.get = some v := e
    cases e1 : ρ[i]? with
    | none => rw [e1] at e; cases e
    | some s' =>
      rw [e1] at e
      obtain ⟨y, p, Fa, Ga, Fb, z1, _, z2, z3, z4⟩ := s.at e1
      rw [h1] at z1
      cases z1
      have sub : ∀ b ∈ Ga, b ∈ ([] : List Addr) ++ F := fun b hb => by rw [z3]; simp [hb]
      cases z2 with
      | un => cases e
      | val r => cases e; exact ⟨Ga, r, sub⟩
      | ref r => cases e; exact ⟨Ga, r, sub⟩
/-- an operand beside a step -/
theorem OV.over (h : OV K mg σ H1 B1 F1 o x G) (nd : (G ++ F1).Nodup) (m : MutW F1 H1 B1) (st : Keep F1 H1 B1 H2 B2) (np : (∀ v, o ≠ .pk v) ∨ (F2 = F1 ∧ Keep [] H1 B1 H2 B2)) : OV K mg σ H2 B2 F2 o x G := by
  cases o with
  | tm u => exact RV.over h nd m st
  | sl i => exact h
  | pk u =>
    rcases np with np | ⟨rfl, k⟩
    · exact absurd rfl (np u)
    · obtain ⟨e, W, r, z⟩ := h
      exact ⟨e, W, r.keep0 k, z⟩
theorem OV.mut (h : OV K mg σ H B F o x G) : MutW G H B := by
  cases o with
  | tm u => exact RV.mut h
  | sl i => obtain ⟨_, rfl⟩ := h; exact MutW.nil
  | pk u => obtain ⟨rfl, _⟩ := h; exact MutW.nil

/-! ### operands -/
def oSl (i : Nat) : O := fun ρ => ((ρ[i]?).bind Slot.get).bind fun _ => some (.sl i, ρ)
def oTm (f : M PV) : O := fun ρ => (f ρ).bind fun r => some (.tm r.1, r.2)
def oNil : M (List Opd) := fun ρ => some ([], ρ)
def oCons (a : O) (r : M (List Opd)) : M (List Opd) := fun ρ => (a ρ).bind fun z => (r z.2).bind fun z2 => some (z.1 :: z2.1, z2.2)

theorem bind_some {α β : Type} {a : Option α} {f : α → Option β} {b : β} (h : a.bind f = some b) : ∃ z, a = some z ∧ f z = some b := by
  cases a with
  | none => cases h
  | some z => exact ⟨z, rfl, h⟩
theorem slot_at {i : Nat} {u : PV} (s : RSs K mg H B ρ σ P F) (e : (ρ[i]?).bind Slot.get = some u) : ∃ x, σ[i]? = some (some x) := by
  obtain ⟨s', e1, e2⟩ := bind_some e
  obtain ⟨y, p, Fa, Ga, Fb, z1, _, z2, _⟩ := s.at e1
  cases z2 with
  | un => cases e2
  | val r => exact ⟨_, z1⟩
  | ref r => exact ⟨_, z1⟩
/-- never a part of a name's value -/
def NoPk (f : O) : Prop := ∀ ρ o ρ', f ρ = some (o, ρ') → ∀ v, o ≠ .pk v
theorem nopk_sl {i : Nat} : NoPk (oSl i) := fun ρ o ρ' e v h => by
  obtain ⟨u, z1, z2⟩ := bind_some e
  subst h
  cases z2
theorem nopk_tm {f : M PV} : NoPk (oTm f) := fun ρ o ρ' e v h => by
  obtain ⟨u, z1, z2⟩ := bind_some e
  subst h
  cases z2
theorem go_sl {X : Cx} {e : Expr} {i : Nat} (h : PE X e (tVar i)) : PE X e (tO q K mg P (oSl i)) := by
  refine PE.weak h fun σ H Q ⟨ρ, B, F, o, ρ', R, e1, k⟩ => ?_
  obtain ⟨u, z1, z2⟩ := bind_some e1
  cases z2
  obtain ⟨x, hx⟩ := slot_at R.slots z1
  exact ⟨x, hx, k x H B [] F ⟨⟨hx, rfl⟩, R.slots, R.nd, Step.refl, fun _ => ⟨rfl, rfl, Keep.refl⟩⟩⟩
theorem go_tm {X : Cx} {e : Expr} {f : M PV} (h : PE X e (tE q K mg P f)) : PE X e (tO q K mg P (oTm f)) := by
  refine PE.weak h fun σ H Q ⟨ρ, B, F, o, ρ', R, e1, k⟩ => ?_
  obtain ⟨⟨u, ρ1⟩, z1, z2⟩ := bind_some e1
  cases z2
  exact ⟨ρ, B, F, u, ρ1, R, z1, fun x H' B' G F' p => k x H' B' G F' ⟨p.rv, p.sl, p.nd, p.st, p.ro⟩⟩
theorem ga_nil {X : Cx} : PA X [] (tA q K mg P oNil) := by
  refine PA.weak pa_nil fun σ H Q ⟨ρ, B, F, os, ρ', R, e1, k⟩ => ?_
  cases e1
  exact k [] H B [] F ⟨.nil, R.slots, R.nd, Step.refl, fun _ => ⟨rfl, rfl, Keep.refl⟩⟩
theorem ga_one {X : Cx} {e : Expr} {f : O} (h : PE X e (tO q K mg P f)) (hs : starEach [e] X.env = (false, eval e X.env) :: starEach [] X.env := by rfl) : PA X [e] (tA q K mg P (oCons f oNil)) := by
  refine PA.weak (pa_cons h pa_nil hs) fun σ H Q ⟨ρ, B, F, os, ρ', R, e1, k⟩ => ?_
  obtain ⟨⟨o, ρ1⟩, z1, z2⟩ := bind_some e1
  cases z2
  refine ⟨ρ, B, F, o, ρ1, R, z1, fun x H1 B1 G1 F1 p1 => ?_⟩
  have e0 : G1 ++ [] = G1 := List.append_nil _
  exact k [x] H1 B1 (G1 ++ []) F1 ⟨.cons p1.ov .nil, p1.sl, by rw [e0]; exact p1.nd, by rw [e0]; exact p1.st, p1.ro⟩
theorem ga_cons {X : Cx} {e : Expr} {es : List Expr} {f : O} {fs : M (List Opd)} (h : PE X e (tO q K mg P f)) (hr : PA X es (tA q K mg P fs)) (hp : NoPk f ∨ q = true := by first | exact .inl nopk_sl | exact .inl nopk_tm | exact .inr rfl | assumption)
    (hs : starEach (e :: es) X.env = (false, eval e X.env) :: starEach es X.env := by rfl) : PA X (e :: es) (tA q K mg P (oCons f fs)) := by
  refine PA.weak (pa_cons h hr hs) fun σ H Q ⟨ρ, B, F, os, ρ', R, e1, k⟩ => ?_
  obtain ⟨⟨o, ρ1⟩, z1, z2⟩ := bind_some e1
  obtain ⟨⟨os', ρ2⟩, z3, z4⟩ := bind_some z2
  cases z4
  refine ⟨ρ, B, F, o, ρ1, R, z1, fun x H1 B1 G1 F1 p1 => ?_⟩
  refine ⟨ρ1, B1, F1, os', ρ2, p1.rel, z3, fun xs H2 B2 G2 F2 p2 => ?_⟩
  have m1 := p1.sl.mut
  have np : (∀ v, o ≠ .pk v) ∨ (F2 = F1 ∧ Keep [] H1 B1 H2 B2) := hp.imp (fun n => n _ _ _ z1) fun e => (p2.ro e).2
  have ov := p1.ov.over p1.nd m1 (p2.st.keep) np
  refine k (x :: xs) H2 B2 (G1 ++ G2) F2 ⟨.cons ov p2.ov, p2.sl, ?_, ?_, fun e => ?_⟩
  · rw [List.append_assoc]
    exact nodup_beside p1.nd p1.ov.mut p2.nd p2.st
  · rw [List.append_assoc]
    exact p1.st.trans (p2.st.beside G1)
  · obtain ⟨a1, a2, a3⟩ := p1.ro e
    obtain ⟨b1, b2, b3⟩ := p2.ro e
    exact ⟨b1.trans a1, b2.trans a2, a3.trans0 b3⟩

/-! ### names, constants -/
/-- a name as a value: what it owns is frozen there -/
def cName (i : Nat) : M PV := fun ρ => (ρ[i]?).bind fun s => match s with
  | .un => none
  | .val v => if v.pure then some (v, ρ) else some (v.frz, ρ.set i (.val v.frz))
  | .ref v => if v.pure then some (v, ρ) else some (v.frz, ρ.set i (.ref v.frz))
/-- .. that owns nothing -/
def cNameR (i : Nat) : M PV := fun ρ => ((ρ[i]?).bind Slot.get).bind fun v => if v.pure then some (v, ρ) else none
def cC (v : PV) : M PV := fun ρ => some (v, ρ)
theorem ge_const {X : Cx} {e : Expr} {v : PV} {x : V} (h : PE X e (tC x)) (r : ∀ H B, RV K mg H B v x []) : PE X e (tE q K mg P (cC v)) := by
  refine PE.weak h fun σ H Q ⟨ρ, B, F, u, ρ', R, e1, k⟩ => ?_
  cases e1
  exact k x H B [] F ⟨r H B, R.slots, R.nd, Step.refl, fun _ => ⟨rfl, rfl, Keep.refl⟩⟩
theorem ge_int {X : Cx} {i j pos} : PE X (.Constant (.int i) j pos) (tE q K mg P (cC (.int i))) := ge_const pe_int fun _ _ => .int i
theorem ge_bl {X : Cx} {i j pos} : PE X (.Constant (.bool i) j pos) (tE q K mg P (cC (.bl i))) := ge_const pe_bl fun _ _ => .bl i
theorem ge_non {X : Cx} {j pos} : PE X (.Constant .none j pos) (tE q K mg P (cC .non)) := ge_const pe_non fun _ _ => .non
theorem ge_str {X : Cx} {i j pos} : PE X (.Constant (.str i) j pos) (tE q K mg P (cC (.str i))) := ge_const pe_str fun _ _ => .str i
theorem pure_get {i : Nat} {u : PV} {x : V} (s : RSs K mg H B ρ σ P F) (e : (ρ[i]?).bind Slot.get = some u) (hp : u.pure = true) (hx : σ[i]? = some (some x)) : RV K mg H B u x [] := by
  obtain ⟨W, r, _⟩ := OV.deref (o := .sl i) (x := x) (G := []) ⟨hx, rfl⟩ s e
  have := r.pure hp
  subst this
  exact r
theorem ge_nameR {X : Cx} {e : Expr} {i : Nat} (h : PE X e (tVar i)) : PE X e (tE q K mg P (cNameR i)) := by
  refine PE.weak h fun σ H Q ⟨ρ, B, F, u, ρ', R, e1, k⟩ => ?_
  obtain ⟨w, z1, z2⟩ := bind_some e1
  split at z2
  · rename_i hp
    cases z2
    obtain ⟨x, hx⟩ := slot_at R.slots z1
    exact ⟨x, hx, k x H B [] F ⟨pure_get R.slots z1 hp hx, R.slots, R.nd, Step.refl, fun _ => ⟨rfl, rfl, Keep.refl⟩⟩⟩
  · cases z2
theorem nodup_mid {A C : List Addr} (h : (A ++ G ++ C).Nodup) : (A ++ [] ++ C).Nodup := by
  refine List.Nodup.sublist ?_ h
  simp
theorem mid_sub {A C : List Addr} : ∀ b ∈ A ++ [] ++ C, b ∈ A ++ G ++ C := fun b hb => by
  simp at hb ⊢
  rcases hb with h | h
  · exact .inl h
  · exact .inr (.inr h)
theorem freeze_keep : Keep G H B H (fun b => B b ∧ b ∉ G) := fun b o e n => ⟨e, ⟨fun z => z.1, fun z => ⟨z, n⟩⟩⟩
theorem frz_slot {i : Nat} {v : PV} {s1 : Slot} {s0 : Slot} (R : Rel K mg H B P ρ σ F) (e : ρ[i]? = some s0)
    (c : (s0 = .val v ∧ s1 = .val v.frz) ∨ (s0 = .ref v ∧ s1 = .ref v.frz)) :
    ∃ x B' F', σ[i]? = some (some x) ∧ RV K mg H B' v.frz x [] ∧ RSs K mg H B' (ρ.set i s1) σ P F' ∧ F'.Nodup ∧ Step H B F H B' F' := by
  obtain ⟨y, p, F1, G, F2, h1, h2, h3, h4, h5⟩ := R.slots.at e
  have nd := R.nd
  rw [h4] at nd
  obtain ⟨n1, n2⟩ : (∀ b ∈ F1, b ∉ G) ∧ (∀ b ∈ F2, b ∉ G) :=
    ⟨fun b hb => nodup_ne (nodup_l nd) b hb, fun b hb hg => nodup_ne nd b (List.mem_append_right _ hg) hb⟩
  have kp : Keep G H B H (fun b => B b ∧ b ∉ G) := freeze_keep
  have mu : MutW G H B := by
    rcases c with ⟨rfl, rfl⟩ | ⟨rfl, rfl⟩
    · cases h3 with | val r => exact r.mut
    · cases h3 with | ref r => exact r.mut
  obtain ⟨k1, _⟩ := h5 H _ G kp mu n1 n2
  have st : Step H B F H (fun b => B b ∧ b ∉ G) (F1 ++ [] ++ F2) := by
    refine ⟨fun b hb => .inl ?_, kp.mono fun b hb => ?_⟩
    · rw [h4]
      exact mid_sub b hb
    · rw [h4]
      simp [hb]
  rcases c with ⟨rfl, rfl⟩ | ⟨rfl, rfl⟩
  · cases h3 with
    | val r =>
      have rf := RV.frz (B' := fun b => B b ∧ b ∉ G) (fun b h => h) r
      exact ⟨_, _, _, h1, rf, k1 _ [] (.val rf), nodup_mid nd, st⟩
  · cases h3 with
    | ref r =>
      have rf := RV.frz (B' := fun b => B b ∧ b ∉ G) (fun b h => h) r
      exact ⟨_, _, _, h1, rf, k1 _ [] (.ref rf), nodup_mid nd, st⟩
theorem ge_name {X : Cx} {e : Expr} {i : Nat} (h : PE X e (tVar i)) : PE X e (tE false K mg P (cName i)) := by
  refine PE.weak h fun σ H Q ⟨ρ, B, F, u, ρ', R, e1, k⟩ => ?_
  obtain ⟨s', z1, z2⟩ := bind_some e1
  have same : ∀ w : PV, (ρ[i]?).bind Slot.get = some w → w.pure = true → (w, ρ) = (u, ρ') → tVar i σ H Q := fun w g hp e => by
    cases e
    obtain ⟨x, hx⟩ := slot_at R.slots g
    exact ⟨x, hx, k x H B [] F ⟨pure_get R.slots g hp hx, R.slots, R.nd, Step.refl, fun _ => ⟨rfl, rfl, Keep.refl⟩⟩⟩
  cases s' with
  | un => cases z2
  | val v =>
    by_cases hp : v.pure = true
    · exact same v (by rw [z1]; rfl) hp (by simpa [hp] using z2)
    · simp only [hp] at z2
      cases z2
      obtain ⟨x, B', F', g1, g2, g3, g4, g5⟩ := frz_slot (s1 := .val v.frz) R z1 (.inl ⟨rfl, rfl⟩)
      exact ⟨x, g1, k x H B' [] F' ⟨g2, g3, g4, g5, fun z => nomatch z⟩⟩
  | ref v =>
    by_cases hp : v.pure = true
    · exact same v (by rw [z1]; rfl) hp (by simpa [hp] using z2)
    · simp only [hp] at z2
      cases z2
      obtain ⟨x, B', F', g1, g2, g3, g4, g5⟩ := frz_slot (s1 := .ref v.frz) R z1 (.inr ⟨rfl, rfl⟩)
      exact ⟨x, g1, k x H B' [] F' ⟨g2, g3, g4, g5, fun z => nomatch z⟩⟩
end
end GX

/-! GX: operations on values. -/
namespace GX
open PySem PySem.Spec PyProof.Rows L2

section
variable (K : PySem.W.Frag) (mg : Str → Option Value)
/-- the value r comes, laid anew where it is an object -/
def New (H : Hp) (B : Addr → Prop) (r : PV) (Q : VK) : Prop := ∀ z H' B' G, RV K mg H' B' r z G → G.Nodup → (∀ b ∈ G, H b = none) → Keep [] H B H' B' → Q z H'
def rOp (g : PV → PV → Option PV) : R2 := fun x y H Q => ∃ B va vb Wa Wb r, RV K mg H B va x Wa ∧ RV K mg H B vb y Wb ∧ g va vb = some r ∧ New K mg H B r Q
def rUn (g : PV → Option PV) : V → Hp → VK → Prop := fun x H Q => ∃ B va Wa r, RV K mg H B va x Wa ∧ g va = some r ∧ New K mg H B r Q
def RX (H : Hp) (B : Addr → Prop) (v : PV) (x : V) : Prop := ∃ W, RV K mg H B v x W
def rCall (g : List PV → Option PV) : List V → Hp → VK → Prop := fun xs H Q => ∃ B vs r, Paired (RX K mg H B) vs xs ∧ g vs = some r ∧ New K mg H B r Q
def rTru (g : PV → Option Bool) : V → Hp → (Bool → Hp → Prop) → Prop := fun x H Q => ∃ B va Wa b, RV K mg H B va x Wa ∧ g va = some b ∧ Q b H
end

def cBin (g : PV → PV → Option PV) (a b : O) : M PV := fun ρ => (a ρ).bind fun z1 => (b z1.2).bind fun z2 => (deref z1.1 z2.2).bind fun va => (deref z2.1 z2.2).bind fun vb => (g va vb).bind fun r => some (r, z2.2)
def cUn (g : PV → Option PV) (a : O) : M PV := fun ρ => (a ρ).bind fun z1 => (deref z1.1 z1.2).bind fun va => (g va).bind fun r => some (r, z1.2)
def cCall (g : List PV → Option PV) (a : M (List Opd)) : M PV := fun ρ => (a ρ).bind fun z1 => (derefs z1.1 z1.2).bind fun vs => (g vs).bind fun r => some (r, z1.2)
def tTru (g : PV → Option Bool) (a : O) : M Bool := fun ρ => (a ρ).bind fun z1 => (deref z1.1 z1.2).bind fun va => (g va).bind fun r => some (r, z1.2)

section
variable {q : Bool} {K : PySem.W.Frag} {mg : Str → Option Value} {P : List V} {H H' H1 H2 : Hp} {B B' B1 B2 : Addr → Prop} {x y : V} {v w r : PV} {F F' F1 F2 G G1 G2 W : List Addr} {ρ ρ' ρ1 ρ2 : Rho} {σ : Sg}

theorem New.pure {Q : VK} {z : V} (h : New K mg H B r Q) (rv : RV K mg H B r z []) : Q z H := h z H B [] rv List.nodup_nil (fun _ h => nomatch h) Keep.refl
/-- behind an operation that reads -/
theorem fin_new {z : V} (ro : q = true → ρ2 = ρ ∧ F2 = F ∧ Keep [] H B H2 B2) (sl : RSs K mg H2 B2 ρ2 σ P F2) (nd : F2.Nodup) (st : Step H B F H2 B2 F2)
    (rv : RV K mg H' B' r z G) (ng : G.Nodup) (fr : ∀ b ∈ G, H2 b = none) (k : Keep [] H2 B2 H' B') : PoE q K mg P σ ρ H B F r ρ2 z H' B' G F2 where
  rv := rv
  sl := sl.keep k MutW.nil fun _ _ h => nomatch h
  nd := List.nodup_append.mpr ⟨ng, nd, fun a ha b hb e => by
    subst e
    have := (sl.mut a hb).2
    rw [fr a ha] at this
    exact this⟩
  st := st.trans ⟨fun b hb => (List.mem_append.mp hb).elim (fun z => .inr (fr b z)) .inl, k.mono fun _ h => nomatch h⟩
  ro := fun e => let ⟨a, b, c⟩ := ro e; ⟨a, b, c.trans0 k⟩

theorem bin_te {g : PV → PV → Option PV} {a b : O} {Q : VK} (hp : NoPk a ∨ q = true) (h : tE q K mg P (cBin g a b) σ H Q) : tOp (rOp K mg g) (tO q K mg P a) (tO q K mg P b) σ H Q := by
  obtain ⟨ρ, B, F, r, ρ', R, e1, k⟩ := h
  obtain ⟨⟨o1, ρ1⟩, z1, e1⟩ := bind_some e1
  obtain ⟨⟨o2, ρ2⟩, z2, e1⟩ := bind_some e1
  obtain ⟨va, d1, e1⟩ := bind_some e1
  obtain ⟨vb, d2, e1⟩ := bind_some e1
  obtain ⟨r, gr, e1⟩ := bind_some e1
  cases e1
  refine ⟨ρ, B, F, o1, ρ1, R, z1, fun x H1 B1 G1 F1 p1 => ?_⟩
  refine ⟨ρ1, B1, F1, o2, ρ2, p1.rel, z2, fun y H2 B2 G2 F2 p2 => ?_⟩
  have np : (∀ v, o1 ≠ .pk v) ∨ (F2 = F1 ∧ Keep [] H1 B1 H2 B2) := hp.imp (fun n => n _ _ _ z1) fun e => (p2.ro e).2
  have ov := p1.ov.over p1.nd p1.sl.mut p2.st.keep np
  obtain ⟨Wa, ra, _⟩ := ov.deref p2.sl d1
  obtain ⟨Wb, rb, _⟩ := p2.ov.deref p2.sl d2
  have st : Step H B F H2 B2 F2 := (p1.st.trans (p2.st.beside G1)).less fun b hb => List.mem_append_right _ (List.mem_append_right _ hb)
  refine ⟨B2, va, vb, Wa, Wb, r, ra, rb, gr, fun z H' B' G rv ng fr kp => k z H' B' G F2 ?_⟩
  exact fin_new (fun e => let ⟨a1, a2, a3⟩ := p1.ro e; let ⟨b1, b2, b3⟩ := p2.ro e; ⟨b1.trans a1, b2.trans a2, a3.trans0 b3⟩) p2.sl (nodup_r p2.nd) st rv ng fr kp
theorem un_te {g : PV → Option PV} {a : O} {Q : VK} (h : tE q K mg P (cUn g a) σ H Q) : tUn (rUn K mg g) (tO q K mg P a) σ H Q := by
  obtain ⟨ρ, B, F, r, ρ', R, e1, k⟩ := h
  obtain ⟨⟨o1, ρ1⟩, z1, e1⟩ := bind_some e1
  obtain ⟨va, d1, e1⟩ := bind_some e1
  obtain ⟨r, gr, e1⟩ := bind_some e1
  cases e1
  refine ⟨ρ, B, F, o1, ρ1, R, z1, fun x H1 B1 G1 F1 p1 => ?_⟩
  obtain ⟨Wa, ra, _⟩ := p1.ov.deref p1.sl d1
  refine ⟨B1, va, Wa, r, ra, gr, fun z H' B' G rv ng fr kp => k z H' B' G F1 ?_⟩
  exact fin_new p1.ro p1.sl (nodup_r p1.nd) (p1.st.less fun b hb => List.mem_append_right _ hb) rv ng fr kp
theorem ovs_derefs (s : RSs K mg H B ρ σ P F) : ∀ {os : List Opd} {xs : List V} {G : List Addr} {vs : List PV}, OVs K mg σ H B F os xs G → derefs os ρ = some vs → Paired (RX K mg H B) vs xs
  | [], _, _, _, .nil, e => by cases e; exact .nil
  | o :: os, _, _, vs, .cons h t, e => by
    obtain ⟨u, e1, e⟩ := bind_some e
    obtain ⟨us, e2, e⟩ := bind_some e
    cases e
    obtain ⟨W, r, _⟩ := h.deref s e1
    exact .cons ⟨W, r⟩ (ovs_derefs s t e2)
theorem call_te {g : List PV → Option PV} {a : M (List Opd)} {Q : VK} (h : tE q K mg P (cCall g a) σ H Q) : tA q K mg P a σ H fun vs H1 => rCall K mg g vs H1 Q := by
  obtain ⟨ρ, B, F, r, ρ', R, e1, k⟩ := h
  obtain ⟨⟨os, ρ1⟩, z1, e1⟩ := bind_some e1
  obtain ⟨vs, d1, e1⟩ := bind_some e1
  obtain ⟨r, gr, e1⟩ := bind_some e1
  cases e1
  refine ⟨ρ, B, F, os, ρ1, R, z1, fun xs H1 B1 G1 F1 p1 => ?_⟩
  refine ⟨B1, vs, r, ovs_derefs p1.sl p1.ov d1, gr, fun z H' B' G rv ng fr kp => k z H' B' G F1 ?_⟩
  exact fin_new p1.ro p1.sl (nodup_r p1.nd) (p1.st.less fun b hb => List.mem_append_right _ hb) rv ng fr kp
theorem ge_bin {X : Cx} {a b : Expr} {fa fb : O} {pos : Pos} {op : Operator} {g : PV → PV → Option PV} (ho : OpR X (binaryOp op) (rOp K mg g)) (ha : PE X a (tO q K mg P fa)) (hb : PE X b (tO q K mg P fb))
    (hp : NoPk fa ∨ q = true := by first | exact .inl nopk_sl | exact .inl nopk_tm | exact .inr rfl | assumption) : PE X (.BinOp a op b pos) (tE q K mg P (cBin g fa fb)) :=
  PE.weak (pe_op ho ha hb) fun _ _ _ h => bin_te hp h
theorem ge_cmp {X : Cx} {a b : Expr} {fa fb : O} {pos : Pos} {op : CmpOp} {g : PV → PV → Option PV} (ho : OpR X (compareOp op) (rOp K mg g)) (ha : PE X a (tO q K mg P fa)) (hb : PE X b (tO q K mg P fb))
    (hm : behindInMarks op b = false) (hp : NoPk fa ∨ q = true := by first | exact .inl nopk_sl | exact .inl nopk_tm | exact .inr rfl | assumption) : PE X (.Compare a [op] [b] pos) (tE q K mg P (cBin g fa fb)) :=
  PE.weak (pe_cmpR ho ha hb hm) fun _ _ _ h => bin_te hp h
theorem ge_un {X : Cx} {a : Expr} {fa : O} {pos : Pos} {op : UnaryOp} {g : PV → Option PV} (ho : UnR X (unaryOp op) (rUn K mg g)) (ha : PE X a (tO q K mg P fa)) : PE X (.UnaryOp op a pos) (tE q K mg P (cUn g fa)) :=
  PE.weak (pe_un ho ha) fun _ _ _ h => un_te h
/-- a built-in function, a built-in class, called by its name -/
theorem ge_callB {X : Cx} {x : Str} {p pos : Pos} {e : Expr} {es : List Expr} {f : M (List Opd)} {id : String} {g : List PV → Option PV} (hc : CallR X (.builtin id) (rCall K mg g)) (hm : X.mg x = none) (hv : bootBuiltins x = some (.builtin id)) (hg : Gl X x)
    (ha : PA X (e :: es) (tA q K mg P f)) (hn : x ≠ "__name__" := by decide) (hdb : (x == ("__debug__" : Str)) = false := by decide)
    (he : starEach (e :: es) X.env = (false, eval e X.env) :: starEach es X.env := by rfl) (hpl : (backTo pos (starEach es X.env)).any (·.1) = false := by rfl) : PE X (.Call (.Name x p) (e :: es) [] pos) (tE q K mg P (cCall g f)) :=
  PE.weak (pe_callB hc hg hm hv ha hn hdb he hpl) fun _ _ _ h => call_te h
theorem ge_callTy {X : Cx} {x : Str} {p pos : Pos} {e : Expr} {es : List Expr} {f : M (List Opd)} {T : String} {g : List PV → Option PV} (hc : CallR X (.type T) (rCall K mg g)) (hm : X.mg x = none) (hv : bootBuiltins x = some (.type T)) (hg : Gl X x)
    (ha : PA X (e :: es) (tA q K mg P f)) (hn : x ≠ "__name__" := by decide) (hdb : (x == ("__debug__" : Str)) = false := by decide)
    (he : starEach (e :: es) X.env = (false, eval e X.env) :: starEach es X.env := by rfl) (hpl : (backTo pos (starEach es X.env)).any (·.1) = false := by rfl) : PE X (.Call (.Name x p) (e :: es) [] pos) (tE q K mg P (cCall g f)) :=
  PE.weak (pe_callTy hc hg hm hv ha hn hdb he hpl) fun _ _ _ h => call_te h
end
end GX

/-! GX: + - * // % ** and comparisons. -/
namespace GX
open PySem PySem.Spec PyProof.Rows L2

section
variable {K : PySem.W.Frag} {mg : Str → Option Value} {H H' : Hp} {B B' : Addr → Prop} {x y : V} {v w r : PV} {xs : List PV} {ys : List V} {G F W : List Addr} {Q : VK}
theorem New.list (h : New K mg H B (.lst true xs) Q) (r : RVs K mg H B xs ys []) {p : Addr} (hp : H p = none) : Q (.ref p) (upd H p (.lst ys)) :=
  h _ _ (own1 B p) [p] (.lstO upd_same (.inl rfl) (r.keep0 (Keep.newO hp))) (by simp) (fun b hb => by simp at hb; rw [hb]; exact hp) (Keep.newO hp)
theorem New.tup (h : New K mg H B (.tup xs) Q) (r : RVs K mg H B xs ys []) {p : Addr} (hp : H p = none) : Q (.ref p) (upd H p (.tup ys)) :=
  h _ _ B [] (.tup (.inl (.inl upd_same)) (r.keep0 (Keep.new hp))) List.nodup_nil (fun _ h => nomatch h) (Keep.new hp)
theorem RVs.pures0 (r : RVs K mg H B xs ys F) (h : PV.pures xs = true) : RVs K mg H B xs ys [] := by
  have := r.pure h
  subst this
  exact r

def guard {α : Type} (c : Prop) [Decidable c] (a : Option α) : Option α := if c then a else none
theorem guard_some {α : Type} {c : Prop} [Decidable c] {a : Option α} {b : α} (h : guard c a = some b) : c ∧ a = some b := by
  unfold guard at h
  split at h
  · exact ⟨by assumption, h⟩
  · cases h
theorem guard_pos {α : Type} {c : Prop} [Decidable c] {a : Option α} (h : c) : guard c a = a := by unfold guard; rw [if_pos h]

def padd : PV → PV → Option PV
  | .int i, .int j => some (.int (i + j))
  | .str a, .str b => guard (a.length + b.length ≤ 16777216) (some (.str (a ++ b)))
  | .tup xs, .tup ys => guard (PV.pures xs = true ∧ PV.pures ys = true ∧ xs.length + ys.length ≤ 16777216) (some (.tup (xs ++ ys)))
  | .lst _ xs, .lst _ ys => guard (PV.pures xs = true ∧ PV.pures ys = true ∧ xs.length + ys.length ≤ 16777216) (some (.lst true (xs ++ ys)))
  | _, _ => none
theorem RV.lst {o : Bool} (r : RV K mg H B (.lst o xs) x F) (hp : PV.pures xs = true) : ∃ a ys, x = .ref a ∧ H a = some (.lst ys) ∧ RVs K mg H B xs ys [] := by
  cases o with
  | true => cases r with | lstO h b r => exact ⟨_, _, rfl, h, r.pures0 hp⟩
  | false => cases r with | lstF h b r => exact ⟨_, _, rfl, h, r⟩
theorem sz_le {n : Nat} (h : n ≤ 16777216) : n ≤ sizeLine := h
theorem or_add {X : Cx} (hK : X.K = K) : OpR X (binaryOp .Add) (rOp K mg padd) := by
  subst hK
  intro pins s σ H x y v u Q I rx ry ⟨B, va, vb, Wa, Wb, r, ra, rb, g, k⟩
  unfold padd at g
  split at g
  · cases g
    cases ra
    cases rb
    exact op_add pins s σ H _ _ v u Q I rx ry ⟨_, _, rfl, rfl, k.pure (.int _)⟩
  · obtain ⟨c, g⟩ := guard_some g
    cases g
    cases ra
    cases rb
    exact op_add_str pins s σ H _ _ v u Q I rx ry ⟨_, _, rfl, rfl, c, k.pure (.str _)⟩
  · obtain ⟨⟨c1, c2, c3⟩, g⟩ := guard_some g
    cases g
    cases ra with
    | tup ha r1 =>
    cases rb with
    | tup hb r2 =>
    have r1 := r1.pures0 c1
    have r2 := r2.pures0 c2
    have l1 := r1.length
    have l2 := r2.length
    refine op_catA pins s σ H _ _ v u Q I rx ry ⟨_, _, _, _, rfl, rfl, ha, hb, sz_le (by omega), fun e => ?_, fun _ e => ?_, fun _ _ p hp => k.tup (r1.append r2) hp⟩
    · subst e
      cases r1
      exact k.pure (.tup hb r2)
    · subst e
      cases r2
      rw [List.append_nil] at k
      exact k.pure (.tup ha r1)
  · obtain ⟨⟨c1, c2, c3⟩, g⟩ := guard_some g
    cases g
    obtain ⟨a, ys1, rfl, ha, r1⟩ := ra.lst c1
    obtain ⟨b, ys2, rfl, hb, r2⟩ := rb.lst c2
    have l1 := r1.length
    have l2 := r2.length
    exact op_cat pins s σ H _ _ v u Q I rx ry ⟨_, _, _, _, rfl, rfl, ha, hb, sz_le (by omega), fun p hp => k.list (r1.append r2) hp⟩
  · cases g
end
end GX

/-! GX: - * // % **, comparisons, in, is. -/
namespace GX
open PySem PySem.Spec PyProof.Rows L2

def psub : PV → PV → Option PV
  | .int i, .int j => some (.int (i - j))
  | _, _ => none
def MulOk (i j : Int) : Prop := i.natAbs < 18446744073709551616 ∨ j.natAbs < 18446744073709551616 ∨ i.natAbs.log2 + j.natAbs.log2 < 1000000
instance {i j : Int} : Decidable (MulOk i j) := by unfold MulOk; infer_instance
def reps {α : Type} (k : Nat) (xs : List α) : List α := (List.replicate k xs).flatten
def pmul : PV → PV → Option PV
  | .int i, .int j => guard (MulOk i j) (some (.int (i * j)))
  | .lst _ xs, .int k => guard (PV.pures xs = true ∧ -9223372036854775808 ≤ k ∧ k < 9223372036854775808 ∧ xs.length * k.toNat ≤ 16777216) (some (.lst true (reps k.toNat xs)))
  | .tup xs, .int k => guard (PV.pures xs = true ∧ xs ≠ [] ∧ 2 ≤ k ∧ k ≤ 1000 ∧ xs.length ≤ 1000) (some (.tup (reps k.toNat xs)))
  | _, _ => none
def DivOk (j : Int) : Prop := 0 < j ∧ (j.natAbs < 18446744073709551616 ∨ j.natAbs.log2 < 9000)
instance {j : Int} : Decidable (DivOk j) := by unfold DivOk; infer_instance
def pfdiv : PV → PV → Option PV
  | .int i, .int j => guard (DivOk j) (some (.int (i / j)))
  | _, _ => none
def pmod : PV → PV → Option PV
  | .int i, .int j => guard (0 < j) (some (.int (i % j)))
  | _, _ => none
def ppow : PV → PV → Option PV
  | .int i, .int j => guard (0 ≤ j ∧ j ≤ 1000000 ∧ i.natAbs < 18446744073709551616) (some (.int (i ^ j.toNat)))
  | _, _ => none
def pneg : PV → Option PV
  | .int i => some (.int (-i))
  | _ => none

section
variable {K : PySem.W.Frag} {mg : Str → Option Value} {H H' : Hp} {B B' : Addr → Prop} {x y : V} {v w r : PV} {xs : List PV} {ys : List V} {G F W : List Addr} {Q : VK} {X : Cx}

theorem log2_64 {n : Nat} (h : n < 18446744073709551616) : n.log2 < 64 := PySem.Flt.log2_lt_of (by decide) (by rw [show (2 : Nat) ^ 64 = 18446744073709551616 from rfl]; exact h)
theorem MulOk.cm {i j : Int} (h : MulOk i j) : CMul i j ∨ CMulW i j := by
  have e : (2 : Int) ^ 64 = 18446744073709551616 := rfl
  rcases h with h | h | h
  · exact .inl (.inl (by rw [e]; omega))
  · exact .inl (.inr (by rw [e]; omega))
  · exact .inr h
theorem DivOk.cd {i j : Int} (h : DivOk j) : CDivW i j := by
  refine ⟨h.1, ?_⟩
  rcases h.2 with h | h
  · have := log2_64 h
    omega
  · exact h
theorem or_sub : OpR X (binaryOp .Sub) (rOp K mg psub) := by
  intro pins s σ H x y v u Q I rx ry ⟨B, va, vb, Wa, Wb, r, ra, rb, g, k⟩
  unfold psub at g
  split at g
  · cases g
    cases ra
    cases rb
    exact op_sub pins s σ H _ _ v u Q I rx ry ⟨_, _, rfl, rfl, k.pure (.int _)⟩
  · cases g
theorem RVs.reps (r : RVs K mg H B xs ys []) : ∀ k : Nat, RVs K mg H B (reps k xs) (List.replicate k ys).flatten []
  | 0 => .nil
  | k + 1 => by
    have := r.append (RVs.reps r k)
    simpa [GX.reps, List.replicate_succ] using this
theorem or_mul (hK : X.K = K) : OpR X (binaryOp .Mult) (rOp K mg pmul) := by
  subst hK
  intro pins s σ H x y v u Q I rx ry ⟨B, va, vb, Wa, Wb, r, ra, rb, g, k⟩
  unfold pmul at g
  split at g
  · obtain ⟨c, g⟩ := guard_some g
    cases g
    cases ra
    cases rb
    rcases c.cm with c | c
    · exact op_mul pins s σ H _ _ v u Q I rx ry ⟨_, _, rfl, rfl, c, k.pure (.int _)⟩
    · exact op_mulW pins s σ H _ _ v u Q I rx ry ⟨_, _, rfl, rfl, c, k.pure (.int _)⟩
  · obtain ⟨⟨c1, c2, c3, c4⟩, g⟩ := guard_some g
    cases g
    cases rb
    obtain ⟨a, ys1, rfl, ha, r1⟩ := ra.lst c1
    have l1 := r1.length
    have e : (2 : Int) ^ 63 = 9223372036854775808 := rfl
    exact op_rep pins s σ H _ _ v u Q I rx ry ⟨_, _, _, rfl, rfl, ha, by rw [e]; exact c2, by rw [e]; exact c3, by rw [← l1]; exact c4, fun p hp => k.list (r1.reps _) hp⟩
  · obtain ⟨⟨c1, c2, c3, c4, c5⟩, g⟩ := guard_some g
    cases g
    cases rb
    cases ra with
    | tup ha r1 =>
    have r1 := r1.pures0 c1
    have l1 := r1.length
    refine op_repT pins s σ H _ _ v u Q I rx ry ⟨_, _, _, rfl, rfl, ha, fun e => c2 ?_, c3, c4, by omega, fun p hp => k.tup (r1.reps _) hp⟩
    subst e
    cases r1
    rfl
  · cases g
theorem or_fdiv : OpR X (binaryOp .FloorDiv) (rOp K mg pfdiv) := by
  intro pins s σ H x y v u Q I rx ry ⟨B, va, vb, Wa, Wb, r, ra, rb, g, k⟩
  unfold pfdiv at g
  split at g
  · obtain ⟨c, g⟩ := guard_some g
    cases g
    cases ra
    cases rb
    exact op_fdivW pins s σ H _ _ v u Q I rx ry ⟨_, _, rfl, rfl, c.cd, k.pure (.int _)⟩
  · cases g
theorem or_mod : OpR X (binaryOp .Mod) (rOp K mg pmod) := by
  intro pins s σ H x y v u Q I rx ry ⟨B, va, vb, Wa, Wb, r, ra, rb, g, k⟩
  unfold pmod at g
  split at g
  · obtain ⟨c, g⟩ := guard_some g
    cases g
    cases ra
    cases rb
    exact op_mod pins s σ H _ _ v u Q I rx ry ⟨_, _, rfl, rfl, c, k.pure (.int _)⟩
  · cases g
theorem or_pow : OpR X (binaryOp .Pow) (rOp K mg ppow) := by
  intro pins s σ H x y v u Q I rx ry ⟨B, va, vb, Wa, Wb, r, ra, rb, g, k⟩
  unfold ppow at g
  split at g
  · obtain ⟨⟨c1, c2, c3⟩, g⟩ := guard_some g
    cases g
    cases ra
    cases rb
    exact op_pow pins s σ H _ _ v u Q I rx ry ⟨_, _, rfl, rfl, ⟨c1, c2, by rw [show (2 : Nat) ^ 64 = 18446744073709551616 from rfl]; exact c3⟩, k.pure (.int _)⟩
  · cases g
theorem or_neg : UnR X (unaryOp .USub) (rUn K mg pneg) := by
  intro pins s σ H x v Q I rx ⟨B, va, Wa, r, ra, g, k⟩
  unfold pneg at g
  split at g
  · cases g
    cases ra
    exact un_neg pins s σ H _ v Q I rx ⟨_, rfl, k.pure (.int _)⟩
  · cases g
end

/-! ### comparisons -/
mutual
def toD : PV → Option PyData
  | .non => some .none
  | .bl b => some (.bool b)
  | .int i => some (.int i)
  | .str x => some (.str x)
  | .tup xs => (toDs xs).map .tuple
  | .lst _ xs => (toDs xs).map .list
  | _ => none
def toDs : List PV → Option (List PyData)
  | [] => some []
  | x :: xs => (toD x).bind fun d => (toDs xs).bind fun ds => some (d :: ds)
end
def scalP : PV → PV → Option Bool
  | .non, .non => some true
  | .non, .int _ => some false | .int _, .non => some false | .non, .bl _ => some false | .bl _, .non => some false | .non, .str _ => some false | .str _, .non => some false
  | .int i, .int j => some (decide (i = j)) | .bl i, .bl j => some (decide (i = j)) | .str i, .str j => some (decide (i = j))
  | .int _, .str _ => some false | .str _, .int _ => some false | .bl _, .str _ => some false | .str _, .bl _ => some false
  | _, _ => none
def deepEq (a b : PV) : Option Bool := (toD a).bind fun d => (toD b).bind fun e => guard (SeqAt.shaped d = true ∧ SeqAt.shaped e = true) (some (PyData.eqv d e))
def peqB (a b : PV) : Option Bool := match scalP a b with
  | some c => some c
  | none => deepEq a b
def peq (a b : PV) : Option PV := (peqB a b).map .bl
def pne (a b : PV) : Option PV := (peqB a b).map fun c => .bl (!c)
def pcmp (f : Int → Int → Bool) (g : List Nat → List Nat → Bool) : PV → PV → Option PV
  | .int i, .int j => some (.bl (f i j))
  | .str i, .str j => some (.bl (g i.cps.toList j.cps.toList))
  | _, _ => none
def plt : PV → PV → Option PV := pcmp (fun i j => decide (i < j)) fun a b => decide (a < b)
def ple : PV → PV → Option PV := pcmp (fun i j => decide (i ≤ j)) fun a b => !decide (b < a)
def pgt : PV → PV → Option PV := pcmp (fun i j => decide (j < i)) fun a b => decide (b < a)
def pge : PV → PV → Option PV := pcmp (fun i j => decide (j ≤ i)) fun a b => !decide (a < b)
def isNonP : PV → Bool
  | .non => true
  | _ => false
def pisN : PV → PV → Option PV
  | a, .non => some (.bl (isNonP a))
  | _, _ => none
def pnotN : PV → PV → Option PV
  | a, .non => some (.bl (!isNonP a))
  | _, _ => none
/-- flat values -/
def flatP : PV → Bool
  | .non => true
  | .bl _ => true
  | .int _ => true
  | .str _ => true
  | _ => false
def eqF : PV → PV → Bool
  | .non, .non => true
  | .bl a, .bl b => a == b
  | .bl a, .int b => (if a then 1 else 0) == b
  | .int a, .bl b => a == (if b then 1 else 0)
  | .int a, .int b => a == b
  | .str a, .str b => a == b
  | _, _ => false
def toKey : PV → Option Key
  | .int i => some (.inl i)
  | .str x => some (.inr x)
  | _ => none
def lookK {α : Type} (kvs : List (Key × α)) (k : Key) : Option α := (kvs.find? fun kv => decide (kv.1 = k)).map (·.2)
def pinB : PV → PV → Option Bool
  | a, .tup xs => guard (flatP a = true ∧ xs.all flatP = true) (some (xs.any fun y => eqF y a))
  | a, .lst _ xs => if flatP a = true ∧ xs.all flatP = true then some (xs.any fun y => eqF y a) else
      (toD a).bind fun d => (toDs xs).bind fun ds => guard (SeqAt.shaped d = true ∧ SeqAt.shaped (.list ds) = true) (some (ds.any fun z => PyData.eqv z d))
  | a, .dic _ kvs => (toKey a).bind fun k => some (lookK kvs k).isSome
  | .str a, .str b => some (!(Builtin.Str.occurrences b a 0 b.length 1).isEmpty)
  | _, _ => none
def pin (a b : PV) : Option PV := (pinB a b).map .bl
def pnin (a b : PV) : Option PV := (pinB a b).map fun c => .bl (!c)

section
variable {K : PySem.W.Frag} {mg : Str → Option Value} {H H' : Hp} {B B' : Addr → Prop} {x y : V} {v w r : PV} {xs : List PV} {ys : List V} {G F W : List Addr} {Q : VK} {X : Cx}
mutual
theorem RV.dp : ∀ {v : PV} {x : V} {F : List Addr} {d : PyData}, RV K mg H B v x F → toD v = some d → Dp K H x d
  | _, _, _, _, .non, e => by cases e; exact .non
  | _, _, _, _, .bl b, e => by cases e; exact .bl b
  | _, _, _, _, .int b, e => by cases e; exact .int b
  | _, _, _, _, .str b, e => by cases e; exact .str b
  | _, _, _, _, .ty b, e => by cases e
  | _, _, _, _, .fn h, e => by cases e
  | _, _, _, _, .zls h r, e => by cases e
  | _, _, _, _, .tup h r, e => by
    simp only [toD, Option.map_eq_some_iff] at e
    obtain ⟨ds, e1, rfl⟩ := e
    exact .tup h (RVs.dp r e1)
  | _, _, _, _, .lstF h nB r, e => by
    simp only [toD, Option.map_eq_some_iff] at e
    obtain ⟨ds, e1, rfl⟩ := e
    exact .lst (.of h) (RVs.dp r e1)
  | _, _, _, _, .lstO h nB r, e => by
    simp only [toD, Option.map_eq_some_iff] at e
    obtain ⟨ds, e1, rfl⟩ := e
    exact .lst (.of h) (RVs.dp r e1)
  | _, _, _, _, .dicF h nB q r, e => by cases e
  | _, _, _, _, .dicO h nB q r, e => by cases e
  | _, _, _, _, .insF h nB g q r, e => by cases e
  | _, _, _, _, .insO h nB g q r, e => by cases e
theorem RVs.dp : ∀ {v : List PV} {x : List V} {F : List Addr} {d : List PyData}, RVs K mg H B v x F → toDs v = some d → DpAll K H x d
  | _, _, _, _, .nil, e => by cases e; exact .nil
  | _, _, _, _, .cons r t, e => by
    simp only [toDs] at e
    obtain ⟨d, e1, e⟩ := bind_some e
    obtain ⟨ds, e2, e⟩ := bind_some e
    cases e
    exact .cons (RV.dp r e1) (RVs.dp t e2)
end
theorem scal_ok {a b : PV} {Wa Wb : List Addr} {c : Bool} (ra : RV K mg H B a x Wa) (rb : RV K mg H B b y Wb) (e : scalP a b = some c) : scal x y = true ∧ decide (x = y) = c := by
  unfold scalP at e
  split at e <;> first
    | (simp at e; done)
    | (cases ra; cases rb; cases e; exact ⟨rfl, by simp⟩)
theorem or_eq (hK : X.K = K) (hu : X.A.units + 64 < cLine) : OpR X (compareOp .Eq) (rOp K mg peq) := by
  subst hK
  intro pins s σ H x y v u Q I rx ry ⟨B, va, vb, Wa, Wb, r, ra, rb, g, k⟩
  unfold peq at g
  simp only [Option.map_eq_some_iff] at g
  obtain ⟨c, g, rfl⟩ := g
  unfold peqB at g
  split at g
  · rename_i c' e
    cases g
    obtain ⟨e1, e2⟩ := scal_ok ra rb e
    exact op_eq pins s σ H _ _ v u Q I rx ry ⟨e1, by rw [e2]; exact k.pure (.bl _)⟩
  · obtain ⟨d, e1, g⟩ := bind_some g
    obtain ⟨d', e2, g⟩ := bind_some g
    obtain ⟨⟨c1, c2⟩, g⟩ := guard_some g
    cases g
    exact op_eqD hu pins s σ H _ _ v u Q I rx ry ⟨d, d', ra.dp e1, rb.dp e2, c1, c2, k.pure (.bl _)⟩
theorem or_ne (hK : X.K = K) (hu : X.A.units + 64 < cLine) : OpR X (compareOp .NotEq) (rOp K mg pne) := by
  subst hK
  intro pins s σ H x y v u Q I rx ry ⟨B, va, vb, Wa, Wb, r, ra, rb, g, k⟩
  unfold pne at g
  simp only [Option.map_eq_some_iff] at g
  obtain ⟨c, g, rfl⟩ := g
  unfold peqB at g
  split at g
  · rename_i c' e
    cases g
    obtain ⟨e1, e2⟩ := scal_ok ra rb e
    exact op_ne pins s σ H _ _ v u Q I rx ry ⟨e1, by rw [e2]; exact k.pure (.bl _)⟩
  · obtain ⟨d, e1, g⟩ := bind_some g
    obtain ⟨d', e2, g⟩ := bind_some g
    obtain ⟨⟨c1, c2⟩, g⟩ := guard_some g
    cases g
    exact op_neD hu pins s σ H _ _ v u Q I rx ry ⟨d, d', ra.dp e1, rb.dp e2, c1, c2, k.pure (.bl _)⟩
theorem or_cmp {op : CmpOp} {f : Int → Int → Bool} {g : List Nat → List Nat → Bool} (h1 : OpR X (compareOp op) (rI0 fun i j => .bl (f i j)))
    (h2 : OpR X (compareOp op) (fun x y H Q => ∃ i j, x = .str i ∧ y = .str j ∧ Q (.bl (g i.cps.toList j.cps.toList)) H)) : OpR X (compareOp op) (rOp K mg (pcmp f g)) := by
  intro pins s σ H x y v u Q I rx ry ⟨B, va, vb, Wa, Wb, r, ra, rb, gg, k⟩
  unfold pcmp at gg
  split at gg
  · cases gg
    cases ra
    cases rb
    exact h1 pins s σ H _ _ v u Q I rx ry ⟨_, _, rfl, rfl, k.pure (.bl _)⟩
  · cases gg
    cases ra
    cases rb
    exact h2 pins s σ H _ _ v u Q I rx ry ⟨_, _, rfl, rfl, k.pure (.bl _)⟩
  · cases gg
theorem or_lt : OpR X (compareOp .Lt) (rOp K mg plt) := or_cmp op_lt op_lt_str
theorem or_le : OpR X (compareOp .LtE) (rOp K mg ple) := or_cmp op_le op_le_str
theorem or_gt : OpR X (compareOp .Gt) (rOp K mg pgt) := or_cmp op_gt op_gt_str
theorem or_ge : OpR X (compareOp .GtE) (rOp K mg pge) := or_cmp op_ge op_ge_str
theorem isNon_ok {a : PV} (ra : RV K mg H B a x W) : decide (x = .non) = isNonP a := by
  cases ra <;> simp [isNonP]
theorem or_isN : OpR X (compareOp .Is) (rOp K mg pisN) := by
  intro pins s σ H x y v u Q I rx ry ⟨B, va, vb, Wa, Wb, r, ra, rb, g, k⟩
  unfold pisN at g
  split at g
  · cases g
    cases rb
    exact op_isN pins s σ H _ _ v u Q I rx ry ⟨rfl, by rw [isNon_ok ra]; exact k.pure (.bl _)⟩
  · cases g
theorem or_notN : OpR X (compareOp .IsNot) (rOp K mg pnotN) := by
  intro pins s σ H x y v u Q I rx ry ⟨B, va, vb, Wa, Wb, r, ra, rb, g, k⟩
  unfold pnotN at g
  split at g
  · cases g
    cases rb
    exact op_notN pins s σ H _ _ v u Q I rx ry ⟨rfl, by rw [isNon_ok ra]; exact k.pure (.bl _)⟩
  · cases g
theorem flat_ok {a : PV} (ra : RV K mg H B a x W) (e : flatP a = true) : flatV x = true := by
  cases ra <;> first | rfl | cases e
theorem eqF_ok {a b : PV} {Wa Wb : List Addr} (ra : RV K mg H B a x Wa) (rb : RV K mg H B b y Wb) : eqV x y = eqF a b := by
  cases ra <;> cases rb <;> rfl
theorem flats_ok : ∀ {xs : List PV} {ys : List V} {W : List Addr}, RVs K mg H B xs ys W → xs.all flatP = true → ys.all flatV = true
  | _, _, _, .nil, _ => rfl
  | _, _, _, .cons r t, e => by
    simp only [List.all_cons, Bool.and_eq_true] at e ⊢
    exact ⟨flat_ok r e.1, flats_ok t e.2⟩
theorem any_ok {a : PV} {Wa : List Addr} (ra : RV K mg H B a x Wa) : ∀ {xs : List PV} {ys : List V} {W : List Addr}, RVs K mg H B xs ys W → inV x ys = xs.any fun z => eqF z a
  | _, _, _, .nil => rfl
  | _, _, _, .cons r t => by
    have := any_ok ra t
    unfold inV at this ⊢
    rw [List.any_cons, List.any_cons, this, eqF_ok r ra]
theorem RV.lsts {o : Bool} (r : RV K mg H B (.lst o xs) x F) : ∃ a ys W, x = .ref a ∧ H a = some (.lst ys) ∧ RVs K mg H B xs ys W ∧ W.Sublist F := by
  cases o with
  | true => cases r with | lstO h b r => exact ⟨_, _, _, rfl, h, r, List.sublist_cons_self _ _⟩
  | false => cases r with | lstF h b r => exact ⟨_, _, _, rfl, h, r, List.Sublist.refl _⟩
theorem RV.dics {o : Bool} {ps : List (Key × PV)} (r : RV K mg H B (.dic o ps) x F) : ∃ a ks W, x = .ref a ∧ Rd H a (.dK ks) ∧ ps.map (·.1) = ks.map (·.1) ∧ RVs K mg H B (ps.map (·.2)) (ks.map (·.2)) W ∧ W.Sublist F := by
  cases o with
  | true => cases r with | dicO h b e r => exact ⟨_, _, _, rfl, .inl h, e, r, List.sublist_cons_self _ _⟩
  | false => cases r with | dicF h b e r => exact ⟨_, _, _, rfl, h, e, r, List.Sublist.refl _⟩
theorem toKey_ok {a : PV} {k : Key} (ra : RV K mg H B a x W) (e : toKey a = some k) : x = kV k := by
  cases ra <;> first | (cases e; done) | (cases e; rfl)
/-- a dict's look-up -/
theorem look_ok : ∀ {ps : List (Key × PV)} {ks : List (Key × V)} {W : List Addr} {k : Key}, ps.map (·.1) = ks.map (·.1) → RVs K mg H B (ps.map (·.2)) (ks.map (·.2)) W →
    match lookK ps k with
    | none => valV ks k = none
    | some v => ∃ x G, valV ks k = some x ∧ RV K mg H B v x G ∧ G.Sublist W
  | [], [], _, k, _, _ => rfl
  | [], _ :: _, _, _, e, _ => by simp at e
  | _ :: _, [], _, _, e, _ => by simp at e
  | p :: ps, q :: ks, W, k, e, r => by
    simp only [List.map_cons, List.cons.injEq] at e
    cases r with
    | cons r t =>
    have ih := look_ok (k := k) e.2 t
    unfold lookK at ih ⊢
    by_cases h : p.1 = k
    · have hq : q.1 = k := e.1 ▸ h
      rw [List.find?_cons_of_pos (by simpa using h)]
      refine ⟨_, _, ?_, r, List.sublist_append_left _ _⟩
      unfold valV
      rw [List.find?_cons_of_pos (by simpa using hq)]
      rfl
    · have hq : ¬ q.1 = k := e.1 ▸ h
      rw [List.find?_cons_of_neg (by simpa using h)]
      have e2 : valV (q :: ks) k = valV ks k := by
        unfold valV
        rw [List.find?_cons_of_neg (by simpa using hq)]
      rw [e2]
      split at ih
      · exact ih
      · obtain ⟨x, G, a1, a2, a3⟩ := ih
        exact ⟨x, G, a1, a2, a3.trans (List.sublist_append_right _ _)⟩
theorem or_in0 {neg : Bool} (hK : X.K = K) (hu : X.A.units + 65 < cLine) : OpR X (compareOp (if neg then .NotIn else .In)) (rOp K mg fun a b => (pinB a b).map fun c => .bl (if neg then !c else c)) := by
  subst hK
  intro pins s σ H x y v u Q I rx ry ⟨B, va, vb, Wa, Wb, r, ra, rb, g, k⟩
  simp only [Option.map_eq_some_iff] at g
  obtain ⟨c, g, rfl⟩ := g
  unfold pinB at g
  have k : ∀ z : Bool, z = (if neg = true then !c else c) → Q (.bl z) H := fun z e => k.pure (by rw [e]; exact .bl _)
  split at g
  · obtain ⟨⟨c1, c2⟩, g⟩ := guard_some g
    cases g
    cases rb with
    | tup hb r2 =>
    cases neg with
    | true => exact op_notIn_seq pins s σ H _ _ v u Q I rx ry ⟨_, _, rfl, .inr hb, flat_ok ra c1, flats_ok r2 c2, k _ (by simp [any_ok ra r2])⟩
    | false => exact op_in_seq pins s σ H _ _ v u Q I rx ry ⟨_, _, rfl, .inr hb, flat_ok ra c1, flats_ok r2 c2, k _ (by simp [any_ok ra r2])⟩
  · obtain ⟨a, ys, W, rfl, hb, r2, _⟩ := rb.lsts
    split at g
    · rename_i c12
      obtain ⟨c1, c2⟩ := c12
      cases g
      cases neg with
      | true => exact op_notIn_seq pins s σ H _ _ v u Q I rx ry ⟨_, _, rfl, .inl (.of hb), flat_ok ra c1, flats_ok r2 c2, k _ (by simp [any_ok ra r2])⟩
      | false => exact op_in_seq pins s σ H _ _ v u Q I rx ry ⟨_, _, rfl, .inl (.of hb), flat_ok ra c1, flats_ok r2 c2, k _ (by simp [any_ok ra r2])⟩
    · obtain ⟨d, e1, g⟩ := bind_some g
      obtain ⟨ds, e2, g⟩ := bind_some g
      obtain ⟨⟨c1, c2⟩, g⟩ := guard_some g
      cases g
      cases neg with
      | true => exact op_notInD hu pins s σ H _ _ v u Q I rx ry ⟨d, ds, ra.dp e1, .lst (.of hb) (r2.dp e2), c1, c2, k _ (by simp)⟩
      | false => exact op_inD hu pins s σ H _ _ v u Q I rx ry ⟨d, ds, ra.dp e1, .lst (.of hb) (r2.dp e2), c1, c2, k _ (by simp)⟩
  · rename_i o0 kvs0
    obtain ⟨kk, e1, g⟩ := bind_some g
    cases g
    obtain ⟨a, ks, W, rfl, hb, e2, r2, _⟩ := rb.dics
    obtain rfl := toKey_ok ra e1
    cases ry
    have lk := look_ok (k := kk) e2 r2
    have eS : (valV ks kk).isSome = (lookK kvs0 kk).isSome := by
      split at lk
      · rename_i h0
        rw [h0, lk]
        rfl
      · rename_i v0 h0
        obtain ⟨x0, _, a1, _⟩ := lk
        rw [h0, a1]
        rfl
    cases neg with
    | true => exact d_notIn (by omega) I (.inl ⟨ks, kk, hb, rfl, rfl⟩) rx fun s' I' => ⟨.bl _, H, I', rfl, k _ (by rw [eS]; rfl)⟩
    | false => exact d_in (by omega) I (.inl ⟨ks, kk, hb, rfl, rfl⟩) rx fun s' I' => ⟨.bl _, H, I', rfl, k _ (by rw [eS]; rfl)⟩
  · cases g
    cases ra
    cases rb
    cases neg with
    | true => exact op_notin_str pins s σ H _ _ v u Q I rx ry ⟨_, _, rfl, rfl, k _ rfl⟩
    | false => exact op_in_str pins s σ H _ _ v u Q I rx ry ⟨_, _, rfl, rfl, k _ rfl⟩
  · cases g
theorem or_in (hK : X.K = K) (hu : X.A.units + 65 < cLine) : OpR X (compareOp .In) (rOp K mg pin) := or_in0 (neg := false) hK hu
theorem or_nin (hK : X.K = K) (hu : X.A.units + 65 < cLine) : OpR X (compareOp .NotIn) (rOp K mg pnin) := or_in0 (neg := true) hK hu
end
end GX

/-! GX: tests, and, or, not, if else, chains; displays; subscripts, slices. -/
namespace GX
open PySem PySem.Spec PyProof.Rows L2

def asB : PV → Option Bool
  | .bl b => some b
  | _ => none
def mVal (f : M PV) : M Bool := fun ρ => (f ρ).bind fun z => (asB z.1).bind fun b => some (b, z.2)
def mAnd (f g : M Bool) : M Bool := fun ρ => (f ρ).bind fun z => if z.1 = true then g z.2 else some (false, z.2)
def mOr (f g : M Bool) : M Bool := fun ρ => (f ρ).bind fun z => if z.1 = true then some (true, z.2) else g z.2
def mNot (f : M Bool) : M Bool := fun ρ => (f ρ).bind fun z => some (!z.1, z.2)
def cAnd (f g : M PV) : M PV := fun ρ => (f ρ).bind fun z => (asB z.1).bind fun b => if b = true then g z.2 else some (.bl false, z.2)
def cOr (f g : M PV) : M PV := fun ρ => (f ρ).bind fun z => (asB z.1).bind fun b => if b = true then some (.bl true, z.2) else g z.2
def cNot (f : M PV) : M PV := fun ρ => (f ρ).bind fun z => (asB z.1).bind fun b => some (.bl (!b), z.2)
def cIf (t : M Bool) (f g : M PV) : M PV := fun ρ => (t ρ).bind fun z => if z.1 = true then f z.2 else g z.2
def cChain (g g' : PV → PV → Option PV) (a b c : O) : M PV := fun ρ => (a ρ).bind fun z1 => (b z1.2).bind fun z2 => (deref z1.1 z2.2).bind fun va => (deref z2.1 z2.2).bind fun vb => (g va vb).bind fun r => (asB r).bind fun k =>
  if k = true then (c z2.2).bind fun z3 => (deref z2.1 z3.2).bind fun vb' => (deref z3.1 z3.2).bind fun vc => (g' vb' vc).bind fun r' => some (r', z3.2) else some (.bl false, z2.2)
def ptru : PV → Option Bool
  | .non => some false
  | .bl b => some b
  | .int i => some (i != 0)
  | .str y => guard (y.length ≤ 16777216) (some ((y.length : Int) != 0))
  | .tup xs => some (!xs.isEmpty)
  | .lst _ xs => some (!xs.isEmpty)
  | .dic true kvs => some (!kvs.isEmpty)
  | _ => none

section
variable {q : Bool} {K : PySem.W.Frag} {mg : Str → Option Value} {P : List V} {H H' H1 H2 : Hp} {B B' B1 B2 : Addr → Prop} {x y : V} {v w r : PV} {F F' F1 F2 G G1 G2 W : List Addr} {ρ ρ' ρ1 ρ2 : Rho} {σ : Sg} {X : Cx} {a b c e : Expr} {pos : Pos}

theorem PoT.trans (p : PoT q K mg P σ ρ H B F ρ1 H1 B1 F1) (p2 : PoT q K mg P σ ρ1 H1 B1 F1 ρ2 H2 B2 F2) : PoT q K mg P σ ρ H B F ρ2 H2 B2 F2 :=
  ⟨p2.sl, p2.nd, p.st.trans p2.st, fun e => let ⟨a1, a2, a3⟩ := p.ro e; let ⟨b1, b2, b3⟩ := p2.ro e; ⟨b1.trans a1, b2.trans a2, a3.trans0 b3⟩⟩
theorem PoT.toE (p : PoT q K mg P σ ρ H B F ρ1 H1 B1 F1) (p2 : PoE q K mg P σ ρ1 H1 B1 F1 v ρ2 x H2 B2 G F2) : PoE q K mg P σ ρ H B F v ρ2 x H2 B2 G F2 :=
  ⟨p2.rv, p2.sl, p2.nd, p.st.trans p2.st, fun e => let ⟨a1, a2, a3⟩ := p.ro e; let ⟨b1, b2, b3⟩ := p2.ro e; ⟨b1.trans a1, b2.trans a2, a3.trans0 b3⟩⟩
/-- the value is dropped -/
theorem PoE.drop (p : PoE q K mg P σ ρ H B F v ρ' x H' B' G F') : PoT q K mg P σ ρ H B F ρ' H' B' F' := ⟨p.sl, nodup_r p.nd, p.st.less fun b hb => List.mem_append_right _ hb, p.ro⟩
theorem PoT.flat (p : PoT q K mg P σ ρ H B F ρ' H' B' F') (r : RV K mg H' B' v x []) : PoE q K mg P σ ρ H B F v ρ' x H' B' [] F' := ⟨r, p.sl, p.nd, p.st, p.ro⟩

theorem val_te {f : M PV} {Q : Bool → Hp → Prop} (h : tT q K mg P (mVal f) σ H Q) : tE q K mg P f σ H fun x H' => ∃ k, x = .bl k ∧ Q k H' := by
  obtain ⟨ρ, B, F, b, ρ', R, e1, k⟩ := h
  obtain ⟨⟨u, ρ1⟩, z1, e1⟩ := bind_some e1
  obtain ⟨b, z2, e1⟩ := bind_some e1
  cases e1
  refine ⟨ρ, B, F, u, ρ1, R, z1, fun x H' B' G F' p => ?_⟩
  cases u <;> first | (cases z2; done) | skip
  cases z2
  have p' := p.drop
  cases p.rv
  exact ⟨_, rfl, k _ _ _ p'⟩
theorem gt_val {f : M PV} (h : PE X e (tE q K mg P f)) (he : ∀ whole, isTrue e X.env whole = (do let v ← whole; standAt e.pos; holding [v] (truthy v)) := by intro _; rfl) : PT X e (tT q K mg P (mVal f)) :=
  PT.weak (pt_val h he) fun _ _ _ h => val_te h
theorem gt_cmp {fa fb : O} {op : CmpOp} {g : PV → PV → Option PV} (ho : OpR X (compareOp op) (rOp K mg g)) (ha : PE X a (tO q K mg P fa)) (hb : PE X b (tO q K mg P fb))
    (hm : behindInMarks op b = false) (hp : NoPk fa ∨ q = true := by first | exact .inl nopk_sl | exact .inl nopk_tm | exact .inr rfl | assumption) : PT X (.Compare a [op] [b] pos) (tT q K mg P (mVal (cBin g fa fb))) :=
  PT.weak (pt_cmpR ho ha hb hm) fun _ _ _ h => bin_te hp (val_te h)
theorem gw_and1 {f : M Bool} (h : PT X a (tT q K mg P f)) : PW X (.BoolOp .And [a] pos) (tT q K mg P f) := pw_and1 h
theorem gw_or1 {f : M Bool} (h : PT X a (tT q K mg P f)) : PW X (.BoolOp .Or [a] pos) (tT q K mg P f) := pw_or1 h
theorem gw_and {f g : M Bool} {rest : List Expr} (h : PT X a (tT q K mg P f)) (hr : PW X (.BoolOp .And (b :: rest) pos) (tT q K mg P g)) : PW X (.BoolOp .And (a :: b :: rest) pos) (tT q K mg P (mAnd f g)) :=
  PW.weak (pw_and h hr) fun σ H Q ⟨ρ, B, F, u, ρ', R, e1, k⟩ => by
    obtain ⟨⟨d, ρ1⟩, z1, e1⟩ := bind_some e1
    refine ⟨ρ, B, F, d, ρ1, R, z1, fun H1 B1 F1 p => ?_⟩
    cases d with
    | true =>
      rw [if_pos rfl] at e1 ⊢
      exact ⟨ρ1, B1, F1, u, ρ', p.rel, e1, fun H2 B2 F2 p2 => k H2 B2 F2 (p.trans p2)⟩
    | false =>
      rw [if_neg Bool.false_ne_true] at e1 ⊢
      cases e1
      exact k H1 B1 F1 p
theorem gw_or {f g : M Bool} {rest : List Expr} (h : PT X a (tT q K mg P f)) (hr : PW X (.BoolOp .Or (b :: rest) pos) (tT q K mg P g)) : PW X (.BoolOp .Or (a :: b :: rest) pos) (tT q K mg P (mOr f g)) :=
  PW.weak (pw_or h hr) fun σ H Q ⟨ρ, B, F, u, ρ', R, e1, k⟩ => by
    obtain ⟨⟨d, ρ1⟩, z1, e1⟩ := bind_some e1
    refine ⟨ρ, B, F, d, ρ1, R, z1, fun H1 B1 F1 p => ?_⟩
    cases d with
    | true =>
      rw [if_pos rfl] at e1 ⊢
      cases e1
      exact k H1 B1 F1 p
    | false =>
      rw [if_neg Bool.false_ne_true] at e1 ⊢
      exact ⟨ρ1, B1, F1, u, ρ', p.rel, e1, fun H2 B2 F2 p2 => k H2 B2 F2 (p.trans p2)⟩
theorem gt_not {f : M Bool} (h : PT X a (tT q K mg P f)) : PT X (.UnaryOp .Not a pos) (tT q K mg P (mNot f)) :=
  PT.weak (pt_not h) fun σ H Q ⟨ρ, B, F, u, ρ', R, e1, k⟩ => by
    obtain ⟨⟨d, ρ1⟩, z1, e1⟩ := bind_some e1
    cases e1
    exact ⟨ρ, B, F, d, ρ1, R, z1, k⟩
theorem ge_one {op : PySem.BoolOp} {f : M PV} (h : PE X a (tE q K mg P f)) : PE X (.BoolOp op [a] pos) (tE q K mg P f) := pe_one h
theorem ge_and {f g : M PV} {rest : List Expr} (h : PE X a (tE q K mg P f)) (hr : PE X (.BoolOp .And (b :: rest) pos) (tE q K mg P g)) : PE X (.BoolOp .And (a :: b :: rest) pos) (tE q K mg P (cAnd f g)) :=
  PE.weak (pe_and h hr) fun σ H Q ⟨ρ, B, F, u, ρ', R, e1, k⟩ => by
    obtain ⟨⟨d, ρ1⟩, z1, e1⟩ := bind_some e1
    obtain ⟨b', z2, e1⟩ := bind_some e1
    refine ⟨ρ, B, F, d, ρ1, R, z1, fun x H1 B1 G1 F1 p => ?_⟩
    cases d <;> first | (cases z2; done) | skip
    cases z2
    have p' := p.drop
    cases p.rv
    refine ⟨_, rfl, ?_⟩
    cases b' with
    | true =>
      rw [if_pos rfl] at e1 ⊢
      exact ⟨ρ1, B1, F1, u, ρ', p'.rel, e1, fun y H2 B2 G2 F2 p2 => k y H2 B2 G2 F2 (p'.toE p2)⟩
    | false =>
      rw [if_neg Bool.false_ne_true] at e1 ⊢
      cases e1
      exact k _ _ _ _ _ (p'.flat (.bl _))
theorem ge_or {f g : M PV} {rest : List Expr} (h : PE X a (tE q K mg P f)) (hr : PE X (.BoolOp .Or (b :: rest) pos) (tE q K mg P g)) : PE X (.BoolOp .Or (a :: b :: rest) pos) (tE q K mg P (cOr f g)) :=
  PE.weak (pe_or h hr) fun σ H Q ⟨ρ, B, F, u, ρ', R, e1, k⟩ => by
    obtain ⟨⟨d, ρ1⟩, z1, e1⟩ := bind_some e1
    obtain ⟨b', z2, e1⟩ := bind_some e1
    refine ⟨ρ, B, F, d, ρ1, R, z1, fun x H1 B1 G1 F1 p => ?_⟩
    cases d <;> first | (cases z2; done) | skip
    cases z2
    have p' := p.drop
    cases p.rv
    refine ⟨_, rfl, ?_⟩
    cases b' with
    | true =>
      rw [if_pos rfl] at e1 ⊢
      cases e1
      exact k _ _ _ _ _ (p'.flat (.bl _))
    | false =>
      rw [if_neg Bool.false_ne_true] at e1 ⊢
      exact ⟨ρ1, B1, F1, u, ρ', p'.rel, e1, fun y H2 B2 G2 F2 p2 => k y H2 B2 G2 F2 (p'.toE p2)⟩
theorem ge_not {f : M PV} (h : PE X a (tE q K mg P f)) : PE X (.UnaryOp .Not a pos) (tE q K mg P (cNot f)) :=
  PE.weak (pe_not h) fun σ H Q ⟨ρ, B, F, u, ρ', R, e1, k⟩ => by
    obtain ⟨⟨d, ρ1⟩, z1, e1⟩ := bind_some e1
    obtain ⟨b', z2, e1⟩ := bind_some e1
    cases e1
    refine ⟨ρ, B, F, d, ρ1, R, z1, fun x H1 B1 G1 F1 p => ?_⟩
    cases d <;> first | (cases z2; done) | skip
    cases z2
    have p' := p.drop
    cases p.rv
    exact ⟨_, rfl, k _ _ _ _ _ (p'.flat (.bl _))⟩
theorem ge_if {t : M Bool} {f g : M PV} (ht : PT X c (tT q K mg P t)) (hf : PE X a (tE q K mg P f)) (hg : PE X b (tE q K mg P g)) : PE X (.IfExp c a b pos) (tE q K mg P (cIf t f g)) :=
  PE.weak (pe_ifExp ht hf hg) fun σ H Q ⟨ρ, B, F, u, ρ', R, e1, k⟩ => by
    obtain ⟨⟨d, ρ1⟩, z1, e1⟩ := bind_some e1
    refine ⟨ρ, B, F, d, ρ1, R, z1, fun H1 B1 F1 p => ?_⟩
    cases d with
    | true =>
      rw [if_pos rfl] at e1 ⊢
      exact ⟨ρ1, B1, F1, u, ρ', p.rel, e1, fun y H2 B2 G2 F2 p2 => k y H2 B2 G2 F2 (p.toE p2)⟩
    | false =>
      rw [if_neg Bool.false_ne_true] at e1 ⊢
      exact ⟨ρ1, B1, F1, u, ρ', p.rel, e1, fun y H2 B2 G2 F2 p2 => k y H2 B2 G2 F2 (p.toE p2)⟩
theorem chain_te {g g' : PV → PV → Option PV} {fa fb fc : O} {Q : VK} (ha : NoPk fa ∨ q = true) (hb : NoPk fb ∨ q = true) (h : tE q K mg P (cChain g g' fa fb fc) σ H Q) :
    tChain (rOp K mg g) (rOp K mg g') (tO q K mg P fa) (tO q K mg P fb) (tO q K mg P fc) σ H Q := by
  obtain ⟨ρ, B, F, r, ρ', R, e1, k⟩ := h
  obtain ⟨⟨o1, ρ1⟩, z1, e1⟩ := bind_some e1
  obtain ⟨⟨o2, ρ2⟩, z2, e1⟩ := bind_some e1
  obtain ⟨va, d1, e1⟩ := bind_some e1
  obtain ⟨vb, d2, e1⟩ := bind_some e1
  obtain ⟨r1, gr, e1⟩ := bind_some e1
  obtain ⟨kb, hk, e2⟩ := bind_some e1
  clear e1
  refine ⟨ρ, B, F, o1, ρ1, R, z1, fun x H1 B1 G1 F1 p1 => ?_⟩
  refine ⟨ρ1, B1, F1, o2, ρ2, p1.rel, z2, fun y H2 B2 G2 F2 p2 => ?_⟩
  have np : (∀ v, o1 ≠ .pk v) ∨ (F2 = F1 ∧ Keep [] H1 B1 H2 B2) := ha.imp (fun n => n _ _ _ z1) fun e => (p2.ro e).2
  have ov := p1.ov.over p1.nd p1.sl.mut p2.st.keep np
  obtain ⟨Wa, ra, _⟩ := ov.deref p2.sl d1
  obtain ⟨Wb, rb, _⟩ := p2.ov.deref p2.sl d2
  have st : Step H B F H2 B2 (G2 ++ F2) := (p1.st.trans (p2.st.beside G1)).less fun b hb => List.mem_append_right _ hb
  have ro : q = true → ρ2 = ρ ∧ F2 = F ∧ Keep [] H B H2 B2 := fun e => let ⟨a1, a2, a3⟩ := p1.ro e; let ⟨b1, b2, b3⟩ := p2.ro e; ⟨b1.trans a1, b2.trans a2, a3.trans0 b3⟩
  refine ⟨B2, va, vb, Wa, Wb, r1, ra, rb, gr, fun z H3 B3 G3 rv ng fr kp => ?_⟩
  cases r1 <;> first | (cases hk; done) | skip
  cases hk
  have rv0 := rv
  cases rv0
  refine ⟨_, rfl, ?_⟩
  have sl3 := p2.sl.keep kp MutW.nil fun _ _ h => nomatch h
  have st3 : Step H B F H3 B3 (G2 ++ F2) := st.trans ⟨fun b hb => .inl hb, kp.mono fun _ h => nomatch h⟩
  have ov3 := p2.ov.over (H2 := H3) (B2 := B3) (F2 := F2) p2.nd p2.sl.mut (kp.mono fun _ h => nomatch h) (.inr ⟨rfl, kp⟩)
  cases kb with
  | true =>
    rw [if_pos rfl] at e2 ⊢
    obtain ⟨⟨o3, ρ3⟩, z3, e2⟩ := bind_some e2
    obtain ⟨vb', d3, e2⟩ := bind_some e2
    obtain ⟨vc, d4, e2⟩ := bind_some e2
    obtain ⟨r', gr', e2⟩ := bind_some e2
    cases e2
    refine ⟨ρ2, B3, F2, o3, ρ3, ⟨sl3, nodup_r p2.nd⟩, z3, fun y4 H4 B4 G4 F4 p4 => ?_⟩
    have np4 : (∀ v, o2 ≠ .pk v) ∨ (F4 = F2 ∧ Keep [] H3 B3 H4 B4) := hb.imp (fun n => n _ _ _ z2) fun e => (p4.ro e).2
    have ov4 := ov3.over p2.nd sl3.mut p4.st.keep np4
    obtain ⟨Wb', rb', _⟩ := ov4.deref p4.sl d3
    obtain ⟨Wc, rc, _⟩ := p4.ov.deref p4.sl d4
    have st4 : Step H B F H4 B4 F4 := (st3.trans (p4.st.beside G2)).less fun b hb => List.mem_append_right _ (List.mem_append_right _ hb)
    refine ⟨B4, vb', vc, Wb', Wc, _, rb', rc, gr', fun z H' B' G rv ng fr kp5 => k z H' B' G F4 ?_⟩
    exact fin_new (fun e => let ⟨a1, a2, a3⟩ := ro e; let ⟨b1, b2, b3⟩ := p4.ro e; ⟨b1.trans a1, b2.trans a2, (a3.trans0 kp).trans0 b3⟩) p4.sl (nodup_r p4.nd) st4 rv ng fr kp5
  | false =>
    rw [if_neg Bool.false_ne_true] at e2 ⊢
    cases e2
    exact k _ _ _ [] F2 ⟨.bl _, sl3, nodup_r p2.nd, st3.less fun b hb => List.mem_append_right _ hb, fun e => let ⟨a1, a2, a3⟩ := ro e; ⟨a1, a2, a3.trans0 kp⟩⟩
theorem ge_chain {op op' : CmpOp} {g g' : PV → PV → Option PV} {fa fb fc : O} (ho : OpR X (compareOp op) (rOp K mg g)) (ho' : OpR X (compareOp op') (rOp K mg g')) (ha : PE X a (tO q K mg P fa)) (hb : PE X b (tO q K mg P fb)) (hc : PE X c (tO q K mg P fc))
    (hp : NoPk fa ∨ q = true := by first | exact .inl nopk_sl | exact .inl nopk_tm | exact .inr rfl | assumption) (hp2 : NoPk fb ∨ q = true := by first | exact .inl nopk_sl | exact .inl nopk_tm | exact .inr rfl | assumption)
    (hm : lastMarks [op, op'] [b, c] = false := by with_unfolding_all rfl) : PE X (.Compare a [op, op'] [b, c] pos) (tE q K mg P (cChain g g' fa fb fc)) :=
  PE.weak (pe_chain ho ho' ha hb hc hm) fun _ _ _ h => chain_te hp hp2 h
theorem gt_chain {op op' : CmpOp} {g g' : PV → PV → Option PV} {fa fb fc : O} (ho : OpR X (compareOp op) (rOp K mg g)) (ho' : OpR X (compareOp op') (rOp K mg g')) (ha : PE X a (tO q K mg P fa)) (hb : PE X b (tO q K mg P fb)) (hc : PE X c (tO q K mg P fc))
    (hp : NoPk fa ∨ q = true := by first | exact .inl nopk_sl | exact .inl nopk_tm | exact .inr rfl | assumption) (hp2 : NoPk fb ∨ q = true := by first | exact .inl nopk_sl | exact .inl nopk_tm | exact .inr rfl | assumption)
    (hm : lastMarks [op, op'] [b, c] = false := by with_unfolding_all rfl) : PT X (.Compare a [op, op'] [b, c] pos) (tT q K mg P (mVal (cChain g g' fa fb fc))) :=
  PT.weak (pt_chain ho ho' ha hb hc hm) fun _ _ _ h => chain_te hp hp2 (val_te h)

/-- a value of any kind as a test -/
def mTru (a : O) : M Bool := fun ρ => (a ρ).bind fun z => (deref z.1 z.2).bind fun v => (ptru v).bind fun k => some (k, z.2)
theorem tru_val {a : PV} {k : Bool} (r : RV K mg H B a x W) (e : ptru a = some k) : TruV K x H k := by
  have ee : ∀ {xs : List PV} {ys : List V} {W}, RVs K mg H B xs ys W → (!xs.isEmpty) = !ys.isEmpty := fun r => by cases r <;> rfl
  cases r with
  | non => cases e; rfl
  | bl b => cases e; rfl
  | int i => cases e; rfl
  | str y => exact (guard_some e).elim fun c e => by cases e; exact ⟨sz_le c, rfl⟩
  | tup h r => cases e; exact .inr (.inl ⟨_, h, ee r⟩)
  | lstF h b r => cases e; exact .inl ⟨_, .of h, ee r⟩
  | lstO h b r => cases e; exact .inl ⟨_, .of h, ee r⟩
  | dicO h b q r =>
    cases e
    refine .inr (.inr ⟨_, h, ?_⟩)
    rename_i ks ps _
    cases ps <;> cases ks <;> first | rfl | simp at q
  | _ => cases e
theorem gt_tru {fa : O} (hK : X.K = K) (h : PE X a (tO q K mg P fa)) (he : ∀ whole, isTrue a X.env whole = (do let v ← whole; standAt a.pos; holding [v] (truthy v)) := by intro _; rfl) : PT X a (tT q K mg P (mTru fa)) := by
  subst hK
  refine PT.weak (pt_truth h he) fun σ H Q ⟨ρ, B, F, u, ρ', R, e1, k⟩ => ?_
  obtain ⟨⟨o1, ρ1⟩, z1, e1⟩ := bind_some e1
  obtain ⟨va, d1, e1⟩ := bind_some e1
  obtain ⟨kk, gr, e1⟩ := bind_some e1
  cases e1
  refine ⟨ρ, B, F, o1, ρ1, R, z1, fun x H1 B1 G1 F1 p1 => ?_⟩
  obtain ⟨Wa, ra, _⟩ := p1.ov.deref p1.sl d1
  exact ⟨_, tru_val ra gr, k H1 B1 F1 ⟨p1.sl, nodup_r p1.nd, p1.st.less fun b hb => List.mem_append_right _ hb, p1.ro⟩⟩
end
end GX

/-! GX: displays, subscripts, slices. -/
namespace GX
open PySem PySem.Spec PyProof.Rows L2

def tmVals : List Opd → Option (List PV)
  | [] => some []
  | .tm v :: os => (tmVals os).bind fun vs => some (v :: vs)
  | _ :: _ => none
def cTup (a : M (List Opd)) : M PV := fun ρ => (a ρ).bind fun z => (tmVals z.1).bind fun vs => guard (vs.length ≤ 16777216) (some (.tup vs, z.2))
def cLst (a : M (List Opd)) : M PV := fun ρ => (a ρ).bind fun z => (tmVals z.1).bind fun vs => guard (vs.length ≤ 16777216) (some (.lst true vs, z.2))
/-- a name's value leaves it -/
def cMov (i : Nat) : M PV := fun ρ => (ρ[i]?).bind fun s => match s with
  | .val v => if v.pure then some (v, ρ) else some (v, ρ.set i .un)
  | _ => none
def pgetI : PV → PV → Option PV
  | .tup xs, .int i => atI xs i
  | .lst _ xs, .int i => atI xs i
  | .zls xs, .int i => atI xs i
  | .str z, .int i => guard (z.length ≤ 16777216) ((atI z.cps.toList i).map fun c => .str ⟨#[c]⟩)
  | .dic _ kvs, k => (toKey k).bind fun k => lookK kvs k
  | _, _ => none
def cSub (a b : O) : M PV := fun ρ => (a ρ).bind fun z1 => (b z1.2).bind fun z2 => (deref z1.1 z2.2).bind fun va => (deref z2.1 z2.2).bind fun vb => (pgetI va vb).bind fun c => if c.pure then some (c, z2.2) else none
def oSub (a b : O) : O := fun ρ => (a ρ).bind fun z1 => (b z1.2).bind fun z2 => (deref z1.1 z2.2).bind fun va => (deref z2.1 z2.2).bind fun vb => (pgetI va vb).bind fun c =>
  if c.pure then some (.tm c, z2.2) else match z1.1 with | .tm _ => none | _ => some (.pk c, z2.2)
def cSubM (f : M PV) (b : O) : M PV := fun ρ => (f ρ).bind fun z1 => (b z1.2).bind fun z2 => (deref z2.1 z2.2).bind fun vb => (pgetI z1.1 vb).bind fun c => some (c, z2.2)

section
variable {q : Bool} {K : PySem.W.Frag} {mg : Str → Option Value} {P : List V} {H H' H1 H2 : Hp} {B B' B1 B2 : Addr → Prop} {x y : V} {v w r c : PV} {xs : List PV} {ys : List V} {F F' F1 F2 G G1 G2 W : List Addr} {ρ ρ' ρ1 ρ2 : Rho} {σ : Sg} {X : Cx} {a b e : Expr} {pos : Pos}

theorem ite_some {α : Type} {c : Prop} [Decidable c] {a b : α} (h : (if c then some a else none) = some b) : c ∧ a = b := by
  split at h
  · exact ⟨by assumption, Option.some.inj h⟩
  · cases h
theorem ovs_tm : ∀ {os : List Opd} {xs : List V} {G : List Addr} {vs : List PV}, OVs K mg σ H B F os xs G → tmVals os = some vs → RVs K mg H B vs xs G
  | [], _, _, _, .nil, e => by cases e; exact .nil
  | .tm u :: os, _, _, vs, .cons h t, e => by
    obtain ⟨us, e2, e⟩ := bind_some e
    cases e
    exact .cons h (ovs_tm t e2)
  | .sl _ :: os, _, _, vs, .cons h t, e => nomatch e
  | .pk _ :: os, _, _, vs, .cons h t, e => nomatch e
theorem ge_tup {es : List Expr} {f : M (List Opd)} {k : Nat} (h : PA X es (tA q K mg P f)) : PE X (.Tuple es k pos) (tE q K mg P (cTup f)) :=
  PE.weak (pe_tup h) fun σ H Q ⟨ρ, B, F, u, ρ', R, e1, k⟩ => by
    obtain ⟨⟨os, ρ1⟩, z1, e1⟩ := bind_some e1
    obtain ⟨vs, z2, e1⟩ := bind_some e1
    obtain ⟨c, e1⟩ := guard_some e1
    cases e1
    refine ⟨ρ, B, F, os, ρ1, R, z1, fun xs H1 B1 G1 F1 p => ?_⟩
    have rv := ovs_tm p.ov z2
    have l := rv.length
    refine ⟨sz_le (by omega), fun a ha => k _ _ B1 G1 F1 ⟨.tup (.of upd_same) (rv.keep0 (Keep.new ha)), p.sl.keep (Keep.new ha) MutW.nil fun _ _ h => (nomatch h), p.nd, ?_, ?_⟩⟩
    · exact p.st.trans ⟨fun b hb => .inl hb, (Keep.new ha).mono fun _ h => nomatch h⟩
    · exact fun e => let ⟨a1, a2, a3⟩ := p.ro e; ⟨a1, a2, a3.trans0 (Keep.new ha)⟩
theorem ge_lst {es : List Expr} {f : M (List Opd)} (h : PA X es (tA q K mg P f)) : PE X (.List es pos) (tE q K mg P (cLst f)) :=
  PE.weak (pe_lst h) fun σ H Q ⟨ρ, B, F, u, ρ', R, e1, k⟩ => by
    obtain ⟨⟨os, ρ1⟩, z1, e1⟩ := bind_some e1
    obtain ⟨vs, z2, e1⟩ := bind_some e1
    obtain ⟨c, e1⟩ := guard_some e1
    cases e1
    refine ⟨ρ, B, F, os, ρ1, R, z1, fun xs H1 B1 G1 F1 p => ?_⟩
    have rv := ovs_tm p.ov z2
    have l := rv.length
    refine ⟨sz_le (by omega), fun a ha => ?_⟩
    have kp : Keep [] H1 B1 (upd H1 a (.lst xs)) (own1 B1 a) := Keep.newO ha
    refine k _ _ (own1 B1 a) (a :: G1) F1 ⟨.lstO upd_same (.inl rfl) (rv.keep0 kp), p.sl.keep kp MutW.nil fun _ _ h => (nomatch h), ?_, ?_, ?_⟩
    · refine List.nodup_cons.mpr ⟨fun hm => ?_, p.nd⟩
      have : Mut (H1 a) := by
        rcases List.mem_append.mp hm with hm | hm
        · exact (rv.mut a hm).2
        · exact (p.sl.mut a hm).2
      rw [ha] at this
      exact this
    · exact p.st.trans ⟨fun b hb => (List.mem_cons.mp hb).elim (fun e => .inr (e ▸ ha)) .inl, kp.mono fun _ h => nomatch h⟩
    · exact fun e => let ⟨a1, a2, a3⟩ := p.ro e; ⟨a1, a2, a3.trans0 kp⟩
theorem ge_mov {i : Nat} (h : PE X e (tVar i)) : PE X e (tE false K mg P (cMov i)) := by
  refine PE.weak h fun σ H Q ⟨ρ, B, F, u, ρ', R, e1, k⟩ => ?_
  obtain ⟨s', z1, z2⟩ := bind_some e1
  cases s' with
  | un => cases z2
  | ref v => cases z2
  | val v =>
    by_cases hp : v.pure = true
    · simp only [hp, if_true] at z2
      cases z2
      have g : (ρ[i]?).bind Slot.get = some u := by rw [z1]; rfl
      obtain ⟨x, hx⟩ := slot_at R.slots g
      exact ⟨x, hx, k x H B [] F ⟨pure_get R.slots g hp hx, R.slots, R.nd, Step.refl, fun _ => ⟨rfl, rfl, Keep.refl⟩⟩⟩
    · simp only [hp] at z2
      cases z2
      obtain ⟨y, p, F1, G, F2, h1, h2, h3, h4, h5⟩ := R.slots.at z1
      have nd := R.nd
      rw [h4] at nd
      obtain ⟨k1, _⟩ := h5 H B [] Keep.refl MutW.nil (fun _ _ h => nomatch h) (fun _ _ h => nomatch h)
      cases h3 with
      | val r =>
        refine ⟨_, h1, k _ H B G (F1 ++ [] ++ F2) ⟨r, k1 .un [] .un, ?_, ⟨fun b hb => .inl ?_, Keep.refl⟩, fun z => nomatch z⟩⟩
        · rw [List.append_nil]
          rw [List.append_assoc] at nd
          have := List.nodup_append.mp nd
          refine List.nodup_append.mpr ⟨nodup_l this.2.1, ?_, fun a1 m1 a2 m2 => ?_⟩
          · refine List.nodup_append.mpr ⟨this.1, nodup_r this.2.1, fun a1 m1 a2 m2 => this.2.2 a1 m1 a2 (List.mem_append_right _ m2)⟩
          · rcases List.mem_append.mp m2 with m2 | m2
            · exact fun e => this.2.2 a2 m2 a1 (List.mem_append_left _ m1) e.symm
            · exact (List.nodup_append.mp this.2.1).2.2 a1 m1 a2 m2
        · rw [h4]
          simp at hb ⊢
          rcases hb with h | h | h
          · exact .inr (.inl h)
          · exact .inl h
          · exact .inr (.inr h)

/-! ### subscripts -/
section
variable (K mg)
def rIxP : R2 := fun x y H Q => ∃ B va vb Wa Wb c, RV K mg H B va x Wa ∧ RV K mg H B vb y Wb ∧ pgetI va vb = some c ∧ ∀ z W, RV K mg H B c z W → W.Sublist Wa → Q z H
end
theorem atI_map {α β : Type} {xs : List α} {ys : List β} (hl : xs.length = ys.length) {i : Int} {c : α} (h : atI xs i = some c) : ∃ j : Nat, xs[j]? = some c ∧ ∀ d, ys[j]? = some d → atI ys i = some d := by
  unfold atI at h
  obtain ⟨j, e1, e2⟩ := bind_some h
  refine ⟨j, e2, fun d hd => ?_⟩
  unfold atI
  rw [← hl, e1]
  exact hd
theorem RVs.atI (r : RVs K mg H B xs ys W) {i : Int} (h : L2.atI xs i = some c) : ∃ z G, L2.atI ys i = some z ∧ RV K mg H B c z G ∧ G.Sublist W := by
  obtain ⟨j, e1, e2⟩ := atI_map r.length h
  obtain ⟨z, F1, G, F2, h1, h2, h3, _⟩ := r.at e1
  refine ⟨z, G, e2 z h1, h2, ?_⟩
  rw [h3, List.append_assoc]
  exact (List.sublist_append_left _ _).trans (List.sublist_append_right _ _)
theorem ix_dict (hu : X.A.units + 1 < cLine) : IxR X (fun x y H Q => ∃ a v, x = .ref a ∧ DGet H a y (some v) ∧ Q v H) := by
  intro value slice pins s σ H x y v u Q I rx ry ⟨a, z, e, g, q⟩ hs
  subst e
  cases rx
  exact tail_any (dict_typeIs I g) PySem.F.slot_dict_getitem.lookup (d_getItem hu I g ry fun w' s3 I3 rw' => ⟨z, H, I3, rw', q⟩) hs
theorem ix_all (hK : X.K = K) (hu : X.A.units + 1 < cLine) : IxR X (rIxP K mg) := by
  subst hK
  intro value slice pins s σ H x y v u Q I rx ry ⟨B, va, vb, Wa, Wb, c, ra, rb, g, k⟩ hs
  unfold pgetI at g
  split at g
  · cases ra with
    | tup h r =>
    cases rb
    obtain ⟨z, G, h1, h2, h3⟩ := r.atI g
    exact ix_tup value slice pins s σ H _ _ v u Q I rx ry ⟨_, _, _, z, rfl, rfl, h, h1, k z G h2 h3⟩ hs
  · obtain ⟨a, ys, W, rfl, h, r, hW⟩ := ra.lsts
    cases rb
    obtain ⟨z, G, h1, h2, h3⟩ := r.atI g
    exact ix_list value slice pins s σ H _ _ v u Q I rx ry ⟨_, _, _, z, rfl, rfl, .of h, h1, k z G h2 (h3.trans hW)⟩ hs
  · cases ra with
    | zls h r =>
    cases rb
    obtain ⟨z, G, h1, h2, h3⟩ := r.atI g
    exact ix_list value slice pins s σ H _ _ v u Q I rx ry ⟨_, _, _, z, rfl, rfl, h.sq, h1, k z G h2 h3⟩ hs
  · obtain ⟨c, g⟩ := guard_some g
    obtain ⟨d, gd, rfl⟩ := Option.map_eq_some_iff.mp g
    cases ra
    cases rb
    exact ix_str value slice pins s σ H _ _ v u Q I rx ry ⟨_, _, d, rfl, rfl, sz_le c, gd, k _ [] (.str _) (List.nil_sublist _)⟩ hs
  · obtain ⟨kk, e1, g⟩ := bind_some g
    obtain rfl := toKey_ok rb e1
    obtain ⟨a, ks, W, rfl, hb, e2, r2, hW⟩ := ra.dics
    have lk := look_ok (k := kk) e2 r2
    rw [g] at lk
    obtain ⟨z, G, h1, h2, h3⟩ := lk
    exact ix_dict hu value slice pins s σ H _ _ v u Q I rx ry ⟨_, z, rfl, .inl ⟨ks, kk, hb, rfl, h1.symm⟩, k z G h2 (h3.trans hW)⟩ hs
  · cases g

theorem ge_sub {fa fb : O} (hK : X.K = K) (hu : X.A.units + 1 < cLine) (ha : PE X a (tO q K mg P fa)) (hb : PE X b (tO q K mg P fb)) (hs : PlainIx b := by intro _ _; rfl)
    (hp : NoPk fa ∨ q = true := by first | exact .inl nopk_sl | exact .inl nopk_tm | exact .inr rfl | assumption) : PE X (.Subscript a b pos) (tE q K mg P (cSub fa fb)) := by
  refine PE.weak (pe_ix (ix_all (mg := mg) hK hu) ha hb hs) fun σ H Q ⟨ρ, B, F, r, ρ', R, e1, k⟩ => ?_
  obtain ⟨⟨o1, ρ1⟩, z1, e1⟩ := bind_some e1
  obtain ⟨⟨o2, ρ2⟩, z2, e1⟩ := bind_some e1
  obtain ⟨va, d1, e1⟩ := bind_some e1
  obtain ⟨vb, d2, e1⟩ := bind_some e1
  obtain ⟨c, gc, e1⟩ := bind_some e1
  obtain ⟨hpure, e1⟩ := ite_some e1
  cases e1
  refine ⟨ρ, B, F, o1, ρ1, R, z1, fun x H1 B1 G1 F1 p1 => ?_⟩
  refine ⟨ρ1, B1, F1, o2, ρ2, p1.rel, z2, fun y H2 B2 G2 F2 p2 => ?_⟩
  have np : (∀ v, o1 ≠ .pk v) ∨ (F2 = F1 ∧ Keep [] H1 B1 H2 B2) := hp.imp (fun n => n _ _ _ z1) fun e => (p2.ro e).2
  have ov := p1.ov.over p1.nd p1.sl.mut p2.st.keep np
  obtain ⟨Wa, ra, _⟩ := ov.deref p2.sl d1
  obtain ⟨Wb, rb, _⟩ := p2.ov.deref p2.sl d2
  have st : Step H B F H2 B2 F2 := (p1.st.trans (p2.st.beside G1)).less fun b hb => List.mem_append_right _ (List.mem_append_right _ hb)
  refine ⟨B2, va, vb, Wa, Wb, _, ra, rb, gc, fun z W rz sub => k z H2 B2 [] F2 ?_⟩
  have := rz.pure hpure
  subst this
  exact ⟨rz, p2.sl, nodup_r p2.nd, st, fun e => let ⟨a1, a2, a3⟩ := p1.ro e; let ⟨b1, b2, b3⟩ := p2.ro e; ⟨b1.trans a1, b2.trans a2, a3.trans0 b3⟩⟩
theorem go_sub {fa fb : O} (hK : X.K = K) (hu : X.A.units + 1 < cLine) (ha : PE X a (tO q K mg P fa)) (hb : PE X b (tO q K mg P fb)) (hs : PlainIx b := by intro _ _; rfl)
    (hp : NoPk fa ∨ q = true := by first | exact .inl nopk_sl | exact .inl nopk_tm | exact .inr rfl | assumption) : PE X (.Subscript a b pos) (tO q K mg P (oSub fa fb)) := by
  refine PE.weak (pe_ix (ix_all (mg := mg) hK hu) ha hb hs) fun σ H Q ⟨ρ, B, F, r, ρ', R, e1, k⟩ => ?_
  obtain ⟨⟨o1, ρ1⟩, z1, e1⟩ := bind_some e1
  obtain ⟨⟨o2, ρ2⟩, z2, e1⟩ := bind_some e1
  obtain ⟨va, d1, e1⟩ := bind_some e1
  obtain ⟨vb, d2, e1⟩ := bind_some e1
  obtain ⟨c, gc, e1⟩ := bind_some e1
  refine ⟨ρ, B, F, o1, ρ1, R, z1, fun x H1 B1 G1 F1 p1 => ?_⟩
  refine ⟨ρ1, B1, F1, o2, ρ2, p1.rel, z2, fun y H2 B2 G2 F2 p2 => ?_⟩
  have np : (∀ v, o1 ≠ .pk v) ∨ (F2 = F1 ∧ Keep [] H1 B1 H2 B2) := hp.imp (fun n => n _ _ _ z1) fun e => (p2.ro e).2
  have ov := p1.ov.over p1.nd p1.sl.mut p2.st.keep np
  obtain ⟨Wa, ra, wa⟩ := ov.deref p2.sl d1
  obtain ⟨Wb, rb, _⟩ := p2.ov.deref p2.sl d2
  have st : Step H B F H2 B2 F2 := (p1.st.trans (p2.st.beside G1)).less fun b hb => List.mem_append_right _ (List.mem_append_right _ hb)
  have ro : q = true → ρ2 = ρ ∧ F2 = F ∧ Keep [] H B H2 B2 := fun e => let ⟨a1, a2, a3⟩ := p1.ro e; let ⟨b1, b2, b3⟩ := p2.ro e; ⟨b1.trans a1, b2.trans a2, a3.trans0 b3⟩
  refine ⟨B2, va, vb, Wa, Wb, c, ra, rb, gc, fun z W rz sub => ?_⟩
  split at e1
  · rename_i hpure
    cases e1
    have := rz.pure hpure
    subst this
    exact k z H2 B2 [] F2 ⟨rz, p2.sl, nodup_r p2.nd, st, ro⟩
  · have hG : ∀ b ∈ W, b ∈ F2 → True := fun _ _ _ => trivial
    cases o1 with
    | tm u => cases e1
    | sl i =>
      cases e1
      obtain ⟨_, rfl⟩ := p1.ov
      exact k z H2 B2 [] F2 ⟨⟨rfl, W, rz, fun b hb => by simpa using wa b (sub.subset hb)⟩, p2.sl, nodup_r p2.nd, st, ro⟩
    | pk u =>
      cases e1
      obtain ⟨rfl, _⟩ := p1.ov
      exact k z H2 B2 [] F2 ⟨⟨rfl, W, rz, fun b hb => by simpa using wa b (sub.subset hb)⟩, p2.sl, nodup_r p2.nd, st, ro⟩
theorem ge_subM {f : M PV} {fb : O} (hK : X.K = K) (hu : X.A.units + 1 < cLine) (ha : PE X a (tE q K mg P f)) (hb : PE X b (tO q K mg P fb)) (hs : PlainIx b := by intro _ _; rfl) : PE X (.Subscript a b pos) (tE q K mg P (cSubM f fb)) := by
  refine PE.weak (pe_ix (ix_all (mg := mg) hK hu) ha hb hs) fun σ H Q ⟨ρ, B, F, r, ρ', R, e1, k⟩ => ?_
  obtain ⟨⟨va, ρ1⟩, z1, e1⟩ := bind_some e1
  obtain ⟨⟨o2, ρ2⟩, z2, e1⟩ := bind_some e1
  obtain ⟨vb, d2, e1⟩ := bind_some e1
  obtain ⟨c, gc, e1⟩ := bind_some e1
  cases e1
  refine ⟨ρ, B, F, va, ρ1, R, z1, fun x H1 B1 G1 F1 p1 => ?_⟩
  refine ⟨ρ1, B1, F1, o2, ρ2, p1.rel, z2, fun y H2 B2 G2 F2 p2 => ?_⟩
  have ra := p1.rv.over p1.nd p1.sl.mut p2.st.keep
  obtain ⟨Wb, rb, _⟩ := p2.ov.deref p2.sl d2
  have nd : (G1 ++ F2).Nodup := nodup_beside p1.nd p1.rv.mut (nodup_r p2.nd) (p2.st.less fun b hb => List.mem_append_right _ hb)
  refine ⟨B2, va, vb, G1, Wb, _, ra, rb, gc, fun z W rz sub => k z H2 B2 W F2 ⟨rz, p2.sl, nd.sublist (sub.append_right _), ?_, ?_⟩⟩
  · exact (p1.st.trans (p2.st.beside G1)).less fun b hb => by
      rcases List.mem_append.mp hb with h | h
      · exact List.mem_append_left _ (sub.subset h)
      · exact List.mem_append_right _ (List.mem_append_right _ h)
  · exact fun e => let ⟨a1, a2, a3⟩ := p1.ro e; let ⟨b1, b2, b3⟩ := p2.ro e; ⟨b1.trans a1, b2.trans a2, a3.trans0 b3⟩

/-! ### slices -/
section
variable (q K mg P)
def tP (f : M (Option Int)) : TO := fun σ H Q => ∃ ρ B F b ρ', Rel K mg H B P ρ σ F ∧ f ρ = some (b, ρ') ∧ ∀ H' B' F', PoT q K mg P σ ρ H B F ρ' H' B' F' → Q b H'
end
end
def mNo : M (Option Int) := fun ρ => some (none, ρ)
def asI : PV → Option Int
  | .int i => some i
  | _ => none
def mSome (f : M PV) : M (Option Int) := fun ρ => (f ρ).bind fun z => (asI z.1).bind fun i => some (some i, z.2)
def cut {α : Type} (xs : List α) (lo hi : Option Int) : List α := (xs.drop (HT.sIx xs.length 0 lo)).take (HT.sIx xs.length xs.length hi - HT.sIx xs.length 0 lo)
def psl : PV → Option Int → Option Int → Option PV
  | .tup xs, lo, hi => guard (PV.pures xs = true) (some (.tup (cut xs lo hi)))
  | .lst _ xs, lo, hi => guard (PV.pures xs = true) (some (.lst true (cut xs lo hi)))
  | .str z, lo, hi => guard (z.length ≤ 16777216) (some (.str (cutS z lo hi)))
  | _, _, _ => none
def cSl (a : O) (lo hi : M (Option Int)) : M PV := fun ρ => (a ρ).bind fun z1 => (lo z1.2).bind fun z2 => (hi z2.2).bind fun z3 => (deref z1.1 z3.2).bind fun va => (psl va z2.1 z3.1).bind fun r => some (r, z3.2)
section
variable {q : Bool} {K : PySem.W.Frag} {mg : Str → Option Value} {P : List V} {H H' H1 H2 : Hp} {B B' B1 B2 : Addr → Prop} {x y : V} {v w r c : PV} {xs : List PV} {ys : List V} {F F' F1 F2 G G1 G2 W : List Addr} {ρ ρ' ρ1 ρ2 : Rho} {σ : Sg} {X : Cx} {a b e : Expr} {pos p2 : Pos}
theorem PO.weak {e : Option Expr} {t t' : TO} (h : L2.PO X e t) (w : ∀ σ H Q, t' σ H Q → t σ H Q) : L2.PO X e t' := ⟨fun pins s σ H Q I q => h.run pins s σ H Q I (w σ H Q q)⟩
theorem gp_none : L2.PO X none (tP q K mg P mNo) := PO.weak po_none fun σ H Q ⟨ρ, B, F, u, ρ', R, e1, k⟩ => by
  cases e1
  exact k H B F ⟨R.slots, R.nd, Step.refl, fun _ => ⟨rfl, rfl, Keep.refl⟩⟩
theorem gp_some {f : M PV} (h : PE X e (tE q K mg P f)) : L2.PO X (some e) (tP q K mg P (mSome f)) := PO.weak (po_some h) fun σ H Q ⟨ρ, B, F, u, ρ', R, e1, k⟩ => by
  obtain ⟨⟨v, ρ1⟩, z1, e1⟩ := bind_some e1
  obtain ⟨i, z2, e1⟩ := bind_some e1
  cases e1
  refine ⟨ρ, B, F, v, ρ1, R, z1, fun x H' B' G F' p => ?_⟩
  cases v <;> first | (cases z2; done) | skip
  cases z2
  have p' := p.drop
  cases p.rv
  exact ⟨_, rfl, k _ _ _ p'⟩
section
variable (K mg)
def rSlP : V → Option Int → Option Int → Hp → VK → Prop := fun x lo hi H Q => ∃ B va Wa r, RV K mg H B va x Wa ∧ psl va lo hi = some r ∧ New K mg H B r Q
end
theorem RVs.cut (r : RVs K mg H B xs ys []) (lo hi : Option Int) : RVs K mg H B (GX.cut xs lo hi) (cutV ys lo hi) [] := by
  unfold GX.cut cutV
  rw [r.length]
  exact (r.drop (n := _)).take (n := _)
theorem cut_all {α : Type} {xs : List α} {lo hi : Option Int} (h : HT.sIx xs.length 0 lo = 0 ∧ HT.sIx xs.length xs.length hi = xs.length) : cut xs lo hi = xs := by
  unfold cut
  rw [h.1, h.2]
  simp
theorem sl_all (hK : X.K = K) : SlR X (rSlP K mg) := by
  subst hK
  intro pins s σ H x v vl vu lo hi sl Q I rx hs pl pu ⟨B, va, Wa, r, ra, g, k⟩
  unfold psl at g
  split at g
  · obtain ⟨c, g⟩ := guard_some g
    cases g
    cases ra with
    | tup h r =>
    have r := r.pures0 c
    refine sl_tupA pins s σ H _ v vl vu _ _ sl Q I rx hs pl pu ⟨_, _, rfl, h, fun hw => ?_, fun _ p hp => k.tup (r.cut _ _) hp⟩
    have l := r.length
    rw [← l] at hw
    rw [cut_all hw] at k
    exact k.pure (.tup h r)
  · obtain ⟨c, g⟩ := guard_some g
    cases g
    obtain ⟨a, ys1, rfl, ha, r1⟩ := ra.lst c
    exact sl_list pins s σ H _ v vl vu _ _ sl Q I rx hs pl pu ⟨_, _, rfl, .of ha, fun p hp => k.list (r1.cut _ _) hp⟩
  · obtain ⟨c, g⟩ := guard_some g
    cases g
    cases ra
    exact sl_str pins s σ H _ v vl vu _ _ sl Q I rx hs pl pu ⟨_, rfl, sz_le c, k.pure (.str _)⟩
  · cases g
theorem ge_sl {fa : O} {lo hi : Option Expr} {fl fh : M (Option Int)} (hK : X.K = K) (ha : PE X a (tO q K mg P fa)) (hl : L2.PO X lo (tP q K mg P fl)) (hh : L2.PO X hi (tP q K mg P fh))
    (hp : NoPk fa ∨ q = true := by first | exact .inl nopk_sl | exact .inl nopk_tm | exact .inr rfl | assumption) : PE X (.Subscript a (.Slice lo hi none p2) pos) (tE q K mg P (cSl fa fl fh)) := by
  refine PE.weak (pe_slice (sl_all (mg := mg) hK) ha hl hh) fun σ H Q ⟨ρ, B, F, r, ρ', R, e1, k⟩ => ?_
  obtain ⟨⟨o1, ρ1⟩, z1, e1⟩ := bind_some e1
  obtain ⟨⟨i2, ρ2⟩, z2, e1⟩ := bind_some e1
  obtain ⟨⟨i3, ρ3⟩, z3, e1⟩ := bind_some e1
  obtain ⟨va, d1, e1⟩ := bind_some e1
  obtain ⟨r, gr, e1⟩ := bind_some e1
  cases e1
  refine ⟨ρ, B, F, o1, ρ1, R, z1, fun x H1 B1 G1 F1 p1 => ?_⟩
  refine ⟨ρ1, B1, F1, i2, ρ2, p1.rel, z2, fun H2 B2 F2 p2 => ?_⟩
  refine ⟨ρ2, B2, F2, i3, ρ3, p2.rel, z3, fun H3 B3 F3 p3 => ?_⟩
  have p23 := p2.trans p3
  have np : (∀ v, o1 ≠ .pk v) ∨ (F3 = F1 ∧ Keep [] H1 B1 H3 B3) := hp.imp (fun n => n _ _ _ z1) fun e => (p23.ro e).2
  have ov := p1.ov.over p1.nd p1.sl.mut p23.st.keep np
  obtain ⟨Wa, ra, _⟩ := ov.deref p23.sl d1
  have st : Step H B F H3 B3 F3 := (p1.st.trans (p23.st.beside G1)).less fun b hb => List.mem_append_right _ hb
  refine ⟨B3, va, Wa, _, ra, gr, fun z H' B' G rv ng fr kp => k z H' B' G F3 ?_⟩
  exact fin_new (fun e => let ⟨a1, a2, a3⟩ := p1.ro e; let ⟨b1, b2, b3⟩ := p23.ro e; ⟨b1.trans a1, b2.trans a2, a3.trans0 b3⟩) p23.sl p23.nd st rv ng fr kp
end
end GX

/-! GX: built-in functions by values. -/
namespace GX
open PySem PySem.Spec PyProof.Rows L2

def intsOf : List PV → Option (List Int)
  | [] => some []
  | .int i :: xs => (intsOf xs).bind fun ns => some (i :: ns)
  | _ :: _ => none
def blsOf : List PV → Option (List Bool)
  | [] => some []
  | .bl i :: xs => (blsOf xs).bind fun ns => some (i :: ns)
  | _ :: _ => none
def plen : List PV → Option PV
  | [.tup xs] => some (.int xs.length)
  | [.lst _ xs] => some (.int xs.length)
  | [.zls xs] => some (.int xs.length)
  | [.str z] => guard (z.length ≤ 16777216) (some (.int z.length))
  | [.dic true kvs] => some (.int kvs.length)
  | _ => none
def psum : List PV → Option PV
  | [.lst _ xs] => (intsOf xs).bind fun ns => some (.int ns.sum)
  | [.tup xs] => (intsOf xs).bind fun ns => some (.int ns.sum)
  | _ => none
def maxI : List Int → Int
  | [] => 0
  | n :: ns => ns.foldl max n
def minI : List Int → Int
  | [] => 0
  | n :: ns => ns.foldl min n
def pmax : List PV → Option PV
  | [.lst _ xs] => (intsOf xs).bind fun ns => guard (ns ≠ []) (some (.int (maxI ns)))
  | [.int i, .int j] => some (.int (if j > i then j else i))
  | _ => none
def pmin : List PV → Option PV
  | [.lst _ xs] => (intsOf xs).bind fun ns => guard (ns ≠ []) (some (.int (minI ns)))
  | [.int i, .int j] => some (.int (if j < i then j else i))
  | _ => none
def pabs : List PV → Option PV
  | [.int i] => some (.int (if i < 0 then -i else i))
  | _ => none
def pint : List PV → Option PV
  | [.int i] => some (.int i)
  | [.bl k] => some (.int (if k then 1 else 0))
  | _ => none
def plist : List PV → Option PV
  | [.tup xs] => guard (PV.pures xs = true) (some (.lst true xs))
  | [.lst _ xs] => guard (PV.pures xs = true) (some (.lst true xs))
  | [.zls xs] => guard (PV.pures xs = true) (some (.lst true xs))
  | _ => none
def ptuple : List PV → Option PV
  | [.tup xs] => guard (PV.pures xs = true) (some (.tup xs))
  | [.lst _ xs] => guard (PV.pures xs = true) (some (.tup xs))
  | _ => none
def pall : List PV → Option PV
  | [.lst _ xs] => (blsOf xs).bind fun bs => some (.bl (bs.all id))
  | _ => none
def pany : List PV → Option PV
  | [.lst _ xs] => (blsOf xs).bind fun bs => some (.bl (bs.any id))
  | _ => none
def tab (T : String) (yes : List String) : Option Bool := if T ∈ yes then some true else if T ∈ ["int", "str", "tuple", "list", "dict", "bool"] then some false else none
def isi : PV → String → Option Bool
  | .non, T => tab T []
  | .bl _, T => tab T ["bool", "int"]
  | .int _, T => tab T ["int"]
  | .str _, T => tab T ["str"]
  | .tup _, T => tab T ["tuple"]
  | .lst _ _, T => tab T ["list"]
  | .dic _ _, T => tab T ["dict"]
  | _, _ => none
def pisi : List PV → Option PV
  | [v, .ty T] => (isi v T).map .bl
  | _ => none
/-- sorted, of data that are alike -/
def sortD (xs : List PV) (ds : List PyData) : List PV := ((xs.zip ds).mergeSort (PySem.W.dataLe false Prod.snd)).map Prod.fst
def sortOk (ds : List PyData) : Bool := (ds.all fun d => ds.all fun e => PySem.W.alike d e) && ((ds.all fun d => match d with | .tuple (_ :: _) => true | _ => false) || ds.all fun d => match d with | .none => false | .tuple _ => false | _ => true) && (ds.all fun d => decide (d.depth ≤ 60))
def psortL (xs : List PV) : Option PV := (toDs xs).bind fun ds => guard (sortOk ds = true ∧ PV.pures xs = true ∧ xs.length ≤ 16777216) (some (.lst true (sortD xs ds)))
def psorted : List PV → Option PV
  | [.lst _ xs] => psortL xs
  | _ => none

section
variable {K : PySem.W.Frag} {mg : Str → Option Value} {H H' : Hp} {B B' : Addr → Prop} {x y : V} {v w r : PV} {xs : List PV} {ys : List V} {G F W : List Addr} {Q : VK} {X : Cx}
theorem pr1 {R : PV → V → Prop} {vs : List V} (p : Paired R [v] vs) : ∃ x, vs = [x] ∧ R v x := by
  cases p with | cons a b => cases b; exact ⟨_, rfl, a⟩
theorem pr2 {R : PV → V → Prop} {vs : List V} (p : Paired R [v, w] vs) : ∃ x y, vs = [x, y] ∧ R v x ∧ R w y := by
  cases p with | cons a b => cases b with | cons b c => cases c; exact ⟨_, _, rfl, a, b⟩
theorem ints_ok : ∀ {xs : List PV} {ys : List V} {W : List Addr} {ns : List Int}, RVs K mg H B xs ys W → intsOf xs = some ns → ys = ns.map V.int
  | _, _, _, _, .nil, e => by cases e; rfl
  | .int i :: xs, _, _, _, .cons r t, e => by
    obtain ⟨ns, e1, e⟩ := bind_some e
    cases e
    cases r
    rw [ints_ok t e1]
    rfl
  | .non :: xs, _, _, _, .cons r t, e => nomatch e
  | .bl _ :: xs, _, _, _, .cons r t, e => nomatch e
  | .str _ :: xs, _, _, _, .cons r t, e => nomatch e
  | .ty _ :: xs, _, _, _, .cons r t, e => nomatch e
  | .fn _ :: xs, _, _, _, .cons r t, e => nomatch e
  | .tup _ :: xs, _, _, _, .cons r t, e => nomatch e
  | .lst _ _ :: xs, _, _, _, .cons r t, e => nomatch e
  | .zls _ :: xs, _, _, _, .cons r t, e => nomatch e
  | .dic _ _ :: xs, _, _, _, .cons r t, e => nomatch e
  | .ins _ _ _ :: xs, _, _, _, .cons r t, e => nomatch e
theorem bls_ok : ∀ {xs : List PV} {ys : List V} {W : List Addr} {ns : List Bool}, RVs K mg H B xs ys W → blsOf xs = some ns → ys = ns.map V.bl
  | _, _, _, _, .nil, e => by cases e; rfl
  | .bl i :: xs, _, _, _, .cons r t, e => by
    obtain ⟨ns, e1, e⟩ := bind_some e
    cases e
    cases r
    rw [bls_ok t e1]
    rfl
  | .non :: xs, _, _, _, .cons r t, e => nomatch e
  | .int _ :: xs, _, _, _, .cons r t, e => nomatch e
  | .str _ :: xs, _, _, _, .cons r t, e => nomatch e
  | .ty _ :: xs, _, _, _, .cons r t, e => nomatch e
  | .fn _ :: xs, _, _, _, .cons r t, e => nomatch e
  | .tup _ :: xs, _, _, _, .cons r t, e => nomatch e
  | .lst _ _ :: xs, _, _, _, .cons r t, e => nomatch e
  | .zls _ :: xs, _, _, _, .cons r t, e => nomatch e
  | .dic _ _ :: xs, _, _, _, .cons r t, e => nomatch e
  | .ins _ _ _ :: xs, _, _, _, .cons r t, e => nomatch e
theorem cr_len (hK : X.K = K) : CallR X (.builtin "len") (rCall K mg plen) := by
  subst hK
  intro pins s σ H xs us Q I rx ⟨B, vs, r, ps, g, k⟩
  unfold plen at g
  split at g
  · cases g
    obtain ⟨z, rfl, W, rv⟩ := pr1 ps
    cases rv with
    | tup h rs => exact call_len_seq pins s σ H _ us Q I rx ⟨_, _, rfl, .inr h, k.pure (by rw [rs.length]; exact .int _)⟩
  · cases g
    obtain ⟨z, rfl, W, rv⟩ := pr1 ps
    obtain ⟨a, ys, W, rfl, ha, rs, _⟩ := rv.lsts
    exact call_len_seq pins s σ H _ us Q I rx ⟨_, _, rfl, .inl (.of ha), k.pure (by rw [rs.length]; exact .int _)⟩
  · cases g
    obtain ⟨z, rfl, W, rv⟩ := pr1 ps
    cases rv with
    | zls h rs => exact call_len_seq pins s σ H _ us Q I rx ⟨_, _, rfl, .inl h.sq, k.pure (by rw [rs.length]; exact .int _)⟩
  · obtain ⟨c, g⟩ := guard_some g
    cases g
    obtain ⟨z, rfl, W, rv⟩ := pr1 ps
    cases rv
    exact call_len_str pins s σ H _ us Q I rx ⟨_, rfl, sz_le c, k.pure (.int _)⟩
  · cases g
    obtain ⟨z, rfl, W, rv⟩ := pr1 ps
    cases rv with
    | dicO h _ e rs =>
      have l : _ = _ := congrArg List.length e
      simp only [List.length_map] at l
      exact call_lenD pins s σ H _ us Q I rx ⟨_, _, rfl, h, k.pure (by rw [l]; exact .int _)⟩
  · cases g
theorem cr_sumP (hK : X.K = K) (hc : X.calm = true) : CallR X (.builtin "sum") (rCall K mg psum) := by
  subst hK
  intro pins s σ H xs us Q I rx ⟨B, vs, r, ps, g, k⟩
  unfold psum at g
  split at g
  · obtain ⟨ns, e1, g⟩ := bind_some g
    cases g
    obtain ⟨z, rfl, W, rv⟩ := pr1 ps
    obtain ⟨a, ys, W, rfl, ha, rs, _⟩ := rv.lsts
    obtain rfl := ints_ok rs e1
    exact cr_sum hc pins s σ H _ us Q I rx ⟨_, ns, rfl, .of ha, k.pure (.int _)⟩
  · obtain ⟨ns, e1, g⟩ := bind_some g
    cases g
    obtain ⟨z, rfl, W, rv⟩ := pr1 ps
    cases rv with
    | tup h rs =>
      obtain rfl := ints_ok rs e1
      obtain ⟨its, rr, ht, hz⟩ := I.tuple h
      obtain ⟨u, rfl, ru⟩ := vals1 rx
      cases ru
      have hi := intsAre_of rr
      obtain ⟨xs, hx⟩ := hi.allInts.items
      have hn : numsOf its.toArray.toList = ns := by rw [show its.toArray.toList = its from rfl, hi.numsOf]
      have hl : s.heap.IsTuple _ its.toArray := ht
      rw [hx] at hl hn
      rw [nums_intItems] at hn
      refine PySem.W.ktm_sumG (I.ok.hd hc) hl fun h' tk t' hk => ⟨.int ns.sum, H, I.kept hk, ⟨t', ?_⟩, k.pure (.int _)⟩
      rw [preSum_eq, List.take_of_length_le (by simp), hn]
  · cases g
theorem foldl_max_spec : ∀ (ns : List Int) (n : Int), (ns.foldl max n = n ∨ ns.foldl max n ∈ ns) ∧ n ≤ ns.foldl max n ∧ ∀ y ∈ ns, y ≤ ns.foldl max n
  | [], n => ⟨.inl rfl, Int.le_refl _, fun _ h => nomatch h⟩
  | m :: ns, n => by
    obtain ⟨h1, h2, h3⟩ := foldl_max_spec ns (max n m)
    refine ⟨?_, ?_, fun y hy => ?_⟩
    · rw [List.foldl_cons]
      rcases h1 with h1 | h1
      · rw [h1]
        rcases Int.le_total n m with h | h
        · right; rw [Int.max_eq_right h]; exact List.mem_cons_self
        · left; rw [Int.max_eq_left h]
      · right; exact List.mem_cons_of_mem _ h1
    · rw [List.foldl_cons]
      omega
    · rw [List.foldl_cons]
      rcases List.mem_cons.mp hy with rfl | hy
      · omega
      · exact h3 y hy
theorem foldl_min_spec : ∀ (ns : List Int) (n : Int), (ns.foldl min n = n ∨ ns.foldl min n ∈ ns) ∧ ns.foldl min n ≤ n ∧ ∀ y ∈ ns, ns.foldl min n ≤ y
  | [], n => ⟨.inl rfl, Int.le_refl _, fun _ h => nomatch h⟩
  | m :: ns, n => by
    obtain ⟨h1, h2, h3⟩ := foldl_min_spec ns (min n m)
    refine ⟨?_, ?_, fun y hy => ?_⟩
    · rw [List.foldl_cons]
      rcases h1 with h1 | h1
      · rw [h1]
        rcases Int.le_total n m with h | h
        · left; rw [Int.min_eq_left h]
        · right; rw [Int.min_eq_right h]; exact List.mem_cons_self
      · right; exact List.mem_cons_of_mem _ h1
    · rw [List.foldl_cons]
      omega
    · rw [List.foldl_cons]
      rcases List.mem_cons.mp hy with rfl | hy
      · omega
      · exact h3 y hy
theorem maxI_spec {ns : List Int} (h : ns ≠ []) : maxI ns ∈ ns ∧ ∀ y ∈ ns, y ≤ maxI ns := by
  cases ns with
  | nil => exact absurd rfl h
  | cons n ns =>
    obtain ⟨h1, h2, h3⟩ := foldl_max_spec ns n
    refine ⟨?_, fun y hy => ?_⟩
    · show ns.foldl max n ∈ n :: ns
      rcases h1 with h1 | h1
      · rw [h1]; exact List.mem_cons_self
      · exact List.mem_cons_of_mem _ h1
    · rcases List.mem_cons.mp hy with rfl | hy
      · exact h2
      · exact h3 y hy
theorem minI_spec {ns : List Int} (h : ns ≠ []) : minI ns ∈ ns ∧ ∀ y ∈ ns, minI ns ≤ y := by
  cases ns with
  | nil => exact absurd rfl h
  | cons n ns =>
    obtain ⟨h1, h2, h3⟩ := foldl_min_spec ns n
    refine ⟨?_, fun y hy => ?_⟩
    · show ns.foldl min n ∈ n :: ns
      rcases h1 with h1 | h1
      · rw [h1]; exact List.mem_cons_self
      · exact List.mem_cons_of_mem _ h1
    · rcases List.mem_cons.mp hy with rfl | hy
      · exact h2
      · exact h3 y hy
theorem cr_maxP (hK : X.K = K) (hc : X.calm = true) : CallR X (.builtin "max") (rCall K mg pmax) := by
  subst hK
  intro pins s σ H xs us Q I rx ⟨B, vs, r, ps, g, k⟩
  unfold pmax at g
  split at g
  · obtain ⟨ns, e1, g⟩ := bind_some g
    obtain ⟨c, g⟩ := guard_some g
    cases g
    obtain ⟨z, rfl, W, rv⟩ := pr1 ps
    obtain ⟨a, ys, W, rfl, ha, rs, _⟩ := rv.lsts
    obtain rfl := ints_ok rs e1
    obtain ⟨s1, s2⟩ := maxI_spec c
    refine cr_max hc pins s σ H _ us Q I rx ⟨_, ns, rfl, .of ha, List.length_pos_iff.mpr c, fun m h1 h2 => ?_⟩
    have : m = maxI ns := Int.le_antisymm (s2 m h1) (h2 _ s1)
    rw [this]
    exact k.pure (.int _)
  · cases g
    obtain ⟨z, z', rfl, ⟨W, rv⟩, ⟨W', rv'⟩⟩ := pr2 ps
    cases rv
    cases rv'
    exact call_max2 hc pins s σ H _ us Q I rx ⟨_, _, rfl, k.pure (.int _)⟩
  · cases g
theorem cr_minP (hK : X.K = K) (hc : X.calm = true) : CallR X (.builtin "min") (rCall K mg pmin) := by
  subst hK
  intro pins s σ H xs us Q I rx ⟨B, vs, r, ps, g, k⟩
  unfold pmin at g
  split at g
  · obtain ⟨ns, e1, g⟩ := bind_some g
    obtain ⟨c, g⟩ := guard_some g
    cases g
    obtain ⟨z, rfl, W, rv⟩ := pr1 ps
    obtain ⟨a, ys, W, rfl, ha, rs, _⟩ := rv.lsts
    obtain rfl := ints_ok rs e1
    obtain ⟨s1, s2⟩ := minI_spec c
    refine cr_min hc pins s σ H _ us Q I rx ⟨_, ns, rfl, .of ha, List.length_pos_iff.mpr c, fun m h1 h2 => ?_⟩
    have : m = minI ns := Int.le_antisymm (h2 _ s1) (s2 m h1)
    rw [this]
    exact k.pure (.int _)
  · cases g
    obtain ⟨z, z', rfl, ⟨W, rv⟩, ⟨W', rv'⟩⟩ := pr2 ps
    cases rv
    cases rv'
    exact call_min2 hc pins s σ H _ us Q I rx ⟨_, _, rfl, k.pure (.int _)⟩
  · cases g
theorem cr_abs : CallR X (.builtin "abs") (rCall K mg pabs) := by
  intro pins s σ H xs us Q I rx ⟨B, vs, r, ps, g, k⟩
  unfold pabs at g
  split at g
  · cases g
    obtain ⟨z, rfl, W, rv⟩ := pr1 ps
    cases rv
    exact call_abs pins s σ H _ us Q I rx ⟨_, rfl, k.pure (.int _)⟩
  · cases g
theorem cr_int : CallR X (.type "int") (rCall K mg pint) := by
  intro pins s σ H xs us Q I rx ⟨B, vs, r, ps, g, k⟩
  unfold pint at g
  split at g
  · cases g
    obtain ⟨z, rfl, W, rv⟩ := pr1 ps
    cases rv
    exact call_int1 pins s σ H _ us Q I rx (.inl ⟨_, rfl, k.pure (.int _)⟩)
  · cases g
    obtain ⟨z, rfl, W, rv⟩ := pr1 ps
    cases rv
    exact call_int1 pins s σ H _ us Q I rx (.inr ⟨_, rfl, k.pure (.int _)⟩)
  · cases g
theorem cr_list (hK : X.K = K) : CallR X (.type "list") (rCall K mg plist) := by
  subst hK
  intro pins s σ H xs us Q I rx ⟨B, vs, r, ps, g, k⟩
  unfold plist at g
  split at g
  · obtain ⟨c, g⟩ := guard_some g
    cases g
    obtain ⟨z, rfl, W, rv⟩ := pr1 ps
    cases rv with
    | tup h rs => exact call_list_of pins s σ H _ us Q I rx ⟨_, _, rfl, .inr h, fun l hl => k.list (rs.pures0 c) hl⟩
  · obtain ⟨c, g⟩ := guard_some g
    cases g
    obtain ⟨z, rfl, W, rv⟩ := pr1 ps
    obtain ⟨a, ys, rfl, ha, rs⟩ := rv.lst c
    exact call_list_of pins s σ H _ us Q I rx ⟨_, _, rfl, .inl (.of ha), fun l hl => k.list rs hl⟩
  · obtain ⟨c, g⟩ := guard_some g
    cases g
    obtain ⟨z, rfl, W, rv⟩ := pr1 ps
    cases rv with
    | zls h rs => exact call_list_of pins s σ H _ us Q I rx ⟨_, _, rfl, .inl h.sq, fun l hl => k.list rs hl⟩
  · cases g
theorem cr_tuple (hK : X.K = K) : CallR X (.type "tuple") (rCall K mg ptuple) := by
  subst hK
  intro pins s σ H xs us Q I rx ⟨B, vs, r, ps, g, k⟩
  unfold ptuple at g
  split at g
  · obtain ⟨c, g⟩ := guard_some g
    cases g
    obtain ⟨z, rfl, W, rv⟩ := pr1 ps
    cases rv with
    | tup h rs => exact call_tuple_of pins s σ H _ us Q I rx ⟨_, _, rfl, .inr ⟨h, k.pure (.tup h (rs.pures0 c))⟩⟩
  · obtain ⟨c, g⟩ := guard_some g
    cases g
    obtain ⟨z, rfl, W, rv⟩ := pr1 ps
    obtain ⟨a, ys, rfl, ha, rs⟩ := rv.lst c
    exact call_tuple_of pins s σ H _ us Q I rx ⟨_, _, rfl, .inl ⟨.of ha, fun l hl => k.tup rs hl⟩⟩
  · cases g
theorem cr_allP (hK : X.K = K) (hc : X.calm = true) : CallR X (.builtin "all") (rCall K mg pall) := by
  subst hK
  intro pins s σ H xs us Q I rx ⟨B, vs, r, ps, g, k⟩
  unfold pall at g
  split at g
  · obtain ⟨bs, e1, g⟩ := bind_some g
    cases g
    obtain ⟨z, rfl, W, rv⟩ := pr1 ps
    obtain ⟨a, ys, W, rfl, ha, rs, _⟩ := rv.lsts
    obtain rfl := bls_ok rs e1
    exact cr_all hc pins s σ H _ us Q I rx ⟨_, bs, rfl, .of ha, k.pure (.bl _)⟩
  · cases g
theorem cr_anyP (hK : X.K = K) (hc : X.calm = true) : CallR X (.builtin "any") (rCall K mg pany) := by
  subst hK
  intro pins s σ H xs us Q I rx ⟨B, vs, r, ps, g, k⟩
  unfold pany at g
  split at g
  · obtain ⟨bs, e1, g⟩ := bind_some g
    cases g
    obtain ⟨z, rfl, W, rv⟩ := pr1 ps
    obtain ⟨a, ys, W, rfl, ha, rs, _⟩ := rv.lsts
    obtain rfl := bls_ok rs e1
    exact cr_any hc pins s σ H _ us Q I rx ⟨_, bs, rfl, .of ha, k.pure (.bl _)⟩
  · cases g
theorem tab_some {T : String} {yes : List String} {b : Bool} (h : tab T yes = some b) (hy : ∀ t ∈ yes, t ∈ ["int", "str", "tuple", "list", "dict", "bool"]) : T ∈ ["int", "str", "tuple", "list", "dict", "bool"] ∧ b = decide (T ∈ yes) := by
  unfold tab at h
  split at h
  · rename_i h1
    cases h
    exact ⟨hy T h1, by simp [h1]⟩
  · rename_i h1
    split at h
    · rename_i h2
      cases h
      exact ⟨h2, by simp [h1]⟩
    · cases h
def tyOfP : PV → Option String
  | .non => some "NoneType"
  | .bl _ => some "bool"
  | .int _ => some "int"
  | .str _ => some "str"
  | .tup _ => some "tuple"
  | .lst _ _ => some "list"
  | .dic _ _ => some "dict"
  | _ => none
theorem ty_ok {T : String} (rv : RV K mg H B v x W) (h : tyOfP v = some T) : TyX K H x (.type T) := by
  cases rv with
  | non => cases h; exact .base .non
  | bl b => cases h; exact .base (.bl b)
  | int b => cases h; exact .base (.int b)
  | str b => cases h; exact .base (.str b)
  | tup hs r =>
    cases h
    rcases hs with (hs | ⟨o, hs⟩) | ⟨o, its, n, hk, hc, _⟩
    · exact .base (.tup hs)
    · exact .fTuple hs
    · exact .kTuple hk hc
  | lstF hs _ r => cases h; exact .base (.lst hs)
  | lstO hs _ r => cases h; exact .base (.lst hs)
  | dicF hs _ _ r =>
    cases h
    rcases hs with hs | ⟨o, hs⟩
    · exact .base (.dK hs)
    · exact .fDict hs
  | dicO hs _ _ r => cases h; exact .base (.dK hs)
  | _ => cases h
theorem isi_kit {T : String} {b : Bool} (h : isi v T = some b) : ∃ A, tyOfP v = some A ∧ kitB A T = some b := by
  unfold isi at h
  split at h <;> first
    | (cases h; done)
    | (obtain ⟨m, rfl⟩ := tab_some h (by decide)
       refine ⟨_, rfl, ?_⟩
       simp only [List.mem_cons, List.not_mem_nil, or_false] at m
       rcases m with rfl | rfl | rfl | rfl | rfl | rfl <;> decide +kernel)
theorem cr_isi (hK : X.K = K) : CallR X (.builtin "isinstance") (rCall K mg pisi) := by
  subst hK
  intro pins s σ H xs us Q I rx ⟨B, vs, r, ps, g, k⟩
  unfold pisi at g
  split at g
  · obtain ⟨b, e, rfl⟩ := Option.map_eq_some_iff.mp g
    obtain ⟨z, z', rfl, ⟨W, rv⟩, ⟨W', rv'⟩⟩ := pr2 ps
    cases rv'
    obtain ⟨A, e1, e2⟩ := isi_kit e
    exact call_isi pins s σ H _ us Q I rx ⟨_, _, _, _, b, rfl, .ty _, ty_ok rv e1, kit_ty e2, k.pure (.bl _)⟩
  · cases g

/-! ### sorted -/
theorem alike_of {ds : List PyData} (h : (ds.all fun d => ds.all fun e => PySem.W.alike d e) = true) : PySem.W.AllAlike ds := fun d hd e he => by
  have := List.all_eq_true.mp h d hd
  exact List.all_eq_true.mp this e he
theorem sortable_of {ds : List PyData} (h : ((ds.all fun d => match d with | .tuple (_ :: _) => true | _ => false) || ds.all fun d => match d with | .none => false | .tuple _ => false | _ => true) = true) : PySem.W.Sortable ds := by
  rcases Bool.or_eq_true_iff.mp h with h | h
  · refine .inl fun d hd => ?_
    have := List.all_eq_true.mp h d hd
    cases d with
    | tuple xs =>
      cases xs with
      | nil => cases this
      | cons x r => exact ⟨x, r, rfl⟩
    | _ => cases this
  · refine .inr fun d hd => ?_
    have := List.all_eq_true.mp h d hd
    cases d with
    | none => cases this
    | tuple xs => cases this
    | _ => exact ⟨fun z => (nomatch z), fun _ z => nomatch z⟩
/-- an item with its place in the heap and its data -/
theorem each_of {s : Shared} {pins : List (Addr × Obj)} {σ : Sg} (I : Inv X pins σ H s) : ∀ {xs : List PV} {ys : List V} {us : List Value} {ds : List PyData} {W : List Addr}, RVs X.K mg H B xs ys W → Vals ys us → toDs xs = some ds →
    PySem.W.EachIs (fun (u : Value) (b : PV × PyData × V) => RelV b.2.2 u) us (xs.zip (ds.zip ys)) ∧ PySem.W.EachIs (fun (u : Value) (b : PV × PyData × V) => ∃ as, Reads s.heap u b.2.1 as) us (xs.zip (ds.zip ys)) ∧ ds.length = xs.length
  | _, _, _, _, _, .nil, .nil, e => by cases e; exact ⟨.nil, .nil, rfl⟩
  | _, _, _, _, _, .cons r t, .cons p ps, e => by
    simp only [toDs] at e
    obtain ⟨d, e1, e⟩ := bind_some e
    obtain ⟨ds, e2, e⟩ := bind_some e
    cases e
    obtain ⟨a1, a2, a3⟩ := each_of I t ps e2
    exact ⟨.cons p a1, .cons (Dp.reads I d _ _ (r.dp e1) p) a2, by simp [a3]⟩
theorem each_vals : ∀ {us : List Value} {bs : List (PV × PyData × V)}, PySem.W.EachIs (fun (u : Value) (b : PV × PyData × V) => RelV b.2.2 u) us bs → Vals (bs.map (·.2.2)) us
  | _, _, .nil => .nil
  | _, _, .cons p t => .cons p (each_vals t)
theorem rvs_each {ds : List PyData} (r : RVs K mg H B xs ys []) : ∀ b ∈ xs.zip (ds.zip ys), RV K mg H B b.1 b.2.2 [] := fun b hb => by
  obtain ⟨i, hi⟩ := List.mem_iff_getElem?.mp hb
  rw [List.getElem?_zip_eq_some] at hi
  obtain ⟨h1, h2⟩ := hi
  rw [List.getElem?_zip_eq_some] at h2
  exact r.pureAt h1 h2.2
theorem rvs_map {β : Type} {f : β → PV} {g : β → V} : ∀ {bs : List β}, (∀ b ∈ bs, RV K mg H B (f b) (g b) []) → RVs K mg H B (bs.map f) (bs.map g) []
  | [], _ => .nil
  | b :: bs, h => .cons (F := []) (G := []) (h b List.mem_cons_self) (rvs_map fun c hc => h c (List.mem_cons_of_mem _ hc))
theorem zip3_map : ∀ {xs : List PV} {ds : List PyData} {ys : List V}, ds.length = xs.length → ds.length = ys.length → (xs.zip (ds.zip ys)).map (fun b => (b.1, b.2.1)) = xs.zip ds
  | [], [], [], _, _ => rfl
  | x :: xs, d :: ds, y :: ys, h1, h2 => by
    simp only [List.zip_cons_cons, List.map_cons]
    rw [zip3_map (by simpa using h1) (by simpa using h2)]
  | [], _ :: _, _, h1, _ => by simp at h1
  | _ :: _, [], _, h1, _ => by simp at h1
  | _, [], _ :: _, _, h2 => by simp at h2
  | _, _ :: _, [], _, h2 => by simp at h2
theorem zip3_sort {xs : List PV} {ds : List PyData} {ys : List V} (h1 : ds.length = xs.length) (h2 : ds.length = ys.length) :
    ((xs.zip (ds.zip ys)).mergeSort (PySem.W.dataLe false fun b => b.2.1)).map (·.1) = sortD xs ds := by
  unfold sortD
  have e := PySem.W.sort_maps (r := PySem.W.dataLe false fun (b : PV × PyData × V) => b.2.1) (s := PySem.W.dataLe false (Prod.snd (α := PV))) (fun b => (b.1, b.2.1)) (l := xs.zip (ds.zip ys)) (fun _ _ _ _ => rfl)
  rw [zip3_map h1 h2] at e
  rw [← e, List.map_map]
  rfl
theorem cr_sortL (hK : X.K = K) (hu : X.A.units + 66 < cLine) {pins : List (Addr × Obj)} {s : Shared} {σ : Sg} {us : List Value} {a : Addr} (I : Inv X pins σ H s) (rx : Vals [.ref a] us) (ha : SqL K H a ys) (rs : RVs K mg H B xs ys W) (g : psortL xs = some r) (k : New K mg H B r Q) :
    wpAny (model X.prog X.w) X.A (call (.builtin "sorted") us) (EP X pins σ Q) X.xe s := by
  subst hK
  obtain ⟨ds, e1, g⟩ := bind_some g
  obtain ⟨⟨c1, c2, c3⟩, g⟩ := guard_some g
  cases g
  have rs := rs.pures0 c2
  obtain ⟨its, rv, hl, hz⟩ := I.list ha
  obtain ⟨u, rfl, ru⟩ := vals1 rx
  cases ru
  obtain ⟨q1, q2, q3⟩ := each_of I rs rv e1
  have hly := rs.length
  have e2 : (xs.zip (ds.zip ys)).map (fun b => b.2.1) = ds := by
    have : (xs.zip (ds.zip ys)).map (fun b => b.2.1) = ((xs.zip (ds.zip ys)).map (fun b => (b.1, b.2.1))).map Prod.snd := by rw [List.map_map]; rfl
    rw [this, zip3_map q3 (by omega), List.map_snd_zip (by omega)]
  have hlen : (xs.zip (ds.zip ys)).length = xs.length := by
    rw [List.length_zip, List.length_zip]
    omega
  unfold sortOk at c1
  simp only [Bool.and_eq_true] at c1
  obtain ⟨⟨c11, c12⟩, c13⟩ := c1
  refine PySem.W.sorted_data (enc := fun b : PV × PyData × V => b.2.1) hl.isList q1 q2 (by rw [e2]; exact alike_of c11) (by rw [e2]; exact sortable_of c12) (by rw [hlen]; exact sz_le c3) (fun b hb => ?_) fun out h1 h2 => ?_
  · have hm : b.2.1 ∈ ds := by rw [← e2]; exact List.mem_map.mpr ⟨b, hb, rfl⟩
    have := of_decide_eq_true (List.all_eq_true.mp c13 _ hm)
    omega
  · obtain ⟨ep, he'⟩ := PyProof.Rows.sortedAll_at s.heap its out.toArray
    have hv := each_vals h2
    have mem : ∀ b ∈ (xs.zip (ds.zip ys)).mergeSort (PySem.W.dataLe false fun b => b.2.1), RV X.K mg H B b.1 b.2.2 [] := fun b hb => rvs_each rs b ((List.mergeSort_perm _ _).mem_iff.mp hb)
    have rm := rvs_map mem
    rw [zip3_sort q3 (by omega)] at rm
    refine ⟨.ref _, upd H (s.heap.objs.size + 1) (.lst (((xs.zip (ds.zip ys)).mergeSort (PySem.W.dataLe false fun b => b.2.1)).map (·.2.2))), I.laid (t' := s.toks) (fun _ _ => PyProof.Rows.sortedAll_old) (Nat.le_succ _) ⟨?_, out, ep, hv, he'⟩, rfl, k.list rm (I.hok.fresh (Nat.le_succ _))⟩
    rw [List.length_map, List.length_mergeSort, hlen]
    exact sz_le c3
theorem cr_sortedP (hK : X.K = K) (hu : X.A.units + 66 < cLine) : CallR X (.builtin "sorted") (rCall K mg psorted) := by
  subst hK
  intro pins s σ H xs us Q I rx ⟨B, vs, r, ps, g, k⟩
  unfold psorted at g
  split at g
  · obtain ⟨z, rfl, W, rv⟩ := pr1 ps
    obtain ⟨a, ys, W, rfl, ha, rs, _⟩ := rv.lsts
    exact cr_sortL rfl hu I rx (.of ha) rs g k
  · cases g
end
end GX

/-! GX: statements. -/
namespace GX
open PySem PySem.Spec PyProof.Rows L2

inductive Out where
  | nx (ρ : Rho)
  | rt (v : PV) (ρ : Rho)
  | bk (ρ : Rho)
  | ct (ρ : Rho)
abbrev S := Rho → Option Out
abbrev Tg := PV → Rho → Option Rho

section
variable (K : PySem.W.Frag) (mg : Str → Option Value) (P : List V)
/-- behind a statement -/
structure PoS (H : Hp) (B : Addr → Prop) (F : List Addr) (ρ' : Rho) (σ' : Sg) (H' : Hp) (B' : Addr → Prop) (F' : List Addr) : Prop where
  sl : RSs K mg H' B' ρ' σ' P F'
  nd : F'.Nodup
  st : Step H B F H' B' F'
structure PoR (H : Hp) (B : Addr → Prop) (F : List Addr) (v : PV) (ρ' : Rho) (x : V) (σ' : Sg) (H' : Hp) (B' : Addr → Prop) (G F' : List Addr) : Prop where
  rv : RV K mg H' B' v x G
  sl : RSs K mg H' B' ρ' σ' P F'
  nd : (G ++ F').Nodup
  st : Step H B F H' B' (G ++ F')
def OutOk (D : Ends) (H : Hp) (B : Addr → Prop) (F : List Addr) : Out → Prop
  | .nx ρ' => ∀ σ' H' B' F', PoS K mg P H B F ρ' σ' H' B' F' → D.nx σ' H'
  | .bk ρ' => ∀ σ' H' B' F', PoS K mg P H B F ρ' σ' H' B' F' → D.bk σ' H'
  | .ct ρ' => ∀ σ' H' B' F', PoS K mg P H B F ρ' σ' H' B' F' → D.ct σ' H'
  | .rt v ρ' => ∀ x σ' H' B' G F', PoR K mg P H B F v ρ' x σ' H' B' G F' → D.rt x H'
def tS (f : S) : TS := fun D σ H => ∃ ρ B F o, Rel K mg H B P ρ σ F ∧ f ρ = some o ∧ OutOk K mg P D H B F o
def tG (T : Sg → Sg → Prop) (f : Tg) : TG := fun x σ H Q => ∃ ρ B F v G ρ', RV K mg H B v x G ∧ RSs K mg H B ρ σ P F ∧ (G ++ F).Nodup ∧ f v ρ = some ρ' ∧ ∀ σ' H' B' F', PoS K mg P H B (G ++ F) ρ' σ' H' B' F' → T σ σ' → Q σ' H'
/-- how a target may change the names' values -/
structure TrR (T : Sg → Sg → Prop) : Prop where
  refl : ∀ a, T a a
  trans : ∀ a b c, T a b → T b c → T a c
abbrev TT1 : Sg → Sg → Prop := fun _ _ => True
abbrev TW (vs : List Nat) : Sg → Sg → Prop := fun a b => wipe b vs = wipe a vs
theorem tr_true : TrR TT1 := ⟨fun _ => trivial, fun _ _ _ _ _ => trivial⟩
theorem tr_wipe {vs : List Nat} : TrR (TW vs) := ⟨fun _ => rfl, fun _ _ _ h1 h2 => h2.trans h1⟩
end
section
variable {q : Bool} {K : PySem.W.Frag} {mg : Str → Option Value} {P : List V} {H H' H1 H2 : Hp} {B B' B1 B2 : Addr → Prop} {x y : V} {v w r c : PV} {xs : List PV} {ys : List V} {F F' F1 F2 G G1 G2 W : List Addr} {ρ ρ' ρ1 ρ2 : Rho} {σ σ' σ1 σ2 : Sg} {X : Cx} {a b e : Expr} {pos p2 : Pos} {D : Ends} {o : Out}

theorem PoS.rel (p : PoS K mg P H B F ρ' σ' H' B' F') : Rel K mg H' B' P ρ' σ' F' := ⟨p.sl, p.nd⟩
theorem PoS.trans (p : PoS K mg P H B F ρ1 σ1 H1 B1 F1) (p2 : PoS K mg P H1 B1 F1 ρ2 σ2 H2 B2 F2) : PoS K mg P H B F ρ2 σ2 H2 B2 F2 := ⟨p2.sl, p2.nd, p.st.trans p2.st⟩
theorem PoS.toR (p : PoS K mg P H B F ρ1 σ1 H1 B1 F1) (p2 : PoR K mg P H1 B1 F1 v ρ2 x σ2 H2 B2 G F2) : PoR K mg P H B F v ρ2 x σ2 H2 B2 G F2 := ⟨p2.rv, p2.sl, p2.nd, p.st.trans p2.st⟩
theorem PoT.toS (p : PoT q K mg P σ ρ H B F ρ1 H1 B1 F1) : PoS K mg P H B F ρ1 σ H1 B1 F1 := ⟨p.sl, p.nd, p.st⟩
theorem OutOk.trans {o : Out} (p : PoS K mg P H B F ρ1 σ1 H1 B1 F1) (h : OutOk K mg P D H B F o) : OutOk K mg P D H1 B1 F1 o := by
  cases o with
  | nx ρ' => exact fun σ' H' B' F' p2 => h σ' H' B' F' (p.trans p2)
  | bk ρ' => exact fun σ' H' B' F' p2 => h σ' H' B' F' (p.trans p2)
  | ct ρ' => exact fun σ' H' B' F' p2 => h σ' H' B' F' (p.trans p2)
  | rt v ρ' => exact fun x σ' H' B' G F' p2 => h x σ' H' B' G F' (p.toR p2)

/-! ### blocks -/
def sSkip : S := fun ρ => some (.nx ρ)
def sSeq (f g : S) : S := fun ρ => (f ρ).bind fun o => match o with | .nx ρ1 => g ρ1 | o => some o
def sBrk : S := fun ρ => some (.bk ρ)
def sCnt : S := fun ρ => some (.ct ρ)
def sNever : S := fun _ => none
theorem same_s (R : Rel K mg H B P ρ σ F) : PoS K mg P H B F ρ σ H B F := ⟨R.slots, R.nd, Step.refl⟩
theorem gs_nil : PSs X [] (tS K mg P sSkip) := PSs.weak pss_nil fun D σ H ⟨ρ, B, F, o, R, e, k⟩ => by
  cases e
  exact k σ H B F (same_s R)
theorem gs_cons {s : Stmt} {ss : List Stmt} {f g : S} (h : PS X s (tS K mg P f)) (hr : PSs X ss (tS K mg P g)) : PSs X (s :: ss) (tS K mg P (sSeq f g)) := PSs.weak (pss_cons h hr) fun D σ H ⟨ρ, B, F, o, R, e, k⟩ => by
  obtain ⟨o1, z1, e⟩ := bind_some e
  refine ⟨ρ, B, F, o1, R, z1, ?_⟩
  cases o1 with
  | nx ρ1 => exact fun σ1 H1 B1 F1 p => ⟨ρ1, B1, F1, o, p.rel, e, k.trans p⟩
  | bk ρ1 => cases e; exact k
  | ct ρ1 => cases e; exact k
  | rt v ρ1 => cases e; exact k
theorem gs_one {s : Stmt} {f : S} (h : PS X s (tS K mg P f)) : PSs X [s] (tS K mg P f) := pss_one h
theorem gs_never {ss : List Stmt} : PSs X ss (tS K mg P sNever) := PSs.weak pss_never fun D σ H ⟨ρ, B, F, o, R, e, k⟩ => nomatch e
theorem g_never {s : Stmt} : PS X s (tS K mg P sNever) := PS.weak ps_never fun D σ H ⟨ρ, B, F, o, R, e, k⟩ => nomatch e
theorem g_pass : PS X (.Pass pos) (tS K mg P sSkip) := PS.weak ps_pass fun D σ H ⟨ρ, B, F, o, R, e, k⟩ => by
  cases e
  exact k σ H B F (same_s R)
theorem g_break : PS X (.Break pos) (tS K mg P sBrk) := PS.weak ps_break fun D σ H ⟨ρ, B, F, o, R, e, k⟩ => by
  cases e
  exact k σ H B F (same_s R)
theorem g_continue : PS X (.Continue pos) (tS K mg P sCnt) := PS.weak ps_continue fun D σ H ⟨ρ, B, F, o, R, e, k⟩ => by
  cases e
  exact k σ H B F (same_s R)
def sExpr (f : M PV) : S := fun ρ => (f ρ).bind fun z => some (.nx z.2)
theorem g_expr {f : M PV} (h : PE X e (tE false K mg P f)) (hs : swapsWith e none pos.line X.env = pure false := by rfl) : PS X (.Expr e pos) (tS K mg P (sExpr f)) := PS.weak (ps_expr h hs) fun D σ H ⟨ρ, B, F, o, R, e, k⟩ => by
  obtain ⟨⟨v, ρ1⟩, z1, e⟩ := bind_some e
  cases e
  exact ⟨ρ, B, F, v, ρ1, R, z1, fun x H1 B1 G1 F1 p => k _ _ _ _ p.drop.toS⟩
def sRet (f : M PV) : S := fun ρ => (f ρ).bind fun z => some (.rt z.1 z.2)
theorem g_ret {f : M PV} (h : PE X e (tE false K mg P f)) : PS X (.Return (some e) pos) (tS K mg P (sRet f)) := PS.weak (ps_ret h) fun D σ H ⟨ρ, B, F, o, R, e, k⟩ => by
  obtain ⟨⟨v, ρ1⟩, z1, e⟩ := bind_some e
  cases e
  exact ⟨ρ, B, F, v, ρ1, R, z1, fun x H1 B1 G1 F1 p => k _ σ _ _ _ _ ⟨p.rv, p.sl, p.nd, p.st⟩⟩
def sIf (t : M Bool) (f g : S) : S := fun ρ => (t ρ).bind fun z => if z.1 = true then f z.2 else g z.2
theorem g_if {t : M Bool} {f g : S} {aa bb : List Stmt} (ht : PT X e (tT false K mg P t)) (ha : PSs X aa (tS K mg P f)) (hb : PSs X bb (tS K mg P g)) : PS X (.If e aa bb pos) (tS K mg P (sIf t f g)) := PS.weak (ps_if ht ha hb) fun D σ H ⟨ρ, B, F, o, R, e, k⟩ => by
  obtain ⟨⟨d, ρ1⟩, z1, e⟩ := bind_some e
  refine ⟨ρ, B, F, d, ρ1, R, z1, fun H1 B1 F1 p => ?_⟩
  cases d with
  | true =>
    rw [if_pos rfl] at e ⊢
    exact ⟨ρ1, B1, F1, o, p.rel, e, k.trans p.toS⟩
  | false =>
    rw [if_neg Bool.false_ne_true] at e ⊢
    exact ⟨ρ1, B1, F1, o, p.rel, e, k.trans p.toS⟩

/-! ### targets -/
def putS (i : Nat) (v : PV) (ρ : Rho) : Option Rho := (ρ[i]?).bind fun s => match s with | .ref _ => none | _ => some (ρ.set i (.val v))
def gNm (i : Nat) : Tg := fun v ρ => putS i v ρ
theorem put_ok {i : Nat} (rv : RV K mg H B v x G) (R : RSs K mg H B ρ σ P F) (nd : (G ++ F).Nodup) (e : putS i v ρ = some ρ') : ∃ F', PoS K mg P H B (G ++ F) ρ' (σ.set i (some x)) H B F' ∧ ∀ b ∈ F', b ∈ G ++ F := by
  obtain ⟨s, z1, e⟩ := bind_some e
  obtain ⟨y, p, F1, Gs, F2, h1, h2, h3, h4, h5⟩ := R.at z1
  obtain ⟨_, k2⟩ := h5 H B [] Keep.refl MutW.nil (fun _ _ h => nomatch h) (fun _ _ h => nomatch h)
  have sub : ∀ b ∈ F1 ++ G ++ F2, b ∈ G ++ F := fun b hb => by
    rw [h4]
    simp at hb ⊢
    rcases hb with h | h | h
    · exact .inr (.inl h)
    · exact .inl h
    · exact .inr (.inr (.inr h))
  have nd' : (F1 ++ G ++ F2).Nodup := by
    rw [h4] at nd
    obtain ⟨n1, n2, n3⟩ := List.nodup_append.mp nd
    obtain ⟨m1, m2, m3⟩ := List.nodup_append.mp n2
    obtain ⟨l1, l2, l3⟩ := List.nodup_append.mp m1
    refine List.nodup_append.mpr ⟨List.nodup_append.mpr ⟨l1, n1, fun a1 h1 a2 h2 e => n3 a2 h2 a1 (by simp [h1]) e.symm⟩, m2, fun a1 h1 a2 h2 => ?_⟩
    rcases List.mem_append.mp h1 with h1 | h1
    · exact m3 a1 (by simp [h1]) a2 h2
    · exact n3 a1 h1 a2 (by simp [h2])
  cases s with
  | ref u => cases e
  | un =>
    cases e
    exact ⟨_, ⟨k2 (.val v) (some x) G (.val rv), nd', ⟨fun b hb => .inl (sub b hb), Keep.refl⟩⟩, sub⟩
  | val u =>
    cases e
    exact ⟨_, ⟨k2 (.val v) (some x) G (.val rv), nd', ⟨fun b hb => .inl (sub b hb), Keep.refl⟩⟩, sub⟩
theorem gg_name {T : Sg → Sg → Prop} {i : Nat} {nm : Str} (hN : X.N.Nodup) (hi : X.N[i]? = some nm) (hx : Loc X.env.scope nm) (hT : ∀ σ x, T σ (σ.set i x) := by intros; trivial) (hf : X.fn nm = true ∨ X.env.scope.names.lookup nm = some .local := by first | exact .inl rfl | exact .inr rfl | assumption) : PG X (.Name nm pos) (tG K mg P T (gNm i)) :=
  PG.weak (pg_name hN hi hx hf) fun x σ H Q ⟨ρ, B, F, v, G, ρ', rv, R, nd, e, k⟩ => by
    obtain ⟨F', p, _⟩ := put_ok rv R nd e
    exact k _ _ _ _ p (hT _ _)
/-- several targets -/
def gsNil : List PV → Rho → Option Rho := fun vs ρ => match vs with | [] => some ρ | _ => none
def gsCons (g : Tg) (gs : List PV → Rho → Option Rho) : List PV → Rho → Option Rho := fun vs ρ => match vs with | v :: vs => (g v ρ).bind fun ρ1 => gs vs ρ1 | [] => none
section
variable (K mg P)
def tGs (T : Sg → Sg → Prop) (f : List PV → Rho → Option Rho) : TGs := fun xs σ H Q => ∃ ρ B F vs G ρ', RVs K mg H B vs xs G ∧ RSs K mg H B ρ σ P F ∧ (G ++ F).Nodup ∧ f vs ρ = some ρ' ∧ ∀ σ' H' B' F', PoS K mg P H B (G ++ F) ρ' σ' H' B' F' → T σ σ' → Q σ' H'
end
theorem PGs.weak {es : List Expr} {t t' : TGs} (h : PGs X es t) (w : ∀ v σ H Q, t' v σ H Q → t v σ H Q) : PGs X es t' := ⟨fun pins s σ H vs us Q I r q => h.run pins s σ H vs us Q I r (w vs σ H Q q)⟩
theorem ggs_nil {T : Sg → Sg → Prop} (tr : TrR T) : PGs X [] (tGs K mg P T gsNil) := PGs.weak pgs_nil fun xs σ H Q ⟨ρ, B, F, vs, G, ρ', rv, R, nd, e, k⟩ => by
  cases vs with
  | cons _ _ => cases e
  | nil =>
    cases e
    cases rv
    exact ⟨rfl, k _ _ _ _ ⟨R, nd, Step.refl⟩ (tr.refl _)⟩
theorem ggs_cons {T : Sg → Sg → Prop} {es : List Expr} {g : Tg} {gs : List PV → Rho → Option Rho} (tr : TrR T) (h : PG X e (tG K mg P T g)) (hr : PGs X es (tGs K mg P T gs)) (hs : (assignEach (e :: es) X.env).map (·.2) = assign e X.env :: (assignEach es X.env).map (·.2) := by rfl) : PGs X (e :: es) (tGs K mg P T (gsCons g gs)) :=
  PGs.weak (pgs_cons h hr hs) fun xs σ H Q ⟨ρ, B, F, vs, G, ρ', rv, R, nd, e, k⟩ => by
    cases vs with
    | nil => cases e
    | cons v vs =>
      obtain ⟨ρ1, z1, e⟩ := bind_some e
      cases rv with
      | @cons _ _ x xs G1 G2 rv rt =>
        refine ⟨x, xs, rfl, ρ, B, F, v, G1, ρ1, rv, R, ?_, z1, fun σ1 H1 B1 F1 p t1 => ?_⟩
        · rw [List.append_assoc] at nd
          obtain ⟨n1, n2, n3⟩ := List.nodup_append.mp nd
          exact List.nodup_append.mpr ⟨n1, nodup_r n2, fun a1 h1 a2 h2 => n3 a1 h1 a2 (by simp [h2])⟩
        · have nd2 : (G2 ++ (G1 ++ F)).Nodup := by
            rw [List.append_assoc] at nd
            obtain ⟨n1, n2, n3⟩ := List.nodup_append.mp nd
            obtain ⟨m1, m2, m3⟩ := List.nodup_append.mp n2
            refine List.nodup_append.mpr ⟨m1, List.nodup_append.mpr ⟨n1, m2, fun a1 h1 a2 h2 => n3 a1 h1 a2 (by simp [h2])⟩, fun a1 h1 a2 h2 e => ?_⟩
            subst e
            rcases List.mem_append.mp h2 with h2 | h2
            · exact n3 a1 h2 a1 (by simp [h1]) rfl
            · exact m3 a1 h1 a1 h2 rfl
          have mW : MutW (G1 ++ F) H B := fun b hb => (List.mem_append.mp hb).elim (rv.mut b) (R.mut b)
          have rt' := rt.keep p.st.keep mW fun b hb => nodup_ne nd2 b hb
          refine ⟨ρ1, B1, F1, vs, G2, ρ', rt', p.sl, nodup_beside nd2 rt.mut p.nd p.st, e, fun σ2 H2 B2 F2 p2 t2 => k σ2 H2 B2 F2 ⟨p2.sl, p2.nd, ?_⟩ (tr.trans _ _ _ t1 t2)⟩
          refine ((p.st.beside G2).trans p2.st).congrF fun b => ?_
          simp only [List.mem_append]
          exact ⟨fun h => h.elim (fun h => .inl (.inr h)) (fun h => h.elim (fun h => .inl (.inl h)) .inr), fun h => h.elim (fun h => h.elim (fun h => .inr (.inl h)) .inl) fun h => .inr (.inr h)⟩
end
end GX

/-! GX: assignments, changes of an object that a name holds. -/
namespace GX
open PySem PySem.Spec PyProof.Rows L2

def gTp (n : Nat) (gs : List PV → Rho → Option Rho) : Tg := fun v ρ => match v with
  | .tup vs => if vs.length = n then gs vs ρ else none
  | _ => none
def sAsg (g : Tg) (f : M PV) : S := fun ρ => (f ρ).bind fun z => (g z.1 z.2).bind fun ρ1 => some (.nx ρ1)
def sPar (i j : Nat) (a : M (List Opd)) : S := fun ρ => (a ρ).bind fun z => (tmVals z.1).bind fun vs => match vs with
  | [v, w] => (putS i v z.2).bind fun ρ1 => (putS j w ρ1).bind fun ρ2 => some (.nx ρ2)
  | _ => none
def sAug (i : Nat) (g : PV → PV → Option PV) (f : M PV) : S := fun ρ => ((ρ[i]?).bind Slot.get).bind fun v0 => if v0.pure then (f ρ).bind fun z => if z.1.pure then (g v0 z.1).bind fun r => (putS i r z.2).bind fun ρ2 => some (.nx ρ2) else none else none
/-- the object that a name holds is changed -/
def chg (i : Nat) (v : PV) (ρ : Rho) : Option Rho := (ρ[i]?).bind fun s => match s with | .val _ => some (ρ.set i (.val v)) | .ref _ => some (ρ.set i (.ref v)) | .un => none
def putP {α : Type} : List (Key × α) → Key → α → List (Key × α)
  | [], k, v => [(k, v)]
  | (k', v') :: r, k, v => if k' = k then (k', v) :: r else (k', v') :: putP r k v
def psetI : PV → PV → PV → Option PV
  | .lst true xs, .int k, v => (ixN xs.length k).map fun j => .lst true (xs.set j v)
  | .dic true kvs, k, v => (toKey k).bind fun kk => guard (kvs.length < 16777216) (some (.dic true (putP kvs kk v)))
  | _, _, _ => none
def gIx (n : Nat) (f : M PV) : Tg := fun v ρ => ((ρ[n]?).bind Slot.get).bind fun _ => (f ρ).bind fun z => if z.1.pure then ((z.2[n]?).bind Slot.get).bind fun ob => (psetI ob z.1 v).bind fun ob' => chg n ob' z.2 else none

section
variable {q : Bool} {K : PySem.W.Frag} {mg : Str → Option Value} {P : List V} {H H' H1 H2 : Hp} {B B' B1 B2 : Addr → Prop} {x y : V} {v w r c : PV} {xs : List PV} {ys : List V} {F F' F1 F2 G G1 G2 W : List Addr} {ρ ρ' ρ1 ρ2 : Rho} {σ σ' σ1 σ2 : Sg} {X : Cx} {a b e : Expr} {pos p2 : Pos} {D : Ends} {o : Out}
theorem gg_tup {es : List Expr} {k n : Nat} {gs : List PV → Rho → Option Rho} (hK : X.K = K) (hc : X.calm = true) {T : Sg → Sg → Prop} (h : PGs X es (tGs K mg P T gs)) (hn : (assignEach es X.env).length = n := by rfl) (hst : (assignEach es X.env).findIdx? (·.1) = none := by rfl) :
    PG X (.Tuple es k pos) (tG K mg P T (gTp n gs)) := by
  subst hK
  refine PG.weak (pg_tup hc h hn hst) fun x σ H Q ⟨ρ, B, F, v, G, ρ', rv, R, nd, e, k⟩ => ?_
  unfold gTp at e
  split at e
  · split at e
    · rename_i vs hl
      cases rv with
      | tup hs rs => exact ⟨_, _, rfl, hs, by rw [← rs.length]; exact hl, ρ, B, F, vs, G, ρ', rs, R, nd, e, k⟩
    · cases e
  · cases e
theorem asg_ts {f : M PV} {g : Tg} (h : tS K mg P (sAsg g f) D σ H) : tAsg (tE false K mg P f) (tG K mg P TT1 g) D σ H := by
  obtain ⟨ρ, B, F, o, R, e, k⟩ := h
  obtain ⟨⟨v, ρ1⟩, z1, e⟩ := bind_some e
  obtain ⟨ρ2, z2, e⟩ := bind_some e
  cases e
  exact ⟨ρ, B, F, v, ρ1, R, z1, fun x H1 B1 G1 F1 p => ⟨ρ1, B1, F1, v, G1, ρ2, p.rv, p.sl, p.nd, z2, fun σ' H' B' F' p' _ => k σ' H' B' F' ⟨p'.sl, p'.nd, p.st.trans p'.st⟩⟩⟩
theorem g_set {i : Nat} {nm : Str} {f : M PV} (hN : X.N.Nodup) (hi : X.N[i]? = some nm) (hx : Loc X.env.scope nm) (h : PE X e (tE false K mg P f)) (hs : swapsWith e (some (.Name nm p2)) pos.line X.env = pure false := by rfl)
    (hf : X.fn nm = true ∨ X.env.scope.names.lookup nm = some .local := by first | exact .inl rfl | exact .inr rfl | assumption) : PS X (.Assign [.Name nm p2] e pos) (tS K mg P (sAsg (gNm i) f)) :=
  PS.weak (ps_set hN hi hx h hs hf) fun D σ H h => by
    obtain ⟨ρ, B, F, o, R, e, k⟩ := h
    obtain ⟨⟨v, ρ1⟩, z1, e⟩ := bind_some e
    obtain ⟨ρ2, z2, e⟩ := bind_some e
    cases e
    refine ⟨ρ, B, F, v, ρ1, R, z1, fun x H1 B1 G1 F1 p => ?_⟩
    obtain ⟨F', p', _⟩ := put_ok p.rv p.sl p.nd z2
    exact k _ _ _ _ ⟨p'.sl, p'.nd, p.st.trans p'.st⟩
theorem g_asg {tg : Expr} {f : M PV} {g : Tg} (h : PE X e (tE false K mg P f)) (hg : PG X tg (tG K mg P TT1 g)) (hs : swapsWithSole [tg] e pos.line X.env = pure false := by rfl) (hw : swappedStores [tg] e X.env = pure none := by rfl)
    (h1 : (assignEach [tg] X.env).map (·.2) = [assign tg X.env] := by rfl) : PS X (.Assign [tg] e pos) (tS K mg P (sAsg g f)) := PS.weak (ps_asg h hg hs hw h1) fun D σ H h => asg_ts h
theorem g_par {i j : Nat} {x y : Str} {a b : Expr} {fa : M (List Opd)} {px py pt : Pos} {kt k2 pt2} (hc : X.calm = true) (hN : X.N.Nodup) (hi : X.N[i]? = some x) (hj : X.N[j]? = some y) (hij : i ≠ j)
    (hx : X.env.scope.names.lookup x = some .local) (hy : X.env.scope.names.lookup y = some .local) (ha : PA X [a, b] (tA false K mg P fa))
    (hw : swappedStores [.Tuple [.Name x px, .Name y py] kt pt] (.Tuple [a, b] k2 pt2) X.env = pure (some [x, y]) := by rfl)
    (hs : swapsWithSole [.Tuple [.Name x px, .Name y py] kt pt] (.Tuple [a, b] k2 pt2) pos.line X.env = pure false := by rfl) :
    PS X (.Assign [.Tuple [.Name x px, .Name y py] kt pt] (.Tuple [a, b] k2 pt2) pos) (tS K mg P (sPar i j fa)) := by
  refine PS.weak (ps_par hc hN hi hj hij hx hy ha hw hs) fun D σ H ⟨ρ, B, F, o, R, e, k⟩ => ?_
  obtain ⟨⟨os, ρ1⟩, z1, e⟩ := bind_some e
  obtain ⟨vs, z2, e⟩ := bind_some e
  refine ⟨ρ, B, F, os, ρ1, R, z1, fun xs H1 B1 G1 F1 p => ?_⟩
  have rv := ovs_tm p.ov z2
  match vs, e with
  | [v, w], e =>
    obtain ⟨ρ2, z3, e⟩ := bind_some e
    obtain ⟨ρ3, z4, e⟩ := bind_some e
    cases e
    cases rv with
    | @cons _ _ x0 xs0 Ga Gb r1 t =>
    cases t with
    | @cons _ _ y0 ys0 Gc Gd r2 t2 =>
    cases t2
    rw [List.append_nil] at *
    have nd := p.nd
    rw [List.append_assoc] at nd
    obtain ⟨n1, n2, n3⟩ := List.nodup_append.mp nd
    obtain ⟨m1, m2, m3⟩ := List.nodup_append.mp n2
    have nda : (Ga ++ F1).Nodup := List.nodup_append.mpr ⟨n1, m2, fun a1 h1 a2 h2 => n3 a1 h1 a2 (List.mem_append_right _ h2)⟩
    obtain ⟨Fa, pa, sa⟩ := put_ok r1 p.sl nda z3
    have ndb : (Gc ++ Fa).Nodup := by
      refine List.nodup_append.mpr ⟨m1, pa.nd, fun a1 h1 a2 h2 e => ?_⟩
      subst e
      rcases List.mem_append.mp (sa a1 h2) with h | h
      · exact n3 a1 h a1 (List.mem_append_left _ h1) rfl
      · exact m3 a1 h1 a1 h rfl
    obtain ⟨Fb, pb, sb⟩ := put_ok r2 pa.sl ndb z4
    refine ⟨x0, y0, rfl, k _ _ _ _ ⟨pb.sl, pb.nd, p.st.trans ⟨fun b hb => .inl ?_, Keep.refl⟩⟩⟩
    rcases List.mem_append.mp (sb b hb) with h | h
    · simp [h]
    · rcases List.mem_append.mp (sa b h) with h | h <;> simp [h]
theorem g_aug {i : Nat} {nm : Str} {f : M PV} {op : Operator} {g : PV → PV → Option PV} (hN : X.N.Nodup) (hi : X.N[i]? = some nm) (hx : Loc X.env.scope nm) (ho : OpR X (inplaceOp op) (rOp K mg g)) (h : PE X e (tE false K mg P f))
    (hf : X.fn nm = true ∨ X.env.scope.names.lookup nm = some .local := by first | exact .inl rfl | exact .inr rfl | assumption) : PS X (.AugAssign (.Name nm p2) op e pos) (tS K mg P (sAug i g f)) :=
  PS.weak (ps_aug hN hi hx h ho hf) fun D σ H ⟨ρ, B, F, o, R, e, k⟩ => by
    obtain ⟨v0, z0, e⟩ := bind_some e
    split at e
    · rename_i hp
      obtain ⟨⟨v, ρ1⟩, z1, e⟩ := bind_some e
      split at e
      · rename_i hp2
        obtain ⟨r, z2, e⟩ := bind_some e
        obtain ⟨ρ2, z3, e⟩ := bind_some e
        cases e
        obtain ⟨x, hx⟩ := slot_at R.slots z0
        have r0 := pure_get R.slots z0 hp hx
        refine ⟨x, hx, ρ, B, F, v, ρ1, R, z1, fun y H1 B1 G1 F1 p => ?_⟩
        have r0 := r0.keep p.st.keep R.slots.mut fun _ h => nomatch h
        have r1 := p.rv
        have eG := r1.pure hp2
        subst eG
        refine ⟨B1, v0, v, [], [], r, r0, r1, z2, fun z H2 B2 G2 rz ng fr kp => ?_⟩
        have sl2 := p.sl.keep kp MutW.nil fun _ _ h => nomatch h
        have nd2 : (G2 ++ F1).Nodup := List.nodup_append.mpr ⟨ng, p.nd, fun a1 h1 a2 h2 e => by
          subst e
          have := (p.sl.mut a1 h2).2
          rw [fr a1 h1] at this
          exact this⟩
        obtain ⟨F', p', _⟩ := put_ok rz sl2 nd2 z3
        exact k _ _ _ _ ⟨p'.sl, p'.nd, (p.st.trans ⟨fun b hb => (List.mem_append.mp hb).elim (fun h => .inr (fr b h)) .inl, kp.mono fun _ h => nomatch h⟩ : Step H B F H2 B2 (G2 ++ F1)).trans p'.st⟩
      · cases e
    · cases e
end
end GX

/-! GX: changes of lists and dicts. -/
namespace GX
open PySem PySem.Spec PyProof.Rows L2

section
variable {q : Bool} {K : PySem.W.Frag} {mg : Str → Option Value} {P : List V} {H H' H1 H2 : Hp} {B B' B1 B2 : Addr → Prop} {x y : V} {v w r c : PV} {xs : List PV} {ys : List V} {F F' F1 F2 G G1 G2 W : List Addr} {ρ ρ' ρ1 ρ2 : Rho} {σ σ' σ1 σ2 : Sg} {X : Cx} {a b e : Expr} {pos p2 : Pos} {D : Ends} {o : Out}
theorem Keep.at {p : Addr} {u : HO} : Keep [p] H B (upd H p u) B := fun b o e n => ⟨by rw [upd_ne (fun z => n (by simp [z]))]; exact e, Iff.rfl⟩
theorem MutW.one {p : Addr} (hB : B p) (m : Mut (H p)) : MutW [p] H B := fun b hb => by
  obtain rfl := List.mem_singleton.mp hb
  exact ⟨hB, m⟩
/-- what an object of a name is when it has been changed -/
structure Chd (K : PySem.W.Frag) (mg : Str → Option Value) (H : Hp) (B : Addr → Prop) (W Gv : List Addr) (ob' : PV) (o : V) (H' : Hp) (B' : Addr → Prop) (G' : List Addr) : Prop where
  rv : RV K mg H' B' ob' o G'
  nd : G'.Nodup
  sub : ∀ b ∈ G', b ∈ W ++ Gv
  kp : Keep W H B H' B'
section
variable (K mg)
def rSetP : TSet := fun o i v H Q => ∃ B ob kk vv Wo Wk Gv ob', RV K mg H B ob o Wo ∧ RV K mg H B kk i Wk ∧ RV K mg H B vv v Gv ∧ psetI ob kk vv = some ob' ∧ (Wo ++ Gv).Nodup ∧ ∀ H' B' G', Chd K mg H B Wo Gv ob' o H' B' G' → Q H'
end
theorem list_set {a : Addr} {j : Nat} {Fx : List Addr} (h : H a = some (.lst ys)) (hB : B a) (rs : RVs K mg H B xs ys Fx) (rv : RV K mg H B v x G) (nd : ((a :: Fx) ++ G).Nodup) (hj : j < xs.length) :
    ∃ G', Chd K mg H B (a :: Fx) G (.lst true (xs.set j v)) (.ref a) (upd H a (.lst (ys.set j x))) B G' := by
  have kp : Keep [a] H B (upd H a (.lst (ys.set j x))) B := Keep.at
  have m : MutW [a] H B := MutW.one hB (by rw [h]; trivial)
  have hnd : (a :: (Fx ++ G)).Nodup := nd
  obtain ⟨na, nd2⟩ := List.nodup_cons.mp hnd
  have rs' := rs.keep kp m fun b hb z => na (by simp at z; subst z; simp [hb])
  have rv' := rv.keep kp m fun b hb z => na (by simp at z; subst z; simp [hb])
  obtain ⟨y0, Fa, Gy, Fb, e1, e2, e3, e4⟩ := rs'.at (List.getElem?_eq_getElem hj)
  subst e3
  refine ⟨a :: (Fa ++ G ++ Fb), .lstO upd_same hB (e4 v x G rv'), ?_, fun b hb => ?_, kp.mono fun b hb => by simp at hb; simp [hb]⟩
  · refine List.nodup_cons.mpr ⟨fun hm => na ?_, ?_⟩
    · simp at hm ⊢
      rcases hm with h | h | h
      · exact .inl h
      · exact .inr (.inr (.inr h))
      · exact .inr (.inr (.inl h))
    · obtain ⟨n1, n2, n3⟩ := List.nodup_append.mp nd2
      obtain ⟨m1, m2, m3⟩ := List.nodup_append.mp n1
      obtain ⟨l1, l2, l3⟩ := List.nodup_append.mp m1
      refine List.nodup_append.mpr ⟨List.nodup_append.mpr ⟨l1, n2, fun a1 h1 a2 h2 => n3 a1 (by simp [h1]) a2 h2⟩, m2, fun a1 h1 a2 h2 => ?_⟩
      rcases List.mem_append.mp h1 with h1 | h1
      · exact m3 a1 (by simp [h1]) a2 h2
      · exact fun e => n3 a2 (by simp [h2]) a1 h1 e.symm
  · simp at hb ⊢
    rcases hb with h | h | h | h
    · exact .inl h
    · exact .inr (.inl h)
    · exact .inr (.inr (.inr (.inr h)))
    · exact .inr (.inr (.inr (.inl h)))
theorem putK_cons_eq {k k' : Key} {v v' : V} {r : List (Key × V)} (h : k' = k) (nd : k' ∉ r.map (·.1)) : putK ((k', v') :: r) k v = (k', v) :: r := by
  subst h
  unfold putK
  rw [if_pos (by simp)]
  simp only [List.map_cons, if_true, List.cons.injEq, true_and]
  refine (List.map_congr_left fun kv hkv => ?_).trans (List.map_id _)
  rw [if_neg]
  · rfl
  · intro e
    exact nd (List.mem_map.mpr ⟨kv, hkv, e⟩)
theorem putK_cons_ne {k k' : Key} {v v' : V} {r : List (Key × V)} (h : k' ≠ k) : putK ((k', v') :: r) k v = (k', v') :: putK r k v := by
  unfold putK
  have e : ((k', v') :: r).any (fun kv => decide (kv.1 = k)) = r.any fun kv => decide (kv.1 = k) := by simp [h]
  rw [e]
  split
  · simp [h]
  · rfl
theorem RVs.put : ∀ {ps : List (Key × PV)} {ks : List (Key × V)} {Fx : List Addr} {k : Key}, ps.map (·.1) = ks.map (·.1) → (ks.map (·.1)).Nodup → RVs K mg H B (ps.map (·.2)) (ks.map (·.2)) Fx → RV K mg H B v x G → (Fx ++ G).Nodup →
    (putP ps k v).map (·.1) = (putK ks k x).map (·.1) ∧ ∃ F', RVs K mg H B ((putP ps k v).map (·.2)) ((putK ks k x).map (·.2)) F' ∧ F'.Nodup ∧ ∀ b ∈ F', b ∈ Fx ++ G
  | [], [], _, k, _, _, .nil, rv, nd => ⟨rfl, G ++ [], .cons rv .nil, by simpa using nd, fun b hb => by simpa using hb⟩
  | [], _ :: _, _, _, e, _, _, _, _ => by simp at e
  | _ :: _, [], _, _, e, _, _, _, _ => by simp at e
  | (k1, v1) :: ps, (k2, v2) :: ks, Fx, k, e, nk, r, rv, nd => by
    simp only [List.map_cons, List.cons.injEq] at e
    obtain ⟨e1, e2⟩ := e
    subst e1
    simp only [List.map_cons, List.nodup_cons] at nk
    cases r with
    | @cons _ _ _ _ Fa Fb r1 t =>
    rw [List.append_assoc] at nd
    obtain ⟨n1, n2, n3⟩ := List.nodup_append.mp nd
    obtain ⟨m1, m2, m3⟩ := List.nodup_append.mp n2
    by_cases h : k1 = k
    · rw [putK_cons_eq h nk.1]
      unfold putP
      rw [if_pos h]
      refine ⟨by simp [e2], G ++ Fb, .cons rv t, List.nodup_append.mpr ⟨m2, m1, fun a1 h1 a2 h2 e => m3 a2 h2 a1 h1 e.symm⟩, fun b hb => ?_⟩
      simp at hb ⊢
      rcases hb with h | h
      · exact .inr (.inr h)
      · exact .inr (.inl h)
    · rw [putK_cons_ne h]
      unfold putP
      rw [if_neg h]
      obtain ⟨i1, F', i2, i3, i4⟩ := RVs.put (k := k) e2 nk.2 t rv n2
      refine ⟨by simp [i1], Fa ++ F', .cons r1 i2, List.nodup_append.mpr ⟨n1, i3, fun a1 h1 a2 h2 => n3 a1 h1 a2 (i4 a2 h2)⟩, fun b hb => ?_⟩
      rcases List.mem_append.mp hb with h | h
      · simp [h]
      · have := i4 b h
        simp at this ⊢
        rcases this with h | h
        · exact .inr (.inl h)
        · exact .inr (.inr h)
theorem dict_put {a : Addr} {k : Key} {ps : List (Key × PV)} {ks : List (Key × V)} {Fx : List Addr} (h : H a = some (.dK ks)) (hB : B a) (e : ps.map (·.1) = ks.map (·.1)) (nk : (ks.map (·.1)).Nodup) (rs : RVs K mg H B (ps.map (·.2)) (ks.map (·.2)) Fx) (rv : RV K mg H B v x G)
    (nd : ((a :: Fx) ++ G).Nodup) : ∃ G', Chd K mg H B (a :: Fx) G (.dic true (putP ps k v)) (.ref a) (upd H a (.dK (putK ks k x))) B G' := by
  have kp : Keep [a] H B (upd H a (.dK (putK ks k x))) B := Keep.at
  have m : MutW [a] H B := MutW.one hB (by rw [h]; trivial)
  have hnd : (a :: (Fx ++ G)).Nodup := nd
  obtain ⟨na, nd2⟩ := List.nodup_cons.mp hnd
  have rs' := rs.keep kp m fun b hb z => na (by simp at z; subst z; simp [hb])
  have rv' := rv.keep kp m fun b hb z => na (by simp at z; subst z; simp [hb])
  obtain ⟨i1, F', i2, i3, i4⟩ := RVs.put (k := k) e nk rs' rv' nd2
  refine ⟨a :: F', .dicO upd_same hB i1 i2, List.nodup_cons.mpr ⟨fun hm => na (i4 a hm), i3⟩, fun b hb => ?_, kp.mono fun b hb => by simp at hb; simp [hb]⟩
  rcases List.mem_cons.mp hb with h | h
  · simp [h]
  · have := i4 b h
    simp at this ⊢
    exact .inr this
theorem kv_keys {ks : List (Key × V)} {vs : List (Key × Value)} (r : KV ks vs) : ks.map (·.1) = vs.map (·.1) := by
  unfold KV at r
  induction r with
  | nil => rfl
  | cons a _ ih => simp [a.1, ih]
theorem dict_nodup {pins : List (Addr × Obj)} {s : Shared} {a : Addr} {ks : List (Key × V)} (I : Inv X pins σ H s) (h : H a = some (.dK ks)) : (ks.map (·.1)).Nodup := by
  obtain ⟨_, _, vs, r, dd⟩ := dk_of I.hok h
  rw [kv_keys r]
  obtain ⟨_, _, _, _, _, _, _, _, n⟩ := dd
  exact n
theorem ps_all (hu : X.A.units + 1 < cLine) : PSet X (rSetP K mg) := by
  intro pins s σ H o i v ov iv u Q I ro ri rv ⟨B, ob, kk, vv, Wo, Wk, Gv, ob', r1, r2, r3, g, nd, k⟩
  unfold psetI at g
  split at g
  · obtain ⟨j, e, rfl⟩ := Option.map_eq_some_iff.mp g
    cases r2
    cases r1 with
    | lstO h hB rs =>
      have hl := rs.length
      obtain ⟨_, hj, _, _⟩ := ixN_seq e
      obtain ⟨G', ch⟩ := list_set h hB rs r3 nd hj
      exact set_list pins s σ H _ _ v ov iv u Q I ro ri rv ⟨_, _, _, j, rfl, rfl, h, by rw [← hl]; exact e, k _ _ _ ch⟩
  · obtain ⟨kx, e, g⟩ := bind_some g
    obtain ⟨c, g⟩ := guard_some g
    cases g
    obtain rfl := toKey_ok r2 e
    cases r1 with
    | dicO h hB e2 rs =>
      have hl : _ = _ := congrArg List.length e2
      simp only [List.length_map] at hl
      obtain ⟨G', ch⟩ := dict_put (k := kx) h hB e2 (dict_nodup I h) rs r3 nd
      cases ro
      exact d_setItem hu I (.inl ⟨_, kx, h, rfl, by rw [← hl]; exact c, rfl⟩) ri rv fun s' I' => ⟨_, I', k _ _ _ ch⟩
  · cases g
/-- a name's object is changed -/
theorem chg_ok {i : Nat} {ob ob' : PV} {o : V} {Gv : List Addr} (R : RSs K mg H B ρ σ P F) (nd : (Gv ++ F).Nodup) (hg : (ρ[i]?).bind Slot.get = some ob) (ho : σ[i]? = some (some o)) (e : chg i ob' ρ = some ρ') (m : MutW Gv H B) :
    ∃ Wo, RV K mg H B ob o Wo ∧ (Wo ++ Gv).Nodup ∧ ∀ H' B' G', Chd K mg H B Wo Gv ob' o H' B' G' → ∃ F', PoS K mg P H B (Gv ++ F) ρ' σ H' B' F' := by
  obtain ⟨s, z1, z2⟩ := bind_some hg
  obtain ⟨s', z3, e⟩ := bind_some e
  rw [z1] at z3
  cases z3
  obtain ⟨y, p, F1, Go, F2, h1, h2, h3, h4, h5⟩ := R.at z1
  rw [ho] at h1
  cases h1
  rw [h4] at nd
  obtain ⟨n1, n2, n3⟩ := List.nodup_append.mp nd
  obtain ⟨m1, m2, m3⟩ := List.nodup_append.mp n2
  obtain ⟨l1, l2, l3⟩ := List.nodup_append.mp m1
  have ndo : (Go ++ Gv).Nodup := List.nodup_append.mpr ⟨l2, n1, fun a1 h1 a2 h2 e => n3 a2 h2 a1 (by simp [h1]) e.symm⟩
  have fin : ∀ {s1 : Slot} {H' B' G'}, MutW Go H B → Chd K mg H B Go Gv ob' o H' B' G' → RSl K mg H' B' s1 (some o) p G' → PoS K mg P H B (Gv ++ F) (ρ.set i s1) σ H' B' (F1 ++ G' ++ F2) := fun {s1 H' B' G'} mu ch rs => by
    obtain ⟨k1, _⟩ := h5 H' B' Go ch.kp mu (fun b hb hg => l3 b hb b hg rfl) (fun b hb hg => m3 b (by simp [hg]) b hb rfl)
    refine ⟨k1 s1 G' rs, ?_, ⟨fun b hb => .inl ?_, ch.kp.mono fun b hb => ?_⟩⟩
    · refine List.nodup_append.mpr ⟨List.nodup_append.mpr ⟨l1, ch.nd, fun a1 h1 a2 h2 e => ?_⟩, m2, fun a1 h1 a2 h2 e => ?_⟩
      · subst e
        rcases List.mem_append.mp (ch.sub a1 h2) with h | h
        · exact l3 a1 h1 a1 h rfl
        · exact n3 a1 h a1 (by simp [h1]) rfl
      · subst e
        rcases List.mem_append.mp h1 with h1 | h1
        · exact m3 a1 (by simp [h1]) a1 h2 rfl
        · rcases List.mem_append.mp (ch.sub a1 h1) with h | h
          · exact m3 a1 (by simp [h]) a1 h2 rfl
          · exact n3 a1 h a1 (by simp [h2]) rfl
    · rw [h4]
      simp at hb ⊢
      rcases hb with h | h | h
      · exact .inr (.inl h)
      · rcases List.mem_append.mp (ch.sub b h) with h | h
        · exact .inr (.inr (.inl h))
        · exact .inl h
      · exact .inr (.inr (.inr h))
    · rw [h4]
      simp [hb]
  cases h3 with
  | un => cases z2
  | val r =>
    cases z2
    cases e
    exact ⟨Go, r, ndo, fun H' B' G' ch => ⟨_, fin r.mut ch (.val ch.rv)⟩⟩
  | ref r =>
    cases z2
    cases e
    exact ⟨Go, r, ndo, fun H' B' G' ch => ⟨_, fin r.mut ch (.ref ch.rv)⟩⟩
theorem gg_ix {i : Nat} {f : M PV} (hu : X.A.units + 1 < cLine) (ha : PE X a (tVar i)) (hb : PE X b (tE false K mg P f))
    (hw : ∀ v, assign (.Subscript a b pos) X.env v = (do
      let ov ← holding [v] (eval a X.env)
      let iv ← holding [v, ov] (eval b X.env)
      standAt pos
      holding [v, ov, iv] (setItem ov iv v)
      release [v, ov, iv] []) := by intro _; rfl) : PG X (.Subscript a b pos) (tG K mg P TT1 (gIx i f)) :=
  PG.weak (pg_sub ha hb (ps_all (K := K) (mg := mg) hu) hw) fun x σ H Q ⟨ρ, B, F, v, G, ρ', rv, R, nd, e, k⟩ => by
    obtain ⟨_, z0, e⟩ := bind_some e
    obtain ⟨⟨kk, ρ1⟩, z1, e⟩ := bind_some e
    split at e
    · rename_i hp
      obtain ⟨ob, z2, e⟩ := bind_some e
      obtain ⟨ob', z3, e⟩ := bind_some e
      obtain ⟨o, ho⟩ := slot_at R z0
      refine ⟨o, ho, ρ, B, F, kk, ρ1, ⟨R, nodup_r nd⟩, z1, fun y H1 B1 G1 F1 p => ?_⟩
      have rk := p.rv
      have eG := rk.pure hp
      subst eG
      have rv' := rv.over nd R.mut p.st.keep
      have nd1 : (G ++ F1).Nodup := nodup_beside nd rv.mut p.nd p.st
      obtain ⟨Wo, ro, ndo, fin⟩ := chg_ok p.sl nd1 z2 ho e rv'.mut
      refine ⟨B1, ob, kk, v, Wo, [], G, ob', ro, rk, rv', z3, ndo, fun H' B' G' ch => ?_⟩
      obtain ⟨F', p'⟩ := fin H' B' G' ch
      exact k σ H' B' F' ⟨p'.sl, p'.nd, (p.st.beside G).trans p'.st⟩ trivial
    · cases e

/-! ### methods that change -/
section
variable (K mg)
def rMut (g : PV → List PV → Option (PV × PV)) : V → List V → Hp → VK → Prop := fun x xs H Q => ∃ B ob vs Wo Ga ob' r, RV K mg H B ob x Wo ∧ RVs K mg H B vs xs Ga ∧ (Wo ++ Ga).Nodup ∧ g ob vs = some (ob', r) ∧
  r.pure = true ∧ ∀ z H' B' G', Chd K mg H B Wo Ga ob' x H' B' G' → RV K mg H' B' r z [] → Q z H'
end
/-- the object's kind -/
def kindP : PV → String
  | .lst true _ => "list"
  | .dic true _ => "dict"
  | _ => ""
def cMut (i : Nat) (T : String) (g : PV → List PV → Option (PV × PV)) (a : M (List Opd)) : M PV := fun ρ => ((ρ[i]?).bind Slot.get).bind fun ob0 => if kindP ob0 = T then
  (a ρ).bind fun z => (tmVals z.1).bind fun vs => ((z.2[i]?).bind Slot.get).bind fun ob => (g ob vs).bind fun w => if w.2.pure then (chg i w.1 z.2).bind fun ρ2 => some (w.2, ρ2) else none else none
theorem tyV_ok {ob : PV} {o : V} (r : RV K mg H B ob o W) (h : kindP ob ≠ "") : tyV K (kindP ob) o H := by
  cases r with
  | lstO h1 _ _ => exact .inl ⟨rfl, _, .of h1⟩
  | dicO h1 _ _ _ => exact .inr (.inr (.inl ⟨rfl, .inl ⟨_, h1⟩⟩))
  | _ => exact absurd rfl h
theorem ge_mut {i : Nat} {g : PV → List PV → Option (PV × PV)} {f : M (List Opd)} {name : Str} {apos cpos : Pos} {T id : String} {es : List Expr} (hK : X.K = K) (pa : PlainAttrs T) (slot : PySem.Slot T name id) (hty : typeOf (.builtin id) = pure (.type "method_descriptor"))
    (hm : MtR X id (rMut K mg g)) (hT : T ≠ "") (ho : PE X a (tVar i)) (ha : PA X (b :: es) (tA false K mg P f))
    (hbase : attributeBase a name X.env (eval a X.env) = eval a X.env := by rfl)
    (hfew : ((backTo cpos (starEach (b :: es) X.env)).all (fun x => !x.1) && (backToKw cpos (keywordEach [] X.env)).all (fun x => x.1.isSome)
      && decide ((b :: es).length + ([] : List Keyword).length + (if ([] : List Keyword).isEmpty then 0 else 1) < 30)) = true := by rfl)
    (hline : (apos.endLine == cpos.line) = true := by rfl) (hs : starEach (b :: es) X.env = (false, eval b X.env) :: starEach es X.env := by rfl) (hplain : (backTo cpos (starEach es X.env)).any (·.1) = false := by rfl) :
    PE X (.Call (.Attribute a name apos) (b :: es) [] cpos) (tE false K mg P (cMut i T g f)) := by
  subst hK
  refine PE.weak (pe_bm pa slot hty hm ho ha hbase hfew hline hs hplain) fun σ H Q ⟨ρ, B, F, r, ρ', R, e, k⟩ => ?_
  obtain ⟨ob0, z0, e⟩ := bind_some e
  split at e
  · rename_i hk
    obtain ⟨⟨os, ρ1⟩, z1, e⟩ := bind_some e
    obtain ⟨vs, z2, e⟩ := bind_some e
    obtain ⟨ob, z3, e⟩ := bind_some e
    obtain ⟨⟨ob', r'⟩, z4, e⟩ := bind_some e
    split at e
    · rename_i hp
      obtain ⟨ρ2, z5, e⟩ := bind_some e
      cases e
      obtain ⟨o, ho⟩ := slot_at R.slots z0
      obtain ⟨W0, r0, _⟩ := OV.deref (o := .sl i) (x := o) (G := []) ⟨ho, rfl⟩ R.slots z0
      refine ⟨o, ho, by rw [← hk]; exact tyV_ok r0 (by rw [hk]; exact hT), ρ, B, F, os, ρ1, R, z1, fun xs H1 B1 G1 F1 p => ?_⟩
      have rv := ovs_tm p.ov z2
      obtain ⟨Wo, ro, ndo, fin⟩ := chg_ok p.sl p.nd z3 ho z5 rv.mut
      refine ⟨B1, ob, vs, Wo, G1, ob', _, ro, rv, ndo, z4, hp, fun z H' B' G' ch rz => ?_⟩
      obtain ⟨F', p'⟩ := fin H' B' G' ch
      exact k z H' B' [] F' ⟨rz, p'.sl, p'.nd, p.st.trans p'.st, fun z => nomatch z⟩
    · cases e
  · cases e
def gAppend : PV → List PV → Option (PV × PV)
  | .lst true xs, [v] => guard (xs.length < 16777216) (some (.lst true (xs ++ [v]), .non))
  | _, _ => none
def gExtend : PV → List PV → Option (PV × PV)
  | .lst true xs, [.lst _ ys] => guard (PV.pures ys = true ∧ xs.length + ys.length ≤ 16777216) (some (.lst true (xs ++ ys), .non))
  | _, _ => none
theorem list_app {a : Addr} {Fx : List Addr} {vs' : List PV} {us : List V} (h : H a = some (.lst ys)) (hB : B a) (rs : RVs K mg H B xs ys Fx) (rv : RVs K mg H B vs' us G) (nd : ((a :: Fx) ++ G).Nodup) :
    ∃ G', Chd K mg H B (a :: Fx) G (.lst true (xs ++ vs')) (.ref a) (upd H a (.lst (ys ++ us))) B G' := by
  have kp : Keep [a] H B (upd H a (.lst (ys ++ us))) B := Keep.at
  have m : MutW [a] H B := MutW.one hB (by rw [h]; trivial)
  have hnd : (a :: (Fx ++ G)).Nodup := nd
  obtain ⟨na, nd2⟩ := List.nodup_cons.mp hnd
  have rs' := rs.keep kp m fun b hb z => na (by simp at z; subst z; simp [hb])
  have rv' := rv.keep kp m fun b hb z => na (by simp at z; subst z; simp [hb])
  exact ⟨a :: (Fx ++ G), .lstO upd_same hB (rs'.append rv'), hnd, fun b hb => hb, kp.mono fun b hb => by simp at hb; simp [hb]⟩
theorem mt_appP : MtR X "list.append" (rMut K mg gAppend) := by
  intro pins s σ H x xs v us Q I rx rxs ⟨B, ob, vs, Wo, Ga, ob', r, r1, r2, nd, g, hp, k⟩
  unfold gAppend at g
  split at g
  · obtain ⟨c, g⟩ := guard_some g
    cases g
    cases r1 with
    | lstO h hB rs =>
      have hl := rs.length
      obtain ⟨G', ch⟩ := list_app h hB rs r2 nd
      cases r2 with
      | cons rv t =>
        cases t
        exact mt_append pins s σ H _ _ v us Q I rx rxs ⟨_, _, _, rfl, rfl, h, by rw [← hl]; exact c, k _ _ _ _ ch .non⟩
  · cases g
theorem mt_extP : MtR X "list.extend" (rMut K mg gExtend) := by
  intro pins s σ H x xs v us Q I rx rxs ⟨B, ob, vs, Wo, Ga, ob', r, r1, r2, nd, g, hp, k⟩
  unfold gExtend at g
  split at g
  · obtain ⟨⟨c1, c2⟩, g⟩ := guard_some g
    cases g
    cases r1 with
    | @lstO a0 ys0 _ Fx h hB rs =>
      have hl := rs.length
      cases r2 with
      | cons rv t =>
        cases t
        obtain ⟨b, zs, rfl, hb, rz⟩ := rv.lst c1
        have hl2 := rz.length
        have nd0 : ((a0 :: Fx) ++ ([] : List Addr)).Nodup := by rw [List.append_nil]; exact nodup_l nd
        obtain ⟨G', ch⟩ := list_app h hB rs rz nd0
        exact mt_extend pins s σ H _ _ v us Q I rx rxs ⟨_, _, _, _, rfl, rfl, h, hb, sz_le (by omega), k _ _ _ _ ⟨ch.rv, ch.nd, fun b hb => List.mem_append_left _ (by simpa using ch.sub b hb), ch.kp⟩ .non⟩
  · cases g
end
end GX

/-! GX: while, for, what they walk. -/
namespace GX
open PySem PySem.Spec PyProof.Rows L2

/-! ### while -/
def whN (t : M Bool) (b : S) : Nat → S
  | 0, _ => none
  | n + 1, ρ => (t ρ).bind fun z => if z.1 = true then (b z.2).bind fun o => match o with
      | .nx ρ1 => whN t b n ρ1
      | .ct ρ1 => whN t b n ρ1
      | .bk ρ1 => some (.nx ρ1)
      | .rt v ρ1 => some (.rt v ρ1) else some (.nx z.2)
theorem whN_succ {t : M Bool} {b : S} : ∀ {n : Nat} {ρ : Rho} {o : Out}, whN t b n ρ = some o → whN t b (n + 1) ρ = some o
  | 0, _, _, h => nomatch h
  | n + 1, ρ, o, h => by
    rw [whN] at h ⊢
    obtain ⟨z, e1, h⟩ := bind_some h
    rw [e1]
    simp only [Option.bind_some]
    split at h
    · rename_i hz
      rw [if_pos hz]
      obtain ⟨o1, e2, h⟩ := bind_some h
      rw [e2]
      cases o1 with
      | nx ρ1 => exact whN_succ h
      | ct ρ1 => exact whN_succ h
      | bk ρ1 => exact h
      | rt v ρ1 => exact h
    · rename_i hz
      rw [if_neg hz]
      exact h
theorem whN_le {t : M Bool} {b : S} {ρ : Rho} {o : Out} {n : Nat} (h : whN t b n ρ = some o) : ∀ k, whN t b (n + k) ρ = some o
  | 0 => h
  | k + 1 => whN_succ (whN_le h k)
open Classical in
noncomputable def sWhile (t : M Bool) (b : S) : S := fun ρ => if h : ∃ o n, whN t b n ρ = some o then some h.choose else none
theorem while_ex {t : M Bool} {b : S} {ρ : Rho} {o : Out} (h : sWhile t b ρ = some o) : ∃ n, whN t b n ρ = some o := by
  unfold sWhile at h
  split at h
  · rename_i hh
    cases h
    exact hh.choose_spec
  · cases h
theorem while_of {t : M Bool} {b : S} {ρ : Rho} {o : Out} {n : Nat} (h : whN t b n ρ = some o) : sWhile t b ρ = some o := by
  unfold sWhile
  have hh : ∃ o n, whN t b n ρ = some o := ⟨o, n, h⟩
  rw [dif_pos hh]
  obtain ⟨m, hm⟩ := hh.choose_spec
  have a := whN_le hm n
  have b := whN_le h m
  rw [Nat.add_comm] at a
  rw [a] at b
  exact b
/-- one turn -/
theorem while_turn {t : M Bool} {b : S} {ρ ρ1 : Rho} {o : Out} (ht : t ρ = some (true, ρ1)) (h : (b ρ1).bind (fun o => match o with
      | .nx ρ1 => sWhile t b ρ1
      | .ct ρ1 => sWhile t b ρ1
      | .bk ρ1 => some (.nx ρ1)
      | .rt v ρ1 => some (.rt v ρ1)) = some o) : sWhile t b ρ = some o := by
  obtain ⟨o1, e, h⟩ := bind_some h
  have st : ∀ ρ2 n, whN t b n ρ2 = some o → (o1 = .nx ρ2 ∨ o1 = .ct ρ2) → sWhile t b ρ = some o := fun ρ2 n hn hc => while_of (n := n + 1) (by
    rw [whN, ht]
    simp only [Option.bind_some, if_true]
    rw [e]
    rcases hc with rfl | rfl <;> exact hn)
  cases o1 with
  | nx ρ2 => obtain ⟨n, hn⟩ := while_ex h; exact st ρ2 n hn (.inl rfl)
  | ct ρ2 => obtain ⟨n, hn⟩ := while_ex h; exact st ρ2 n hn (.inr rfl)
  | bk ρ2 =>
    refine while_of (n := 1) ?_
    rw [whN, ht]
    simp only [Option.bind_some, if_true]
    rw [e]
    exact h
  | rt v ρ2 =>
    refine while_of (n := 1) ?_
    rw [whN, ht]
    simp only [Option.bind_some, if_true]
    rw [e]
    exact h
theorem while_end {t : M Bool} {b : S} {ρ ρ1 : Rho} (ht : t ρ = some (false, ρ1)) : sWhile t b ρ = some (.nx ρ1) := while_of (n := 1) (by
  rw [whN, ht]
  simp)

section
variable {q : Bool} {K : PySem.W.Frag} {mg : Str → Option Value} {P : List V} {H H' H1 H2 : Hp} {B B' B1 B2 : Addr → Prop} {x y : V} {v w r c : PV} {xs : List PV} {ys : List V} {F F' F1 F2 G G1 G2 W : List Addr} {ρ ρ' ρ1 ρ2 : Rho} {σ σ' σ1 σ2 : Sg} {X : Cx} {a b e : Expr} {pos p2 : Pos} {D : Ends} {o : Out}
theorem g_while {c : Expr} {body : List Stmt} {t : M Bool} {f : S} (hp : PassesOwn (model X.prog X.w) X.A X.env X.xe) (hc : PT X c (tT false K mg P t)) (hb : PSs X body (tS K mg P f)) : PS X (.While c body [] pos) (tS K mg P (sWhile t f)) := by
  refine PS.weak (ps_while hp hc hb) fun D σ H ⟨ρ, B, F, o, R, e, k⟩ => ?_
  obtain ⟨n0, e0⟩ := while_ex e
  refine ⟨fun m σ1 H1 => ∃ ρ1 B1 F1, PoS K mg P H B F ρ1 σ1 H1 B1 F1 ∧ whN t f m ρ1 = some o, ⟨n0, ρ, B, F, same_s R, e0⟩, ?_⟩
  rintro m σ1 H1 ⟨ρ1, B1, F1, p1, e1⟩
  cases m with
  | zero => cases e1
  | succ m =>
    rw [whN] at e1
    obtain ⟨⟨d, ρ2⟩, z1, e1⟩ := bind_some e1
    refine ⟨ρ1, B1, F1, d, ρ2, p1.rel, z1, fun H2 B2 F2 p2 => ?_⟩
    have p12 := p1.trans p2.toS
    cases d with
    | false =>
      rw [if_neg Bool.false_ne_true] at e1
      cases e1
      show (if false = true then _ else _)
      rw [if_neg Bool.false_ne_true]
      exact k _ _ _ _ p12
    | true =>
      rw [if_pos rfl] at e1
      show (if true = true then _ else _)
      rw [if_pos rfl]
      obtain ⟨o1, z2, e1⟩ := bind_some e1
      refine ⟨fun σ' H' => ∃ ρ' B' F', PoS K mg P H B F ρ' σ' H' B' F' ∧ whN t f m ρ' = some o, fun σ' H' h => ⟨m, Nat.lt_succ_self m, h⟩, ρ2, B2, F2, o1, p2.rel, z2, ?_⟩
      cases o1 with
      | nx ρ3 => exact fun σ' H' B' F' p => ⟨ρ3, B', F', p12.trans p, e1⟩
      | ct ρ3 => exact fun σ' H' B' F' p => ⟨ρ3, B', F', p12.trans p, e1⟩
      | bk ρ3 => cases e1; exact fun σ' H' B' F' p => k _ _ _ _ (p12.trans p)
      | rt v ρ3 => cases e1; exact fun x σ' H' B' G F' p => k _ _ _ _ _ _ (p12.toR p)

/-! ### what is walked -/
section
variable (K mg P)
/-- the iterator J gives the items; bs: the values that it reads -/
def ItOk (J : It) (items : List PV) (bs : List PV) (xs : List V) : Prop := ∀ H B Gs, RVs K mg H B bs xs Gs →
  (∀ i, i = items.length → J.stop i H) ∧ ∀ i it, items[i]? = some it → J.go i H ∧ ∀ x H', J.yld i H x H' → it.pure = true → ∃ B', Keep [] H B H' B' ∧ RV K mg H' B' it x []
def tI (f : M (List PV)) : TI := fun σ H R => ∃ ρ B F items ρ', Rel K mg H B P ρ σ F ∧ f ρ = some (items, ρ') ∧ ∀ J H' B' F' bs xs Gs, RVs K mg H' B' bs xs Gs → RSs K mg H' B' ρ' σ P F' → (Gs ++ F').Nodup → Step H B F H' B' (Gs ++ F') → ItOk K mg J items bs xs → R J H'
end
theorem PI.weak {tg it : Expr} {t t' : TI} (h : PI X tg it t) (w : ∀ σ H Q, t' σ H Q → t σ H Q) : PI X tg it t' := ⟨fun pins s σ H Q I q => h.run pins s σ H Q I (w σ H Q q)⟩
def forL (g : Tg) (b : S) : List PV → Rho → Option Out
  | [], ρ => some (.nx ρ)
  | x :: xs, ρ => if x.pure then (g x ρ).bind fun ρ1 => (b ρ1).bind fun o => match o with
      | .nx ρ2 => forL g b xs ρ2
      | .ct ρ2 => forL g b xs ρ2
      | .bk ρ2 => some (.nx ρ2)
      | .rt v ρ2 => some (.rt v ρ2) else none
def sFor (f : M (List PV)) (g : Tg) (b : S) : S := fun ρ => (f ρ).bind fun z => forL g b z.1 z.2
theorem Step.toBeside {Gs : List Addr} (st : Step H B F H1 B1 (Gs ++ F1)) (st2 : Step H1 B1 F1 H2 B2 F2) : Step H B F H2 B2 (Gs ++ F2) := st.trans (st2.beside Gs)
theorem g_for {tg iter : Expr} {body : List Stmt} {fi : M (List PV)} {g : Tg} {f : S} (hp : PassesOwn (model X.prog X.w) X.A X.env X.xe) (hc : X.calm = true) (hi : PI X tg iter (tI K mg P fi)) (hg : PG X tg (tG K mg P TT1 g)) (hb : PSs X body (tS K mg P f))
    (hs : ∀ x, foldedSetIterable iter X.env x = pure x := by intro _; rfl) : PS X (.For tg iter body [] pos) (tS K mg P (sFor fi g f)) := by
  refine PS.weak (ps_for hp hc hi hg hb hs) fun D σ H ⟨ρ, B, F, o, R, e, k⟩ => ?_
  obtain ⟨⟨items, ρ1⟩, z1, e⟩ := bind_some e
  refine ⟨ρ, B, F, items, ρ1, R, z1, fun J H1 B1 F1 bs xs Gs rb sl nd st it => ?_⟩
  refine ⟨fun i m σ2 H2 => ∃ ρ2 B2 F2, RVs K mg H2 B2 bs xs Gs ∧ RSs K mg H2 B2 ρ2 σ2 P F2 ∧ (Gs ++ F2).Nodup ∧ Step H B F H2 B2 (Gs ++ F2) ∧ m + i = items.length ∧ forL g f (items.drop i) ρ2 = some o, ⟨items.length, ρ1, B1, F1, rb, sl, nd, st, rfl, e⟩, ?_⟩
  rintro i m σ2 H2 ⟨ρ2, B2, F2, rb2, sl2, nd2, st2, hm, e2⟩
  obtain ⟨js, jg⟩ := it H2 B2 Gs rb2
  by_cases hi : i < items.length
  · have hd : items.drop i = items[i] :: items.drop (i + 1) := List.drop_eq_getElem_cons hi
    rw [hd, forL] at e2
    split at e2
    · rename_i hpure
      obtain ⟨ρ3, z3, e2⟩ := bind_some e2
      obtain ⟨o1, z4, e2⟩ := bind_some e2
      obtain ⟨go, yl⟩ := jg i items[i] (List.getElem?_eq_getElem hi)
      refine .inr ⟨go, fun σ' H' => ∃ ρ' B' F', RVs K mg H' B' bs xs Gs ∧ RSs K mg H' B' ρ' σ' P F' ∧ (Gs ++ F').Nodup ∧ Step H B F H' B' (Gs ++ F') ∧ forL g f (items.drop (i + 1)) ρ' = some o, fun σ' H' ⟨ρ', B', F', h1, h2, h3, h4, h5⟩ => ⟨items.length - (i + 1), by omega, ρ', B', F', h1, h2, h3, h4, by omega, h5⟩, fun x H' hy => ?_⟩
      obtain ⟨B3, kp, rx⟩ := yl x H' hy hpure
      have sl3 := sl2.keep kp MutW.nil fun _ _ h => nomatch h
      have rb3 := rb2.keep0 kp
      have st3 : Step H B F H' B3 (Gs ++ F2) := st2.trans ⟨fun b hb => .inl hb, kp.mono fun _ h => nomatch h⟩
      refine ⟨ρ2, B3, F2, items[i], [], ρ3, rx, sl3, by simpa using nodup_r nd2, z3, fun σ4 H4 B4 F4 p4 _ => ?_⟩
      have p4s : Step H' B3 F2 H4 B4 F4 := p4.st
      have nd4 := nodup_beside nd2 (fun b hb => by exact (rb3.mut b hb)) p4.nd p4s
      have rb4 := rb3.keep p4s.keep sl3.mut fun b hb => nodup_ne nd2 b hb
      have st4 := st3.toBeside p4s
      refine ⟨ρ3, B4, F4, o1, p4.rel, z4, ?_⟩
      have nxt : ∀ ρ5, forL g f (items.drop (i + 1)) ρ5 = some o → ∀ σ5 H5 B5 F5, PoS K mg P H4 B4 F4 ρ5 σ5 H5 B5 F5 → ∃ ρ' B' F', RVs K mg H5 B' bs xs Gs ∧ RSs K mg H5 B' ρ' σ5 P F' ∧ (Gs ++ F').Nodup ∧ Step H B F H5 B' (Gs ++ F') ∧ forL g f (items.drop (i + 1)) ρ' = some o := fun ρ5 e5 σ5 H5 B5 F5 p5 =>
        ⟨ρ5, B5, F5, rb4.keep p5.st.keep p4.sl.mut fun b hb => nodup_ne nd4 b hb, p5.sl, nodup_beside nd4 rb4.mut p5.nd p5.st, st4.toBeside p5.st, e5⟩
      cases o1 with
      | nx ρ5 => exact nxt ρ5 e2
      | ct ρ5 => exact nxt ρ5 e2
      | bk ρ5 =>
        cases e2
        exact fun σ5 H5 B5 F5 p5 => k σ5 H5 B5 F5 ⟨p5.sl, p5.nd, (st4.toBeside p5.st).less fun b hb => List.mem_append_right _ hb⟩
      | rt v ρ5 =>
        cases e2
        exact fun x5 σ5 H5 B5 G5 F5 p5 => k x5 σ5 H5 B5 G5 F5 ⟨p5.rv, p5.sl, p5.nd, (st4.toBeside p5.st).less fun b hb => List.mem_append_right _ hb⟩
    · cases e2
  · have hd : items.drop i = [] := List.drop_eq_nil_of_le (by omega)
    rw [hd] at e2
    cases e2
    exact .inl ⟨js i (by omega), k _ _ _ _ ⟨sl2, nodup_r nd2, st2.less fun b hb => List.mem_append_right _ hb⟩⟩

/-! ### the sources -/
def itemsOf : PV → Option (List PV)
  | .tup xs => some xs
  | .lst _ xs => some xs
  | .zls xs => some xs
  | .str x => some (x.cps.toList.map fun c => .str ⟨#[c]⟩)
  | _ => none
def iVal (f : M PV) : M (List PV) := fun ρ => (f ρ).bind fun z => (itemsOf z.1).bind fun xs => some (xs, z.2)
theorem SqL.uniq {xs ys : List V} {a : Addr} (h : Rd H a (.lst xs)) (h' : Rd H a (.lst ys)) : xs = ys := by
  rcases h with h | ⟨o, h⟩ <;> rcases h' with h' | ⟨o', h'⟩ <;> (rw [h] at h') <;> first | (cases h'; rfl) | cases h'
/-- over a list -/
theorem itOk_list {a : Addr} {bs : List PV} {v : PV} (hv : ∀ H B Gs, RVs K mg H B [v] [.ref a] Gs → ∃ ys W, SqL K H a ys ∧ RVs K mg H B bs ys W) : ItOk K mg (Itl K a) bs [v] [.ref a] := fun H B Gs r => by
  obtain ⟨ys, W, h, rs⟩ := hv H B Gs r
  have hl := rs.length
  refine ⟨fun i hi => ⟨ys, h, by omega⟩, fun i it hit => ?_⟩
  obtain ⟨y, F1, G, F2, e1, e2, e3, _⟩ := rs.at hit
  refine ⟨⟨ys, y, h, e1⟩, fun x H' hy hp => ?_⟩
  obtain ⟨rfl, e⟩ := hy
  have e4 := e ys h
  rw [e1] at e4
  cases e4
  have := e2.pure hp
  subst this
  exact ⟨B, Keep.refl, e2⟩
theorem rv_one (r : RVs K mg H B [v] [x] G) : ∃ W, RV K mg H B v x W := by
  cases r with | cons a b => exact ⟨_, a⟩
theorem gi_list {tg : Expr} {f : M PV} (hK : X.K = K) (h : PE X e (tE false K mg P f)) : PI X tg e (tI K mg P (iVal f)) := by
  subst hK
  -- a list and a tuple are walked by two rules: the value decides
  refine ⟨fun pins s σ H R I ⟨ρ, B, F, items, ρ', Rr, e1, k⟩ => ?_⟩
  obtain ⟨⟨v, ρ1⟩, z1, e1⟩ := bind_some e1
  obtain ⟨its, z2, e1⟩ := bind_some e1
  obtain ⟨rfl, rfl⟩ : items = its ∧ ρ' = ρ1 := by cases e1; exact ⟨rfl, rfl⟩
  by_cases ht : ∃ ts, v = .tup ts
  · obtain ⟨ts, rfl⟩ := ht
    cases z2
    refine (pi_tup (tg := tg) h).run pins s σ H R I ⟨ρ, B, F, _, _, Rr, z1, fun x H1 B1 G1 F1 p => ?_⟩
    have rv := p.rv
    cases rv with
    | @tup a ys _ _ hs rs =>
      refine ⟨a, rfl, ⟨_, hs⟩, k (Itt X.K a) H1 B1 F1 [.tup _] [.ref a] (G1 ++ []) (.cons p.rv .nil) p.sl (by rw [List.append_nil]; exact p.nd) (by rw [List.append_nil]; exact p.st) fun H2 B2 Gs r => ?_⟩
      obtain ⟨W, r1⟩ := rv_one r
      cases r1 with
      | @tup _ ys2 _ _ hs2 rs2 =>
        have hl := rs2.length
        refine ⟨fun i hi => ⟨ys2, hs2, by omega⟩, fun i it hit => ?_⟩
        obtain ⟨y, Fa, G, Fb, g1, g2, g3, _⟩ := rs2.at hit
        refine ⟨⟨ys2, y, hs2, g1⟩, fun x H' hy hp => ?_⟩
        obtain ⟨rfl, e⟩ := hy
        have e4 := e ys2 hs2
        rw [g1] at e4
        cases e4
        have := g2.pure hp
        subst this
        exact ⟨B2, Keep.refl, g2⟩
  · by_cases hstr : ∃ z, v = .str z
    · obtain ⟨z, rfl⟩ := hstr
      cases z2
      refine (pi_str (tg := tg) h).run pins s σ H R I ⟨ρ, B, F, _, _, Rr, z1, fun x H1 B1 G1 F1 p => ?_⟩
      have rv := p.rv
      cases rv
      refine ⟨z, rfl, k (Its z) H1 B1 F1 [] [] [] .nil p.sl (by exact nodup_r p.nd) (p.st.less fun b hb => List.mem_append_right _ hb) fun H2 B2 Gs r => ?_⟩
      refine ⟨fun i hi => by show z.cps.size ≤ i; rw [List.length_map, Array.length_toList] at hi; omega, fun i it hit => ?_⟩
      rw [List.getElem?_map] at hit
      obtain ⟨c, hc, rfl⟩ := Option.map_eq_some_iff.mp hit
      have hc' : z.cps[i]? = some c := by rw [← hc, Array.getElem?_toList]
      refine ⟨by show i < z.cps.size; exact (Array.getElem?_eq_some_iff.mp hc').1, fun y H' hy hp => ?_⟩
      obtain ⟨rfl, c', hc2, rfl⟩ := hy
      rw [hc'] at hc2
      cases hc2
      exact ⟨B2, Keep.refl, .str _⟩
    refine (pi_list (tg := tg) h).run pins s σ H R I ⟨ρ, B, F, _, _, Rr, z1, fun x H1 B1 G1 F1 p => ?_⟩
    have fin : ∀ {a : Addr}, x = .ref a → (∃ ys, SqL X.K H1 a ys) → (∀ H B Gs, RVs X.K mg H B [v] [.ref a] Gs → ∃ ys W, SqL X.K H a ys ∧ RVs X.K mg H B items ys W) → ∃ a, x = .ref a ∧ (∃ xs, SqL X.K H1 a xs) ∧ R (Itl X.K a) H1 := fun {a} ex ⟨ys, hy⟩ hv => by
      subst ex
      exact ⟨a, rfl, ⟨ys, hy⟩, k (Itl X.K a) H1 B1 F1 [v] [.ref a] (G1 ++ []) (.cons p.rv .nil) p.sl (by rw [List.append_nil]; exact p.nd) (by rw [List.append_nil]; exact p.st) (itOk_list hv)⟩
    have rv := p.rv
    cases rv with
    | lstO h _ rs => cases z2; exact fin rfl ⟨_, .inl (.inl h)⟩ fun H B Gs r => by obtain ⟨W, r1⟩ := rv_one r; cases r1 with | lstO h _ rs => exact ⟨_, _, .inl (.inl h), rs⟩
    | lstF h _ rs => cases z2; exact fin rfl ⟨_, .inl (.inl h)⟩ fun H B Gs r => by obtain ⟨W, r1⟩ := rv_one r; cases r1 with | lstF h _ rs => exact ⟨_, _, .inl (.inl h), rs⟩
    | zls h rs => cases z2; exact fin rfl ⟨_, h.sq⟩ fun H B Gs r => by obtain ⟨W, r1⟩ := rv_one r; cases r1 with | zls h rs => exact ⟨_, _, h.sq, rs⟩
    | tup h rs => exact absurd ⟨_, rfl⟩ ht
    | str z => exact absurd ⟨_, rfl⟩ hstr
    | _ => cases z2
/-- range(n), range(a, b) -/
def rangeL (lo : Int) : Nat → List PV
  | 0 => []
  | n + 1 => .int lo :: rangeL (lo + 1) n
def smallI (j : Int) : Bool := decide (-4611686018427387904 ≤ j) && decide (j < 4611686018427387904)
def rng1 : List PV → Option (List PV)
  | [.int j] => if smallI j then some (rangeL 0 j.toNat) else none
  | _ => none
def rng2 : List PV → Option (List PV)
  | [.int i, .int j] => if smallI i && smallI j then some (rangeL i (j - i).toNat) else none
  | _ => none
def iCall (g : List PV → Option (List PV)) (a : M (List Opd)) : M (List PV) := fun ρ => (a ρ).bind fun z => (derefs z.1 z.2).bind fun vs => (g vs).bind fun r => some (r, z.2)
theorem rangeL_get : ∀ {n : Nat} {lo : Int} {i : Nat}, (rangeL lo n)[i]? = if i < n then some (.int (lo + i)) else none
  | 0, _, i => by simp [rangeL]
  | n + 1, lo, 0 => by simp [rangeL]
  | n + 1, lo, i + 1 => by
    rw [rangeL, List.getElem?_cons_succ, rangeL_get]
    by_cases h : i < n
    · rw [if_pos h, if_pos (by omega)]
      have e : lo + 1 + (i : Int) = lo + ((i + 1 : Nat) : Int) := by omega
      rw [e]
    · rw [if_neg h, if_neg (by omega)]
theorem rangeL_length : ∀ {n : Nat} {lo : Int}, (rangeL lo n).length = n
  | 0, _ => rfl
  | n + 1, lo => by rw [rangeL, List.length_cons, rangeL_length]
theorem itOk_range {lo : Int} {n : Nat} : ItOk K mg (Itr lo n) (rangeL lo n) [] [] := fun H B Gs _ => by
  refine ⟨fun i hi => ?_, fun i it hit => ?_⟩
  · rw [rangeL_length] at hi
    exact Nat.le_of_eq hi.symm
  · rw [rangeL_get] at hit
    split at hit
    · rename_i h
      cases hit
      refine ⟨h, fun x H' hy hp => ?_⟩
      obtain ⟨rfl, rfl⟩ := hy
      exact ⟨B, Keep.refl, .int _⟩
    · cases hit
theorem px_int {j : Int} {x : V} (h : RX K mg H B (.int j) x) : x = .int j := by
  obtain ⟨W, r⟩ := h
  cases r
  rfl
theorem gi_range1 {tg a : Expr} {f : M (List Opd)} {p : Pos} (hm : X.mg "range" = none) (hg : Gl X "range") (ha : PA X [a] (tA false K mg P f)) (hs : starEach [a] X.env = [(false, eval a X.env)] := by rfl) : PI X tg (.Call (.Name "range" p) [a] [] pos) (tI K mg P (iCall rng1 f)) := by
  refine PI.weak (pi_range1 hg hm ha hs) fun σ H R ⟨ρ, B, F, items, ρ', Rr, e1, k⟩ => ?_
  obtain ⟨⟨os, ρ1⟩, z1, e1⟩ := bind_some e1
  obtain ⟨vs, z2, e1⟩ := bind_some e1
  obtain ⟨r, z3, e1⟩ := bind_some e1
  obtain ⟨rfl, rfl⟩ : items = r ∧ ρ' = ρ1 := by cases e1; exact ⟨rfl, rfl⟩
  refine ⟨ρ, B, F, os, _, Rr, z1, fun xs H1 B1 G1 F1 p => ?_⟩
  have hp := ovs_derefs p.sl p.ov z2
  unfold rng1 at z3
  split at z3
  · split at z3
    · rename_i j hj
      cases z3
      simp only [smallI, Bool.and_eq_true, decide_eq_true_eq] at hj
      cases hp with
      | cons h t =>
        cases t
        have := px_int h
        subst this
        refine ⟨j, rfl, by omega, by omega, k (Itr 0 j.toNat) H1 B1 F1 [] [] [] .nil p.sl (by exact nodup_r p.nd) (p.st.less fun b hb => List.mem_append_right _ hb) itOk_range⟩
    · cases z3
  · cases z3
theorem gi_range2 {tg a b : Expr} {f : M (List Opd)} {p : Pos} (hm : X.mg "range" = none) (hg : Gl X "range") (ha : PA X [a, b] (tA false K mg P f)) (hs : starEach [a, b] X.env = [(false, eval a X.env), (false, eval b X.env)] := by rfl) (hs2 : starEach [b] X.env = [(false, eval b X.env)] := by rfl) : PI X tg (.Call (.Name "range" p) [a, b] [] pos) (tI K mg P (iCall rng2 f)) := by
  refine PI.weak (pi_range2 hg hm ha hs hs2) fun σ H R ⟨ρ, B, F, items, ρ', Rr, e1, k⟩ => ?_
  obtain ⟨⟨os, ρ1⟩, z1, e1⟩ := bind_some e1
  obtain ⟨vs, z2, e1⟩ := bind_some e1
  obtain ⟨r, z3, e1⟩ := bind_some e1
  obtain ⟨rfl, rfl⟩ : items = r ∧ ρ' = ρ1 := by cases e1; exact ⟨rfl, rfl⟩
  refine ⟨ρ, B, F, os, _, Rr, z1, fun xs H1 B1 G1 F1 p => ?_⟩
  have hp := ovs_derefs p.sl p.ov z2
  unfold rng2 at z3
  split at z3
  · split at z3
    · rename_i i j hj
      cases z3
      simp only [smallI, Bool.and_eq_true, decide_eq_true_eq] at hj
      cases hp with
      | cons h t =>
        cases t with
        | cons h2 t =>
          cases t
          have := px_int h
          subst this
          have := px_int h2
          subst this
          refine ⟨i, j, rfl, ⟨by omega, by omega, by omega, by omega⟩, k (Itr i (j - i).toNat) H1 B1 F1 [] [] [] .nil p.sl (by exact nodup_r p.nd) (p.st.less fun b hb => List.mem_append_right _ hb) itOk_range⟩
    · cases z3
  · cases z3
end
end GX

/-! GX: list comprehensions with one clause. -/
namespace GX
open PySem PySem.Spec PyProof.Rows L2

def mskS (vs : List Nat) : Nat → Sg → Sg
  | _, [] => []
  | k, y :: σ => (if k ∈ vs then none else y) :: mskS vs (k + 1) σ
/-- the block's own names hold nothing -/
def mskR (vs : List Nat) : Nat → Rho → Rho
  | _, [] => []
  | k, y :: ρ => (if k ∈ vs then .un else y) :: mskR vs (k + 1) ρ
/-- .. and what they held comes back -/
def bckR (vs : List Nat) : Nat → Rho → Rho → Rho
  | k, s :: ρ', s0 :: ρ => (if k ∈ vs then s0 else s) :: bckR vs (k + 1) ρ' ρ
  | _, ρ', _ => ρ'
def Slot.pure : Slot → Bool
  | .un => true
  | .val v => v.pure
  | .ref v => v.pure
def pureW (vs : List Nat) : Nat → Rho → Bool
  | _, [] => true
  | k, s :: ρ => (!(decide (k ∈ vs)) || s.pure) && pureW vs (k + 1) ρ

theorem mskS_get {vs : List Nat} : ∀ {σ : Sg} {k i : Nat}, (mskS vs k σ)[i]? = (σ[i]?).map fun y => if k + i ∈ vs then none else y
  | [], _, _ => by simp [mskS]
  | y :: σ, k, 0 => by simp [mskS]
  | y :: σ, k, i + 1 => by
    rw [mskS, List.getElem?_cons_succ, mskS_get, List.getElem?_cons_succ]
    have e : k + 1 + i = k + (i + 1) := by omega
    rw [e]
theorem wipe_get {σ : Sg} {i : Nat} : ∀ {vs : List Nat}, (wipe σ vs)[i]? = (σ[i]?).map fun y => if i ∈ vs then none else y
  | [] => by simp [wipe]
  | v :: vs => by
    unfold wipe
    by_cases h : v = i
    · subst h
      cases e : σ[v]? with
      | none =>
        have : σ.length ≤ v := by simpa using e
        rw [List.getElem?_eq_none (by rw [List.length_set, wipe_length]; exact this)]
        rfl
      | some y =>
        obtain ⟨hl, _⟩ := List.getElem?_eq_some_iff.mp e
        rw [List.getElem?_set_self (by rw [wipe_length]; exact hl)]
        simp
    · rw [List.getElem?_set_ne h, wipe_get]
      congr 1
      funext y
      have : (i ∈ v :: vs) ↔ i ∈ vs := by simp [Ne.symm h]
      simp only [this]
theorem wipe_msk {σ : Sg} {vs : List Nat} : wipe σ vs = mskS vs 0 σ := by
  apply List.ext_getElem?
  intro i
  rw [wipe_get, mskS_get, Nat.zero_add]
theorem wipe_wipe {σ : Sg} {vs : List Nat} : wipe (wipe σ vs) vs = wipe σ vs := by
  apply List.ext_getElem?
  intro i
  rw [wipe_get, wipe_get, Option.map_map]
  congr 1
  funext y
  simp only [Function.comp]
  split <;> rfl

section
variable {q : Bool} {K : PySem.W.Frag} {mg : Str → Option Value} {P : List V} {H H' H1 H2 : Hp} {B B' B1 B2 : Addr → Prop} {x y : V} {v w r c : PV} {xs : List PV} {ys : List V} {F F' F1 F2 G G1 G2 W : List Addr} {ρ ρ' ρ1 ρ2 : Rho} {σ σ' σ1 σ2 : Sg} {X : Cx} {a b e : Expr} {pos p2 : Pos} {D : Ends} {o : Out}
theorem RSs.msk {vs : List Nat} : ∀ {ρ : Rho} {σ : Sg} {P : List V} {F : List Addr} {k : Nat}, RSs K mg H B ρ σ P F → ∃ F', RSs K mg H B (mskR vs k ρ) (mskS vs k σ) P F' ∧ F'.Sublist F
  | _, _, _, _, _, .nil => ⟨[], .nil, .slnil⟩
  | _, _, _, _, k, .cons (F := F) (G := G) r t => by
    obtain ⟨F', t', s⟩ := RSs.msk (vs := vs) (k := k + 1) t
    unfold mskR mskS
    by_cases h : k ∈ vs
    · rw [if_pos h, if_pos h]
      exact ⟨[] ++ F', .cons .un t', List.Sublist.append (List.nil_sublist F) s⟩
    · rw [if_neg h, if_neg h]
      exact ⟨F ++ F', .cons r t', List.Sublist.append (List.Sublist.refl F) s⟩
theorem RSl.pureF {s : Slot} {y : Option V} {p : V} (r : RSl K mg H B s y p F) (h : s.pure = true) : F = [] := by
  cases r with
  | un => rfl
  | val r => exact r.pure h
  | ref r => exact r.pure h
theorem RSs.bck {vs : List Nat} (k0 : Keep W H B H' B') (m : MutW W H B) : ∀ {ρ' ρ : Rho} {σ : Sg} {P : List V} {F F' : List Addr} {k : Nat}, RSs K mg H B ρ σ P F → pureW vs k ρ = true → RSs K mg H' B' ρ' (mskS vs k σ) P F' → ∃ F'', RSs K mg H' B' (bckR vs k ρ' ρ) σ P F'' ∧ F''.Sublist F'
  | _, _, [], [], _, F', _, .nil, _, s => by
    cases s
    exact ⟨[], by unfold bckR; exact .nil, .slnil⟩
  | _, _, _ :: _, _ :: _, _, F', k, .cons (F := F0) r t, h, s => by
    unfold pureW at h
    simp only [Bool.and_eq_true] at h
    obtain ⟨h1, h2⟩ := h
    unfold mskS at s
    cases s with
    | @cons s1 _ _ ρ1 _ _ Fa Fb r' t' =>
      obtain ⟨F2, t2, sub⟩ := RSs.bck k0 m t h2 t'
      unfold bckR
      by_cases hk : k ∈ vs
      · rw [if_pos hk]
        have e : F0 = [] := r.pureF (by simpa [hk] using h1)
        subst e
        exact ⟨[] ++ F2, .cons (RSs.keep1 k0 m r fun _ h => nomatch h) t2, List.Sublist.append (List.nil_sublist Fa) sub⟩
      · rw [if_neg hk]
        rw [if_neg hk] at r'
        exact ⟨Fa ++ F2, .cons r' t2, List.Sublist.append (List.Sublist.refl Fa) sub⟩

def compL (vs : List Nat) (g : Tg) (t : M Bool) (e : M PV) : List PV → Rho → Option (List PV × Rho)
  | [], ρ => some ([], ρ)
  | x :: xs, ρ => if x.pure then (g x ρ).bind fun ρ1 => (t ρ1).bind fun z => if z.1 then (e z.2).bind fun y => (compL vs g t e xs (mskR vs 0 y.2)).bind fun r => some (y.1 :: r.1, r.2) else compL vs g t e xs (mskR vs 0 z.2) else none
def cComp (vs : List Nat) (f : M (List PV)) (g : Tg) (t : M Bool) (e : M PV) : M PV := fun ρ => (f ρ).bind fun z => if pureW vs 0 z.2 && decide (z.1.length ≤ 16777216) then (compL vs g t e z.1 (mskR vs 0 z.2)).bind fun r => some (.lst true r.1, bckR vs 0 r.2 z.2) else none
def mYes : M Bool := fun ρ => some (true, ρ)
theorem gts_nil : PTs X [] (tT false K mg P mYes) := ⟨fun pins s σ H Q I ⟨ρ, B, F, b, ρ', R, e, k⟩ => by
  cases e
  exact pts_nil.run pins s σ H Q I (k H B F ⟨R.slots, R.nd, Step.refl, fun h => nomatch h⟩)⟩
theorem gts_one {c : Expr} {t : M Bool} (h : PT X c (tT false K mg P t)) : PTs X [c] (tT false K mg P t) := pts_one h

/-- where a comprehension stands at its i-th turn -/
structure CompAt (K : PySem.W.Frag) (mg : Str → Option Value) (P : List V) (vs : List Nat) (g : Tg) (t : M Bool) (te : M PV) (items : List PV) (bs : List PV) (xs : List V) (Gs : List Addr) (σw : Sg) (H1 : Hp) (B1 : Addr → Prop) (F1 : List Addr) (D : Addr) (fin : List PV) (ρe : Rho)
    (i : Nat) (H : Hp) (B : Addr → Prop) (F Fa : List Addr) (ρ : Rho) (acc r : List PV) (ys : List V) : Prop where
  hbs : RVs K mg H B bs xs Gs
  sl : RSs K mg H B ρ σw P F
  lst : H D = some (.lst ys)
  own : B D
  hacc : RVs K mg H B acc ys Fa
  nd : (Gs ++ (D :: (Fa ++ F))).Nodup
  st : Step H1 B1 F1 H B (D :: (Fa ++ F))
  len : acc.length ≤ i
  run : compL vs g t te (items.drop i) ρ = some (r, ρe)
  all : acc ++ r = fin

theorem nd_parts {Gs Fa G6 F6 : List Addr} {D : Addr} (h5 : (Gs ++ (D :: (Fa ++ (G6 ++ F6)))).Nodup) : D ∉ Gs ∧ D ∉ Fa ∧ D ∉ G6 ∧ D ∉ F6 := by grind [List.nodup_append]
theorem not_one {A : List Addr} {D : Addr} (h : D ∉ A) : ∀ b ∈ A, b ∉ [D] := fun b hb e => h (by simp at e; subst e; exact hb)
theorem comp_te {vs : List Nat} {f : M (List PV)} {g : Tg} {t : M Bool} {te : M PV} {H : Hp} {Q : VK} (h : tE false K mg P (cComp vs f g t te) σ H Q) : tLc (tI K mg P f) (tG K mg P (TW vs) g) (tT false K mg P t) (tE false K mg P te) vs σ H Q := by
  obtain ⟨ρ, B, F, v, ρ', R, e1, k⟩ := h
  obtain ⟨⟨items, ρ1⟩, z1, e1⟩ := bind_some e1
  split at e1
  rotate_left
  · cases e1
  rename_i hc
  simp only [Bool.and_eq_true, decide_eq_true_eq] at hc
  obtain ⟨hpw, hlen⟩ := hc
  obtain ⟨⟨fin, ρe⟩, z2, e1⟩ := bind_some e1
  obtain ⟨rfl, rfl⟩ : v = .lst true fin ∧ ρ' = bckR vs 0 ρe ρ1 := by cases e1; exact ⟨rfl, rfl⟩
  refine ⟨ρ, B, F, items, ρ1, R, z1, fun J H1 B1 F1 bs xs Gs rb sl nd st it D hD => ?_⟩
  have mD : ∀ b ∈ Gs ++ F1, b ≠ D := fun b hb e => by
    subst e
    have : Mut (H1 b) := (List.mem_append.mp hb).elim (fun h => (rb.mut b h).2) fun h => (sl.mut b h).2
    rw [hD] at this
    exact this
  have kD : Keep [] H1 B1 (upd H1 D (.lst [])) (own1 B1 D) := Keep.newO hD
  obtain ⟨F0, sl0, sub0⟩ := (sl.keep kD MutW.nil fun _ _ h => nomatch h).msk (vs := vs) (k := 0)
  have c0 : CompAt K mg P vs g t te items bs xs Gs (wipe σ vs) H1 B1 F1 D fin ρe 0 (upd H1 D (.lst [])) (own1 B1 D) F0 [] (mskR vs 0 ρ1) [] fin [] := by
    refine ⟨rb.keep0 kD, by rw [wipe_msk]; exact sl0, upd_same, .inl rfl, .nil, ?_, ⟨fun b hb => ?_, kD.mono fun _ h => nomatch h⟩, Nat.le_refl _, z2, rfl⟩
    · have n2 : (Gs ++ F0).Nodup := nd.sublist (List.Sublist.append (List.Sublist.refl _) sub0)
      have m2 : ∀ b ∈ Gs ++ F0, b ≠ D := fun b hb => mD b ((List.Sublist.append (List.Sublist.refl Gs) sub0).subset hb)
      grind [List.nodup_append]
    · rcases List.mem_cons.mp hb with e | hb
      · exact .inr (e ▸ hD)
      · exact .inl (sub0.subset (by simpa using hb))
  refine ⟨fun i m H => m + i = items.length ∧ ∃ B F Fa ρ acc r ys, CompAt K mg P vs g t te items bs xs Gs (wipe σ vs) H1 B1 F1 D fin ρe i H B F Fa ρ acc r ys, ⟨items.length, by simp, _, _, _, _, _, _, _, c0⟩, ?_⟩
  rintro i m H2 ⟨hm, B2, F2, Fa, ρ2, acc, r, ys, c⟩
  obtain ⟨js, jg⟩ := it H2 B2 Gs c.hbs
  by_cases hi : i < items.length
  · have hd : items.drop i = items[i] :: items.drop (i + 1) := List.drop_eq_getElem_cons hi
    have e2 := c.run
    rw [hd, compL] at e2
    split at e2
    rotate_left
    · cases e2
    rename_i hpure
    obtain ⟨ρ3, z3, e2⟩ := bind_some e2
    obtain ⟨⟨b, ρ4⟩, z4, e2⟩ := bind_some e2
    obtain ⟨go, yl⟩ := jg i items[i] (List.getElem?_eq_getElem hi)
    refine .inr ⟨go, fun H' => ∃ B F Fa ρ acc r ys, CompAt K mg P vs g t te items bs xs Gs (wipe σ vs) H1 B1 F1 D fin ρe (i + 1) H' B F Fa ρ acc r ys, fun H' h => ⟨items.length - (i + 1), by omega, by omega, h⟩, fun x H' hy => ?_⟩
    obtain ⟨B3, kp, rx⟩ := yl x H' hy hpure
    have sl3 := c.sl.keep kp MutW.nil fun _ _ h => nomatch h
    have bs3 := c.hbs.keep0 kp
    have ac3 := c.hacc.keep0 kp
    obtain ⟨l3, o3⟩ := kp D _ c.lst (fun h => nomatch h)
    have st3 : Step H1 B1 F1 H' B3 (D :: (Fa ++ F2)) := c.st.trans ⟨fun b hb => .inl hb, kp.mono fun _ h => nomatch h⟩
    have ndF : F2.Nodup := by have := c.nd; grind [List.nodup_append]
    refine ⟨ρ2, B3, F2, items[i], [], ρ3, rx, sl3, by simpa using ndF, z3, fun σ4 H4 B4 F4 p4 tw => ⟨tw.trans wipe_wipe, ?_⟩⟩
    have p4s : Step H' B3 F2 H4 B4 F4 := p4.st
    refine ⟨ρ3, B4, F4, b, ρ4, p4.rel, z4, fun H5 B5 F5 p5 => ?_⟩
    have st5 : Step H' B3 F2 H5 B5 F5 := p4s.trans p5.st
    -- behind the tests
    have rest : ∀ {H6 : Hp} {B6 : Addr → Prop} {F6 : List Addr}, Step H' B3 F2 H6 B6 F6 → F6.Nodup → RVs K mg H6 B6 bs xs Gs ∧ RVs K mg H6 B6 acc ys Fa ∧ H6 D = some (.lst ys) ∧ B6 D ∧ (Gs ++ (D :: (Fa ++ F6))).Nodup ∧ Step H1 B1 F1 H6 B6 (D :: (Fa ++ F6)) := fun {H6 B6 F6} s6 n6 => by
      have nd := c.nd
      have m3 : MutW F2 H' B3 := sl3.mut
      have d1 : ∀ b ∈ Gs, b ∉ F2 := by grind [List.nodup_append]
      have d2 : ∀ b ∈ Fa, b ∉ F2 := by grind [List.nodup_append]
      have d3 : D ∉ F2 := by grind [List.nodup_append]
      obtain ⟨l6, o6⟩ := s6.keep D _ l3 d3
      refine ⟨bs3.keep s6.keep m3 d1, ac3.keep s6.keep m3 d2, l6, o6.mpr (o3.mpr c.own), ?_, ?_⟩
      · have fr : ∀ b ∈ F6, b ∉ Gs ++ (D :: Fa) := fun b hb hg => by
          rcases s6.own b hb with h | h
          · grind [List.nodup_append]
          · have : Mut (H' b) := by
              simp only [List.mem_append, List.mem_cons] at hg
              rcases hg with h | h | h
              · exact (bs3.mut b h).2
              · subst h; rw [l3]; trivial
              · exact (ac3.mut b h).2
            rw [h] at this
            exact this
        grind [List.nodup_append]
      · exact st3.trans (s6.beside (D :: Fa))
    cases b with
    | false =>
      simp only [Bool.false_eq_true, if_false]
      have e2 : compL vs g t te (items.drop (i + 1)) (mskR vs 0 ρ4) = some (r, ρe) := by simpa using e2
      obtain ⟨F7, sl7, sub7⟩ := p5.sl.msk (vs := vs) (k := 0)
      rw [← wipe_msk, show wipe σ4 vs = wipe σ vs from tw.trans wipe_wipe] at sl7
      obtain ⟨h1, h2, h3, h4, h5, h6⟩ := rest st5 p5.nd
      have sb : List.Sublist (D :: (Fa ++ F7)) (D :: (Fa ++ F5)) := (List.Sublist.append (List.Sublist.refl Fa) sub7).cons_cons D
      exact ⟨B5, F7, Fa, _, acc, r, ys, h1, sl7, h3, h4, h2, h5.sublist (List.Sublist.append (List.Sublist.refl Gs) sb), h6.less fun b hb => sb.subset hb, Nat.le_succ_of_le c.len, e2, c.all⟩
    | true =>
      simp only [if_true]
      have e2 : (te ρ4).bind (fun y => (compL vs g t te (items.drop (i + 1)) (mskR vs 0 y.2)).bind fun r => some (y.1 :: r.1, r.2)) = some (r, ρe) := by simpa using e2
      obtain ⟨⟨y, ρ5⟩, z5, e2⟩ := bind_some e2
      obtain ⟨⟨r', ρe'⟩, z6, e2⟩ := bind_some e2
      obtain ⟨rfl, rfl⟩ : r = y :: r' ∧ ρe = ρe' := by cases e2; exact ⟨rfl, rfl⟩
      refine ⟨ρ4, B5, F5, y, ρ5, p5.rel, z5, fun yv H6 B6 G6 F6 p6 => ?_⟩
      obtain ⟨h1, h2, h3, h4, h5, h6⟩ := rest (st5.trans p6.st) p6.nd
      have hl : acc.length = ys.length := c.hacc.length
      have cl := c.len
      refine ⟨ys, h3, by show ys.length < 16777216; omega, ?_⟩
      have kp7 : Keep [D] H6 B6 (upd H6 D (.lst (ys ++ [yv]))) B6 := Keep.at
      have m7 : MutW [D] H6 B6 := MutW.one h4 (by rw [h3]; trivial)
      obtain ⟨n1, n2, n3, n4⟩ := nd_parts h5
      have d1 := not_one n1
      have d2 := not_one n2
      have d3 := not_one n3
      have d4 := not_one n4
      obtain ⟨F7, sl7, sub7⟩ := (p6.sl.keep kp7 m7 d4).msk (vs := vs) (k := 0)
      rw [← wipe_msk, show wipe σ4 vs = wipe σ vs from tw.trans wipe_wipe] at sl7
      have ac7 := (h2.keep kp7 m7 d2).append (.cons (p6.rv.keep kp7 m7 d3) .nil)
      have sb : List.Sublist (D :: ((Fa ++ (G6 ++ [])) ++ F7)) (D :: (Fa ++ (G6 ++ F6))) := by
        rw [List.append_nil, List.append_assoc]
        exact (List.Sublist.append (List.Sublist.refl Fa) (List.Sublist.append (List.Sublist.refl G6) sub7)).cons_cons D
      refine ⟨B6, F7, Fa ++ (G6 ++ []), _, acc ++ [y], r', ys ++ [yv], h1.keep kp7 m7 d1, sl7, upd_same, h4, ac7, h5.sublist (List.Sublist.append (List.Sublist.refl Gs) sb), ?_, by simp only [List.length_append, List.length_cons, List.length_nil]; omega, z6, by rw [← c.all]; simp⟩
      have s7 : Step H6 B6 (D :: (Fa ++ (G6 ++ F6))) (upd H6 D (.lst (ys ++ [yv]))) B6 (D :: (Fa ++ (G6 ++ F6))) := ⟨fun b hb => .inl hb, kp7.mono fun b hb => by simp at hb; simp [hb]⟩
      exact (h6.trans s7).less fun b hb => sb.subset hb
  · have hd : items.drop i = [] := List.drop_eq_nil_of_le (by omega)
    have e2 := c.run
    rw [hd] at e2
    obtain ⟨rfl, rfl⟩ : r = [] ∧ ρe = ρ2 := by cases e2; exact ⟨rfl, rfl⟩
    have ea := c.all
    rw [List.append_nil] at ea
    subst ea
    have sl2 := c.sl
    rw [wipe_msk] at sl2
    obtain ⟨F3, sl3, sub3⟩ := RSs.bck c.st.keep sl.mut sl hpw sl2
    refine .inl ⟨js i (by omega), k (.ref D) H2 B2 (D :: Fa) F3 ⟨.lstO c.lst c.own c.hacc, sl3, ?_, ?_, fun h => nomatch h⟩⟩
    · have n := nodup_r c.nd
      exact n.sublist ((List.Sublist.append (List.Sublist.refl Fa) sub3).cons_cons D)
    · refine (st.trans (c.st.beside Gs)).less fun b hb => List.mem_append_right _ ?_
      exact ((List.Sublist.append (List.Sublist.refl Fa) sub3).cons_cons D).subset hb
theorem ge_comp {elt tg iter : Expr} {ifs : List Expr} {scope : Scope} {own : List (Str × Nat)} {f : M (List PV)} {g : Tg} {t : M Bool} {te : M PV} (hc : X.calm = true) (hN : X.N.Nodup) (hi : PI X tg iter (tI K mg P f)) (ok : BlkOk X.N X.env.scope scope own)
    (hg : ∀ (s : Shared) (H : Hp) (C : Addr) (cl : List (Str × Addr)) (fp : List Addr), PG (X.blk s H scope (compEnvC scope cl C X.env) fp) tg (tG K mg P (TW (own.map (·.2))) g)) (ht : ∀ (s : Shared) (H : Hp) (C : Addr) (cl : List (Str × Addr)) (fp : List Addr), PTs (X.blk s H scope (compEnvC scope cl C X.env) fp) ifs (tT false K mg P t))
    (he : ∀ (s : Shared) (H : Hp) (C : Addr) (cl : List (Str × Addr)) (fp : List Addr), PE (X.blk s H scope (compEnvC scope cl C X.env) fp) elt (tE false K mg P te)) (hs : ∀ x, foldedSetIterable iter X.env x = pure x := by intro _; rfl) :
    PE X (.ListComp elt [⟨tg, iter, ifs, 0⟩] scope pos) (tE false K mg P (cComp (own.map (·.2)) f g t te)) := PE.weak (pe_lc hc hN hi ok hg ht he hs) fun σ H Q h => comp_te h
theorem g_setLc {i : Nat} {y : Str} {py : Pos} {elt tg iter : Expr} {ifs : List Expr} {scope : Scope} {own : List (Str × Nat)} {f : M (List PV)} {g : Tg} {t : M Bool} {te : M PV} (hc : X.calm = true) (hN : X.N.Nodup) (hy : X.N[i]? = some y) (hyl : X.env.scope.names.lookup y = some .local)
    (hsw : swapsWith (.ListComp elt [⟨tg, iter, ifs, 0⟩] scope p2) (some (.Name y py)) pos.line X.env = pure true) (hi : PI X tg iter (tI K mg P f)) (ok : BlkOk X.N X.env.scope scope own)
    (hg : ∀ (s : Shared) (H : Hp) (C : Addr) (cl : List (Str × Addr)) (fp : List Addr), PG (X.blk s H scope (compEnvC scope cl C X.env) fp) tg (tG K mg P (TW (own.map (·.2))) g)) (ht : ∀ (s : Shared) (H : Hp) (C : Addr) (cl : List (Str × Addr)) (fp : List Addr), PTs (X.blk s H scope (compEnvC scope cl C X.env) fp) ifs (tT false K mg P t))
    (he : ∀ (s : Shared) (H : Hp) (C : Addr) (cl : List (Str × Addr)) (fp : List Addr), PE (X.blk s H scope (compEnvC scope cl C X.env) fp) elt (tE false K mg P te)) (hs : ∀ x, foldedSetIterable iter X.env x = pure x := by intro _; rfl) :
    PS X (.Assign [.Name y py] (.ListComp elt [⟨tg, iter, ifs, 0⟩] scope p2) pos) (tS K mg P (sAsg (gNm i) (cComp (own.map (·.2)) f g t te))) := by
  refine PS.weak (ps_setLc hc hN hy hyl hsw hi ok hg ht he hs) fun D σ H h => ?_
  obtain ⟨ρ, B, F, o, R, e, k⟩ := h
  obtain ⟨⟨v, ρ1⟩, z1, e⟩ := bind_some e
  obtain ⟨ρ2, z2, e⟩ := bind_some e
  cases e
  refine comp_te ⟨ρ, B, F, v, ρ1, R, z1, fun x H1 B1 G1 F1 p => ?_⟩
  obtain ⟨F', p', _⟩ := put_ok p.rv p.sl p.nd z2
  exact k _ _ _ _ ⟨p'.sl, p'.nd, p.st.trans p'.st⟩
end
end GX

/-! GX: the defs of the text, their calls. -/
namespace GX
open PySem PySem.Spec PyProof.Rows L2

abbrev Fn := List Slot → Option (PV × List Slot)
/-- what a call gives back to the caller: arguments that the caller owns -/
def outS : Slot → Slot
  | .ref v => .ref v
  | _ => .un
/-- a def's body, run at its arguments; n names -/
def fnRun (n m : Nat) (b : S) : Fn := fun as => if as.length = m then (b (as ++ List.replicate (n - m) .un)).bind fun o => match o with
  | .nx ρ => some (.non, (ρ.take m).map outS)
  | .rt v ρ => some (v, (ρ.take m).map outS)
  | _ => none else none
/-- the arguments leave the names -/
def giveL : List Opd → Rho → Option (List Slot × Rho)
  | [], ρ => some ([], ρ)
  | .tm v :: os, ρ => (giveL os ρ).bind fun r => some (.val v :: r.1, r.2)
  | .pk v :: os, ρ => none
  | .sl i :: os, ρ => (ρ[i]?).bind fun s => match s with
    | .un => none
    | .val v => if v.pure then (giveL os ρ).bind fun r => some (.val v :: r.1, r.2) else (giveL os (ρ.set i .un)).bind fun r => some (.ref v :: r.1, r.2)
    | .ref v => if v.pure then (giveL os ρ).bind fun r => some (.val v :: r.1, r.2) else (giveL os (ρ.set i .un)).bind fun r => some (.ref v :: r.1, r.2)
/-- .. and come back -/
def takeL : List Opd → List Slot → List Slot → Rho → Rho → Option Rho
  | [], _, _, _, ρ => some ρ
  | .sl i :: os, .ref _ :: as, .ref v :: ts, ρ0, ρ => (ρ0[i]?).bind fun s => match s with
    | .un => none
    | .val _ => takeL os as ts ρ0 (ρ.set i (.val v))
    | .ref _ => takeL os as ts ρ0 (ρ.set i (.ref v))
  | _ :: os, .val _ :: as, _ :: ts, ρ0, ρ => takeL os as ts ρ0 ρ
  | _, _, _, _, _ => none
def cFn (f : Fn) (dvs : List PV) (a : M (List Opd)) : M PV := fun ρ => (a ρ).bind fun z => (giveL z.1 z.2).bind fun g => (f (g.1 ++ dvs.map .val)).bind fun r => (takeL z.1 g.1 r.2 z.2 g.2).bind fun ρ2 => some (r.1, ρ2)

section
variable {q : Bool} {K : PySem.W.Frag} {mg : Str → Option Value} {P : List V} {H H' H1 H2 H0 : Hp} {B B' B1 B2 B0 : Addr → Prop} {x y : V} {v w r c : PV} {xs : List PV} {ys : List V} {F F' F1 F2 F0 G G1 G2 W : List Addr} {ρ ρ' ρ1 ρ2 ρ0 : Rho} {σ σ' σ1 σ2 : Sg} {X : Cx} {a b e : Expr} {pos p2 : Pos} {D : Ends} {o : Out}
section
variable (K mg)
/-- a def's promise -/
def spG (m : Nat) (f : Fn) : Sp := fun vs H Q _ => vs.length = m ∧ ∃ B as G v ts, RSs K mg H B as (vs.map some) vs G ∧ G.Nodup ∧ f as = some (v, ts) ∧
  ∀ x H' B' Gv G' σ', RV K mg H' B' v x Gv → RSs K mg H' B' ts σ' vs G' → (Gv ++ G').Nodup → Step H B G H' B' (Gv ++ G') → Q x H'
end
theorem Step.more (a : Step H B F H' B' F') (h : ∀ b ∈ F, b ∈ F2) : Step H B F2 H' B' F' := ⟨fun b hb => (a.own b hb).imp (h b) id, a.keep.mono h⟩
theorem RSs.uns : ∀ {n : Nat} {p : List V}, p.length = n → RSs K mg H B (List.replicate n .un) (List.replicate n none) p []
  | 0, [], _ => .nil
  | n + 1, p :: ps, h => by
    rw [List.replicate_succ, List.replicate_succ]
    exact .cons (F := []) (G := []) .un (RSs.uns (by simpa using h))
theorem RSs.app : ∀ {ρ ρ2 : Rho} {σ σ2 : Sg} {P P2 : List V} {F F2 : List Addr}, RSs K mg H B ρ σ P F → RSs K mg H B ρ2 σ2 P2 F2 → RSs K mg H B (ρ ++ ρ2) (σ ++ σ2) (P ++ P2) (F ++ F2)
  | _, _, _, _, _, _, _, _, .nil, s => s
  | _, _, _, _, _, _, _, _, .cons r t, s => by
    rw [List.append_assoc]
    exact .cons r (RSs.app t s)
/-- the parameters' slots behind the body -/
theorem RSs.outs : ∀ {m : Nat} {ρ : Rho} {σ : Sg} {P : List V} {F : List Addr}, RSs K mg H B ρ σ P F → ∃ G σ', RSs K mg H B ((ρ.take m).map outS) σ' (P.take m) G ∧ G.Sublist F
  | 0, _, _, _, F, _ => ⟨[], [], by simp; exact .nil, List.nil_sublist F⟩
  | m + 1, _, _, _, _, .nil => ⟨[], [], by simp; exact .nil, .slnil⟩
  | m + 1, _, _, _, _, .cons (F := F) (G := G) r t => by
    obtain ⟨G', σ', t', s⟩ := RSs.outs (m := m) t
    rw [List.take_succ_cons, List.take_succ_cons, List.map_cons]
    cases r with
    | un => exact ⟨[] ++ G', none :: σ', .cons .un t', List.Sublist.append (List.Sublist.refl []) s⟩
    | val r => exact ⟨[] ++ G', none :: σ', .cons .un t', List.Sublist.append (List.nil_sublist F) s⟩
    | ref r => exact ⟨F ++ G', _ :: σ', .cons (.ref r) t', List.Sublist.append (List.Sublist.refl F) s⟩
theorem give_ok : ∀ {os : List Opd} {ys : List V} {G : List Addr} {ρ : Rho} {F : List Addr} {as : List Slot} {ρ1 : Rho}, OVs K mg σ H B F0 os ys G → RSs K mg H B ρ σ P F → (G ++ F).Nodup → giveL os ρ = some (as, ρ1) →
    ∃ Ga F1, RSs K mg H B as (ys.map some) ys Ga ∧ RSs K mg H B ρ1 σ P F1 ∧ (Ga ++ F1).Nodup ∧ ∀ b ∈ Ga ++ F1, b ∈ G ++ F
  | [], _, _, ρ, F, as, ρ1, .nil, R, nd, e => by
    cases e
    exact ⟨[], F, .nil, R, nd, fun b hb => hb⟩
  | .tm v :: os, _, _, ρ, F, as, ρ1, .cons (x := x) (G := G1) (Gs := G2) h t, R, nd, e => by
    obtain ⟨⟨as', ρ2⟩, e1, e⟩ := bind_some e
    obtain ⟨rfl, rfl⟩ : as = .val v :: as' ∧ ρ1 = ρ2 := by cases e; exact ⟨rfl, rfl⟩
    obtain ⟨Ga, F1, i1, i2, i3, i4⟩ := give_ok t R (by rw [List.append_assoc] at nd; exact nodup_r nd) e1
    refine ⟨G1 ++ Ga, F1, .cons (.val h) i1, i2, ?_, fun b hb => ?_⟩
    · grind [List.nodup_append]
    · have := i4 b
      grind
  | .pk v :: os, _, _, ρ, F, as, ρ1, .cons h t, R, nd, e => nomatch e
  | .sl i :: os, _, _, ρ, F, as, ρ1, .cons (x := x) (Gs := G2) h t, R, nd, e => by
    obtain ⟨hx, rfl⟩ := h
    obtain ⟨s, e0, e⟩ := bind_some e
    obtain ⟨y, p, Fa, Gi, Fb, h1, hp, h2, h3, h4⟩ := R.at e0
    rw [hx] at h1
    cases h1
    subst h3
    have nd : (G2 ++ (Fa ++ Gi ++ Fb)).Nodup := nd
    obtain ⟨k1, _⟩ := h4 H B [] Keep.refl MutW.nil (fun _ _ h => nomatch h) (fun _ _ h => nomatch h)
    have whole : ∀ u, RV K mg H B u x Gi → u.pure = true → (giveL os ρ).bind (fun r => some (.val u :: r.1, r.2)) = some (as, ρ1) →
        ∃ Ga F1, RSs K mg H B as ((x :: _).map some) (x :: _) Ga ∧ RSs K mg H B ρ1 σ P F1 ∧ (Ga ++ F1).Nodup ∧ ∀ b ∈ Ga ++ F1, b ∈ [] ++ G2 ++ (Fa ++ Gi ++ Fb) := fun u ru hu e => by
      obtain ⟨⟨as', ρ2⟩, e1, e⟩ := bind_some e
      obtain ⟨rfl, rfl⟩ : as = .val u :: as' ∧ ρ1 = ρ2 := by cases e; exact ⟨rfl, rfl⟩
      obtain rfl := ru.pure hu
      obtain ⟨Ga, F1, i1, i2, i3, i4⟩ := give_ok t R nd e1
      exact ⟨[] ++ Ga, F1, .cons (.val ru) i1, i2, i3, i4⟩
    have part : ∀ u, RV K mg H B u x Gi → (giveL os (ρ.set i .un)).bind (fun r => some (.ref u :: r.1, r.2)) = some (as, ρ1) →
        ∃ Ga F1, RSs K mg H B as ((x :: _).map some) (x :: _) Ga ∧ RSs K mg H B ρ1 σ P F1 ∧ (Ga ++ F1).Nodup ∧ ∀ b ∈ Ga ++ F1, b ∈ [] ++ G2 ++ (Fa ++ Gi ++ Fb) := fun u ru e => by
      obtain ⟨⟨as', ρ2⟩, e1, e⟩ := bind_some e
      obtain ⟨rfl, rfl⟩ : as = .ref u :: as' ∧ ρ1 = ρ2 := by cases e; exact ⟨rfl, rfl⟩
      obtain ⟨Ga, F1, i1, i2, i3, i4⟩ := give_ok t (k1 .un [] .un) (by grind [List.nodup_append]) e1
      refine ⟨Gi ++ Ga, F1, .cons (.ref ru) i1, i2, ?_, fun b hb => ?_⟩
      · grind [List.nodup_append]
      · have := i4 b
        grind
    cases s with
    | un => cases e
    | val u =>
      cases h2 with
      | val r =>
        by_cases hu : u.pure = true
        · exact whole u r hu (by simpa [hu] using e)
        · exact part u r (by simpa [hu] using e)
    | ref u =>
      cases h2 with
      | ref r =>
        by_cases hu : u.pure = true
        · exact whole u r hu (by simpa [hu] using e)
        · exact part u r (by simpa [hu] using e)
theorem RSs.rel_at (R : RSs K mg H B ρ σ P F) {i : Nat} {s : Slot} (e : ρ[i]? = some s) : ∃ y p G, σ[i]? = some y ∧ P[i]? = some p ∧ RSl K mg H B s y p G := by
  obtain ⟨y, p, Fa, Gi, Fb, h1, hp, h2, _⟩ := R.at e
  exact ⟨y, p, Gi, h1, hp, h2⟩
theorem take_ok (R0 : RSs K mg H0 B0 ρ0 σ P F0) : ∀ {os : List Opd} {ys zs : List V} {G : List Addr} {as ts : List Slot} {σo : Sg} {Go : List Addr} {ρ : Rho} {F : List Addr} {ρ2 : Rho}, OVs K mg σ H1 B1 F1 os ys G → RSs K mg H B ts σo (ys ++ zs) Go → RSs K mg H B ρ σ P F → (Go ++ F).Nodup → takeL os as ts ρ0 ρ = some ρ2 →
    ∃ F2, RSs K mg H B ρ2 σ P F2 ∧ F2.Nodup ∧ ∀ b ∈ F2, b ∈ Go ++ F
  | [], _, zs, _, as, ts, σo, Go, ρ, F, ρ2, .nil, T, R, nd, e => by
    have e : some ρ = some ρ2 := by simpa [takeL] using e
    cases e
    exact ⟨F, R, nodup_r nd, fun b hb => List.mem_append_right _ hb⟩
  | op :: os, _, zs, _, [], ts, σo, Go, ρ, F, ρ2, .cons h t, T, R, nd, e => by
    cases op <;> simp [takeL] at e
  | op :: os, _, zs, _, a :: as, [], σo, Go, ρ, F, ρ2, .cons h t, T, R, nd, e => by cases T
  | op :: os, _, zs, _, .un :: as, s :: ts, σo, Go, ρ, F, ρ2, .cons h t, T, R, nd, e => by
    cases op <;> simp [takeL] at e
  | op :: os, _, zs, _, .val u :: as, s :: ts, σo, Go, ρ, F, ρ2, .cons (x := x0) (xs := xs0) h t, TT, R, nd, e => by
    rw [List.cons_append] at TT
    cases TT with
    | @cons _ _ _ _ _ _ Fa Fb r T =>
    have e : takeL os as ts ρ0 ρ = some ρ2 := by cases op <;> simpa [takeL] using e
    obtain ⟨F2, i1, i2, i3⟩ := take_ok R0 t T R (by rw [List.append_assoc] at nd; exact nodup_r nd) e
    exact ⟨F2, i1, i2, fun b hb => by have := i3 b hb; grind⟩
  | op :: os, _, zs, _, .ref u :: as, s :: ts, σo, Go, ρ, F, ρ2, .cons (x := x0) (xs := xs0) h t, TT, R, nd, e => by
    rw [List.cons_append] at TT
    cases TT with
    | @cons _ _ _ _ _ _ Fa Fb r T =>
    cases op with
    | tm v => simp [takeL] at e
    | pk v => simp [takeL] at e
    | sl i =>
      cases s with
      | un => simp [takeL] at e
      | val v => simp [takeL] at e
      | ref v =>
        rw [takeL] at e
        obtain ⟨s0, z0, e⟩ := bind_some e
        obtain ⟨hx, _⟩ := h
        obtain ⟨y0, p0, g0, c1, c2, c3⟩ := R0.rel_at z0
        rw [hx] at c1
        cases c1
        cases r with
        | ref r =>
        have hl : i < ρ.length := by
          have l1 := R.lens.1
          have l2 := R0.lens.1
          have := (List.getElem?_eq_some_iff.mp z0).1
          omega
        obtain ⟨y, p, Fc, Gi, Fd, h1, hp, h2, h3, h4⟩ := R.at (List.getElem?_eq_getElem hl)
        rw [hx] at h1
        cases h1
        subst h3
        obtain ⟨k1, _⟩ := h4 H B [] Keep.refl MutW.nil (fun _ _ h => nomatch h) (fun _ _ h => nomatch h)
        have go : ∀ s', RSl K mg H B s' (some _) p Fa → takeL os as ts ρ0 (ρ.set i s') = some ρ2 → ∃ F2, RSs K mg H B ρ2 σ P F2 ∧ F2.Nodup ∧ ∀ b ∈ F2, b ∈ (Fa ++ Fb) ++ (Fc ++ Gi ++ Fd) := fun s' rs e => by
          obtain ⟨F2, i1, i2, i3⟩ := take_ok R0 t T (k1 s' Fa rs) (by grind [List.nodup_append]) e
          exact ⟨F2, i1, i2, fun b hb => by have := i3 b hb; grind⟩
        cases s0 with
        | un => cases e
        | val w => exact go (.val v) (.val r) e
        | ref w =>
          cases c3 with
          | ref r0 =>
            rw [hp] at c2
            cases c2
            exact go (.ref v) (.ref r) e
theorem rss_vals0 : ∀ {dpv : List PV} {dvs : List V} {F : List Addr}, RVs K mg H B dpv dvs F → RSs K mg H B (dpv.map .val) (dvs.map some) dvs F
  | _, _, _, .nil => .nil
  | _, _, _, .cons r t => .cons (.val r) (rss_vals0 t)
theorem rss_vals {dpv : List PV} {dvs : List V} (r : RVs K mg H B dpv dvs []) : RSs K mg H B (dpv.map .val) (dvs.map some) dvs [] := rss_vals0 r
theorem fn_te {m : Nat} {f : Fn} {dpv : List PV} {dvs : List V} {a : M (List Opd)} {H : Hp} {Q : VK} {E : XK} (hd : ∀ H B, RVs K mg H B dpv dvs []) (hl : ∀ as r, f as = some r → as.length = m) (h : tE false K mg P (cFn f dpv a) σ H Q) : tCall (spG K mg m f) dvs E (tA false K mg P a) σ H Q := by
  obtain ⟨ρ, B, F, v, ρ', R, e1, k⟩ := h
  obtain ⟨⟨os, ρ1⟩, z1, e1⟩ := bind_some e1
  obtain ⟨⟨as, ρ2⟩, z2, e1⟩ := bind_some e1
  obtain ⟨⟨u, ts⟩, z3, e1⟩ := bind_some e1
  obtain ⟨ρ3, z4, e1⟩ := bind_some e1
  obtain ⟨rfl, rfl⟩ : v = u ∧ ρ' = ρ3 := by cases e1; exact ⟨rfl, rfl⟩
  refine ⟨ρ, B, F, os, ρ1, R, z1, fun xs H1 B1 G1 F1 p => ?_⟩
  obtain ⟨Ga, F2, i1, i2, i3, i4⟩ := give_ok p.ov p.sl p.nd z2
  have rs := i1.app (rss_vals (hd H1 B1))
  rw [List.append_nil, ← List.map_append] at rs
  have len := hl _ _ z3
  refine ⟨by rw [← rs.lens.2]; exact len, B1, _, Ga, v, ts, rs, nodup_l i3, z3, fun x H' B' Gv G' σ' rv T nd st => ?_⟩
  have sl2 := i2.keep st.keep rs.mut fun b hb z => nodup_ne i3 b z hb
  have nd2 : (F2 ++ (Gv ++ G')).Nodup := by
    refine nodup_beside (F1 := Ga) ?_ i2.mut nd st
    grind [List.nodup_append]
  obtain ⟨F3, j1, j2, j3⟩ := take_ok p.sl p.ov T sl2 (by grind [List.nodup_append]) z4
  refine k x H' B' Gv F3 ⟨rv, j1, ?_, ?_, fun h => nomatch h⟩
  · grind [List.nodup_append]
  · have s2 := (st.beside F2).more (F2 := G1 ++ F1) fun b hb => i4 b (by grind)
    refine (p.st.trans s2).less fun b hb => ?_
    have := j3 b
    grind
theorem fnRun_len {n m : Nat} {b : S} {as : List Slot} {r : PV × List Slot} (h : fnRun n m b as = some r) : as.length = m := by
  unfold fnRun at h
  split at h
  · assumption
  · cases h
/-- a def, from its body -/
theorem body_ok {N : List Str} {m : Nat} {b : S} {body : List Stmt} (hm : m ≤ N.length) (hb : ∀ P, PSs X body (tS K mg P b)) {vs : List V} {Q : VK} {E : XK} (h : spG K mg m (fnRun N.length m b) vs H Q E) :
    ∃ t, PSs X body t ∧ t { nx := fun _ H' => Q .non H', rt := Q } (L2.start N vs) H := by
  obtain ⟨hl, B, as, G, v, ts, rs, nd, e, k⟩ := h
  refine ⟨_, hb (vs ++ List.replicate (N.length - m) .non), ?_⟩
  unfold fnRun at e
  split at e
  · rename_i ha
    obtain ⟨o, z, e⟩ := bind_some e
    have R : RSs K mg H B (as ++ List.replicate (N.length - m) .un) (L2.start N vs) (vs ++ List.replicate (N.length - m) .non) (G ++ []) := by
      unfold L2.start
      rw [hl]
      exact rs.app (RSs.uns (by simp))
    rw [List.append_nil] at R
    have tk : (vs ++ List.replicate (N.length - m) V.non).take m = vs := by
      rw [List.take_left' hl]
    refine ⟨_, B, G, o, ⟨R, nd⟩, z, ?_⟩
    cases o with
    | nx ρ' =>
      obtain ⟨rfl, rfl⟩ : v = .non ∧ ts = (ρ'.take m).map outS := by cases e; exact ⟨rfl, rfl⟩
      intro σ' H' B' F' p
      obtain ⟨G', σ'', T, s⟩ := p.sl.outs (m := m)
      rw [tk] at T
      exact k .non H' B' [] G' σ'' .non T (p.nd.sublist s) (p.st.less fun b hb => s.subset hb)
    | rt u ρ' =>
      obtain ⟨rfl, rfl⟩ : v = u ∧ ts = (ρ'.take m).map outS := by cases e; exact ⟨rfl, rfl⟩
      intro x σ' H' B' Gv F' p
      obtain ⟨G', σ'', T, s⟩ := p.sl.outs (m := m)
      rw [tk] at T
      exact k x H' B' Gv G' σ'' p.rv T (p.nd.sublist (List.Sublist.append (List.Sublist.refl Gv) s)) (p.st.less fun b hb => (List.Sublist.append (List.Sublist.refl Gv) s).subset hb)
    | bk ρ' => cases e
    | ct ρ' => cases e
  · cases e

/-! ### promises of defs that are never called from within a repr -/
structure GOk (Pr : Program) (w : World) (K : PySem.W.Frag) (mg : Str → Option Value) (base : Heap) (CX : CXT) (k : Nat) (f : Addr) (fd : FuncData) (ps : List Str) (sp : Sp) : Prop where
  par : ∀ vs H Q E, sp vs H Q E → vs.length = ps.length
  go : ∀ (A : Around) (fs : List Env) (s : Shared) (H : Hp) (ar : Args) (us : List Value) (vs : List V) (Q : VK) (E : XK), Room k A → A.guards = some [] → Env0 Pr w K mg base A fs s H → BindsTo s fd ar (ps.zip us) → Vals vs us → sp vs H Q E →
    codeAny (model Pr w) A (.call (.ref f) ar) (CR CX fs Pr w H s Q E) s
theorem GOk.up {Pr : Program} {w : World} {base : Heap} {CX : CXT} {j k : Nat} {f : Addr} {fd : FuncData} {ps : List Str} {sp : Sp} (F : GOk Pr w K mg base CX j f fd ps sp) (h : j ≤ k) : GOk Pr w K mg base CX k f fd ps sp :=
  ⟨F.par, fun A fs s H ar us vs Q E r g e b v z => F.go A fs s H ar us vs Q E (r.mono h) g e b v z⟩
theorem gok_of {CX : CXT} {Pr : Program} {w : World} {base : Heap} {k : Nat} {f : Addr} {nm ql : Str} {pa : Arguments} {bd : List Stmt} {sc : Scope} {d1 d2 d3 d4 d5 d6 cc : Value} {oa ob : Option Addr} {sl : Array (Option Value)} {N ps : List Str} {sp : Sp}
    (lk : K.lookup f = some ⟨cc, ob, .func (PySem.W.fnOf nm ql pa bd sc d1 d2 d3 d4 oa d5 d6), sl⟩) (hcd : PySem.W.codeIn K d5 ql = true) (S : FnScope N ps sc) (par : ∀ vs H Q E, sp vs H Q E → vs.length = ps.length)
    (hb : ∀ (A : Around) (fs : List Env) (s : Shared) (H : Hp) (vs : List V) (Q : VK) (E : XK), Room k (A.deeper (envOfC ql sc s.heap.objs.size f d5)) → A.guards = some [] → sp vs H Q E →
      ∃ t, PSs (cxOf CX Pr w K mg base N ql sc f d5 A fs s H E) bd t ∧ t { nx := fun _ H' => Q .non H', rt := Q } (L2.start N vs) H) : GOk Pr w K mg base CX (k + 1) f (PySem.W.fnOf nm ql pa bd sc d1 d2 d3 d4 oa d5 d6) ps sp := by
  refine ⟨par, fun A fs s H ar us vs Q E hr hgd e0 hbi rv hsp => ?_⟩
  have KX : K.In s.heap := e0.mod.kin.keeps fun b o z => (e0.bs b o z).1
  have lm : s.heap.NoLimit := e0.mod.nolimit.keeps fun b o z => (e0.bs b o z).1
  have kinds : ∀ y ∈ ps.zip us, sc.names.lookup y.1 = some .local ∨ (sc.names.lookup y.1 = some .cell ∧ ((cellsFrom (s.heap.objs.size + 1) sc.names []).lookup y.1).isSome = true) := fun ⟨n, v⟩ hy =>
    (S.par n (List.of_mem_zip hy).1).imp id fun q => ⟨q, PySem.W.cellsFrom_some _ _ _ (.inl q)⟩
  refine codeAny_call_function hr.depth (KX _ _ lk) rfl S.co S.gen rfl (PySem.W.codeRec_of KX hcd) (hbi _ _ _ _ (wpAny_newFunctionEnv_cells S.kind kinds fun env he s1 x => ?_))
  subst he
  refine ⟨lm.keeps x.toInCall.keep, codeAny_func ?_⟩
  obtain ⟨t, ht, hq⟩ := hb A fs s H vs Q E (hr.deeper _) hgd hsp
  have J0 : Inv (cxOf CX Pr w K mg base N ql sc f d5 A fs s H E) [] (L2.start N vs) H s1 := inv_start S hr.hd e0 (par _ _ _ _ hsp) rv x
  refine wpAny_mono (ht.run [] s1 _ H _ J0 hq) (fun fl s2 hs => ?_) fun _ _ hs => hs
  cases fl with
  | ret u => obtain ⟨v, σ', H', J, rv, q⟩ := hs; exact ⟨v, H', J.os, J.bare, J.base, J.hok, rv, q⟩
  | next => obtain ⟨σ', H', J, q⟩ := hs; exact ⟨.non, H', J.os, J.bare, J.base, J.hok, rfl, q⟩
  | brk => obtain ⟨_, _, _, q⟩ := hs; exact q.elim
  | cont => obtain ⟨_, _, _, q⟩ := hs; exact q.elim
theorem fn_ok {Pr : Program} {w : World} {base : Heap} {x qual : Str} {st : Stmt} {f : Addr} {fd : FuncData} {N ps : List Str} {k : Nat} {b : S} (F : Fun K x qual st f fd) (S : FnScope N ps (defScope st)) (hm : ps.length ≤ N.length)
    (hb : ∀ (cdv : Value) (A : Around) (outer : List Env) (s : Shared) (H : Hp) (E : XK) (P : List V), Room k (A.deeper (envOfC qual (defScope st) s.heap.objs.size f cdv)) → A.guards = some [] →
      PSs (cxOf CX0 Pr w K mg base N qual (defScope st) f cdv A outer s H E).nox (defBody st) (tS K mg P b)) : GOk Pr w K mg base CX0 (k + 1) f fd ps (spG K mg ps.length (fnRun N.length ps.length b)) := by
  obtain ⟨cc, ob, d2, d3, d4, oa, d5, d6, sl, rfl, lk, hcd⟩ := F.ex
  refine gok_of lk hcd S (fun _ _ _ _ h => h.1) fun A fs s H vs Q E hr hg h => ?_
  obtain ⟨t, h1, h2⟩ := body_ok hm (fun P => hb d5 A fs s H E P hr hg) h
  exact ⟨t, h1.nox, h2⟩
theorem fn_okD {Pr : Program} {w : World} {base : Heap} {x qual : Str} {params : Arguments} {body : List Stmt} {scope : Scope} {dvs : List V} {kws : List (Str × V)} {f : Addr} {fd : FuncData} {N ps : List Str} {k : Nat} {b : S} (F : FunD K x qual params body scope dvs kws f fd) (S : FnScope N ps scope) (hm : ps.length ≤ N.length)
    (hb : ∀ (cdv : Value) (A : Around) (outer : List Env) (s : Shared) (H : Hp) (E : XK) (P : List V), Room k (A.deeper (envOfC qual scope s.heap.objs.size f cdv)) → A.guards = some [] →
      PSs (cxOf CX0 Pr w K mg base N qual scope f cdv A outer s H E).nox body (tS K mg P b)) : GOk Pr w K mg base CX0 (k + 1) f fd ps (spG K mg ps.length (fnRun N.length ps.length b)) := by
  obtain ⟨cc, ob, d1, d2, d3, d4, oa, d5, d6, sl, rfl, lk, hcd, _, _⟩ := F.ex
  refine gok_of lk hcd S (fun _ _ _ _ h => h.1) fun A fs s H vs Q E hr hg h => ?_
  obtain ⟨t, h1, h2⟩ := body_ok hm (fun P => hb d5 A fs s H E P hr hg) h
  exact ⟨t, h1.nox, h2⟩
theorem go_fn {CX : CXT} {k : Nat} {f : Addr} {fd : FuncData} {ps : List Str} {sp : Sp} {dvs : List V} {ds : List Value} {E : XK} {pins : List (Addr × Obj)} {s : Shared} {Q : VK} {us : List Value} {vs : List V} (F : GOk X.prog X.w X.K X.mg X.base CX k f fd ps sp) (hr : Room k X.A) (hgd : X.A.guards = some []) (hb : Binds X.K fd ps ds)
    (hd : Vals dvs ds) (hx : Passes CX X E) (I : Inv X pins σ H s) (r : Vals vs us) (h : sp (vs ++ dvs) H Q E) : wpAny (model X.prog X.w) X.A (call (.ref f) us) (EP X pins σ Q) X.xe s := by
  have r2 := r.append hd
  refine wpAny_call (codeAny_mono (F.go X.A X.stack s H ⟨us, []⟩ (us ++ ds) (vs ++ dvs) Q E hr hgd I.env0 (hb s us I.kIn ?_) r2 h) fun rs s2 hq => ?_)
  · rw [← r2.length]
    exact F.par _ _ _ _ h
  · match rs, hq with
    | .ok (.ret u), hq => exact I.after hq
    | .error e, hq => exact hx pins σ H s e s2 I hq
theorem ge_fn {CX : CXT} {k j m : Nat} {f : Addr} {fd : FuncData} {ps : List Str} {fs : Fn} {dpv : List PV} {dvs : List V} {ds : List Value} {E : XK} {x : Str} {p : Pos} {es : List Expr} {fa : M (List Opd)} (F : GOk X.prog X.w X.K X.mg X.base CX j f fd ps (spG K mg m fs)) (hr : Room k X.A) (hgd : X.A.guards = some []) (hj : j ≤ k) (hg : Gl X x) (hm : X.mg x = some (.ref f)) (hk : PySem.W.keepIn X.K (.ref f) = true) (hb : Binds X.K fd ps ds) (hd : Vals dvs ds) (hx : Passes CX X E)
    (hv : ∀ H B, RVs K mg H B dpv dvs []) (hl : ∀ as r, fs as = some r → as.length = m)
    (ha : PA X (e :: es) (tA false K mg P fa)) (hdb : (x == ("__debug__" : Str)) = false := by decide) (he : starEach (e :: es) X.env = (false, eval e X.env) :: starEach es X.env := by rfl) (hpl : (backTo pos (starEach es X.env)).any (·.1) = false := by rfl) :
    PE X (.Call (.Name x p) (e :: es) [] pos) (tE false K mg P (cFn fs dpv fa)) := ⟨fun pins s σ H Q I h => by
  refine wpAny_Call_Name_kw (ld_glob I hg hm (PySem.W.callWith_K (h₀ := X.base) I.ok.mod.kin hk ?_ he hpl) hdb)
  exact thn (ha.run pos pins s σ H _ I (fn_te (E := E) hv hl h)) fun us s1 ⟨vs, H1, I1, r, q⟩ => ⟨I1.kIn, go_fn (F.up hj) hr hgd hb hd hx I1 r q⟩⟩
theorem ge_fn0 {CX : CXT} {k j m : Nat} {f : Addr} {fd : FuncData} {ps : List Str} {fs : Fn} {dpv : List PV} {dvs : List V} {ds : List Value} {E : XK} {x : Str} {p : Pos} (F : GOk X.prog X.w X.K X.mg X.base CX j f fd ps (spG K mg m fs)) (hr : Room k X.A) (hgd : X.A.guards = some []) (hj : j ≤ k) (hg : Gl X x) (hm : X.mg x = some (.ref f)) (hk : PySem.W.keepIn X.K (.ref f) = true) (hb : Binds X.K fd ps ds) (hd : Vals dvs ds) (hx : Passes CX X E)
    (hv : ∀ H B, RVs K mg H B dpv dvs []) (hl : ∀ as r, fs as = some r → as.length = m) (hdb : (x == ("__debug__" : Str)) = false := by decide) :
    PE X (.Call (.Name x p) [] [] pos) (tE false K mg P (cFn fs dpv oNil)) := ⟨fun pins s σ H Q I h => by
  obtain ⟨ρ2, B2, F2, os, ρ3, R2, z, g⟩ := fn_te (E := E) hv hl h
  cases z
  exact wpAny_Call_Name_kw (ld_glob I hg hm (PySem.W.callWith_K0 I.kIn hk (go_fn (us := []) (F.up hj) hr hgd hb hd hx I .nil (g [] H B2 [] F2 ⟨.nil, R2.slots, R2.nd, Step.refl, fun h => nomatch h⟩))) hdb)⟩
end
end GX

/-! GX: sorted(set(..)) of ints. -/
namespace GX
open PySem PySem.Spec PyProof.Rows L2

/-! ### the plain side -/
def insI (k : Int) : List Int → List Int
  | [] => [k]
  | x :: r => if k < x then k :: x :: r else if k = x then x :: r else x :: insI k r
/-- the members in order -/
def sset (ns : List Int) : List Int := ns.foldr insI []
theorem insI_mem {k j : Int} : ∀ {l : List Int}, j ∈ insI k l ↔ j = k ∨ j ∈ l
  | [] => by simp [insI]
  | x :: r => by
    unfold insI
    split
    · simp
    · split
      · rename_i h; subst h; simp
      · simp [insI_mem (l := r)]; constructor <;> intro h <;> (rcases h with h | h | h <;> simp [h])
theorem insI_lt {k : Int} : ∀ {l : List Int}, l.Pairwise (· < ·) → (insI k l).Pairwise (· < ·)
  | [], _ => by simp [insI]
  | x :: r, h => by
    obtain ⟨h1, h2⟩ := List.pairwise_cons.mp h
    unfold insI
    split
    · rename_i hk
      refine List.pairwise_cons.mpr ⟨fun y hy => ?_, h⟩
      rcases List.mem_cons.mp hy with e | hy
      · omega
      · have := h1 y hy; omega
    · split
      · exact h
      · refine List.pairwise_cons.mpr ⟨fun y hy => ?_, insI_lt h2⟩
        rcases insI_mem.mp hy with e | hy
        · omega
        · exact h1 y hy
theorem sset_lt : ∀ ns : List Int, (sset ns).Pairwise (· < ·)
  | [] => by simp [sset]
  | k :: ns => insI_lt (sset_lt ns)
theorem sset_mem {j : Int} : ∀ {ns : List Int}, j ∈ sset ns ↔ j ∈ ns
  | [] => by simp [sset]
  | k :: ns => by
    show j ∈ insI k (sset ns) ↔ _
    rw [insI_mem, sset_mem, List.mem_cons]
theorem eq_of_lt : ∀ {a b : List Int}, a.Pairwise (· < ·) → b.Pairwise (· < ·) → (∀ j, j ∈ a ↔ j ∈ b) → a = b
  | [], [], _, _, _ => rfl
  | [], y :: b, _, _, h => absurd ((h y).mpr (by simp)) (by simp)
  | x :: a, [], _, _, h => absurd ((h x).mp (by simp)) (by simp)
  | x :: a, y :: b, h1, h2, h => by
    obtain ⟨p1, p2⟩ := List.pairwise_cons.mp h1
    obtain ⟨q1, q2⟩ := List.pairwise_cons.mp h2
    have e : x = y := by
      have a1 := (h x).mp (by simp)
      have a2 := (h y).mpr (by simp)
      rcases List.mem_cons.mp a1 with e | a1
      · exact e
      · rcases List.mem_cons.mp a2 with e | a2
        · exact e.symm
        · have := p1 y a2
          have := q1 x a1
          omega
    subst e
    rw [eq_of_lt p2 q2 fun j => ?_]
    have hj := h j
    simp only [List.mem_cons] at hj
    constructor
    · intro ha
      have := p1 j ha
      rcases hj.mp (.inr ha) with e | hb
      · omega
      · exact hb
    · intro hb
      have := q1 j hb
      rcases hj.mpr (.inr hb) with e | ha
      · omega
      · exact ha

/-! ### set(l) of a list of ints -/
section
variable {P0 : Program} {w : World} {A : Around} {E : Value → Shared → Prop} {s : Shared}
abbrev sob (w : World) : Obj := { cls := .type "set", dict := none, data := .set #[] 0 (.fresh 0 0 (!w.params.followText "set-order")) }
set_option maxRecDepth 100000 in
set_option maxHeartbeats 3200000 in
theorem call_set_lstI {lo : Addr} {arr : Array Value} (ks : List Int) {Q : Value → Shared → Prop} (hh : A.handled = none) (hl : s.heap.IsList lo arr) (hit : IntsAre arr.toList ks) (hb : ks.length + 1 < scanBound)
    (h : ∀ (g1 : Heap) (tk c : Nat), SetR w g1 s.heap.objs.size (fun j => decide (j ∈ ks)) c → c ≤ ks.length → (∀ b o, s.heap.get? b = some o → g1.get? b = some o) → Q (.ref s.heap.objs.size) { s with heap := g1, toks := tk }) :
    wpAny (model P0 w) A (call (.type "set") [.ref lo]) Q E s := by
  have hsz0 : arr.size = ks.length := by
    have q := IntsAre.length hit
    rwa [Array.length_toList] at q
  obtain ⟨c0, tl0, hmro⟩ := F.called_set.mro
  have hmade := F.called_set.made; have hsub := F.called_set.sub; have hn1 := F.called_set.notType; have hn2 := F.called_set.canCreate; have hct := F.typeCall_set_1 (.ref lo)
  refine wpAny_call (codeAny_of_tree (show wpAny _ _ (callAny (.type "set") _) _ _ _ from wpAny_pure ⟨Code.quiet_builtin _ (by decide +kernel), codeAny_builtin F.entry_type_call ?_⟩))
  rw [Around.under_plain (weight_type_call_type "set" [.ref lo] []) rfl]
  repeat (any_goals (first | assumption | wp_step))
  refine codeAny_mono (code_set_led1 (.ref lo) (E := E) (Q₁ := fun ob t1 => ob = .ref s.heap.objs.size ∧ t1 = { s with heap := s.heap.push (sob w) }) ⟨rfl, rfl⟩) fun r t1 hr => ?_
  match r, hr with
  | .error e, hr => exact hr
  | .ok (.next), hr => exact hr.elim
  | .ok (.brk), hr => exact hr.elim
  | .ok (.cont), hr => exact hr.elim
  | .ok (.ret ob), hr =>
      obtain ⟨rfl, rfl⟩ := hr
      have hS0 : (s.heap.push (sob w)).get? s.heap.objs.size = some (sob w) := Heap.get?_push_size _ rfl
      have hT : Shared.TypeIs { s with heap := s.heap.push (sob w) } (.ref s.heap.objs.size) "set" := ⟨_, hS0, rfl⟩
      have hli := F.called_set.init.lookup; have hbi := F.called_set.init.bind (.ref s.heap.objs.size)
      repeat (any_goals (first | assumption | wp_step))
      refine codeAny_mono (codeAny_call_builtin (R := wants (fun r t2 => r = .none ∧ ∃ g1 tk c, t2 = { s with heap := g1, toks := tk } ∧ SetR w g1 s.heap.objs.size (fun j => decide (j ∈ ks)) c ∧ c ≤ ks.length ∧
          (∀ b o, s.heap.get? b = some o → g1.get? b = some o)) E) F.called_set.init.plain F.entry_set_init (check_set_init_1 hT ?_)) fun r2 t2 hr2 => ?_
      · obtain ⟨ol, hol, hcl, nl, hdl⟩ := hl
        obtain ⟨ocls, odict, odata, oslots⟩ := ol
        simp only at hcl hdl
        subst hcl; subst hdl
        have hol1 : (s.heap.push (sob w)).get? lo = some { cls := .type "list", dict := odict, data := .seq arr nl, slots := oslots } := Heap.get?_push_of_some _ hol
        have hs1 := F.sub_list_set; have hs2 := F.sub_list_frozenset
        have hne : (Value.type "list" == Value.type "dict") = false := by decide
        have hl1 : (s.heap.push (sob w)).IsList lo arr := ⟨_, hol1, rfl, nl, rfl⟩
        unfold Builtin.«set.__init__» noKeywords Builtin.Frozenset.updateFrom
        generalize hPI : pyIter = PI
        wp_walk
        subst hPI
        refine wpAny_pyIter_list hl1 (wpAny_bind (wpAny_runValue ?_))
        have hlS : lo < s.heap.objs.size := Heap.lt_size hol
        have hh3 : A.in1.in1.in1.handled = none := by simp [hh]
        have hneI : lo ≠ (s.heap.push (sob w)).objs.size := by rw [Heap.size_push]; exact Nat.ne_of_lt (Nat.lt_succ_of_lt hlS)
        have hSf : s.heap.objs.size ∉ [(s.heap.push (sob w)).objs.size, lo] := by
          rw [Heap.size_push]; simp only [List.mem_cons, List.not_mem_nil, or_false, not_or]
          exact ⟨Nat.ne_of_lt (Nat.lt_succ_self _), Nat.ne_of_gt hlS⟩
        have hval : ∀ (i : Nat) (v : Value), arr[i]? = some v → ∃ k t, ks[i]? = some k ∧ v = .int k t := fun i v hv => by
          have hi : i < ks.length := by rw [← hsz0]; exact (Array.getElem?_eq_some_iff.mp hv).1
          obtain ⟨t, e⟩ := PyProof.Rows.IntsAre.int_at hit i v ((Array.getElem?_toList ..).trans hv)
          exact ⟨ks[i], t, List.getElem?_eq_getElem hi, by rw [e, List.getD_eq_getElem?_getD, List.getElem?_eq_getElem hi] <;> rfl⟩
        refine set_update_ints ((Walks.list hh3 _ lo hneI arr).toS) s.heap.objs.size hSf ks hsz0 hb hval (arr.size - 0) 0 _ (by omega) (Nat.zero_le _) ⟨⟨_, Heap.get?_push_size _ rfl, rfl, rfl⟩, (hl1.push _)⟩ ?hS0 ?hR
        case hS0 => exact ⟨0, Nat.le_refl 0, setR_new_at (Heap.get?_push_of_some _ hS0)⟩
        case hR =>
          intro t3 c3 hm hc3 hS3
          obtain ⟨g1, g2, d3, tk3, os3⟩ := t3
          obtain rfl : g2 = s.gens := hm.gens
          obtain rfl : d3 = s.drawn := hm.drawn
          obtain rfl : os3 = s.os := hm.os
          show wpAny _ _ _ _ _ _
          refine wpAny_pure ?_
          show wpAny _ _ (ret Value.none) _ _ _
          rw [hsz0] at hc3
          refine wpAny_pure ⟨rfl, g1, tk3, c3, rfl, hS3, hc3, fun b o e => hm.heap b o ?_ (Heap.get?_push_of_some _ (Heap.get?_push_of_some _ e))⟩
          have hb0 : b < s.heap.objs.size := Heap.lt_size e
          simp only [List.mem_cons, List.not_mem_nil, or_false, not_or, Heap.size_push]
          exact ⟨Nat.ne_of_lt hb0, Nat.ne_of_lt (Nat.lt_succ_of_lt hb0)⟩
      · match r2, hr2 with
        | .error e, hr2 => exact hr2
        | .ok (.next), hr2 => exact hr2.elim
        | .ok (.brk), hr2 => exact hr2.elim
        | .ok (.cont), hr2 => exact hr2.elim
        | .ok (.ret r), hr2 =>
            obtain ⟨rfl, g1, tk, c3, rfl, hS3, hc3, hk3⟩ := hr2
            repeat (any_goals (first | assumption | wp_step))
            exact h _ _ _ hS3 hc3 hk3
end
end GX

/-! GX: sorted(set(..)), repr, assignments with an operator, names of the module. -/
namespace GX
open PySem PySem.Spec PyProof.Rows L2

section
variable {q : Bool} {K : PySem.W.Frag} {mg : Str → Option Value} {P : List V} {H H' H1 H2 H0 : Hp} {B B' B1 B2 B0 : Addr → Prop} {x y : V} {v w r c : PV} {xs : List PV} {ys : List V} {F F' F1 F2 F0 G G1 G2 W : List Addr} {ρ ρ' ρ1 ρ2 ρ0 : Rho} {σ σ' σ1 σ2 : Sg} {X : Cx} {a b e : Expr} {pos p2 : Pos} {D : Ends} {o : Out}
/-! ### sorted(set(..)) -/
def rSetI (K : PySem.W.Frag) (w : World) : List V → Hp → VK → Prop := fun xs H Q => ∃ (l : Addr) (ns : List Int), xs = [.ref l] ∧ (SqL K H l (ns.map V.int) ∨ SqT K H l (ns.map V.int)) ∧ ns.length < 64 ∧ ∀ p c, H p = none → c ≤ ns.length → Q (.ref p) (upd H p (SetO w p (fun j => decide (j ∈ ns)) c))
theorem ints_are : ∀ {ns : List Int} {us : List Value}, Vals (ns.map V.int) us → IntsAre us ns
  | [], _, h => by cases h; exact .nil
  | n :: ns, _, h => by
    cases h with
    | cons r t => obtain ⟨tk, rfl⟩ := r; exact .cons n tk (ints_are t)
theorem cr_setI (hc : X.calm = true) : CallR X (.type "set") (rSetI X.K X.w) := by
  intro pins s σ H xs us Q I r ⟨l, ns, e, hl, h64, k⟩
  subst e
  rw [Vals.ref1 r]
  have fin : ∀ (g1 : Heap) (tk c : Nat), SetR X.w g1 s.heap.objs.size (fun j => decide (j ∈ ns)) c → c ≤ ns.length → (∀ b o, s.heap.get? b = some o → g1.get? b = some o) → EP X pins σ Q (.ref s.heap.objs.size) { s with heap := g1, toks := tk } := fun g1 tk c hS hc kp =>
    ⟨.ref s.heap.objs.size, _, I.laid (t' := tk) kp (Nat.le_refl _) (setO_new hS), rfl, k _ c (I.hok.fresh (Nat.le_refl _)) hc⟩
  have room : ns.length + 1 < scanBound := by unfold scanBound; omega
  rcases hl with hl | hl
  · obtain ⟨its, rv, p, hz⟩ := I.list hl
    exact call_set_lstI ns (I.ok.hd hc) p.isList (by simpa using ints_are rv) room fin
  · obtain ⟨its, rv, p, hz⟩ := I.tuple hl
    exact call_set_tupI ns (I.ok.hd hc) (show s.heap.IsTuple l its.toArray from p) (by simpa using ints_are rv) room fin
def psortset : List PV → Option PV
  | [.lst _ xs] => (intsOf xs).bind fun ns => if ns.length < 64 then some (.lst true ((sset ns).map .int)) else none
  | [.tup xs] => (intsOf xs).bind fun ns => if ns.length < 64 then some (.lst true ((sset ns).map .int)) else none
  | _ => none
theorem rvs_ints : ∀ (ns : List Int), RVs K mg H B (ns.map .int) (ns.map V.int) []
  | [] => .nil
  | n :: ns => .cons (F := []) (.int n) (rvs_ints ns)
theorem sortset_te {w : World} {f : M (List Opd)} {Q : VK} (h : tE q K mg P (cCall psortset f) σ H Q) : tCB (rSortedSet w) (tCons (tCB (rSetI K w) (tA q K mg P f)) tNil) σ H Q := by
  obtain ⟨ρ, B, F, os, ρ', R, z1, k⟩ := call_te h
  refine ⟨ρ, B, F, os, ρ', R, z1, fun xs H1 B1 G1 F1 p => ?_⟩
  obtain ⟨B0, vs, r, pr, g, nw⟩ := k xs H1 B1 G1 F1 p
  have key : ∀ (l : Addr) (ns : List Int), xs = [.ref l] → (SqL K H1 l (ns.map V.int) ∨ SqT K H1 l (ns.map V.int)) → (if ns.length < 64 then some (PV.lst true ((sset ns).map .int)) else none) = some r → rSetI K w xs H1 fun x H1 => tNil σ H1 fun xs H2 => rSortedSet w (x :: xs) H2 Q := fun l ns ex hl g => by
    obtain ⟨h64, rfl⟩ := ite_some g
    refine ⟨l, ns, ex, hl, h64, fun p0 c hp hc => ⟨p0, _, c, rfl, upd_same, by omega, fun ms p1 h1 h2 h3 h4 => ?_⟩⟩
    have e : ms = sset ns := eq_of_lt h1 (sset_lt ns) fun j => by rw [h2 j, sset_mem]; simp
    subst e
    have k1 : Keep [] H1 B0 (upd H1 p0 (SetO w p0 (fun j => decide (j ∈ ns)) c)) (own1 B0 p1) := fun b u eb _ => by
      have n0 := ne_of_none eb hp
      refine ⟨by rw [upd_ne n0]; exact eb, ⟨fun z => z.elim (fun e => ?_) id, .inr⟩⟩
      subst e
      rw [upd_ne n0, eb] at h4
      cases h4
    have k2 : Keep [] (upd H1 p0 (SetO w p0 (fun j => decide (j ∈ ns)) c)) (own1 B0 p1) (upd (upd H1 p0 (SetO w p0 (fun j => decide (j ∈ ns)) c)) p1 (.lst ((sset ns).map V.int))) (own1 B0 p1) := Keep.new h4
    refine nw (.ref p1) _ (own1 B0 p1) [p1] (.lstO upd_same (.inl rfl) (rvs_ints _)) (by simp) (fun b hb => ?_) (k1.trans0 k2)
    obtain rfl := List.mem_singleton.mp hb
    by_cases e : b = p0
    · subst e
      exact hp
    · rw [upd_ne e] at h4
      exact h4
  unfold psortset at g
  split at g
  · obtain ⟨ns, e, g⟩ := bind_some g
    obtain ⟨z, rfl, W, rv⟩ := pr1 pr
    obtain ⟨l, ys, W, rfl, ha, rs, _⟩ := rv.lsts
    obtain rfl := ints_ok rs e
    exact key l ns rfl (.inl (.of ha)) g
  · obtain ⟨ns, e, g⟩ := bind_some g
    obtain ⟨z, rfl, W, rv⟩ := pr1 pr
    cases rv with
    | tup hs rs =>
      obtain rfl := ints_ok rs e
      exact key _ ns rfl (.inr hs) g
  · cases g
theorem ge_sortset {f : M (List Opd)} {pa pb pc pd : Pos} (hc : X.calm = true) (hK : X.K = K) (hm1 : X.mg "sorted" = none) (hg1 : Gl X "sorted") (hm2 : X.mg "set" = none) (hg2 : Gl X "set") (ha : PA X [e] (tA q K mg P f)) (hs : starEach [e] X.env = (false, eval e X.env) :: starEach [] X.env := by rfl)
    (hs2 : starEach [.Call (.Name "set" pa) [e] [] pb] X.env = (false, eval (.Call (.Name "set" pa) [e] [] pb) X.env) :: starEach [] X.env := by rfl) :
    PE X (.Call (.Name "sorted" pc) [.Call (.Name "set" pa) [e] [] pb] [] pd) (tE q K mg P (cCall psortset f)) := by
  subst hK
  exact PE.weak (pe_callB (cr_sortedSet hc) hg1 hm1 (by first | rfl | decide +kernel) (pa_cons (pe_callTy (cr_setI hc) hg2 hm2 (by first | rfl | decide +kernel) ha (by decide) (by decide) hs (by rfl)) pa_nil hs2) (by decide) (by decide) hs2 (by rfl)) fun σ H Q h => sortset_te h

/-! ### repr -/
def prepr : List PV → Option PV
  | [v] => (toD v).bind fun d => if d.showable = true ∧ d.shown.length ≤ 16777216 ∧ d.depth ≤ 60 then some (.str d.shown) else none
  | _ => none
mutual
theorem toD_flat : ∀ {v : PV} {d : PyData}, toD v = some d → d.hasDict = false
  | .non, d, e => by cases e; rfl
  | .bl b, d, e => by cases e; rfl
  | .int b, d, e => by cases e; rfl
  | .str b, d, e => by cases e; rfl
  | .tup xs, d, e => by
    obtain ⟨ds, e1, e2⟩ := Option.map_eq_some_iff.mp e
    subst e2
    exact toDs_flat e1
  | .lst _ xs, d, e => by
    obtain ⟨ds, e1, e2⟩ := Option.map_eq_some_iff.mp e
    subst e2
    exact toDs_flat e1
  | .dic _ _, d, e => nomatch e
  | .ins _ _ _, d, e => nomatch e
  | .zls _, d, e => nomatch e
  | .ty _, d, e => nomatch e
  | .fn _, d, e => nomatch e
theorem toDs_flat : ∀ {v : List PV} {d : List PyData}, toDs v = some d → PyData.hasDictAll d = false
  | [], _, e => by cases e; rfl
  | x :: xs, _, e => by
    obtain ⟨d, e1, e⟩ := bind_some e
    obtain ⟨ds, e2, e⟩ := bind_some e
    cases e
    simp only [PyData.hasDictAll, toD_flat e1, toDs_flat e2]
    rfl
end
theorem cr_repr (hK : X.K = K) (hgd : X.A.guards = some []) (hu : X.A.units + 66 < cLine) : CallR X (.builtin "repr") (rCall K mg prepr) := by
  subst hK
  intro pins s σ H xs us Q I rx ⟨B, vs, r, ps, g, k⟩
  unfold prepr at g
  split at g
  · obtain ⟨d, hd, g⟩ := bind_some g
    obtain ⟨⟨h1, h2, h3⟩, rfl⟩ := ite_some g
    obtain ⟨z, rfl, W, rv⟩ := pr1 ps
    obtain ⟨u, rfl, ru⟩ := vals1 rx
    obtain ⟨as, rd⟩ := Dp.reads I d z u (rv.dp hd) ru
    have qq : ∀ t (g1 : Heap) tk, (∀ b o, s.heap.get? b = some o → g1.get? b = some o) → EP X pins σ Q (.str d.shown t) { s with heap := g1, toks := tk } := fun t g1 tk kp => ⟨.str d.shown, H, I.kept kp, ⟨_, rfl⟩, k.pure (.str _)⟩
    cases rd with
    | none => exact PySem.P.repr_of_none (by rw [← PyData.shown_none]; exact qq _ _ _ fun _ _ h => h)
    | bool b => exact PySem.P.repr_of_bool (by rw [← PyData.shown_bool]; exact qq _ _ _ fun _ _ h => h)
    | int i t => exact PySem.P.repr_of_int (by simpa [PyData.showable] using h1) (by rw [← PyData.shown_int]; exact qq _ _ _ fun _ _ h => h)
    | str x t => exact PySem.P.repr_of_str (by rw [← PyData.shown_str]; exact qq _ _ _ fun _ _ h => h) (by rw [← PyData.shown_str]; exact h2)
    | list a1 a2 a3 a4 => exact repr_of_reads' (Reads.list a1 a2 a3 a4) h1 (PyData.noDict_hsm (toD_flat hd)) hgd (by omega) (fun _ _ h => h) (fun g1 t tk kp => qq t g1 tk kp) h2
    | tuple a1 a2 a3 a4 => exact repr_of_reads' (Reads.tuple a1 a2 a3 a4) h1 (PyData.noDict_hsm (toD_flat hd)) hgd (by omega) (fun _ _ h => h) (fun g1 t tk kp => qq t g1 tk kp) h2
    | dict => cases toD_flat hd
  · cases g

/-! ### x += .. -/
def piadd : PV → PV → Option PV
  | .int i, .int j => some (.int (i + j))
  | _, _ => none
def pisub : PV → PV → Option PV
  | .int i, .int j => some (.int (i - j))
  | _, _ => none
theorem or_iop {op : Operator} {f : Int → Int → Int} {g : PV → PV → Option PV} (h : OpR X (inplaceOp op) (rI0 fun i j => .int (f i j))) (hg : ∀ a b r, g a b = some r → ∃ i j, a = .int i ∧ b = .int j ∧ r = .int (f i j)) : OpR X (inplaceOp op) (rOp K mg g) := by
  intro pins s σ H x y v u Q I rx ry ⟨B, va, vb, Wa, Wb, r, ra, rb, gr, k⟩
  obtain ⟨i, j, rfl, rfl, rfl⟩ := hg _ _ _ gr
  cases ra
  cases rb
  exact h pins s σ H _ _ v u Q I rx ry ⟨i, j, rfl, rfl, k.pure (.int _)⟩
theorem or_iadd : OpR X (inplaceOp .Add) (rOp K mg piadd) := or_iop iop_add fun a b r h => by
  unfold piadd at h
  split at h
  · cases h; exact ⟨_, _, rfl, rfl, rfl⟩
  · cases h
theorem or_isub : OpR X (inplaceOp .Sub) (rOp K mg pisub) := or_iop iop_sub fun a b r h => by
  unfold pisub at h
  split at h
  · cases h; exact ⟨_, _, rfl, rfl, rfl⟩
  · cases h
/-! ### names of the module -/
theorem ge_glob {nm : Str} {z : V} {u : Value} (hg : Gl X nm) (hm : X.mg nm = some u) (r : RelV z u) (rv : ∀ H B, RV K mg H B v z []) (hd : (nm == ("__debug__" : Str)) = false := by decide) : PE X (.Name nm pos) (tE q K mg P (cC v)) := ge_const (pe_glob hg hm r hd) rv
end
end GX

/-! GX: what the generated text leans on. -/
namespace GX
open PySem PySem.Spec PyProof.Rows L2
theorem room_u {k : Nat} {A : Around} (r : Room k A) (n : Nat) (h : n ≤ 200) : A.units + n < cLine := by have := r.un; omega
theorem bb_len : bootBuiltins "len" = some (.builtin "len") := by decide +kernel
theorem bb_sum : bootBuiltins "sum" = some (.builtin "sum") := by decide +kernel
theorem bb_max : bootBuiltins "max" = some (.builtin "max") := by decide +kernel
theorem bb_min : bootBuiltins "min" = some (.builtin "min") := by decide +kernel
theorem bb_abs : bootBuiltins "abs" = some (.builtin "abs") := by decide +kernel
theorem bb_all : bootBuiltins "all" = some (.builtin "all") := by decide +kernel
theorem bb_any : bootBuiltins "any" = some (.builtin "any") := by decide +kernel
theorem bb_sorted : bootBuiltins "sorted" = some (.builtin "sorted") := by decide +kernel
theorem bb_repr : bootBuiltins "repr" = some (.builtin "repr") := by decide +kernel
theorem bb_isinstance : bootBuiltins "isinstance" = some (.builtin "isinstance") := by decide +kernel
theorem bb_divmod : bootBuiltins "divmod" = some (.builtin "divmod") := by decide +kernel
theorem bb_int : bootBuiltins "int" = some (.type "int") := by decide +kernel
theorem bb_str : bootBuiltins "str" = some (.type "str") := by decide +kernel
theorem bb_bool : bootBuiltins "bool" = some (.type "bool") := by decide +kernel
theorem bb_list : bootBuiltins "list" = some (.type "list") := by decide +kernel
theorem bb_tuple : bootBuiltins "tuple" = some (.type "tuple") := by decide +kernel
theorem bb_dict : bootBuiltins "dict" = some (.type "dict") := by decide +kernel
theorem bb_set : bootBuiltins "set" = some (.type "set") := by decide +kernel
theorem bb_range : bootBuiltins "range" = some (.type "range") := by decide +kernel
theorem bb_enumerate : bootBuiltins "enumerate" = some (.type "enumerate") := by decide +kernel
theorem bb_zip : bootBuiltins "zip" = some (.type "zip") := by decide +kernel
theorem bb_type : bootBuiltins "type" = some (.type "type") := by decide +kernel
theorem bb_reversed : bootBuiltins "reversed" = some (.type "reversed") := by decide +kernel
section
variable {q : Bool} {K : PySem.W.Frag} {mg : Str → Option Value} {P : List V} {X : Cx} {pos : Pos}
theorem ge_tyN {x : Str} {T : String} (hm : X.mg x = none) (hg : Gl X x) (hv : bootBuiltins x = some (.type T)) (hn : x ≠ "__name__" := by decide) (hd : (x == ("__debug__" : Str)) = false := by decide) : PE X (.Name x pos) (tE q K mg P (cC (.ty T))) :=
  ge_const (pe_bltn (v := .ty T) hg hm hv (by rfl) hn hd) fun _ _ => .ty T
end
end GX
namespace GX
open PySem PySem.Spec PyProof.Rows L2
/-- a def of the text, as the module holds it -/
structure Fk (K : PySem.W.Frag) (mg : Str → Option Value) (x : Str) (st : Stmt) (ps : List Str) (a : Addr) (fd : FuncData) : Prop where
  f : Fun K x x st a fd
  b : Binds K fd ps []
  g : mg x = some (.ref a)
  p : PySem.W.keepIn K (.ref a) = true
  ba : ∀ (s : Shared) (us : List Value), us.length = ps.length → BindsTo s fd ⟨us, []⟩ (ps.zip us)
/-- .. with a default for its last parameter -/
structure FkD (K : PySem.W.Frag) (mg : Str → Option Value) (x : Str) (st : Stmt) (ps : List Str) (dv : V) (a : Addr) (fd : FuncData) : Prop where
  f : FunD K x x (defArgs st) (defBody st) (defScope st) [dv] [] a fd
  b : Binds K fd ps []
  b1 : ∃ ds, Vals [dv] ds ∧ Binds K fd ps ds
  g : mg x = some (.ref a)
  p : PySem.W.keepIn K (.ref a) = true
/-- a constant of the module -/
structure Ck (K : PySem.W.Frag) (mg : Str → Option Value) (x : Str) (v : PV) : Prop where
  ex : ∃ u z, mg x = some u ∧ RelV z u ∧ ∀ H B, RV K mg H B v z []
section
variable {q : Bool} {K : PySem.W.Frag} {mg : Str → Option Value} {P : List V} {X : Cx} {pos : Pos} {x : Str} {v : PV}
theorem ge_ck (c : Ck K mg x v) (hmg : X.mg = mg) (hg : Gl X x) (hd : (x == ("__debug__" : Str)) = false := by decide) : PE X (.Name x pos) (tE q K mg P (cC v)) := by
  obtain ⟨u, z, h1, h2, h3⟩ := c.ex
  subst hmg
  exact ge_glob hg h1 h2 h3 hd
theorem ge_fnD {CX : CXT} {k j m : Nat} {f : Addr} {fd : FuncData} {ps : List Str} {fs : Fn} {dp : PV} {dv : V} {E : XK} {p : Pos} {e : Expr} {es : List Expr} {fa : M (List Opd)} (F : GOk X.prog X.w X.K X.mg X.base CX j f fd ps (spG K mg m fs)) (hr : Room k X.A) (hgd : X.A.guards = some []) (hj : j ≤ k) (hg : Gl X x) (hm : X.mg x = some (.ref f)) (hk : PySem.W.keepIn X.K (.ref f) = true) (hb : ∃ ds, Vals [dv] ds ∧ Binds X.K fd ps ds) (hx : Passes CX X E)
    (hv : ∀ H B, RV K mg H B dp dv []) (hl : ∀ as r, fs as = some r → as.length = m)
    (ha : PA X (e :: es) (tA false K mg P fa)) (hdb : (x == ("__debug__" : Str)) = false := by decide) (he : starEach (e :: es) X.env = (false, eval e X.env) :: starEach es X.env := by rfl) (hpl : (backTo pos (starEach es X.env)).any (·.1) = false := by rfl) :
    PE X (.Call (.Name x p) (e :: es) [] pos) (tE false K mg P (cFn fs [dp] fa)) := by
  obtain ⟨ds, h1, h2⟩ := hb
  exact ge_fn F hr hgd hj hg hm hk h2 h1 hx (fun H B => .cons (F := []) (hv H B) .nil) hl ha hdb he hpl
end
end GX
namespace GX
open PySem PySem.Spec PyProof.Rows L2
theorem wipe_set {σ : Sg} {i : Nat} {x : Option V} {vs : List Nat} (h : i ∈ vs) : wipe (σ.set i x) vs = wipe σ vs := by
  apply List.ext_getElem?
  intro j
  rw [wipe_get, wipe_get]
  by_cases e : i = j
  · subst e
    by_cases hl : i < σ.length
    · rw [List.getElem?_set_self hl, List.getElem?_eq_getElem hl]
      simp [h]
    · rw [List.getElem?_eq_none (by simpa using hl), List.getElem?_eq_none (by simpa using hl)]
  · rw [List.getElem?_set_ne e]
section
variable {q : Bool} {K : PySem.W.Frag} {mg : Str → Option Value} {P : List V} {X : Cx} {pos : Pos} {x : Str} {v : PV} {e : Expr}
/-- what only reads -/
theorem ge_rd {f : M PV} (h : PE X e (tE true K mg P f)) : PE X e (tE q K mg P f) := PE.weak h fun σ H Q ⟨ρ, B, F, u, ρ', R, e1, k⟩ => ⟨ρ, B, F, u, ρ', R, e1, fun x H' B' G F' p => k x H' B' G F' ⟨p.rv, p.sl, p.nd, p.st, fun _ => p.ro rfl⟩⟩
theorem go_rd {f : O} (h : PE X e (tO true K mg P f)) : PE X e (tO q K mg P f) := PE.weak h fun σ H Q ⟨ρ, B, F, u, ρ', R, e1, k⟩ => ⟨ρ, B, F, u, ρ', R, e1, fun x H' B' G F' p => k x H' B' G F' ⟨p.ov, p.sl, p.nd, p.st, fun _ => p.ro rfl⟩⟩
theorem gt_rd {f : M Bool} (h : PT X e (tT true K mg P f)) : PT X e (tT q K mg P f) := PT.weak h fun σ H Q ⟨ρ, B, F, u, ρ', R, e1, k⟩ => ⟨ρ, B, F, u, ρ', R, e1, fun H' B' F' p => k H' B' F' ⟨p.sl, p.nd, p.st, fun _ => p.ro rfl⟩⟩
end
end GX

/-! GX: the end: the law's promise at the heap behind the top. -/
namespace GX
open PySem PySem.Spec PyProof.Rows L2

/-- what the law's def promises: it gives True for every script -/
def spEnd (K : PySem.W.Frag) (n : Nat) : Sp := fun vs H Q _ => ∃ (a : Addr) (ns : List Int), vs = [.ref a] ∧ ns.length ≤ n ∧ SqL K H a (ns.map V.int) ∧ ∀ H', Q (.bl true) H'
section
variable {K : PySem.W.Frag} {mg : Str → Option Value} {Pr : Program} {w : World} {base : Heap}
theorem rvs_script {H : Hp} {B : Addr → Prop} (ns : List Int) : RVs K mg H B (ns.map .int) (ns.map V.int) [] := rvs_ints ns
theorem end_ok {k n : Nat} {f : Addr} {fd : FuncData} {x : Str} {lf : Fn} (F : GOk Pr w K mg base CX0 k f fd [x] (spG K mg 1 lf))
    (run : ∀ ns : List Int, ns.length ≤ n → ∃ ts, lf [.val (.zls (ns.map .int))] = some (.bl true, ts)) : GOk Pr w K mg base CX0 k f fd [x] (spEnd K n) := by
  refine ⟨fun vs H Q E ⟨a, ns, e, _⟩ => by rw [e] <;> rfl, fun A fs s H ar us vs Q E hr hg e0 hb rv hsp => F.go A fs s H ar us vs Q E hr hg e0 hb rv ?_⟩
  obtain ⟨a, ns, rfl, hn, hS, hq⟩ := hsp
  obtain ⟨ts, e⟩ := run ns hn
  refine ⟨rfl, fun _ => False, [.val (.zls (ns.map .int))], [], .bl true, ts, ?_, List.nodup_nil, e, fun y H' B' Gv G' σ' rb _ _ _ => ?_⟩
  · have z : RV K mg H (fun _ => False) (.zls (ns.map .int)) (.ref a) [] := .zls (hS.imp (fun q => ⟨q, id⟩) id) (rvs_script ns)
    exact .cons (F := []) (G := []) (.val z) .nil
  · cases rb
    exact hq H'
/-- the law's call, from outside -/
theorem law_go {mb : Str → Option Value} {k n : Nat} {fa a : Addr} {fd : FuncData} {x : Str} {t : Shared} {vs : List Value} {ns : List Int}
    (KX : K.In t.heap) (h1 : t.heap.Ns mainGlobals mg) (h2 : t.heap.Ns builtinsNs mb) (h3 : ∀ x : Str, x ≠ "__name__" → mb x = bootBuiltins x) (h4 : t.heap.NoLimit) (h5 : t.gens = #[])
    (ha : t.heap.get? a = some { cls := .type "list", data := .seq vs.toArray }) (hi : IntsAre vs ns) (hl : ns.length ≤ n) (hn : n ≤ sizeLine) (hr : Room k callerA)
    (F : ∀ base : Heap, K.In base → base.Ns mainGlobals mg → GOk Pr w K mg base CX0 k fa fd [x] (spEnd K n)) (hb : ∀ (s : Shared) (u : Value), BindsTo s fd ⟨[u], []⟩ [(x, u)]) :
    codeAny (model Pr w) callerA (.call (.ref fa) ⟨[.ref a], []⟩) (fun r s' => r = .ok (.ret (.bool true)) ∧ OldK t.heap s'.heap ∧ s'.os = t.os ∧ AllBare s'.gens) t := by
  have rv := vals_ints hi
  have lv := hi.length
  have main : ∀ H : Hp, Only H → SqL K H a (ns.map V.int) → HOk Pr w H t.heap → (∀ b, H b ≠ none → b = a) → (H a ≠ none → K.lookup a = none) →
      codeAny (model Pr w) callerA (.call (.ref fa) ⟨[.ref a], []⟩) (fun r s' => r = .ok (.ret (.bool true)) ∧ OldK t.heap s'.heap ∧ s'.os = t.os ∧ AllBare s'.gens) t := by
    intro H hO hS hok hA hK
    have isA : ∀ {b : Addr} {u : HO}, H b = some u → b = a := fun {b u} q => hA b (by rw [q]; exact Option.some_ne_none u)
    have noD : ∀ {b : Addr} {o : Obj} {es : Array DictEntry} {ep : Nat}, t.heap.get? b = some o → o.data = .dict es ep → H b = none := fun {b o es ep} e d => by
      cases q : H b with
      | none => rfl
      | some u =>
        rw [isA q, ha] at e
        cases e
        cases (show Data.seq vs.toArray _ = Data.dict es ep from d)
    have ns2 : ∀ {b : Addr} {m : Str → Option Value}, t.heap.Ns b m → (hidT t.heap H).Ns b m := fun ⟨o, es, ep, e, d, r⟩ => ⟨o, es, ep, hidT_get e (noD e d), d, r⟩
    have kIn : K.In (hidT t.heap H) := fun b o e => hidT_get (KX b o e) (by
      cases q : H b with
      | none => rfl
      | some u =>
        have z := isA q
        subst z
        rw [hK (by rw [q]; exact Option.some_ne_none u)] at e
        cases e)
    have md : Mod K mg (hidT t.heap H) := ⟨kIn, ns2 h1, ⟨mb, ns2 h2, h3⟩, let ⟨mc, q1, q2⟩ := h4; ⟨mc, ns2 q1, q2⟩⟩
    have e0 : Env0 Pr w K mg (hidT t.heap H) callerA [] t H := ⟨rfl, md, fun b o e => of_hidT e, Nat.le_of_eq (hidT_size _ _), trivial, (fun b hb => nomatch hb), hok, .of_eq h5⟩
    refine codeAny_mono ((F _ kIn (ns2 h1)).go callerA [] t H ⟨[.ref a], []⟩ [.ref a] [.ref a] (fun v _ => v = .bl true) (fun _ _ _ => False) hr rfl e0 (hb t (.ref a)) (.cons rfl .nil) ⟨a, ns, rfl, hl, hS, fun _ => rfl⟩) fun r s' h => ?_
    match r, h with
    | .ok (.ret u), h =>
      obtain ⟨v, H', os, bare, un, hok2, r2, q⟩ := h
      obtain rfl : v = .bl true := q
      obtain rfl : u = Value.bool true := r2
      refine ⟨rfl, OldK.of_keep fun b o e => ?_, os, bare⟩
      cases q : H b with
      | none => exact un.keep b o e q (fun z => nomatch z) (fun z => nomatch z)
      | some u =>
        rcases hO b with z | ⟨ob, xs, z⟩
        · rw [q] at z; cases z
        · obtain ⟨e1, _⟩ := hok b _ z
          obtain ⟨e2, _⟩ := hok2 b _ (un.frzs b ob _ z)
          rw [e] at e1; cases e1
          exact e2
  cases hk : K.lookup a with
  | some o =>
    have e := KX a o hk
    rw [ha] at e
    cases e
    exact main (fun _ => none) (fun _ => .inl rfl) (.inr ⟨_, vs.toArray, _, hk, rfl, rfl, rfl, by rw [List.size_toArray, lv]; omega, by simpa using rv⟩) (fun b u z => nomatch z) (fun b z => absurd rfl z) fun z => absurd rfl z
  | none =>
    refine main (fun b => if b = a then some (.frz { cls := .type "list", data := .seq vs.toArray } (.lst (ns.map V.int))) else none) (fun b => ?_) (.inl (.inr ⟨_, if_pos rfl⟩)) (fun b u z => ?_) (fun b z => Decidable.byContradiction fun q => absurd (if_neg q) z) fun _ => hk
    · by_cases q : b = a
      · exact .inr ⟨_, _, if_pos q⟩
      · exact .inl (if_neg q)
    · by_cases q : b = a
      · cases (if_pos q).symm.trans z
        subst q
        exact ⟨ha, by rw [List.length_map]; omega, vs, _, rv, ha⟩
      · cases (if_neg q).symm.trans z
theorem walk_go {l : PySem.W.OpenLaw} {n k : Nat} {q : Program} {loose : List Str} {XP : (Str → Option Value) → Heap → Prop} {YP : World → Heap → Prop} {d : DefRec} {KF : Params → PySem.W.Frag} {x : Str}
    (e1 : l.most = some n) (e2 : n ≤ sizeLine) (e3 : d.params.defaults = []) (hr : Room k callerA) (hY : ∀ (w : World) (h : Heap), YP w h → (KF w.params).In h)
    (F : ∀ (w : World) (mg : Str → Option Value) (fa : Addr) (h : Heap), (KF w.params).In h → h.Ns mainGlobals mg → mg d.name = some (.ref fa) →
      ∃ fd : FuncData, (∀ (s : Shared) (u : Value), BindsTo s fd ⟨[u], []⟩ [(x, u)]) ∧ ∀ base : Heap, (KF w.params).In base → base.Ns mainGlobals mg → GOk l.prog w (KF w.params) mg base CX0 k fa fd [x] (spEnd (KF w.params) n)) :
    PySem.W.WalkO q loose XP YP l.row.toRowW d [] (fun f vs => PySem.call f vs) :=
  Att.attach_call e1 e3 fun w s0 s1 mg mb fa o pm cd doc a vs ns G Y ho hd hcd hmg hobj hints hlen hg => by
    have KX := hY w _ Y
    obtain ⟨fd, hb, hF⟩ := F w mg fa _ KX G.T.g hmg
    exact law_go KX G.T.g G.T.b G.T.builtins G.T.nolimit hg hobj hints hlen e2 hr hF hb
/-! ### what stands behind the top -/
theorem fin_go {KF : PySem.W.Frag} {l : PySem.W.OpenLaw} {k n : Nat} {st : Stmt} {fa a0 : Addr} {fd : FuncData} {x nm : Str} {lf : Fn} (t : Fk KF mg nm st [x] a0 fd) (hfa : mg nm = some (.ref fa)) (F : ∀ base : Heap, GOk l.prog w KF mg base CX0 k a0 fd [x] (spG KF mg 1 lf))
    (run : ∀ ns : List Int, ns.length ≤ n → ∃ ts, lf [.val (.zls (ns.map .int))] = some (.bl true, ts)) :
    ∃ fd : FuncData, (∀ (s : Shared) (u : Value), BindsTo s fd ⟨[u], []⟩ [(x, u)]) ∧ ∀ base : Heap, KF.In base → base.Ns mainGlobals mg → GOk l.prog w KF mg base CX0 k fa fd [x] (spEnd KF n) := by
  have e := t.g.symm.trans hfa
  cases e
  exact ⟨fd, fun s u => t.ba s [u] rfl, fun base _ _ => end_ok (F base) run⟩
theorem fk_mk {h : Heap} (X : K.In h) (G : h.Ns mainGlobals mg) {x : Str} {st : Stmt} {ps : List Str} {f : Addr} {od an : Option Addr} {sl : Array (Option Value)} {oc kV dc pm cd ct : Value}
    (a1 : PySem.W.nsIn K mainGlobals x = some (some (.ref f))) (l1 : K.lookup f = some ⟨oc, od, .func (PySem.W.fnOf x x (defArgs st) (defBody st) (defScope st) .none kV dc pm an cd ct), sl⟩) (c1 : PySem.W.codeIn K cd x = true) (k1 : PySem.W.keepIn K (.ref f) = true)
    (b : ∀ (kV doc pm : Value) (an : Option Addr) (cdv ct : Value) (us : List Value), us.length = ps.length → bindArgs (PySem.W.fnOf x x (defArgs st) (defBody st) (defScope st) .none kV doc pm an cdv ct) ⟨us, []⟩ = pure (ps.zip us)) :
    Fk K mg x st ps f (PySem.W.fnOf x x (defArgs st) (defBody st) (defScope st) .none kV dc pm an cd ct) :=
  have F := fun_mk (st := st) l1 c1 k1
  ⟨F, F.binds b, PySem.W.mg_of X G a1, k1, fun s us hl => .of_eq (b _ _ _ _ _ _ us hl)⟩
theorem fkD_mk {h : Heap} (X : K.In h) (G : h.Ns mainGlobals mg) {x : Str} {st : Stmt} {ps : List Str} {f T : Addr} {od an : Option Addr} {sl : Array (Option Value)} {oc kV dc pm cd ct : Value} {dv : V} {oT : Obj} {its : List Value} {nT : Nat}
    (a1 : PySem.W.nsIn K mainGlobals x = some (some (.ref f))) (l1 : K.lookup f = some ⟨oc, od, .func (PySem.W.fnOf x x (defArgs st) (defBody st) (defScope st) (.ref T) kV dc pm an cd ct), sl⟩) (c1 : PySem.W.codeIn K cd x = true) (k1 : PySem.W.keepIn K (.ref f) = true)
    (t1 : K.lookup T = some oT) (t2 : oT.data = .seq its.toArray nT) (t3 : Vals [dv] its)
    (b0 : ∀ (T : Addr) (kV doc pm : Value) (an : Option Addr) (cdv ct : Value) (us its : List Value), us.length = ps.length → its.length = [dv].length →
      ∃ k, bindArgs (PySem.W.fnOf x x (defArgs st) (defBody st) (defScope st) (.ref T) kV doc pm an cdv ct) ⟨us, []⟩ = seqItems? (.ref T) >>= k ∧ k (some its.toArray) = pure (ps.zip (us ++ its.drop 1)))
    (b1 : ∀ (T : Addr) (kV doc pm : Value) (an : Option Addr) (cdv ct : Value) (us its : List Value), us.length + 1 = ps.length → its.length = [dv].length →
      ∃ k, bindArgs (PySem.W.fnOf x x (defArgs st) (defBody st) (defScope st) (.ref T) kV doc pm an cdv ct) ⟨us, []⟩ = seqItems? (.ref T) >>= k ∧ k (some its.toArray) = pure (ps.zip (us ++ its.drop 0))) (hp : 1 ≤ ps.length) :
    FkD K mg x st ps dv f (PySem.W.fnOf x x (defArgs st) (defBody st) (defScope st) (.ref T) kV dc pm an cd ct) :=
  have F : FunD K x x (defArgs st) (defBody st) (defScope st) [dv] [] f (PySem.W.fnOf x x (defArgs st) (defBody st) (defScope st) (.ref T) kV dc pm an cd ct) :=
    ⟨⟨oc, od, .ref T, kV, dc, pm, an, cd, ct, sl, rfl, l1, c1, .inr ⟨nofun, T, oT, its, nT, rfl, t1, t2, t3⟩, .inl rfl⟩, k1⟩
  ⟨F, by
    obtain ⟨ds, h1, h2⟩ := F.binds1 (ps := ps) ps.length 1 nofun (by simp) fun T kV doc pm an cdv ct us its hu hi => b0 T kV doc pm an cdv ct us its hu hi
    cases h1
    exact h2, by
    obtain ⟨ds, h1, h2⟩ := F.binds1 (ps := ps) (ps.length - 1) 0 nofun (by simp; omega) fun T kV doc pm an cdv ct us its hu hi => b1 T kV doc pm an cdv ct us its (by omega) hi
    exact ⟨ds, h1, h2⟩, PySem.W.mg_of X G a1, k1⟩
theorem ck_int {h : Heap} (X : K.In h) (G : h.Ns mainGlobals mg) {x : Str} {i : Int} {t : Tok} (a : PySem.W.nsIn K mainGlobals x = some (some (.int i t))) : Ck K mg x (.int i) :=
  ⟨⟨_, .int i, PySem.W.mg_of X G a, ⟨t, rfl⟩, fun _ _ => .int i⟩⟩
theorem ck_str {h : Heap} (X : K.In h) (G : h.Ns mainGlobals mg) {x s : Str} {t : Tok} (a : PySem.W.nsIn K mainGlobals x = some (some (.str s t))) : Ck K mg x (.str s) :=
  ⟨⟨_, .str s, PySem.W.mg_of X G a, ⟨t, rfl⟩, fun _ _ => .str s⟩⟩
theorem ck_tup {h : Heap} (X : K.In h) (G : h.Ns mainGlobals mg) {x : Str} {T : Addr} {o : Obj} {its : Array Value} {nT : Nat} {ps : List PV} {ys : List V} (a : PySem.W.nsIn K mainGlobals x = some (some (.ref T))) (l : K.lookup T = some o) (c : o.cls = .type "tuple") (d : o.data = .seq its nT) (z : its.size ≤ sizeLine)
    (v : Vals ys its.toList) (r : ∀ H B, RVs K mg H B ps ys []) : Ck K mg x (.tup ps) :=
  ⟨⟨_, .ref T, PySem.W.mg_of X G a, rfl, fun H B => .tup (.inr ⟨o, its, nT, l, c, d, z, v⟩) (r H B)⟩⟩
end
end GX

/-! GX: how the shallow programs run: weakest preconditions by simp. -/
namespace GX
open PySem PySem.Spec PyProof.Rows L2

/-- m ends with a value that has Q -/
def W0 {α : Type} (m : Option α) (Q : α → Prop) : Prop := ∃ a, m = some a ∧ Q a
theorem oW_congr {α : Type} {m m' : Option α} {Q : α → Prop} (h : m = m') : W0 m Q = W0 m' Q := by rw [h]
@[simp] theorem oW_some {α : Type} (a : α) (Q : α → Prop) : W0 (some a) Q = Q a := propext ⟨fun ⟨_, e, q⟩ => (by cases e; exact q), fun q => ⟨a, rfl, q⟩⟩
@[simp] theorem oW_none {α : Type} (Q : α → Prop) : W0 none Q = False := propext ⟨fun ⟨_, e, _⟩ => (by cases e), False.elim⟩
theorem oW_bind {α β : Type} (m : Option α) (f : α → Option β) (Q : β → Prop) : W0 (m.bind f) Q = W0 m fun a => W0 (f a) Q := propext
  ⟨fun ⟨b, e, q⟩ => by obtain ⟨a, e1, e2⟩ := bind_some e; exact ⟨a, e1, b, e2, q⟩, fun ⟨a, e1, b, e2, q⟩ => ⟨b, by rw [e1]; exact e2, q⟩⟩
theorem W0.mono {α : Type} {m : Option α} {P Q : α → Prop} (h : W0 m P) (k : ∀ a, P a → Q a) : W0 m Q := let ⟨a, e, p⟩ := h; ⟨a, e, k a p⟩
theorem W0.ex {α : Type} {m : Option α} {P : α → Prop} (h : W0 m P) : ∃ a, m = some a ∧ P a := h
theorem oW_eq {α : Type} {m : Option α} {a : α} : W0 m (fun z => z = a) = (m = some a) := propext ⟨fun ⟨_, e, q⟩ => by rw [e, q], fun e => ⟨a, e, rfl⟩⟩
theorem oeq_W {α : Type} {m : Option α} {a : α} (h : W0 m fun z => z = a) : m = some a := oW_eq ▸ h
theorem oW_ofEq {α : Type} {m : Option α} {a : α} {Q : α → Prop} (h : m = some a) (q : Q a) : W0 m Q := ⟨a, h, q⟩
/-- a branch -/
def Br0 (c : Prop) (x y : Prop) : Prop := (c → x) ∧ (¬c → y)
theorem oBr_congr {c c' x y : Prop} (h : c = c') : Br0 c x y = Br0 c' x y := by rw [h]
@[simp] theorem oBr_true (x y : Prop) : Br0 True x y = x := propext ⟨fun h => h.1 trivial, fun h => ⟨fun _ => h, fun n => absurd trivial n⟩⟩
@[simp] theorem oBr_false (x y : Prop) : Br0 False x y = y := propext ⟨fun h => h.2 id, fun h => ⟨False.elim, fun _ => h⟩⟩
theorem Br0.mk {c x y : Prop} (h : c → x) (k : ¬c → y) : Br0 c x y := ⟨h, k⟩
/-- a side condition -/
def An0 (c : Prop) (x : Prop) : Prop := c ∧ x
theorem oAn_congr {c c' x : Prop} (h : c = c') : An0 c x = An0 c' x := by rw [h]
@[simp] theorem oAn_true (x : Prop) : An0 True x = x := propext ⟨fun h => h.2, fun h => ⟨trivial, h⟩⟩
@[simp] theorem oAn_false (x : Prop) : An0 False x = False := propext ⟨fun h => h.1, fun h => h.elim⟩
theorem An0.mk {c x : Prop} (h : c) (k : x) : An0 c x := ⟨h, k⟩
theorem oW_if {α : Type} (c : Prop) [Decidable c] (a b : Option α) (Q : α → Prop) : W0 (if c then a else b) Q = Br0 c (W0 a Q) (W0 b Q) := propext (by
  by_cases h : c
  · simp only [if_pos h]; exact ⟨fun q => ⟨fun _ => q, fun n => absurd h n⟩, fun q => q.1 h⟩
  · simp only [if_neg h]; exact ⟨fun q => ⟨fun n => absurd n h, fun _ => q⟩, fun q => q.2 h⟩)
theorem oW_ifn {α : Type} (c : Prop) [Decidable c] (a : Option α) (Q : α → Prop) : W0 (if c then a else none) Q = An0 c (W0 a Q) := propext (by
  by_cases h : c
  · simp only [if_pos h]; exact ⟨fun q => ⟨h, q⟩, fun q => q.2⟩
  · simp only [if_neg h, oW_none]; exact ⟨False.elim, fun q => h q.1⟩)
theorem oW_guard {α : Type} (c : Prop) [Decidable c] (a : Option α) (Q : α → Prop) : W0 (guard c a) Q = An0 c (W0 a Q) := oW_ifn c a Q
@[simp] theorem oW_map {α β : Type} (m : Option α) (f : α → β) (Q : β → Prop) : W0 (m.map f) Q = W0 m fun a => Q (f a) := by cases m <;> simp
/-- behind a statement -/
def outK0 (k : Rho → Prop) (Q : Out → Prop) : Out → Prop
  | .nx ρ => k ρ
  | o => Q o
@[simp] theorem outK0_nx (k : Rho → Prop) (Q : Out → Prop) (ρ : Rho) : outK0 k Q (.nx ρ) = k ρ := rfl
@[simp] theorem outK0_bk (k : Rho → Prop) (Q : Out → Prop) (ρ : Rho) : outK0 k Q (.bk ρ) = Q (.bk ρ) := rfl
@[simp] theorem outK0_ct (k : Rho → Prop) (Q : Out → Prop) (ρ : Rho) : outK0 k Q (.ct ρ) = Q (.ct ρ) := rfl
@[simp] theorem outK0_rt (k : Rho → Prop) (Q : Out → Prop) (v : PV) (ρ : Rho) : outK0 k Q (.rt v ρ) = Q (.rt v ρ) := rfl
/-- behind a loop's body -/
def lopK0 (k : Rho → Prop) (Q : Out → Prop) : Out → Prop
  | .nx ρ => k ρ
  | .ct ρ => k ρ
  | .bk ρ => Q (.nx ρ)
  | .rt v ρ => Q (.rt v ρ)
@[simp] theorem lopK0_nx (k : Rho → Prop) (Q : Out → Prop) (ρ : Rho) : lopK0 k Q (.nx ρ) = k ρ := rfl
@[simp] theorem lopK0_ct (k : Rho → Prop) (Q : Out → Prop) (ρ : Rho) : lopK0 k Q (.ct ρ) = k ρ := rfl
@[simp] theorem lopK0_bk (k : Rho → Prop) (Q : Out → Prop) (ρ : Rho) : lopK0 k Q (.bk ρ) = Q (.nx ρ) := rfl
@[simp] theorem lopK0_rt (k : Rho → Prop) (Q : Out → Prop) (v : PV) (ρ : Rho) : lopK0 k Q (.rt v ρ) = Q (.rt v ρ) := rfl
/-- behind a def's body -/
def fnK0 (m : Nat) (Q : PV × List Slot → Prop) : Out → Prop
  | .nx ρ => Q (.non, (ρ.take m).map outS)
  | .rt v ρ => Q (v, (ρ.take m).map outS)
  | _ => False
@[simp] theorem fnK0_nx (m : Nat) (Q : PV × List Slot → Prop) (ρ : Rho) : fnK0 m Q (.nx ρ) = Q (.non, (ρ.take m).map outS) := rfl
@[simp] theorem fnK0_rt (m : Nat) (Q : PV × List Slot → Prop) (v : PV) (ρ : Rho) : fnK0 m Q (.rt v ρ) = Q (v, (ρ.take m).map outS) := rfl
@[simp] theorem ooutS_un : outS .un = .un := rfl
@[simp] theorem ooutS_val (v : PV) : outS (.val v) = .un := rfl
@[simp] theorem ooutS_ref (v : PV) : outS (.ref v) = .ref v := rfl
section
variable {ρ : Rho} {f g : S} {Q : Out → Prop} {R : PV × Rho → Prop} {RO : Opd × Rho → Prop} {RA : List Opd × Rho → Prop} {RB : Bool × Rho → Prop} {RI : Option Int × Rho → Prop} {RL : List PV × Rho → Prop} {RT : Rho → Prop} {RP : PV → Prop} {RPs : List PV → Prop}
theorem oW_fn (n m : Nat) (b : S) (as : List Slot) : W0 (fnRun n m b as) R = An0 (as.length = m) (W0 (b (as ++ List.replicate (n - m) .un)) (fnK0 m R)) := by
  unfold fnRun
  rw [oW_ifn, oW_bind]
  have e : ∀ o : Out, W0 (match o with | .nx ρ => some (PV.non, (ρ.take m).map outS) | .rt v ρ => some (v, (ρ.take m).map outS) | _ => none) R = fnK0 m R o := fun o => by
    cases o <;> simp [fnK0]
  unfold An0
  congr 1
  congr 1
  funext o
  exact e o
@[simp] theorem oW_skip : W0 (sSkip ρ) Q = Q (.nx ρ) := oW_some ..
@[simp] theorem oW_seq : W0 (sSeq f g ρ) Q = W0 (f ρ) (outK0 (fun ρ1 => W0 (g ρ1) Q) Q) := by
  unfold sSeq
  rw [oW_bind]
  congr 1
  funext o
  cases o <;> simp [outK0]
@[simp] theorem oW_brk : W0 (sBrk ρ) Q = Q (.bk ρ) := oW_some ..
@[simp] theorem oW_cnt : W0 (sCnt ρ) Q = Q (.ct ρ) := oW_some ..
@[simp] theorem oW_never : W0 (sNever ρ) Q = False := oW_none ..
@[simp] theorem oW_expr (a : M PV) : W0 (sExpr a ρ) Q = W0 (a ρ) fun z => Q (.nx z.2) := by unfold sExpr; rw [oW_bind]; simp only [oW_some]
@[simp] theorem oW_ret (a : M PV) : W0 (sRet a ρ) Q = W0 (a ρ) fun z => Q (.rt z.1 z.2) := by unfold sRet; rw [oW_bind]; simp only [oW_some]
@[simp] theorem oW_sIf (t : M Bool) : W0 (sIf t f g ρ) Q = W0 (t ρ) fun z => Br0 (z.1 = true) (W0 (f z.2) Q) (W0 (g z.2) Q) := by unfold sIf; rw [oW_bind]; simp only [oW_if]
@[simp] theorem oW_asg (t : Tg) (a : M PV) : W0 (sAsg t a ρ) Q = W0 (a ρ) fun z => W0 (t z.1 z.2) fun ρ1 => Q (.nx ρ1) := by unfold sAsg; simp only [oW_bind, oW_some]
/-- two names at once -/
def parK0 (i j : Nat) (Q : Out → Prop) (ρ : Rho) : List PV → Prop
  | [v, w] => W0 (putS i v ρ) fun ρ1 => W0 (putS j w ρ1) fun ρ2 => Q (.nx ρ2)
  | _ => False
@[simp] theorem parK0_two (i j : Nat) (v w : PV) : parK0 i j Q ρ [v, w] = W0 (putS i v ρ) fun ρ1 => W0 (putS j w ρ1) fun ρ2 => Q (.nx ρ2) := rfl
@[simp] theorem oW_par (i j : Nat) (a : M (List Opd)) : W0 (sPar i j a ρ) Q = W0 (a ρ) fun z => W0 (tmVals z.1) fun vs => parK0 i j Q z.2 vs := by
  unfold sPar
  simp only [oW_bind]
  congr 1
  funext z
  congr 1
  funext vs
  match vs with
  | [] => simp [parK0]
  | [v] => simp [parK0]
  | [v, w] => simp [parK0, oW_bind]
  | _ :: _ :: _ :: _ => simp [parK0]
@[simp] theorem oW_aug (i : Nat) (p : PV → PV → Option PV) (a : M PV) : W0 (sAug i p a ρ) Q = W0 ((ρ[i]?).bind Slot.get) fun v0 => An0 (v0.pure = true) (W0 (a ρ) fun z => An0 (z.1.pure = true) (W0 (p v0 z.1) fun r => W0 (putS i r z.2) fun ρ2 => Q (.nx ρ2))) := by
  unfold sAug
  simp only [oW_bind, oW_ifn, oW_some]
/-! ### targets -/
def Slot.loc : Slot → Bool
  | .ref _ => false
  | _ => true
@[simp] theorem oloc_un : Slot.un.loc = true := rfl
@[simp] theorem oloc_val (v : PV) : (Slot.val v).loc = true := rfl
@[simp] theorem oW_put (i : Nat) (v : PV) : W0 (putS i v ρ) RT = W0 (ρ[i]?) fun s => An0 (s.loc = true) (RT (ρ.set i (.val v))) := by
  unfold putS
  rw [oW_bind]
  congr 1
  funext s
  cases s <;> simp [Slot.loc]
@[simp] theorem oW_gNm (i : Nat) (v : PV) : W0 (gNm i v ρ) RT = W0 (putS i v ρ) RT := rfl
@[simp] theorem ogTp_tup (n : Nat) (gs : List PV → Rho → Option Rho) (vs : List PV) : gTp n gs (.tup vs) ρ = if vs.length = n then gs vs ρ else none := rfl
@[simp] theorem oW_gsNil : W0 (gsNil [] ρ) RT = RT ρ := oW_some ..
@[simp] theorem oW_gsCons (t : Tg) (ts : List PV → Rho → Option Rho) (v : PV) (vs : List PV) : W0 (gsCons t ts (v :: vs) ρ) RT = W0 (t v ρ) fun ρ1 => W0 (ts vs ρ1) RT := by unfold gsCons; rw [oW_bind]
@[simp] theorem oW_gIx (n : Nat) (a : M PV) (v : PV) : W0 (gIx n a v ρ) RT = W0 ((ρ[n]?).bind Slot.get) fun _ => W0 (a ρ) fun z => An0 (z.1.pure = true) (W0 ((z.2[n]?).bind Slot.get) fun ob => W0 (psetI ob z.1 v) fun ob' => W0 (chg n ob' z.2) RT) := by
  unfold gIx
  simp only [oW_bind, oW_ifn]
/-! ### expressions -/
@[simp] theorem oW_cBin (p : PV → PV → Option PV) (a b : O) : W0 (cBin p a b ρ) R = W0 (a ρ) fun z1 => W0 (b z1.2) fun z2 => W0 (deref z1.1 z2.2) fun va => W0 (deref z2.1 z2.2) fun vb => W0 (p va vb) fun r => R (r, z2.2) := by unfold cBin; simp only [oW_bind, oW_some]
@[simp] theorem oW_cUn (p : PV → Option PV) (a : O) : W0 (cUn p a ρ) R = W0 (a ρ) fun z1 => W0 (deref z1.1 z1.2) fun va => W0 (p va) fun r => R (r, z1.2) := by unfold cUn; simp only [oW_bind, oW_some]
@[simp] theorem oW_cCall (p : List PV → Option PV) (a : M (List Opd)) : W0 (cCall p a ρ) R = W0 (a ρ) fun z1 => W0 (derefs z1.1 z1.2) fun va => W0 (p va) fun r => R (r, z1.2) := by unfold cCall; simp only [oW_bind, oW_some]
@[simp] theorem oW_cC (v : PV) : W0 (cC v ρ) R = R (v, ρ) := oW_some ..
/-- a name's value, frozen where it must be -/
def frzK0 (ρ : Rho) (i : Nat) (R : PV × Rho → Prop) : Slot → Prop
  | .un => False
  | .val v => Br0 (v.pure = true) (R (v, ρ)) (R (v.frz, ρ.set i (.val v.frz)))
  | .ref v => Br0 (v.pure = true) (R (v, ρ)) (R (v.frz, ρ.set i (.ref v.frz)))
@[simp] theorem frzK0_val (i : Nat) (v : PV) : frzK0 ρ i R (.val v) = Br0 (v.pure = true) (R (v, ρ)) (R (v.frz, ρ.set i (.val v.frz))) := rfl
@[simp] theorem frzK0_ref (i : Nat) (v : PV) : frzK0 ρ i R (.ref v) = Br0 (v.pure = true) (R (v, ρ)) (R (v.frz, ρ.set i (.ref v.frz))) := rfl
@[simp] theorem oW_cName (i : Nat) : W0 (cName i ρ) R = W0 (ρ[i]?) (frzK0 ρ i R) := by
  unfold cName
  rw [oW_bind]
  congr 1
  funext s
  cases s <;> simp [frzK0, oW_if]
@[simp] theorem oW_cNameR (i : Nat) : W0 (cNameR i ρ) R = W0 ((ρ[i]?).bind Slot.get) fun v => An0 (v.pure = true) (R (v, ρ)) := by unfold cNameR; simp only [oW_bind, oW_ifn, oW_some]
def movK0 (ρ : Rho) (i : Nat) (R : PV × Rho → Prop) : Slot → Prop
  | .val v => Br0 (v.pure = true) (R (v, ρ)) (R (v, ρ.set i .un))
  | _ => False
@[simp] theorem movK0_val (i : Nat) (v : PV) : movK0 ρ i R (.val v) = Br0 (v.pure = true) (R (v, ρ)) (R (v, ρ.set i .un)) := rfl
@[simp] theorem oW_cMov (i : Nat) : W0 (cMov i ρ) R = W0 (ρ[i]?) (movK0 ρ i R) := by
  unfold cMov
  rw [oW_bind]
  congr 1
  funext s
  cases s <;> simp [movK0, oW_if]
@[simp] theorem oW_cTup (a : M (List Opd)) : W0 (cTup a ρ) R = W0 (a ρ) fun z => W0 (tmVals z.1) fun vs => An0 (vs.length ≤ 16777216) (R (.tup vs, z.2)) := by unfold cTup; simp only [oW_bind, oW_guard, oW_some]
@[simp] theorem oW_cLst (a : M (List Opd)) : W0 (cLst a ρ) R = W0 (a ρ) fun z => W0 (tmVals z.1) fun vs => An0 (vs.length ≤ 16777216) (R (.lst true vs, z.2)) := by unfold cLst; simp only [oW_bind, oW_guard, oW_some]
@[simp] theorem oW_cSub (a b : O) : W0 (cSub a b ρ) R = W0 (a ρ) fun z1 => W0 (b z1.2) fun z2 => W0 (deref z1.1 z2.2) fun va => W0 (deref z2.1 z2.2) fun vb => W0 (pgetI va vb) fun c => An0 (c.pure = true) (R (c, z2.2)) := by unfold cSub; simp only [oW_bind, oW_ifn, oW_some]
def pkK0 (ρ : Rho) (c : PV) (R : Opd × Rho → Prop) : Opd → Prop
  | .tm _ => False
  | _ => R (.pk c, ρ)
@[simp] theorem pkK0_sl (i : Nat) (c : PV) : pkK0 ρ c RO (.sl i) = RO (.pk c, ρ) := rfl
@[simp] theorem pkK0_pk (v : PV) (c : PV) : pkK0 ρ c RO (.pk v) = RO (.pk c, ρ) := rfl
@[simp] theorem oW_oSub (a b : O) : W0 (oSub a b ρ) RO = W0 (a ρ) fun z1 => W0 (b z1.2) fun z2 => W0 (deref z1.1 z2.2) fun va => W0 (deref z2.1 z2.2) fun vb => W0 (pgetI va vb) fun c => Br0 (c.pure = true) (RO (.tm c, z2.2)) (pkK0 z2.2 c RO z1.1) := by
  unfold oSub
  simp only [oW_bind, oW_if, oW_some]
  congr 1
  funext z1
  congr 1
  funext z2
  congr 1
  funext va
  congr 1
  funext vb
  congr 1
  funext c
  congr 1
  cases z1.1 <;> simp [pkK0]
@[simp] theorem oW_cSubM (a : M PV) (b : O) : W0 (cSubM a b ρ) R = W0 (a ρ) fun z1 => W0 (b z1.2) fun z2 => W0 (deref z2.1 z2.2) fun vb => W0 (pgetI z1.1 vb) fun c => R (c, z2.2) := by unfold cSubM; simp only [oW_bind, oW_some]
@[simp] theorem oW_cSl (a : O) (lo hi : M (Option Int)) : W0 (cSl a lo hi ρ) R = W0 (a ρ) fun z1 => W0 (lo z1.2) fun z2 => W0 (hi z2.2) fun z3 => W0 (deref z1.1 z3.2) fun va => W0 (psl va z2.1 z3.1) fun r => R (r, z3.2) := by unfold cSl; simp only [oW_bind, oW_some]
@[simp] theorem oW_cIf (t : M Bool) (a b : M PV) : W0 (cIf t a b ρ) R = W0 (t ρ) fun z => Br0 (z.1 = true) (W0 (a z.2) R) (W0 (b z.2) R) := by unfold cIf; simp only [oW_bind, oW_if]
@[simp] theorem oW_cAnd (a b : M PV) : W0 (cAnd a b ρ) R = W0 (a ρ) fun z => W0 (asB z.1) fun k => Br0 (k = true) (W0 (b z.2) R) (R (.bl false, z.2)) := by unfold cAnd; simp only [oW_bind, oW_if, oW_some]
@[simp] theorem oW_cOr (a b : M PV) : W0 (cOr a b ρ) R = W0 (a ρ) fun z => W0 (asB z.1) fun k => Br0 (k = true) (R (.bl true, z.2)) (W0 (b z.2) R) := by unfold cOr; simp only [oW_bind, oW_if, oW_some]
@[simp] theorem oW_cNot (a : M PV) : W0 (cNot a ρ) R = W0 (a ρ) fun z => W0 (asB z.1) fun k => R (.bl (!k), z.2) := by unfold cNot; simp only [oW_bind, oW_some]
@[simp] theorem oW_cChain (p p' : PV → PV → Option PV) (a b c : O) : W0 (cChain p p' a b c ρ) R = W0 (a ρ) fun z1 => W0 (b z1.2) fun z2 => W0 (deref z1.1 z2.2) fun va => W0 (deref z2.1 z2.2) fun vb => W0 (p va vb) fun r => W0 (asB r) fun k =>
    Br0 (k = true) (W0 (c z2.2) fun z3 => W0 (deref z2.1 z3.2) fun vb' => W0 (deref z3.1 z3.2) fun vc => W0 (p' vb' vc) fun r' => R (r', z3.2)) (R (.bl false, z2.2)) := by unfold cChain; simp only [oW_bind, oW_if, oW_some]
@[simp] theorem oW_mVal (a : M PV) : W0 (mVal a ρ) RB = W0 (a ρ) fun z => W0 (asB z.1) fun k => RB (k, z.2) := by unfold mVal; simp only [oW_bind, oW_some]
@[simp] theorem oW_mAnd (a b : M Bool) : W0 (mAnd a b ρ) RB = W0 (a ρ) fun z => Br0 (z.1 = true) (W0 (b z.2) RB) (RB (false, z.2)) := by unfold mAnd; simp only [oW_bind, oW_if, oW_some]
@[simp] theorem oW_mOr (a b : M Bool) : W0 (mOr a b ρ) RB = W0 (a ρ) fun z => Br0 (z.1 = true) (RB (true, z.2)) (W0 (b z.2) RB) := by unfold mOr; simp only [oW_bind, oW_if, oW_some]
@[simp] theorem oW_mNot (a : M Bool) : W0 (mNot a ρ) RB = W0 (a ρ) fun z => RB (!z.1, z.2) := by unfold mNot; simp only [oW_bind, oW_some]
@[simp] theorem oW_mTru (a : O) : W0 (mTru a ρ) RB = W0 (a ρ) fun z => W0 (deref z.1 z.2) fun v => W0 (ptru v) fun k => RB (k, z.2) := by unfold mTru; simp only [oW_bind, oW_some]
@[simp] theorem oW_mYes : W0 (mYes ρ) RB = RB (true, ρ) := oW_some ..
@[simp] theorem oW_mNo : W0 (mNo ρ) RI = RI (none, ρ) := oW_some ..
@[simp] theorem oW_mSome (a : M PV) : W0 (mSome a ρ) RI = W0 (a ρ) fun z => W0 (asI z.1) fun i => RI (some i, z.2) := by unfold mSome; simp only [oW_bind, oW_some]
@[simp] theorem oW_oSl (i : Nat) : W0 (oSl i ρ) RO = W0 ((ρ[i]?).bind Slot.get) fun _ => RO (.sl i, ρ) := by unfold oSl; simp only [oW_bind, oW_some]
@[simp] theorem oW_oTm (a : M PV) : W0 (oTm a ρ) RO = W0 (a ρ) fun z => RO (.tm z.1, z.2) := by unfold oTm; simp only [oW_bind, oW_some]
@[simp] theorem oW_oNil : W0 (oNil ρ) RA = RA ([], ρ) := oW_some ..
@[simp] theorem oW_oCons (a : O) (b : M (List Opd)) : W0 (oCons a b ρ) RA = W0 (a ρ) fun z => W0 (b z.2) fun z2 => RA (z.1 :: z2.1, z2.2) := by unfold oCons; simp only [oW_bind, oW_some]
@[simp] theorem oderef_tm (v : PV) : deref (.tm v) ρ = some v := rfl
@[simp] theorem oderef_pk (v : PV) : deref (.pk v) ρ = some v := rfl
@[simp] theorem oderef_sl (i : Nat) : deref (.sl i) ρ = (ρ[i]?).bind Slot.get := rfl
@[simp] theorem oderefs_nil : derefs [] ρ = some [] := rfl
@[simp] theorem oW_derefs (o : Opd) (os : List Opd) : W0 (derefs (o :: os) ρ) RPs = W0 (deref o ρ) fun v => W0 (derefs os ρ) fun vs => RPs (v :: vs) := by rw [derefs]; simp only [oW_bind, oW_some]
@[simp] theorem otmVals_nil : tmVals [] = some [] := rfl
@[simp] theorem oW_tmVals (v : PV) (os : List Opd) : W0 (tmVals (.tm v :: os)) RPs = W0 (tmVals os) fun vs => RPs (v :: vs) := by rw [tmVals]; simp only [oW_bind, oW_some]
@[simp] theorem oget_un : Slot.un.get = none := rfl
@[simp] theorem oget_val (v : PV) : (Slot.val v).get = some v := rfl
@[simp] theorem oget_ref (v : PV) : (Slot.ref v).get = some v := rfl
@[simp] theorem oasB_bl (b : Bool) : asB (.bl b) = some b := rfl
@[simp] theorem oasI_int (b : Int) : asI (.int b) = some b := rfl
def chgK0 (ρ : Rho) (i : Nat) (v : PV) (R : Rho → Prop) : Slot → Prop
  | .val _ => R (ρ.set i (.val v))
  | .ref _ => R (ρ.set i (.ref v))
  | .un => False
@[simp] theorem chgK0_val (i : Nat) (v w : PV) : chgK0 ρ i v RT (.val w) = RT (ρ.set i (.val v)) := rfl
@[simp] theorem chgK0_ref (i : Nat) (v w : PV) : chgK0 ρ i v RT (.ref w) = RT (ρ.set i (.ref v)) := rfl
@[simp] theorem oW_chg (i : Nat) (v : PV) : W0 (chg i v ρ) RT = W0 (ρ[i]?) (chgK0 ρ i v RT) := by
  unfold chg
  rw [oW_bind]
  congr 1
  funext s
  cases s <;> simp [chgK0]
@[simp] theorem oW_cMut (i : Nat) (T : String) (p : PV → List PV → Option (PV × PV)) (a : M (List Opd)) : W0 (cMut i T p a ρ) R = W0 ((ρ[i]?).bind Slot.get) fun ob0 => An0 (kindP ob0 = T) (W0 (a ρ) fun z => W0 (tmVals z.1) fun vs => W0 ((z.2[i]?).bind Slot.get) fun ob => W0 (p ob vs) fun w => An0 (w.2.pure = true) (W0 (chg i w.1 z.2) fun ρ2 => R (w.2, ρ2))) := by
  unfold cMut
  simp only [oW_bind, oW_ifn, oW_some]
@[simp] theorem okindP_lst (xs : List PV) : kindP (.lst true xs) = "list" := rfl
@[simp] theorem okindP_dic (xs : List (Key × PV)) : kindP (.dic true xs) = "dict" := rfl
/-! ### calls -/
def givK0 (os : List Opd) (ρ : Rho) (i : Nat) (R : List Slot × Rho → Prop) : Slot → Prop
  | .un => False
  | .val v => Br0 (v.pure = true) (W0 (giveL os ρ) fun r => R (.val v :: r.1, r.2)) (W0 (giveL os (ρ.set i .un)) fun r => R (.ref v :: r.1, r.2))
  | .ref v => Br0 (v.pure = true) (W0 (giveL os ρ) fun r => R (.val v :: r.1, r.2)) (W0 (giveL os (ρ.set i .un)) fun r => R (.ref v :: r.1, r.2))
variable {RG : List Slot × Rho → Prop}
@[simp] theorem givK0_val (os : List Opd) (i : Nat) (v : PV) : givK0 os ρ i RG (.val v) = Br0 (v.pure = true) (W0 (giveL os ρ) fun r => RG (.val v :: r.1, r.2)) (W0 (giveL os (ρ.set i .un)) fun r => RG (.ref v :: r.1, r.2)) := rfl
@[simp] theorem givK0_ref (os : List Opd) (i : Nat) (v : PV) : givK0 os ρ i RG (.ref v) = Br0 (v.pure = true) (W0 (giveL os ρ) fun r => RG (.val v :: r.1, r.2)) (W0 (giveL os (ρ.set i .un)) fun r => RG (.ref v :: r.1, r.2)) := rfl
@[simp] theorem oW_give_nil : W0 (giveL [] ρ) RG = RG ([], ρ) := oW_some ..
@[simp] theorem oW_give_tm (v : PV) (os : List Opd) : W0 (giveL (.tm v :: os) ρ) RG = W0 (giveL os ρ) fun r => RG (.val v :: r.1, r.2) := by rw [giveL]; simp only [oW_bind, oW_some]
@[simp] theorem oW_give_sl (i : Nat) (os : List Opd) : W0 (giveL (.sl i :: os) ρ) RG = W0 (ρ[i]?) (givK0 os ρ i RG) := by
  rw [giveL, oW_bind]
  congr 1
  funext s
  cases s <;> simp [givK0, oW_if, oW_bind]
def takK0 (os : List Opd) (as ts : List Slot) (ρ0 ρ : Rho) (i : Nat) (v : PV) (R : Rho → Prop) : Slot → Prop
  | .un => False
  | .val _ => W0 (takeL os as ts ρ0 (ρ.set i (.val v))) R
  | .ref _ => W0 (takeL os as ts ρ0 (ρ.set i (.ref v))) R
@[simp] theorem takK0_val (os : List Opd) (as ts : List Slot) (ρ0 : Rho) (i : Nat) (v w : PV) : takK0 os as ts ρ0 ρ i v RT (.val w) = W0 (takeL os as ts ρ0 (ρ.set i (.val v))) RT := rfl
@[simp] theorem takK0_ref (os : List Opd) (as ts : List Slot) (ρ0 : Rho) (i : Nat) (v w : PV) : takK0 os as ts ρ0 ρ i v RT (.ref w) = W0 (takeL os as ts ρ0 (ρ.set i (.ref v))) RT := rfl
@[simp] theorem oW_take_nil (as ts : List Slot) (ρ0 : Rho) : W0 (takeL [] as ts ρ0 ρ) RT = RT ρ := by rw [takeL]; simp
@[simp] theorem oW_take_ref (os : List Opd) (as ts : List Slot) (ρ0 : Rho) (i : Nat) (v w : PV) : W0 (takeL (.sl i :: os) (.ref w :: as) (.ref v :: ts) ρ0 ρ) RT = W0 (ρ0[i]?) (takK0 os as ts ρ0 ρ i v RT) := by
  rw [takeL, oW_bind]
  congr 1
  funext s
  cases s <;> simp [takK0]
@[simp] theorem oW_take_val (o : Opd) (os : List Opd) (as ts : List Slot) (ρ0 : Rho) (w : PV) (t : Slot) : W0 (takeL (o :: os) (.val w :: as) (t :: ts) ρ0 ρ) RT = W0 (takeL os as ts ρ0 ρ) RT := by
  cases o <;> simp [takeL]
@[simp] theorem oW_cFn (F : Fn) (dvs : List PV) (a : M (List Opd)) : W0 (cFn F dvs a ρ) R = W0 (a ρ) fun z => W0 (giveL z.1 z.2) fun g => W0 (F (g.1 ++ dvs.map .val)) fun r => W0 (takeL z.1 g.1 r.2 z.2 g.2) fun ρ2 => R (r.1, ρ2) := by unfold cFn; simp only [oW_bind, oW_some]
/-! ### what is walked -/
@[simp] theorem oW_iVal (a : M PV) : W0 (iVal a ρ) RL = W0 (a ρ) fun z => W0 (itemsOf z.1) fun xs => RL (xs, z.2) := by unfold iVal; simp only [oW_bind, oW_some]
@[simp] theorem oW_iCall (p : List PV → Option (List PV)) (a : M (List Opd)) : W0 (iCall p a ρ) RL = W0 (a ρ) fun z => W0 (derefs z.1 z.2) fun vs => W0 (p vs) fun r => RL (r, z.2) := by unfold iCall; simp only [oW_bind, oW_some]
@[simp] theorem oitemsOf_tup (xs : List PV) : itemsOf (.tup xs) = some xs := rfl
@[simp] theorem oitemsOf_lst (o : Bool) (xs : List PV) : itemsOf (.lst o xs) = some xs := rfl
@[simp] theorem oitemsOf_zls (xs : List PV) : itemsOf (.zls xs) = some xs := rfl
@[simp] theorem oW_sFor (i : M (List PV)) (t : Tg) (b : S) : W0 (sFor i t b ρ) Q = W0 (i ρ) fun z => W0 (forL t b z.1 z.2) Q := by unfold sFor; simp only [oW_bind]
@[simp] theorem oW_cComp (vs : List Nat) (i : M (List PV)) (t : Tg) (c : M Bool) (e : M PV) : W0 (cComp vs i t c e ρ) R = W0 (i ρ) fun z => An0 (pureW vs 0 z.2 = true) (An0 (z.1.length ≤ 16777216) (W0 (compL vs t c e z.1 (mskR vs 0 z.2)) fun r => R (.lst true r.1, bckR vs 0 r.2 z.2))) := by
  unfold cComp
  rw [oW_bind]
  congr 1
  funext z
  rw [oW_ifn, oW_bind]
  simp only [oW_some, Bool.and_eq_true, decide_eq_true_eq]
  unfold An0
  exact propext ⟨fun ⟨⟨a, b⟩, c⟩ => ⟨a, b, c⟩, fun ⟨a, b, c⟩ => ⟨⟨a, b⟩, c⟩⟩
end
section
variable {ρ : Rho} {vs : List Nat} {t : Tg} {c : M Bool} {e : M PV} {b : S}
theorem oW_forCons {R : Out → Prop} (x : PV) (xs : List PV) : W0 (forL t b (x :: xs) ρ) R = An0 (x.pure = true) (W0 (t x ρ) fun ρ1 => W0 (b ρ1) (lopK0 (fun ρ2 => W0 (forL t b xs ρ2) R) R)) := by
  rw [forL, oW_ifn]
  simp only [oW_bind]
  congr 2
  funext ρ1
  congr 1
  funext o
  cases o <;> simp [lopK0]
theorem oW_compCons {R : List PV × Rho → Prop} (x : PV) (xs : List PV) : W0 (compL vs t c e (x :: xs) ρ) R = An0 (x.pure = true) (W0 (t x ρ) fun ρ1 => W0 (c ρ1) fun z => Br0 (z.1 = true) (W0 (e z.2) fun y => W0 (compL vs t c e xs (mskR vs 0 y.2)) fun r => R (y.1 :: r.1, r.2)) (W0 (compL vs t c e xs (mskR vs 0 z.2)) R)) := by
  rw [compL, oW_ifn]
  simp only [oW_bind, oW_if, oW_some]
end
end GX

/-! GX: how the shallow programs run: weakest preconditions by simp. -/
namespace GX
open PySem PySem.Spec PyProof.Rows L2

/-- what comes behind; simp does not look into it -/
class Ct (α : Type) where
  q : α → Prop
class Pr where
  p : Prop
/-- m ends with a value that has Q -/
def W {α : Type} (m : Option α) [Q : Ct α] : Prop := ∃ a, m = some a ∧ Q.q a
@[simp] theorem W_some {α : Type} (a : α) (Q : α → Prop) : W (some a) (Q := ⟨Q⟩) = Q a := propext ⟨fun ⟨_, e, q⟩ => (by cases e; exact q), fun q => ⟨a, rfl, q⟩⟩
@[simp] theorem W_none {α : Type} (Q : α → Prop) : W none (Q := ⟨Q⟩) = False := propext ⟨fun ⟨_, e, _⟩ => (by cases e), False.elim⟩
theorem W_bind {α β : Type} (m : Option α) (f : α → Option β) (Q : β → Prop) : W (m.bind f) (Q := ⟨Q⟩) = W m (Q := ⟨fun a => W (f a) (Q := ⟨Q⟩)⟩) := propext
  ⟨fun ⟨b, e, q⟩ => by obtain ⟨a, e1, e2⟩ := bind_some e; exact ⟨a, e1, b, e2, q⟩, fun ⟨a, e1, b, e2, q⟩ => ⟨b, by rw [e1]; exact e2, q⟩⟩
theorem W.mono {α : Type} {m : Option α} {P Q : α → Prop} (h : W m (Q := ⟨P⟩)) (k : ∀ a, P a → Q a) : W m (Q := ⟨Q⟩) := let ⟨a, e, p⟩ := h; ⟨a, e, k a p⟩
theorem W.ex {α : Type} {m : Option α} {P : α → Prop} (h : W m (Q := ⟨P⟩)) : ∃ a, m = some a ∧ P a := h
theorem W_eq {α : Type} {m : Option α} {a : α} : W m (Q := ⟨fun z => z = a⟩) = (m = some a) := propext ⟨fun ⟨_, e, q⟩ => by rw [e, q], fun e => ⟨a, e, rfl⟩⟩
theorem eq_W {α : Type} {m : Option α} {a : α} (h : W m (Q := ⟨fun z => z = a⟩)) : m = some a := W_eq ▸ h
theorem W_ofEq {α : Type} {m : Option α} {a : α} {Q : α → Prop} (h : m = some a) (q : Q a) : W m (Q := ⟨Q⟩) := ⟨a, h, q⟩
/-- a branch -/
def Br (c : Prop) [x : Pr] [y : Pr] : Prop := (c → x.p) ∧ (¬c → y.p)
@[simp] theorem Br_true (x y : Prop) : Br True (x := ⟨x⟩) (y := ⟨y⟩) = x := propext ⟨fun h => h.1 trivial, fun h => ⟨fun _ => h, fun n => absurd trivial n⟩⟩
@[simp] theorem Br_false (x y : Prop) : Br False (x := ⟨x⟩) (y := ⟨y⟩) = y := propext ⟨fun h => h.2 id, fun h => ⟨False.elim, fun _ => h⟩⟩
theorem Br.mk {c x y : Prop} (h : c → x) (k : ¬c → y) : Br c (x := ⟨x⟩) (y := ⟨y⟩) := ⟨h, k⟩
/-- a side condition -/
def An (c : Prop) [x : Pr] : Prop := c ∧ x.p
@[simp] theorem An_true (x : Prop) : An True (x := ⟨x⟩) = x := propext ⟨fun h => h.2, fun h => ⟨trivial, h⟩⟩
@[simp] theorem An_false (x : Prop) : An False (x := ⟨x⟩) = False := propext ⟨fun h => h.1, fun h => h.elim⟩
theorem An.mk {c x : Prop} (h : c) (k : x) : An c (x := ⟨x⟩) := ⟨h, k⟩
theorem W_if {α : Type} (c : Prop) [Decidable c] (a b : Option α) (Q : α → Prop) : W (if c then a else b) (Q := ⟨Q⟩) = Br c (x := ⟨W a (Q := ⟨Q⟩)⟩) (y := ⟨W b (Q := ⟨Q⟩)⟩) := propext (by
  by_cases h : c
  · simp only [if_pos h]; exact ⟨fun q => ⟨fun _ => q, fun n => absurd h n⟩, fun q => q.1 h⟩
  · simp only [if_neg h]; exact ⟨fun q => ⟨fun n => absurd n h, fun _ => q⟩, fun q => q.2 h⟩)
theorem W_ifn {α : Type} (c : Prop) [Decidable c] (a : Option α) (Q : α → Prop) : W (if c then a else none) (Q := ⟨Q⟩) = An c (x := ⟨W a (Q := ⟨Q⟩)⟩) := propext (by
  by_cases h : c
  · simp only [if_pos h]; exact ⟨fun q => ⟨h, q⟩, fun q => q.2⟩
  · simp only [if_neg h, W_none]; exact ⟨False.elim, fun q => h q.1⟩)
theorem W_guard {α : Type} (c : Prop) [Decidable c] (a : Option α) (Q : α → Prop) : W (guard c a) (Q := ⟨Q⟩) = An c (x := ⟨W a (Q := ⟨Q⟩)⟩) := W_ifn c a Q
@[simp] theorem W_map {α β : Type} (m : Option α) (f : α → β) (Q : β → Prop) : W (m.map f) (Q := ⟨Q⟩) = W m (Q := ⟨fun a => Q (f a)⟩) := by cases m <;> simp
/-- behind a statement -/
def outK (k : Rho → Prop) (Q : Out → Prop) : Out → Prop
  | .nx ρ => k ρ
  | o => Q o
@[simp] theorem outK_nx (k : Rho → Prop) (Q : Out → Prop) (ρ : Rho) : outK k Q (.nx ρ) = k ρ := rfl
@[simp] theorem outK_bk (k : Rho → Prop) (Q : Out → Prop) (ρ : Rho) : outK k Q (.bk ρ) = Q (.bk ρ) := rfl
@[simp] theorem outK_ct (k : Rho → Prop) (Q : Out → Prop) (ρ : Rho) : outK k Q (.ct ρ) = Q (.ct ρ) := rfl
@[simp] theorem outK_rt (k : Rho → Prop) (Q : Out → Prop) (v : PV) (ρ : Rho) : outK k Q (.rt v ρ) = Q (.rt v ρ) := rfl
/-- behind a loop's body -/
def lopK (k : Rho → Prop) (Q : Out → Prop) : Out → Prop
  | .nx ρ => k ρ
  | .ct ρ => k ρ
  | .bk ρ => Q (.nx ρ)
  | .rt v ρ => Q (.rt v ρ)
@[simp] theorem lopK_nx (k : Rho → Prop) (Q : Out → Prop) (ρ : Rho) : lopK k Q (.nx ρ) = k ρ := rfl
@[simp] theorem lopK_ct (k : Rho → Prop) (Q : Out → Prop) (ρ : Rho) : lopK k Q (.ct ρ) = k ρ := rfl
@[simp] theorem lopK_bk (k : Rho → Prop) (Q : Out → Prop) (ρ : Rho) : lopK k Q (.bk ρ) = Q (.nx ρ) := rfl
@[simp] theorem lopK_rt (k : Rho → Prop) (Q : Out → Prop) (v : PV) (ρ : Rho) : lopK k Q (.rt v ρ) = Q (.rt v ρ) := rfl
/-- behind a def's body -/
def fnK (m : Nat) (Q : PV × List Slot → Prop) : Out → Prop
  | .nx ρ => Q (.non, (ρ.take m).map outS)
  | .rt v ρ => Q (v, (ρ.take m).map outS)
  | _ => False
@[simp] theorem fnK_nx (m : Nat) (Q : PV × List Slot → Prop) (ρ : Rho) : fnK m Q (.nx ρ) = Q (.non, (ρ.take m).map outS) := rfl
@[simp] theorem fnK_rt (m : Nat) (Q : PV × List Slot → Prop) (v : PV) (ρ : Rho) : fnK m Q (.rt v ρ) = Q (v, (ρ.take m).map outS) := rfl
@[simp] theorem outS_un : outS .un = .un := rfl
@[simp] theorem outS_val (v : PV) : outS (.val v) = .un := rfl
@[simp] theorem outS_ref (v : PV) : outS (.ref v) = .ref v := rfl
section
variable {ρ : Rho} {f g : S} {Q : Out → Prop} {R : PV × Rho → Prop} {RO : Opd × Rho → Prop} {RA : List Opd × Rho → Prop} {RB : Bool × Rho → Prop} {RI : Option Int × Rho → Prop} {RL : List PV × Rho → Prop} {RT : Rho → Prop} {RP : PV → Prop} {RPs : List PV → Prop}
theorem W_fn (n m : Nat) (b : S) (as : List Slot) : W (fnRun n m b as) (Q := ⟨R⟩) = An (as.length = m) (x := ⟨(W (b (as ++ List.replicate (n - m) .un)) (Q := ⟨(fnK m R)⟩))⟩) := by exact oW_fn ..
@[simp] theorem W_skip : W (sSkip ρ) (Q := ⟨Q⟩) = Q (.nx ρ) := by exact oW_skip ..
@[simp] theorem W_seq : W (sSeq f g ρ) (Q := ⟨Q⟩) = W (f ρ) (Q := ⟨(outK (fun ρ1 => W (g ρ1) (Q := ⟨Q⟩)) Q)⟩) := by exact oW_seq ..
@[simp] theorem W_brk : W (sBrk ρ) (Q := ⟨Q⟩) = Q (.bk ρ) := by exact oW_brk ..
@[simp] theorem W_cnt : W (sCnt ρ) (Q := ⟨Q⟩) = Q (.ct ρ) := by exact oW_cnt ..
@[simp] theorem W_never : W (sNever ρ) (Q := ⟨Q⟩) = False := by exact oW_never ..
@[simp] theorem W_expr (a : M PV) : W (sExpr a ρ) (Q := ⟨Q⟩) = W (a ρ) (Q := ⟨fun z => Q (.nx z.2)⟩) := by exact oW_expr ..
@[simp] theorem W_ret (a : M PV) : W (sRet a ρ) (Q := ⟨Q⟩) = W (a ρ) (Q := ⟨fun z => Q (.rt z.1 z.2)⟩) := by exact oW_ret ..
@[simp] theorem W_sIf (t : M Bool) : W (sIf t f g ρ) (Q := ⟨Q⟩) = W (t ρ) (Q := ⟨fun z => Br (z.1 = true) (x := ⟨(W (f z.2) (Q := ⟨Q⟩))⟩) (y := ⟨(W (g z.2) (Q := ⟨Q⟩))⟩)⟩) := by exact oW_sIf ..
@[simp] theorem W_asg (t : Tg) (a : M PV) : W (sAsg t a ρ) (Q := ⟨Q⟩) = W (a ρ) (Q := ⟨fun z => W (t z.1 z.2) (Q := ⟨fun ρ1 => Q (.nx ρ1)⟩)⟩) := by exact oW_asg ..
/-- two names at once -/
def parK (i j : Nat) (Q : Out → Prop) (ρ : Rho) : List PV → Prop
  | [v, w] => W (putS i v ρ) (Q := ⟨fun ρ1 => W (putS j w ρ1) (Q := ⟨fun ρ2 => Q (.nx ρ2)⟩)⟩)
  | _ => False
@[simp] theorem parK_two (i j : Nat) (v w : PV) : parK i j Q ρ [v, w] = W (putS i v ρ) (Q := ⟨fun ρ1 => W (putS j w ρ1) (Q := ⟨fun ρ2 => Q (.nx ρ2)⟩)⟩) := rfl
@[simp] theorem W_par (i j : Nat) (a : M (List Opd)) : W (sPar i j a ρ) (Q := ⟨Q⟩) = W (a ρ) (Q := ⟨fun z => W (tmVals z.1) (Q := ⟨fun vs => parK i j Q z.2 vs⟩)⟩) := by exact oW_par ..
@[simp] theorem W_aug (i : Nat) (p : PV → PV → Option PV) (a : M PV) : W (sAug i p a ρ) (Q := ⟨Q⟩) = W ((ρ[i]?).bind Slot.get) (Q := ⟨fun v0 => An (v0.pure = true) (x := ⟨(W (a ρ) (Q := ⟨fun z => An (z.1.pure = true) (x := ⟨(W (p v0 z.1) (Q := ⟨fun r => W (putS i r z.2) (Q := ⟨fun ρ2 => Q (.nx ρ2)⟩)⟩))⟩)⟩))⟩)⟩) := by exact oW_aug ..
/-! ### targets -/
@[simp] theorem loc_un : Slot.un.loc = true := rfl
@[simp] theorem loc_val (v : PV) : (Slot.val v).loc = true := rfl
@[simp] theorem W_put (i : Nat) (v : PV) : W (putS i v ρ) (Q := ⟨RT⟩) = W (ρ[i]?) (Q := ⟨fun s => An (s.loc = true) (x := ⟨(RT (ρ.set i (.val v)))⟩)⟩) := by exact oW_put ..
@[simp] theorem W_gNm (i : Nat) (v : PV) : W (gNm i v ρ) (Q := ⟨RT⟩) = W (putS i v ρ) (Q := ⟨RT⟩) := by exact oW_gNm ..
@[simp] theorem gTp_tup (n : Nat) (gs : List PV → Rho → Option Rho) (vs : List PV) : gTp n gs (.tup vs) ρ = if vs.length = n then gs vs ρ else none := rfl
@[simp] theorem W_gsNil : W (gsNil [] ρ) (Q := ⟨RT⟩) = RT ρ := by exact oW_gsNil ..
@[simp] theorem W_gsCons (t : Tg) (ts : List PV → Rho → Option Rho) (v : PV) (vs : List PV) : W (gsCons t ts (v :: vs) ρ) (Q := ⟨RT⟩) = W (t v ρ) (Q := ⟨fun ρ1 => W (ts vs ρ1) (Q := ⟨RT⟩)⟩) := by exact oW_gsCons ..
@[simp] theorem W_gIx (n : Nat) (a : M PV) (v : PV) : W (gIx n a v ρ) (Q := ⟨RT⟩) = W ((ρ[n]?).bind Slot.get) (Q := ⟨fun _ => W (a ρ) (Q := ⟨fun z => An (z.1.pure = true) (x := ⟨(W ((z.2[n]?).bind Slot.get) (Q := ⟨fun ob => W (psetI ob z.1 v) (Q := ⟨fun ob' => W (chg n ob' z.2) (Q := ⟨RT⟩)⟩)⟩))⟩)⟩)⟩) := by exact oW_gIx ..
/-! ### expressions -/
@[simp] theorem W_cBin (p : PV → PV → Option PV) (a b : O) : W (cBin p a b ρ) (Q := ⟨R⟩) = W (a ρ) (Q := ⟨fun z1 => W (b z1.2) (Q := ⟨fun z2 => W (deref z1.1 z2.2) (Q := ⟨fun va => W (deref z2.1 z2.2) (Q := ⟨fun vb => W (p va vb) (Q := ⟨fun r => R (r, z2.2)⟩)⟩)⟩)⟩)⟩) := by exact oW_cBin ..
@[simp] theorem W_cUn (p : PV → Option PV) (a : O) : W (cUn p a ρ) (Q := ⟨R⟩) = W (a ρ) (Q := ⟨fun z1 => W (deref z1.1 z1.2) (Q := ⟨fun va => W (p va) (Q := ⟨fun r => R (r, z1.2)⟩)⟩)⟩) := by exact oW_cUn ..
@[simp] theorem W_cCall (p : List PV → Option PV) (a : M (List Opd)) : W (cCall p a ρ) (Q := ⟨R⟩) = W (a ρ) (Q := ⟨fun z1 => W (derefs z1.1 z1.2) (Q := ⟨fun va => W (p va) (Q := ⟨fun r => R (r, z1.2)⟩)⟩)⟩) := by exact oW_cCall ..
@[simp] theorem W_cC (v : PV) : W (cC v ρ) (Q := ⟨R⟩) = R (v, ρ) := by exact oW_cC ..
/-- a name's value, frozen where it must be -/
def frzK (ρ : Rho) (i : Nat) (R : PV × Rho → Prop) : Slot → Prop
  | .un => False
  | .val v => Br (v.pure = true) (x := ⟨(R (v, ρ))⟩) (y := ⟨(R (v.frz, ρ.set i (.val v.frz)))⟩)
  | .ref v => Br (v.pure = true) (x := ⟨(R (v, ρ))⟩) (y := ⟨(R (v.frz, ρ.set i (.ref v.frz)))⟩)
@[simp] theorem frzK_val (i : Nat) (v : PV) : frzK ρ i R (.val v) = Br (v.pure = true) (x := ⟨(R (v, ρ))⟩) (y := ⟨(R (v.frz, ρ.set i (.val v.frz)))⟩) := rfl
@[simp] theorem frzK_ref (i : Nat) (v : PV) : frzK ρ i R (.ref v) = Br (v.pure = true) (x := ⟨(R (v, ρ))⟩) (y := ⟨(R (v.frz, ρ.set i (.ref v.frz)))⟩) := rfl
@[simp] theorem W_cName (i : Nat) : W (cName i ρ) (Q := ⟨R⟩) = W (ρ[i]?) (Q := ⟨(frzK ρ i R)⟩) := by exact oW_cName ..
@[simp] theorem W_cNameR (i : Nat) : W (cNameR i ρ) (Q := ⟨R⟩) = W ((ρ[i]?).bind Slot.get) (Q := ⟨fun v => An (v.pure = true) (x := ⟨(R (v, ρ))⟩)⟩) := by exact oW_cNameR ..
def movK (ρ : Rho) (i : Nat) (R : PV × Rho → Prop) : Slot → Prop
  | .val v => Br (v.pure = true) (x := ⟨(R (v, ρ))⟩) (y := ⟨(R (v, ρ.set i .un))⟩)
  | _ => False
@[simp] theorem movK_val (i : Nat) (v : PV) : movK ρ i R (.val v) = Br (v.pure = true) (x := ⟨(R (v, ρ))⟩) (y := ⟨(R (v, ρ.set i .un))⟩) := rfl
@[simp] theorem W_cMov (i : Nat) : W (cMov i ρ) (Q := ⟨R⟩) = W (ρ[i]?) (Q := ⟨(movK ρ i R)⟩) := by exact oW_cMov ..
@[simp] theorem W_cTup (a : M (List Opd)) : W (cTup a ρ) (Q := ⟨R⟩) = W (a ρ) (Q := ⟨fun z => W (tmVals z.1) (Q := ⟨fun vs => An (vs.length ≤ 16777216) (x := ⟨(R (.tup vs, z.2))⟩)⟩)⟩) := by exact oW_cTup ..
@[simp] theorem W_cLst (a : M (List Opd)) : W (cLst a ρ) (Q := ⟨R⟩) = W (a ρ) (Q := ⟨fun z => W (tmVals z.1) (Q := ⟨fun vs => An (vs.length ≤ 16777216) (x := ⟨(R (.lst true vs, z.2))⟩)⟩)⟩) := by exact oW_cLst ..
@[simp] theorem W_cSub (a b : O) : W (cSub a b ρ) (Q := ⟨R⟩) = W (a ρ) (Q := ⟨fun z1 => W (b z1.2) (Q := ⟨fun z2 => W (deref z1.1 z2.2) (Q := ⟨fun va => W (deref z2.1 z2.2) (Q := ⟨fun vb => W (pgetI va vb) (Q := ⟨fun c => An (c.pure = true) (x := ⟨(R (c, z2.2))⟩)⟩)⟩)⟩)⟩)⟩) := by exact oW_cSub ..
def pkK (ρ : Rho) (c : PV) (R : Opd × Rho → Prop) : Opd → Prop
  | .tm _ => False
  | _ => R (.pk c, ρ)
@[simp] theorem pkK_sl (i : Nat) (c : PV) : pkK ρ c RO (.sl i) = RO (.pk c, ρ) := rfl
@[simp] theorem pkK_pk (v : PV) (c : PV) : pkK ρ c RO (.pk v) = RO (.pk c, ρ) := rfl
@[simp] theorem W_oSub (a b : O) : W (oSub a b ρ) (Q := ⟨RO⟩) = W (a ρ) (Q := ⟨fun z1 => W (b z1.2) (Q := ⟨fun z2 => W (deref z1.1 z2.2) (Q := ⟨fun va => W (deref z2.1 z2.2) (Q := ⟨fun vb => W (pgetI va vb) (Q := ⟨fun c => Br (c.pure = true) (x := ⟨(RO (.tm c, z2.2))⟩) (y := ⟨(pkK z2.2 c RO z1.1)⟩)⟩)⟩)⟩)⟩)⟩) := by exact oW_oSub ..
@[simp] theorem W_cSubM (a : M PV) (b : O) : W (cSubM a b ρ) (Q := ⟨R⟩) = W (a ρ) (Q := ⟨fun z1 => W (b z1.2) (Q := ⟨fun z2 => W (deref z2.1 z2.2) (Q := ⟨fun vb => W (pgetI z1.1 vb) (Q := ⟨fun c => R (c, z2.2)⟩)⟩)⟩)⟩) := by exact oW_cSubM ..
@[simp] theorem W_cSl (a : O) (lo hi : M (Option Int)) : W (cSl a lo hi ρ) (Q := ⟨R⟩) = W (a ρ) (Q := ⟨fun z1 => W (lo z1.2) (Q := ⟨fun z2 => W (hi z2.2) (Q := ⟨fun z3 => W (deref z1.1 z3.2) (Q := ⟨fun va => W (psl va z2.1 z3.1) (Q := ⟨fun r => R (r, z3.2)⟩)⟩)⟩)⟩)⟩) := by exact oW_cSl ..
@[simp] theorem W_cIf (t : M Bool) (a b : M PV) : W (cIf t a b ρ) (Q := ⟨R⟩) = W (t ρ) (Q := ⟨fun z => Br (z.1 = true) (x := ⟨(W (a z.2) (Q := ⟨R⟩))⟩) (y := ⟨(W (b z.2) (Q := ⟨R⟩))⟩)⟩) := by exact oW_cIf ..
@[simp] theorem W_cAnd (a b : M PV) : W (cAnd a b ρ) (Q := ⟨R⟩) = W (a ρ) (Q := ⟨fun z => W (asB z.1) (Q := ⟨fun k => Br (k = true) (x := ⟨(W (b z.2) (Q := ⟨R⟩))⟩) (y := ⟨(R (.bl false, z.2))⟩)⟩)⟩) := by exact oW_cAnd ..
@[simp] theorem W_cOr (a b : M PV) : W (cOr a b ρ) (Q := ⟨R⟩) = W (a ρ) (Q := ⟨fun z => W (asB z.1) (Q := ⟨fun k => Br (k = true) (x := ⟨(R (.bl true, z.2))⟩) (y := ⟨(W (b z.2) (Q := ⟨R⟩))⟩)⟩)⟩) := by exact oW_cOr ..
@[simp] theorem W_cNot (a : M PV) : W (cNot a ρ) (Q := ⟨R⟩) = W (a ρ) (Q := ⟨fun z => W (asB z.1) (Q := ⟨fun k => R (.bl (!k), z.2)⟩)⟩) := by exact oW_cNot ..
@[simp] theorem W_cChain (p p' : PV → PV → Option PV) (a b c : O) : W (cChain p p' a b c ρ) (Q := ⟨R⟩) = W (a ρ) (Q := ⟨fun z1 => W (b z1.2) (Q := ⟨fun z2 => W (deref z1.1 z2.2) (Q := ⟨fun va => W (deref z2.1 z2.2) (Q := ⟨fun vb => W (p va vb) (Q := ⟨fun r => W (asB r) (Q := ⟨fun k =>
    Br (k = true) (x := ⟨(W (c z2.2) (Q := ⟨fun z3 => W (deref z2.1 z3.2) (Q := ⟨fun vb' => W (deref z3.1 z3.2) (Q := ⟨fun vc => W (p' vb' vc) (Q := ⟨fun r' => R (r', z3.2)⟩)⟩)⟩)⟩))⟩) (y := ⟨(R (.bl false, z2.2))⟩)⟩)⟩)⟩)⟩)⟩)⟩) := by exact oW_cChain ..
@[simp] theorem W_mVal (a : M PV) : W (mVal a ρ) (Q := ⟨RB⟩) = W (a ρ) (Q := ⟨fun z => W (asB z.1) (Q := ⟨fun k => RB (k, z.2)⟩)⟩) := by exact oW_mVal ..
@[simp] theorem W_mAnd (a b : M Bool) : W (mAnd a b ρ) (Q := ⟨RB⟩) = W (a ρ) (Q := ⟨fun z => Br (z.1 = true) (x := ⟨(W (b z.2) (Q := ⟨RB⟩))⟩) (y := ⟨(RB (false, z.2))⟩)⟩) := by exact oW_mAnd ..
@[simp] theorem W_mOr (a b : M Bool) : W (mOr a b ρ) (Q := ⟨RB⟩) = W (a ρ) (Q := ⟨fun z => Br (z.1 = true) (x := ⟨(RB (true, z.2))⟩) (y := ⟨(W (b z.2) (Q := ⟨RB⟩))⟩)⟩) := by exact oW_mOr ..
@[simp] theorem W_mNot (a : M Bool) : W (mNot a ρ) (Q := ⟨RB⟩) = W (a ρ) (Q := ⟨fun z => RB (!z.1, z.2)⟩) := by exact oW_mNot ..
@[simp] theorem W_mTru (a : O) : W (mTru a ρ) (Q := ⟨RB⟩) = W (a ρ) (Q := ⟨fun z => W (deref z.1 z.2) (Q := ⟨fun v => W (ptru v) (Q := ⟨fun k => RB (k, z.2)⟩)⟩)⟩) := by exact oW_mTru ..
@[simp] theorem W_mYes : W (mYes ρ) (Q := ⟨RB⟩) = RB (true, ρ) := by exact oW_mYes ..
@[simp] theorem W_mNo : W (mNo ρ) (Q := ⟨RI⟩) = RI (none, ρ) := by exact oW_mNo ..
@[simp] theorem W_mSome (a : M PV) : W (mSome a ρ) (Q := ⟨RI⟩) = W (a ρ) (Q := ⟨fun z => W (asI z.1) (Q := ⟨fun i => RI (some i, z.2)⟩)⟩) := by exact oW_mSome ..
@[simp] theorem W_oSl (i : Nat) : W (oSl i ρ) (Q := ⟨RO⟩) = W ((ρ[i]?).bind Slot.get) (Q := ⟨fun _ => RO (.sl i, ρ)⟩) := by exact oW_oSl ..
@[simp] theorem W_oTm (a : M PV) : W (oTm a ρ) (Q := ⟨RO⟩) = W (a ρ) (Q := ⟨fun z => RO (.tm z.1, z.2)⟩) := by exact oW_oTm ..
@[simp] theorem W_oNil : W (oNil ρ) (Q := ⟨RA⟩) = RA ([], ρ) := by exact oW_oNil ..
@[simp] theorem W_oCons (a : O) (b : M (List Opd)) : W (oCons a b ρ) (Q := ⟨RA⟩) = W (a ρ) (Q := ⟨fun z => W (b z.2) (Q := ⟨fun z2 => RA (z.1 :: z2.1, z2.2)⟩)⟩) := by exact oW_oCons ..
@[simp] theorem deref_tm (v : PV) : deref (.tm v) ρ = some v := rfl
@[simp] theorem deref_pk (v : PV) : deref (.pk v) ρ = some v := rfl
@[simp] theorem deref_sl (i : Nat) : deref (.sl i) ρ = (ρ[i]?).bind Slot.get := rfl
@[simp] theorem derefs_nil : derefs [] ρ = some [] := rfl
@[simp] theorem W_derefs (o : Opd) (os : List Opd) : W (derefs (o :: os) ρ) (Q := ⟨RPs⟩) = W (deref o ρ) (Q := ⟨fun v => W (derefs os ρ) (Q := ⟨fun vs => RPs (v :: vs)⟩)⟩) := by exact oW_derefs ..
@[simp] theorem tmVals_nil : tmVals [] = some [] := rfl
@[simp] theorem W_tmVals (v : PV) (os : List Opd) : W (tmVals (.tm v :: os)) (Q := ⟨RPs⟩) = W (tmVals os) (Q := ⟨fun vs => RPs (v :: vs)⟩) := by exact oW_tmVals ..
@[simp] theorem get_un : Slot.un.get = none := rfl
@[simp] theorem get_val (v : PV) : (Slot.val v).get = some v := rfl
@[simp] theorem get_ref (v : PV) : (Slot.ref v).get = some v := rfl
@[simp] theorem asB_bl (b : Bool) : asB (.bl b) = some b := rfl
@[simp] theorem asI_int (b : Int) : asI (.int b) = some b := rfl
def chgK (ρ : Rho) (i : Nat) (v : PV) (R : Rho → Prop) : Slot → Prop
  | .val _ => R (ρ.set i (.val v))
  | .ref _ => R (ρ.set i (.ref v))
  | .un => False
@[simp] theorem chgK_val (i : Nat) (v w : PV) : chgK ρ i v RT (.val w) = RT (ρ.set i (.val v)) := rfl
@[simp] theorem chgK_ref (i : Nat) (v w : PV) : chgK ρ i v RT (.ref w) = RT (ρ.set i (.ref v)) := rfl
@[simp] theorem W_chg (i : Nat) (v : PV) : W (chg i v ρ) (Q := ⟨RT⟩) = W (ρ[i]?) (Q := ⟨(chgK ρ i v RT)⟩) := by exact oW_chg ..
@[simp] theorem W_cMut (i : Nat) (T : String) (p : PV → List PV → Option (PV × PV)) (a : M (List Opd)) : W (cMut i T p a ρ) (Q := ⟨R⟩) = W ((ρ[i]?).bind Slot.get) (Q := ⟨fun ob0 => An (kindP ob0 = T) (x := ⟨(W (a ρ) (Q := ⟨fun z => W (tmVals z.1) (Q := ⟨fun vs => W ((z.2[i]?).bind Slot.get) (Q := ⟨fun ob => W (p ob vs) (Q := ⟨fun w => An (w.2.pure = true) (x := ⟨(W (chg i w.1 z.2) (Q := ⟨fun ρ2 => R (w.2, ρ2)⟩))⟩)⟩)⟩)⟩)⟩))⟩)⟩) := by exact oW_cMut ..
@[simp] theorem kindP_lst (xs : List PV) : kindP (.lst true xs) = "list" := rfl
@[simp] theorem kindP_dic (xs : List (Key × PV)) : kindP (.dic true xs) = "dict" := rfl
/-! ### calls -/
def givK (os : List Opd) (ρ : Rho) (i : Nat) (R : List Slot × Rho → Prop) : Slot → Prop
  | .un => False
  | .val v => Br (v.pure = true) (x := ⟨(W (giveL os ρ) (Q := ⟨fun r => R (.val v :: r.1, r.2)⟩))⟩) (y := ⟨(W (giveL os (ρ.set i .un)) (Q := ⟨fun r => R (.ref v :: r.1, r.2)⟩))⟩)
  | .ref v => Br (v.pure = true) (x := ⟨(W (giveL os ρ) (Q := ⟨fun r => R (.val v :: r.1, r.2)⟩))⟩) (y := ⟨(W (giveL os (ρ.set i .un)) (Q := ⟨fun r => R (.ref v :: r.1, r.2)⟩))⟩)
variable {RG : List Slot × Rho → Prop}
@[simp] theorem givK_val (os : List Opd) (i : Nat) (v : PV) : givK os ρ i RG (.val v) = Br (v.pure = true) (x := ⟨(W (giveL os ρ) (Q := ⟨fun r => RG (.val v :: r.1, r.2)⟩))⟩) (y := ⟨(W (giveL os (ρ.set i .un)) (Q := ⟨fun r => RG (.ref v :: r.1, r.2)⟩))⟩) := rfl
@[simp] theorem givK_ref (os : List Opd) (i : Nat) (v : PV) : givK os ρ i RG (.ref v) = Br (v.pure = true) (x := ⟨(W (giveL os ρ) (Q := ⟨fun r => RG (.val v :: r.1, r.2)⟩))⟩) (y := ⟨(W (giveL os (ρ.set i .un)) (Q := ⟨fun r => RG (.ref v :: r.1, r.2)⟩))⟩) := rfl
@[simp] theorem W_give_nil : W (giveL [] ρ) (Q := ⟨RG⟩) = RG ([], ρ) := by exact oW_give_nil ..
@[simp] theorem W_give_tm (v : PV) (os : List Opd) : W (giveL (.tm v :: os) ρ) (Q := ⟨RG⟩) = W (giveL os ρ) (Q := ⟨fun r => RG (.val v :: r.1, r.2)⟩) := by exact oW_give_tm ..
@[simp] theorem W_give_sl (i : Nat) (os : List Opd) : W (giveL (.sl i :: os) ρ) (Q := ⟨RG⟩) = W (ρ[i]?) (Q := ⟨(givK os ρ i RG)⟩) := by exact oW_give_sl ..
def takK (os : List Opd) (as ts : List Slot) (ρ0 ρ : Rho) (i : Nat) (v : PV) (R : Rho → Prop) : Slot → Prop
  | .un => False
  | .val _ => W (takeL os as ts ρ0 (ρ.set i (.val v))) (Q := ⟨R⟩)
  | .ref _ => W (takeL os as ts ρ0 (ρ.set i (.ref v))) (Q := ⟨R⟩)
@[simp] theorem takK_val (os : List Opd) (as ts : List Slot) (ρ0 : Rho) (i : Nat) (v w : PV) : takK os as ts ρ0 ρ i v RT (.val w) = W (takeL os as ts ρ0 (ρ.set i (.val v))) (Q := ⟨RT⟩) := rfl
@[simp] theorem takK_ref (os : List Opd) (as ts : List Slot) (ρ0 : Rho) (i : Nat) (v w : PV) : takK os as ts ρ0 ρ i v RT (.ref w) = W (takeL os as ts ρ0 (ρ.set i (.ref v))) (Q := ⟨RT⟩) := rfl
@[simp] theorem W_take_nil (as ts : List Slot) (ρ0 : Rho) : W (takeL [] as ts ρ0 ρ) (Q := ⟨RT⟩) = RT ρ := by exact oW_take_nil ..
@[simp] theorem W_take_ref (os : List Opd) (as ts : List Slot) (ρ0 : Rho) (i : Nat) (v w : PV) : W (takeL (.sl i :: os) (.ref w :: as) (.ref v :: ts) ρ0 ρ) (Q := ⟨RT⟩) = W (ρ0[i]?) (Q := ⟨(takK os as ts ρ0 ρ i v RT)⟩) := by exact oW_take_ref ..
@[simp] theorem W_take_val (o : Opd) (os : List Opd) (as ts : List Slot) (ρ0 : Rho) (w : PV) (t : Slot) : W (takeL (o :: os) (.val w :: as) (t :: ts) ρ0 ρ) (Q := ⟨RT⟩) = W (takeL os as ts ρ0 ρ) (Q := ⟨RT⟩) := by exact oW_take_val ..
@[simp] theorem W_cFn (F : Fn) (dvs : List PV) (a : M (List Opd)) : W (cFn F dvs a ρ) (Q := ⟨R⟩) = W (a ρ) (Q := ⟨fun z => W (giveL z.1 z.2) (Q := ⟨fun g => W (F (g.1 ++ dvs.map .val)) (Q := ⟨fun r => W (takeL z.1 g.1 r.2 z.2 g.2) (Q := ⟨fun ρ2 => R (r.1, ρ2)⟩)⟩)⟩)⟩) := by exact oW_cFn ..
/-! ### what is walked -/
@[simp] theorem W_iVal (a : M PV) : W (iVal a ρ) (Q := ⟨RL⟩) = W (a ρ) (Q := ⟨fun z => W (itemsOf z.1) (Q := ⟨fun xs => RL (xs, z.2)⟩)⟩) := by exact oW_iVal ..
@[simp] theorem W_iCall (p : List PV → Option (List PV)) (a : M (List Opd)) : W (iCall p a ρ) (Q := ⟨RL⟩) = W (a ρ) (Q := ⟨fun z => W (derefs z.1 z.2) (Q := ⟨fun vs => W (p vs) (Q := ⟨fun r => RL (r, z.2)⟩)⟩)⟩) := by exact oW_iCall ..
@[simp] theorem itemsOf_tup (xs : List PV) : itemsOf (.tup xs) = some xs := rfl
@[simp] theorem itemsOf_lst (o : Bool) (xs : List PV) : itemsOf (.lst o xs) = some xs := rfl
@[simp] theorem itemsOf_zls (xs : List PV) : itemsOf (.zls xs) = some xs := rfl
@[simp] theorem W_sFor (i : M (List PV)) (t : Tg) (b : S) : W (sFor i t b ρ) (Q := ⟨Q⟩) = W (i ρ) (Q := ⟨fun z => W (forL t b z.1 z.2) (Q := ⟨Q⟩)⟩) := by exact oW_sFor ..
@[simp] theorem W_cComp (vs : List Nat) (i : M (List PV)) (t : Tg) (c : M Bool) (e : M PV) : W (cComp vs i t c e ρ) (Q := ⟨R⟩) = W (i ρ) (Q := ⟨fun z => An (pureW vs 0 z.2 = true) (x := ⟨(An (z.1.length ≤ 16777216) (x := ⟨(W (compL vs t c e z.1 (mskR vs 0 z.2)) (Q := ⟨fun r => R (.lst true r.1, bckR vs 0 r.2 z.2)⟩))⟩))⟩)⟩) := by exact oW_cComp ..
end
/-- lo, lo+1, .. hi-1 -/
def irng (lo hi : Int) : List Int := (List.range (hi - lo).toNat).map fun k : Nat => lo + (k : Int)
theorem irng_mem {lo hi x : Int} : x ∈ irng lo hi ↔ lo ≤ x ∧ x < hi := by
  simp only [irng, List.mem_map, List.mem_range]
  exact ⟨fun ⟨k, h, e⟩ => by omega, fun h => ⟨(x - lo).toNat, by omega, by omega⟩⟩
@[simp] theorem irng_length (lo hi : Int) : (irng lo hi).length = (hi - lo).toNat := by simp [irng]
theorem irng_nil {lo hi : Int} (h : hi ≤ lo) : irng lo hi = [] := by
  have : (hi - lo).toNat = 0 := by omega
  simp [irng, this]
theorem irng_cons {lo hi : Int} (h : lo < hi) : irng lo hi = lo :: irng (lo + 1) hi := by
  have e : (hi - lo).toNat = (hi - (lo + 1)).toNat + 1 := by omega
  simp only [irng, e, List.range_succ_eq_map, List.map_cons, List.map_map]
  congr 1
  · omega
  · refine List.map_congr_left fun k _ => ?_
    simp only [Function.comp, Nat.succ_eq_add_one]
    omega
theorem irng_snoc {lo hi : Int} (h : lo ≤ hi) : irng lo (hi + 1) = irng lo hi ++ [hi] := by
  have e : (hi + 1 - lo).toNat = (hi - lo).toNat + 1 := by omega
  simp only [irng, e, List.range_succ, List.map_append, List.map_cons, List.map_nil]
  congr 2
  omega
theorem irng_app {lo mid hi : Int} (h : lo ≤ mid) (k : mid ≤ hi) : irng lo hi = irng lo mid ++ irng mid hi := by
  obtain ⟨n, hn⟩ : ∃ n : Nat, (hi - mid).toNat = n := ⟨_, rfl⟩
  induction n generalizing hi with
  | zero =>
    have : hi = mid := by omega
    subst this
    rw [irng_nil (Int.le_refl _), List.append_nil]
  | succ n ih =>
    have e : hi = (hi - 1) + 1 := by omega
    rw [e, irng_snoc (by omega), irng_snoc (by omega), ih (hi := hi - 1) (by omega) (by omega), List.append_assoc]
theorem rangeL_irng : ∀ (n : Nat) (lo : Int), rangeL lo n = (irng lo (lo + n)).map PV.int
  | 0, lo => by rw [irng_nil (by omega)]; rfl
  | n + 1, lo => by
    rw [rangeL, rangeL_irng n, irng_cons (lo := lo) (hi := lo + ((n + 1 : Nat) : Int)) (by omega), List.map_cons]
    have : lo + 1 + (n : Int) = lo + ((n + 1 : Nat) : Int) := by omega
    rw [this]
theorem irng_toNat {lo hi : Int} : irng lo (lo + (hi - lo).toNat) = irng lo hi := by
  by_cases h : lo ≤ hi
  · have : lo + ((hi - lo).toNat : Int) = hi := by omega
    rw [this]
  · rw [irng_nil (by omega), irng_nil (by omega)]
@[simp] theorem rng1_int (j : Int) : rng1 [.int j] = if smallI j = true then some ((irng 0 j).map PV.int) else none := by
  show (if smallI j = true then some (rangeL 0 j.toNat) else none) = _
  rw [rangeL_irng]
  have := irng_toNat (lo := 0) (hi := j)
  rw [Int.sub_zero] at this
  rw [this]
@[simp] theorem rng2_int (i j : Int) : rng2 [.int i, .int j] = if (smallI i && smallI j) = true then some ((irng i j).map PV.int) else none := by
  show (if (smallI i && smallI j) = true then some (rangeL i (j - i).toNat) else none) = _
  rw [rangeL_irng, irng_toNat]
theorem smallI_of {j : Int} (h : -4611686018427387904 ≤ j) (k : j < 4611686018427387904) : smallI j = true := by simp [smallI, h, k]
@[simp] theorem W_if_ {α : Type} (c : Prop) [Decidable c] (a b : Option α) (Q : α → Prop) : W (if c then a else b) (Q := ⟨Q⟩) = Br c (x := ⟨W a (Q := ⟨Q⟩)⟩) (y := ⟨W b (Q := ⟨Q⟩)⟩) := W_if c a b Q
@[simp] theorem W_guard_ {α : Type} (c : Prop) [Decidable c] (a : Option α) (Q : α → Prop) : W (guard c a) (Q := ⟨Q⟩) = An c (x := ⟨W a (Q := ⟨Q⟩)⟩) := W_guard c a Q
@[simp] theorem W_bind_ {α β : Type} (m : Option α) (f : α → Option β) (Q : β → Prop) : W (m.bind f) (Q := ⟨Q⟩) = W m (Q := ⟨fun a => W (f a) (Q := ⟨Q⟩)⟩) := W_bind m f Q
/-! ### rules of loops -/
section
variable {α β : Type} {ρ : Rho} {Q : Out → Prop} {vs : List Nat} {t : Tg} {c : M Bool} {e : M PV} {enc : α → PV} {b : S}
/-! over a list that is written out -/
theorem W_forNil {R : Out → Prop} : W (forL t b [] ρ) (Q := ⟨R⟩) = R (.nx ρ) := W_some ..
theorem W_forCons {R : Out → Prop} (x : PV) (xs : List PV) : W (forL t b (x :: xs) ρ) (Q := ⟨R⟩) = An (x.pure = true) (x := ⟨W (t x ρ) (Q := ⟨fun ρ1 => W (b ρ1) (Q := ⟨lopK (fun ρ2 => W (forL t b xs ρ2) (Q := ⟨R⟩)) R⟩)⟩)⟩) := by exact oW_forCons ..
theorem W_compNil {R : List PV × Rho → Prop} : W (compL vs t c e [] ρ) (Q := ⟨R⟩) = R ([], ρ) := W_some ..
theorem W_compCons {R : List PV × Rho → Prop} (x : PV) (xs : List PV) : W (compL vs t c e (x :: xs) ρ) (Q := ⟨R⟩) = An (x.pure = true) (x := ⟨W (t x ρ) (Q := ⟨fun ρ1 => W (c ρ1) (Q := ⟨fun z => Br (z.1 = true) (x := ⟨W (e z.2) (Q := ⟨fun y => W (compL vs t c e xs (mskR vs 0 y.2)) (Q := ⟨fun r => R (y.1 :: r.1, r.2)⟩)⟩)⟩) (y := ⟨W (compL vs t c e xs (mskR vs 0 z.2)) (Q := ⟨R⟩)⟩)⟩)⟩)⟩) := by exact oW_compCons ..
/-- a comprehension that leaves the names as they are -/
theorem W_compL (f : α → Option PV) {xs : List α} {R : List PV × Rho → Prop}
    (h : ∀ x ∈ xs, (enc x).pure = true ∧ W (t (enc x) ρ) (Q := ⟨fun ρ1 => W (c ρ1) (Q := ⟨fun z => Br (z.1 = true) (x := ⟨(W (e z.2) (Q := ⟨fun y => f x = some y.1 ∧ mskR vs 0 y.2 = ρ⟩))⟩) (y := ⟨(f x = none ∧ mskR vs 0 z.2 = ρ)⟩)⟩)⟩))
    (k : R (xs.filterMap f, ρ)) : W (compL vs t c e (xs.map enc) ρ) (Q := ⟨R⟩) := by
  refine W_ofEq ?_ k
  clear k
  induction xs with
  | nil => rfl
  | cons x xs ih =>
    obtain ⟨hp, ρ1, h1, z, h2, h3⟩ := h x (List.mem_cons_self ..)
    have ih := ih fun y hy => h y (List.mem_cons_of_mem _ hy)
    rw [List.map_cons, compL, if_pos hp, h1]
    simp only [Option.bind_some]
    rw [h2]
    simp only [Option.bind_some]
    by_cases hb : z.1 = true
    · obtain ⟨y, h4, h5, h6⟩ := h3.1 hb
      rw [if_pos hb, h4]
      simp only [Option.bind_some]
      rw [h6, ih, List.filterMap_cons, h5]
      rfl
    · obtain ⟨h5, h6⟩ := h3.2 hb
      rw [if_neg hb, h6, ih, List.filterMap_cons, h5]
/-- .. without a condition -/
theorem W_compM (f : α → PV) {xs : List α} {R : List PV × Rho → Prop}
    (h : ∀ x ∈ xs, (enc x).pure = true ∧ W (t (enc x) ρ) (Q := ⟨fun ρ1 => W (c ρ1) (Q := ⟨fun z => An (z.1 = true) (x := ⟨(W (e z.2) (Q := ⟨fun y => y.1 = f x ∧ mskR vs 0 y.2 = ρ⟩))⟩)⟩)⟩))
    (k : R (xs.map f, ρ)) : W (compL vs t c e (xs.map enc) ρ) (Q := ⟨R⟩) := by
  refine W_compL (fun x => some (f x)) (fun x hx => ?_) (by rw [List.filterMap_eq_map' (f := f)]; exact k)
  obtain ⟨hp, ρ1, h1, z, h2, h3, y, h4, h5, h6⟩ := h x hx
  exact ⟨hp, ρ1, h1, z, h2, fun _ => ⟨y, h4, by rw [h5], h6⟩, fun n => absurd h3 n⟩
/-- .. with one -/
theorem W_compB (p : α → Bool) (f : α → PV) {xs : List α} {R : List PV × Rho → Prop}
    (h : ∀ x ∈ xs, (enc x).pure = true ∧ W (t (enc x) ρ) (Q := ⟨fun ρ1 => W (c ρ1) (Q := ⟨fun z => Br (z.1 = true) (x := ⟨(W (e z.2) (Q := ⟨fun y => p x = true ∧ y.1 = f x ∧ mskR vs 0 y.2 = ρ⟩))⟩) (y := ⟨(p x = false ∧ mskR vs 0 z.2 = ρ)⟩)⟩)⟩))
    (k : R ((xs.filter p).map f, ρ)) : W (compL vs t c e (xs.map enc) ρ) (Q := ⟨R⟩) := by
  refine W_compL (fun x => if p x = true then some (f x) else none) (fun x hx => ?_) ?_
  · obtain ⟨hp, ρ1, h1, z, h2, h3⟩ := h x hx
    refine ⟨hp, ρ1, h1, z, h2, fun hz => ?_, fun hz => ?_⟩
    · obtain ⟨y, h4, h5, h6, h7⟩ := h3.1 hz
      exact ⟨y, h4, by rw [if_pos h5, h6], h7⟩
    · obtain ⟨h4, h5⟩ := h3.2 hz
      exact ⟨by rw [if_neg (by simp [h4])], h5⟩
  · have e : xs.filterMap (fun x => if p x = true then some (f x) else none) = (xs.filter p).map f := by
      clear h k
      induction xs with
      | nil => rfl
      | cons x xs ih =>
        rw [List.filterMap_cons, List.filter_cons]
        by_cases hp : p x = true
        · rw [if_pos hp, if_pos hp, List.map_cons, ih]
        · rw [if_neg hp, if_neg hp, ih]
    rw [e]
    exact k
/-- .. under an invariant: done, what was made of it, the names -/
theorem W_compI (J : List α → List PV → Rho → Prop) {xs : List α} {R : List PV × Rho → Prop} (h0 : J [] [] ρ)
    (h : ∀ p x q ys ρ, xs = p ++ x :: q → J p ys ρ → (enc x).pure = true ∧ W (t (enc x) ρ) (Q := ⟨fun ρ1 => W (c ρ1) (Q := ⟨fun z => Br (z.1 = true) (x := ⟨(W (e z.2) (Q := ⟨fun y => J (p ++ [x]) (ys ++ [y.1]) (mskR vs 0 y.2)⟩))⟩) (y := ⟨(J (p ++ [x]) ys (mskR vs 0 z.2))⟩)⟩)⟩))
    (k : ∀ ys ρ, J xs ys ρ → R (ys, ρ)) : W (compL vs t c e (xs.map enc) ρ) (Q := ⟨R⟩) := by
  have key : ∀ (q p : List α) (ys : List PV) (ρ : Rho), xs = p ++ q → J p ys ρ → ∃ zs ρ', compL vs t c e (q.map enc) ρ = some (zs, ρ') ∧ J xs (ys ++ zs) ρ' := by
    intro q
    induction q with
    | nil => intro p ys ρ e j; exact ⟨[], ρ, rfl, by rw [List.append_nil]; rw [List.append_nil] at e; rw [e]; exact j⟩
    | cons x q ih =>
      intro p ys ρ ex j
      obtain ⟨hp, ρ1, h1, z, h2, h3⟩ := h p x q ys ρ ex j
      have ex' : xs = (p ++ [x]) ++ q := by rw [ex]; simp
      by_cases hb : z.1 = true
      · obtain ⟨y, h4, h5⟩ := h3.1 hb
        obtain ⟨zs, ρ', i1, i2⟩ := ih _ _ _ ex' h5
        refine ⟨y.1 :: zs, ρ', ?_, by simpa using i2⟩
        rw [List.map_cons, compL, if_pos hp, h1]
        simp only [Option.bind_some]
        rw [h2]
        simp only [Option.bind_some]
        rw [if_pos hb, h4]
        simp only [Option.bind_some]
        rw [i1]
        rfl
      · obtain ⟨zs, ρ', i1, i2⟩ := ih _ _ _ ex' (h3.2 hb)
        refine ⟨zs, ρ', ?_, i2⟩
        rw [List.map_cons, compL, if_pos hp, h1]
        simp only [Option.bind_some]
        rw [h2]
        simp only [Option.bind_some]
        rw [if_neg hb, i1]
  obtain ⟨zs, ρ', e1, j⟩ := key xs [] [] ρ rfl h0
  exact W_ofEq e1 (k _ _ (by simpa using j))
/-- a for, by what is done and what is left -/
theorem W_forL (J : List α → List α → Rho → Prop) {xs : List α} (h0 : J [] xs ρ)
    (h : ∀ p x q ρ, xs = p ++ x :: q → J p (x :: q) ρ → (enc x).pure = true ∧ W (t (enc x) ρ) (Q := ⟨fun ρ1 => W (b ρ1) (Q := ⟨(lopK (J (p ++ [x]) q) Q)⟩)⟩))
    (k : ∀ ρ, J xs [] ρ → Q (.nx ρ)) : W (forL t b (xs.map enc) ρ) (Q := ⟨Q⟩) := by
  have key : ∀ (q p : List α) (ρ : Rho), xs = p ++ q → J p q ρ → W (forL t b (q.map enc) ρ) (Q := ⟨Q⟩) := by
    intro q
    induction q with
    | nil => intro p ρ e j; rw [List.append_nil] at e; subst e; exact W_ofEq rfl (k ρ j)
    | cons x q ih =>
      intro p ρ ex j
      obtain ⟨hp, ρ1, h1, o, h2, h3⟩ := h p x q ρ ex j
      have ex' : xs = (p ++ [x]) ++ q := by rw [ex]; simp
      rw [List.map_cons, forL, if_pos hp, h1]
      simp only [Option.bind_some]
      rw [h2]
      simp only [Option.bind_some]
      cases o with
      | nx ρ2 => exact ih _ _ ex' h3
      | ct ρ2 => exact ih _ _ ex' h3
      | bk ρ2 => exact W_ofEq rfl h3
      | rt v ρ2 => exact W_ofEq rfl h3
  exact key xs [] ρ rfl h0
/-- .. that folds a state -/
theorem W_forF {σ : Type} (r : σ → Slot → Rho) (f : σ → α → σ) {s0 : σ} {y0 : Slot} {xs : List α} (hy : y0.loc = true) (h0 : ρ = r s0 y0)
    (h : ∀ p x q y, xs = p ++ x :: q → y.loc = true → (enc x).pure = true ∧ W (t (enc x) (r (p.foldl f s0) y)) (Q := ⟨fun ρ1 => W (b ρ1) (Q := ⟨(lopK (fun ρ2 => ∃ y', y'.loc = true ∧ ρ2 = r (f (p.foldl f s0) x) y') Q)⟩)⟩))
    (k : ∀ y, y.loc = true → Q (.nx (r (xs.foldl f s0) y))) : W (forL t b (xs.map enc) ρ) (Q := ⟨Q⟩) := by
  refine W_forL (fun p q ρ => ∃ y, y.loc = true ∧ ρ = r (p.foldl f s0) y) ⟨y0, hy, h0⟩ (fun p x q ρ e ⟨y, hy, hj⟩ => ?_) fun ρ ⟨y, hy, e⟩ => e ▸ k y hy
  subst hj
  have e2 : (p ++ [x]).foldl f s0 = f (p.foldl f s0) x := by simp
  rw [e2]
  exact h p x q y e hy
/-- a while, by a state -/
theorem W_while {σ : Type} {t : M Bool} (r : σ → Rho) (I : σ → Prop) (μ : σ → Nat) (s0 : σ) (h0 : ρ = r s0) (i0 : I s0)
    (h : ∀ s, I s → W (t (r s)) (Q := ⟨fun z => Br (z.1 = true) (x := ⟨(W (b z.2) (Q := ⟨(lopK (fun ρ' => ∃ s', ρ' = r s' ∧ I s' ∧ μ s' < μ s) Q)⟩))⟩) (y := ⟨(Q (.nx z.2))⟩)⟩)) : W (sWhile t b ρ) (Q := ⟨Q⟩) := by
  have key : ∀ (n : Nat) (s : σ), μ s < n → I s → W (sWhile t b (r s)) (Q := ⟨Q⟩) := by
    intro n
    induction n with
    | zero => intro s h; omega
    | succ n ih =>
      intro s hn i
      obtain ⟨z, h1, h2⟩ := h s i
      obtain ⟨zb, ρ1⟩ := z
      cases zb with
      | false => exact W_ofEq (while_end h1) (h2.2 (by simp))
      | true =>
        obtain ⟨o, h3, h4⟩ := h2.1 rfl
        cases o with
        | nx ρ2 =>
          obtain ⟨s', rfl, i', m⟩ := h4
          obtain ⟨o', g1, g2⟩ := ih s' (by omega) i'
          exact W_ofEq (while_turn h1 (by rw [h3]; exact g1)) g2
        | ct ρ2 =>
          obtain ⟨s', rfl, i', m⟩ := h4
          obtain ⟨o', g1, g2⟩ := ih s' (by omega) i'
          exact W_ofEq (while_turn h1 (by rw [h3]; exact g1)) g2
        | bk ρ2 => exact W_ofEq (while_turn h1 (by rw [h3]; rfl)) h4
        | rt v ρ2 => exact W_ofEq (while_turn h1 (by rw [h3]; rfl)) h4
  subst h0
  exact key (μ s0 + 1) s0 (by omega) i0
end
end GX

/-! GX: values: simp lemmas. -/
namespace GX
open PySem PySem.Spec PyProof.Rows L2

theorem pures_map {α : Type} {f : α → PV} (h : ∀ x, (f x).pure = true) : ∀ xs : List α, PV.pures (xs.map f) = true
  | [] => rfl
  | x :: xs => by rw [List.map_cons, PV.pures, h, pures_map h xs] <;> rfl
@[simp] theorem pures_map_iff {α : Type} {f : α → PV} : ∀ {xs : List α}, PV.pures (xs.map f) = true ↔ ∀ x ∈ xs, (f x).pure = true
  | [] => by simp [PV.pures]
  | x :: xs => by rw [List.map_cons, PV.pures, Bool.and_eq_true, pures_map_iff]; simp
@[simp] theorem PVpure_tup (xs : List PV) : (PV.tup xs).pure = PV.pures xs := by rw [PV.pure]
@[simp] theorem PVpure_int (i : Int) : (PV.int i).pure = true := rfl
@[simp] theorem PVpure_bl (i : Bool) : (PV.bl i).pure = true := rfl
@[simp] theorem PVpure_str (i : Str) : (PV.str i).pure = true := rfl
@[simp] theorem PVpure_ty (i : String) : (PV.ty i).pure = true := rfl
@[simp] theorem PVpure_non : PV.non.pure = true := rfl
@[simp] theorem PVpure_zls (xs : List PV) : (PV.zls xs).pure = true := by rw [PV.pure] <;> simp
@[simp] theorem PVpure_lst (o : Bool) (xs : List PV) : (PV.lst o xs).pure = !o := by rw [PV.pure]
@[simp] theorem PVpures_nil : PV.pures [] = true := rfl
@[simp] theorem PVpures_cons (x : PV) (xs : List PV) : PV.pures (x :: xs) = (x.pure && PV.pures xs) := by rw [PV.pures]
@[simp] theorem PVpures_append : ∀ (xs ys : List PV), PV.pures (xs ++ ys) = (PV.pures xs && PV.pures ys)
  | [], ys => by simp
  | x :: xs, ys => by simp [PVpures_append xs ys, Bool.and_assoc]
@[simp] theorem frzDs_map {α : Type} {f : α → PV} (xs : List α) : PV.frzDs (xs.map f) = xs.map fun x => (f x).frzD := by rw [frzDs_eq, List.map_map]; rfl
@[simp] theorem frzDs_nil : PV.frzDs [] = [] := rfl
@[simp] theorem frzDs_cons (x : PV) (xs : List PV) : PV.frzDs (x :: xs) = x.frzD :: PV.frzDs xs := by rw [PV.frzDs]
@[simp] theorem frzD_int (i : Int) : (PV.int i).frzD = .int i := rfl
@[simp] theorem frzD_bl (i : Bool) : (PV.bl i).frzD = .bl i := rfl
@[simp] theorem frzD_str (i : Str) : (PV.str i).frzD = .str i := rfl
@[simp] theorem frzD_non : PV.non.frzD = .non := rfl
@[simp] theorem frzD_tup (xs : List PV) : (PV.tup xs).frzD = .tup (PV.frzDs xs) := by rw [PV.frzD]
@[simp] theorem frzD_lst (xs : List PV) : (PV.lst true xs).frzD = .lst false (PV.frzDs xs) := by rw [PV.frzD]
@[simp] theorem frzD_lstF (xs : List PV) : (PV.lst false xs).frzD = .lst false xs := by rw [PV.frzD] <;> simp
@[simp] theorem frz_lst (xs : List PV) : (PV.lst true xs).frz = .lst false (PV.frzDs xs) := by unfold PV.frz; simp
/-- a tree without lists that are owned -/
theorem frzD_pure : ∀ {x : PV}, x.pure = true → x.frz = x := fun {x} h => by unfold PV.frz; rw [if_pos h]
/-! numbers -/
@[simp] theorem padd_int (i j : Int) : padd (.int i) (.int j) = some (.int (i + j)) := rfl
@[simp] theorem psub_int (i j : Int) : psub (.int i) (.int j) = some (.int (i - j)) := rfl
@[simp] theorem piadd_int (i j : Int) : piadd (.int i) (.int j) = some (.int (i + j)) := rfl
@[simp] theorem pisub_int (i j : Int) : pisub (.int i) (.int j) = some (.int (i - j)) := rfl
@[simp] theorem pmul_int (i j : Int) : pmul (.int i) (.int j) = guard (MulOk i j) (some (.int (i * j))) := rfl
@[simp] theorem pfdiv_int (i j : Int) : pfdiv (.int i) (.int j) = guard (DivOk j) (some (.int (i / j))) := rfl
@[simp] theorem pmod_int (i j : Int) : pmod (.int i) (.int j) = guard (0 < j) (some (.int (i % j))) := rfl
@[simp] theorem pneg_int (i : Int) : pneg (.int i) = some (.int (-i)) := rfl
theorem mulOk_l {i j : Int} (h : i.natAbs < 18446744073709551616) : MulOk i j := .inl h
theorem mulOk_r {i j : Int} (h : j.natAbs < 18446744073709551616) : MulOk i j := .inr (.inl h)
theorem divOk {j : Int} (h : 0 < j) (k : j < 18446744073709551616) : DivOk j := ⟨h, .inl (by omega)⟩
@[simp] theorem plt_int (i j : Int) : plt (.int i) (.int j) = some (.bl (decide (i < j))) := rfl
@[simp] theorem ple_int (i j : Int) : ple (.int i) (.int j) = some (.bl (decide (i ≤ j))) := rfl
@[simp] theorem pgt_int (i j : Int) : pgt (.int i) (.int j) = some (.bl (decide (j < i))) := rfl
@[simp] theorem pge_int (i j : Int) : pge (.int i) (.int j) = some (.bl (decide (j ≤ i))) := rfl
@[simp] theorem peq_int (i j : Int) : peq (.int i) (.int j) = some (.bl (decide (i = j))) := rfl
@[simp] theorem pne_int (i j : Int) : pne (.int i) (.int j) = some (.bl (!decide (i = j))) := rfl
@[simp] theorem peq_str (i j : Str) : peq (.str i) (.str j) = some (.bl (decide (i = j))) := rfl
@[simp] theorem pne_str (i j : Str) : pne (.str i) (.str j) = some (.bl (!decide (i = j))) := rfl
@[simp] theorem peq_bl (i j : Bool) : peq (.bl i) (.bl j) = some (.bl (decide (i = j))) := rfl
@[simp] theorem pne_bl (i j : Bool) : pne (.bl i) (.bl j) = some (.bl (!decide (i = j))) := rfl
@[simp] theorem pisN_int (i : Int) : pisN (.int i) .non = some (.bl false) := rfl
@[simp] theorem pisN_tup (i : List PV) : pisN (.tup i) .non = some (.bl false) := rfl
@[simp] theorem pisN_lst (o : Bool) (i : List PV) : pisN (.lst o i) .non = some (.bl false) := rfl
@[simp] theorem pisN_str (i : Str) : pisN (.str i) .non = some (.bl false) := rfl
@[simp] theorem pisN_non : pisN .non .non = some (.bl true) := rfl
@[simp] theorem pnotN_int (i : Int) : pnotN (.int i) .non = some (.bl true) := rfl
@[simp] theorem pnotN_tup (i : List PV) : pnotN (.tup i) .non = some (.bl true) := rfl
@[simp] theorem pnotN_lst (o : Bool) (i : List PV) : pnotN (.lst o i) .non = some (.bl true) := rfl
@[simp] theorem pnotN_str (i : Str) : pnotN (.str i) .non = some (.bl true) := rfl
@[simp] theorem pnotN_non : pnotN .non .non = some (.bl false) := rfl
@[simp] theorem ptru_non : ptru .non = some false := rfl
@[simp] theorem ptru_bl (b : Bool) : ptru (.bl b) = some b := rfl
@[simp] theorem ptru_int (i : Int) : ptru (.int i) = some (i != 0) := rfl
@[simp] theorem ptru_tup (xs : List PV) : ptru (.tup xs) = some (!xs.isEmpty) := rfl
@[simp] theorem ptru_lst (o : Bool) (xs : List PV) : ptru (.lst o xs) = some (!xs.isEmpty) := rfl
/-! built-ins -/
@[simp] theorem plen_tup (xs : List PV) : plen [.tup xs] = some (.int xs.length) := rfl
@[simp] theorem plen_lst (o : Bool) (xs : List PV) : plen [.lst o xs] = some (.int xs.length) := rfl
@[simp] theorem plen_zls (xs : List PV) : plen [.zls xs] = some (.int xs.length) := rfl
@[simp] theorem pint_int (i : Int) : pint [.int i] = some (.int i) := rfl
@[simp] theorem pint_bl (i : Bool) : pint [.bl i] = some (.int (if i then 1 else 0)) := rfl
theorem pabs_int_ (i : Int) : pabs [.int i] = some (.int (if i < 0 then -i else i)) := rfl
@[simp] theorem pabs_int (i : Int) : pabs [.int i] = some (.int i.natAbs) := by
  rw [pabs_int_]
  congr 2
  split <;> omega
@[simp] theorem pmax_int (i j : Int) : pmax [.int i, .int j] = some (.int (max i j)) := by
  show some (PV.int (if j > i then j else i)) = _
  congr 2
  split <;> omega
@[simp] theorem pmin_int (i j : Int) : pmin [.int i, .int j] = some (.int (min i j)) := by
  show some (PV.int (if j < i then j else i)) = _
  congr 2
  split <;> omega
@[simp] theorem intsOf_int : ∀ xs : List Int, intsOf (xs.map .int) = some xs
  | [] => rfl
  | x :: xs => by rw [List.map_cons, intsOf, intsOf_int xs] <;> rfl
theorem intsOf_map {α : Type} (f : α → Int) (xs : List α) : intsOf (xs.map fun x => PV.int (f x)) = some (xs.map f) := by
  have := intsOf_int (xs.map f)
  rw [List.map_map] at this
  exact this
theorem blsOf_map {α : Type} {f : α → Bool} : ∀ xs : List α, blsOf (xs.map fun x => .bl (f x)) = some (xs.map f)
  | [] => rfl
  | x :: xs => by rw [List.map_cons, blsOf, blsOf_map xs] <;> rfl
@[simp] theorem psum_lst (o : Bool) (xs : List Int) : psum [.lst o (xs.map .int)] = some (.int xs.sum) := by
  show (intsOf (xs.map .int)).bind _ = _
  rw [intsOf_int] <;> rfl
@[simp] theorem psum_tup (xs : List Int) : psum [.tup (xs.map .int)] = some (.int xs.sum) := by
  show (intsOf (xs.map .int)).bind _ = _
  rw [intsOf_int] <;> rfl
@[simp] theorem psum_map {α : Type} (o : Bool) (f : α → Int) (xs : List α) : psum [.lst o (xs.map fun x => PV.int (f x))] = some (.int (xs.map f).sum) := by
  show (intsOf _).bind _ = _
  rw [intsOf_map] <;> rfl
@[simp] theorem pall_map {α : Type} (o : Bool) (f : α → Bool) (xs : List α) : pall [.lst o (xs.map fun x => PV.bl (f x))] = some (.bl (xs.all f)) := by
  show (blsOf _).bind _ = _
  rw [blsOf_map]
  simp
@[simp] theorem pany_map {α : Type} (o : Bool) (f : α → Bool) (xs : List α) : pany [.lst o (xs.map fun x => PV.bl (f x))] = some (.bl (xs.any f)) := by
  show (blsOf _).bind _ = _
  rw [blsOf_map]
  simp
@[simp] theorem pall_nil (o : Bool) : pall [.lst o []] = some (.bl true) := rfl
theorem pall_cons (o : Bool) (b : Bool) (xs : List PV) : pall [.lst o (.bl b :: xs)] = (pall [.lst o xs]).bind fun r => (asB r).bind fun c => some (.bl (b && c)) := by
  show (blsOf (.bl b :: xs)).bind _ = ((blsOf xs).bind _).bind _
  rw [blsOf]
  cases blsOf xs <;> simp
theorem pisi_val (v : PV) (T : String) : pisi [v, .ty T] = (isi v T).map .bl := rfl
@[simp] theorem pisi_int (i : Int) : pisi [.int i, .ty "int"] = some (.bl true) := rfl
@[simp] theorem pisi_intb (i : Int) : pisi [.int i, .ty "bool"] = some (.bl false) := rfl
@[simp] theorem pisi_ints (i : Int) : pisi [.int i, .ty "str"] = some (.bl false) := rfl
@[simp] theorem pisi_intt (i : Int) : pisi [.int i, .ty "tuple"] = some (.bl false) := rfl
@[simp] theorem pisi_bli (i : Bool) : pisi [.bl i, .ty "int"] = some (.bl true) := rfl
@[simp] theorem pisi_blb (i : Bool) : pisi [.bl i, .ty "bool"] = some (.bl true) := rfl
@[simp] theorem pisi_bls (i : Bool) : pisi [.bl i, .ty "str"] = some (.bl false) := rfl
@[simp] theorem pisi_blt (i : Bool) : pisi [.bl i, .ty "tuple"] = some (.bl false) := rfl
@[simp] theorem pisi_str (i : Str) : pisi [.str i, .ty "str"] = some (.bl true) := rfl
@[simp] theorem pisi_stri (i : Str) : pisi [.str i, .ty "int"] = some (.bl false) := rfl
@[simp] theorem pisi_strb (i : Str) : pisi [.str i, .ty "bool"] = some (.bl false) := rfl
@[simp] theorem pisi_strt (i : Str) : pisi [.str i, .ty "tuple"] = some (.bl false) := rfl
@[simp] theorem pisi_tup (i : List PV) : pisi [.tup i, .ty "tuple"] = some (.bl true) := rfl
@[simp] theorem pisi_tupi (i : List PV) : pisi [.tup i, .ty "int"] = some (.bl false) := rfl
@[simp] theorem pisi_tups (i : List PV) : pisi [.tup i, .ty "str"] = some (.bl false) := rfl
@[simp] theorem pisi_tupb (i : List PV) : pisi [.tup i, .ty "bool"] = some (.bl false) := rfl
@[simp] theorem plist_tup (xs : List PV) : plist [.tup xs] = guard (PV.pures xs = true) (some (.lst true xs)) := rfl
@[simp] theorem plist_lst (o : Bool) (xs : List PV) : plist [.lst o xs] = guard (PV.pures xs = true) (some (.lst true xs)) := rfl
@[simp] theorem plist_zls (xs : List PV) : plist [.zls xs] = guard (PV.pures xs = true) (some (.lst true xs)) := rfl
@[simp] theorem ptuple_tup (xs : List PV) : ptuple [.tup xs] = guard (PV.pures xs = true) (some (.tup xs)) := rfl
@[simp] theorem ptuple_lst (o : Bool) (xs : List PV) : ptuple [.lst o xs] = guard (PV.pures xs = true) (some (.tup xs)) := rfl
@[simp] theorem gAppend_lst (xs : List PV) (v : PV) : gAppend (.lst true xs) [v] = guard (xs.length < 16777216) (some (.lst true (xs ++ [v]), .non)) := rfl
@[simp] theorem gExtend_lst (xs ys : List PV) (o : Bool) : gExtend (.lst true xs) [.lst o ys] = guard (PV.pures ys = true ∧ xs.length + ys.length ≤ 16777216) (some (.lst true (xs ++ ys), .non)) := rfl
@[simp] theorem padd_tup (xs ys : List PV) : padd (.tup xs) (.tup ys) = guard (PV.pures xs = true ∧ PV.pures ys = true ∧ xs.length + ys.length ≤ 16777216) (some (.tup (xs ++ ys))) := rfl
@[simp] theorem padd_lst (o p : Bool) (xs ys : List PV) : padd (.lst o xs) (.lst p ys) = guard (PV.pures xs = true ∧ PV.pures ys = true ∧ xs.length + ys.length ≤ 16777216) (some (.lst true (xs ++ ys))) := rfl
@[simp] theorem pmul_lst (o : Bool) (xs : List PV) (k : Int) : pmul (.lst o xs) (.int k) = guard (PV.pures xs = true ∧ -9223372036854775808 ≤ k ∧ k < 9223372036854775808 ∧ xs.length * k.toNat ≤ 16777216) (some (.lst true (reps k.toNat xs))) := rfl
/-! items -/
@[simp] theorem pgetI_tup (xs : List PV) (i : Int) : pgetI (.tup xs) (.int i) = atI xs i := rfl
@[simp] theorem pgetI_lst (o : Bool) (xs : List PV) (i : Int) : pgetI (.lst o xs) (.int i) = atI xs i := rfl
@[simp] theorem pgetI_zls (xs : List PV) (i : Int) : pgetI (.zls xs) (.int i) = atI xs i := rfl
theorem ixN_pos {n : Nat} {i : Int} (h : 0 ≤ i) (k : i < n) : ixN n i = some i.toNat := by unfold ixN; rw [if_pos h, if_pos k]
theorem ixN_neg {n : Nat} {i : Int} (h : i < 0) (k : -(n : Int) ≤ i) : ixN n i = some (i + n).toNat := by unfold ixN; rw [if_neg (by omega), if_pos k]
@[simp] theorem atI_mp {α β : Type} (f : α → β) (xs : List α) (i : Int) : atI (xs.map f) i = (atI xs i).map f := by
  unfold atI
  rw [List.length_map]
  cases ixN xs.length i <;> simp
theorem atI_pos {α : Type} {xs : List α} {i : Int} (h : 0 ≤ i) (k : i < xs.length) : atI xs i = some (xs[i.toNat]'(by omega)) := by
  unfold atI
  rw [ixN_pos h k]
  simp
theorem atI_d {α : Type} {xs : List α} {i : Int} (d : α) (h : 0 ≤ i) (k : i < xs.length) : atI xs i = some (xs.getD i.toNat d) := by
  rw [atI_pos h k]
  have : i.toNat < xs.length := by omega
  simp [this]
@[simp] theorem atI_z0 {α : Type} (x : α) (xs : List α) : atI (x :: xs) 0 = some x := by unfold atI ixN; simp
theorem atI_succ {α : Type} (x : α) (xs : List α) (n : Nat) : atI (x :: xs) ((n + 1 : Nat) : Int) = atI xs n := by
  unfold atI ixN
  have h0 : (0 : Int) ≤ ((n + 1 : Nat) : Int) := by omega
  have h1 : (0 : Int) ≤ (n : Int) := by omega
  rw [if_pos h0, if_pos h1, List.length_cons]
  by_cases h : (n : Int) < xs.length
  · rw [if_pos h, if_pos (by omega)]
    simp
  · rw [if_neg h, if_neg (by omega)]
    rfl
@[simp] theorem atI_z1 {α : Type} (x y : α) (xs : List α) : atI (x :: y :: xs) 1 = some y := (atI_succ x (y :: xs) 0).trans (atI_z0 ..)
@[simp] theorem atI_z2 {α : Type} (x y z : α) (xs : List α) : atI (x :: y :: z :: xs) 2 = some z := (atI_succ x _ 1).trans (atI_z1 ..)
@[simp] theorem atI_z3 {α : Type} (x y z w : α) (xs : List α) : atI (x :: y :: z :: w :: xs) 3 = some w := (atI_succ x _ 2).trans (atI_z2 ..)
@[simp] theorem atI_last {α : Type} (xs : List α) (x : α) : atI (xs ++ [x]) (-1) = some x := by
  unfold atI
  rw [ixN_neg (by omega) (by simp; omega)]
  simp
  have : (-1 + ((xs.length : Int) + 1)).toNat = xs.length := by omega
  rw [this]
  simp
@[simp] theorem psetI_lst (xs : List PV) (k : Int) (v : PV) : psetI (.lst true xs) (.int k) v = (ixN xs.length k).map fun j => .lst true (xs.set j v) := rfl
@[simp] theorem ixN_1_0 : ixN 1 0 = some 0 := rfl
@[simp] theorem ixN_4_1 : ixN 4 1 = some 1 := rfl
@[simp] theorem ixN_4_2 : ixN 4 2 = some 2 := rfl
@[simp] theorem ixN_4_3 : ixN 4 3 = some 3 := rfl
@[simp] theorem spure_un : Slot.un.pure = true := rfl
@[simp] theorem spure_val (v : PV) : (Slot.val v).pure = v.pure := rfl
@[simp] theorem spure_ref (v : PV) : (Slot.ref v).pure = v.pure := rfl
@[simp] theorem pureW_nil (vs : List Nat) (k : Nat) : pureW vs k [] = true := rfl
@[simp] theorem pureW_cons (vs : List Nat) (k : Nat) (s : Slot) (ρ : Rho) : pureW vs k (s :: ρ) = ((!(decide (k ∈ vs)) || s.pure) && pureW vs (k + 1) ρ) := rfl
@[simp] theorem mskR_nil (vs : List Nat) (k : Nat) : mskR vs k [] = [] := rfl
@[simp] theorem mskR_cons (vs : List Nat) (k : Nat) (s : Slot) (ρ : Rho) : mskR vs k (s :: ρ) = (if k ∈ vs then .un else s) :: mskR vs (k + 1) ρ := rfl
@[simp] theorem bckR_nil (vs : List Nat) (k : Nat) : bckR vs k [] [] = [] := rfl
@[simp] theorem bckR_cons (vs : List Nat) (k : Nat) (s s0 : Slot) (ρ ρ0 : Rho) : bckR vs k (s :: ρ) (s0 :: ρ0) = (if k ∈ vs then s0 else s) :: bckR vs (k + 1) ρ ρ0 := rfl
@[simp] theorem ofStr_eq (a b : String) : (Str.ofString a = Str.ofString b) = (a = b) := propext ⟨fun h => by
  rw [Str.ofString_eq_toList, Str.ofString_eq_toList] at h
  have h1 := congrArg (fun x : Str => x.cps.toList) h
  simp at h1
  have inj : ∀ (xs ys : List Char), xs.map Char.toNat = ys.map Char.toNat → xs = ys := by
    intro xs
    induction xs with
    | nil => intro ys e; cases ys <;> simp_all
    | cons x xs ih =>
      intro ys e
      cases ys with
      | nil => simp at e
      | cons y ys =>
        simp at e
        have : x = y := Char.ext (UInt32.toNat_inj.mp e.1)
        rw [this, ih ys e.2]
  have h2 := inj _ _ h1
  exact String.toList_inj.mp h2, fun h => by rw [h]⟩
@[simp] theorem psl_tup (xs : List PV) (lo hi : Option Int) : psl (.tup xs) lo hi = guard (PV.pures xs = true) (some (.tup (cut xs lo hi))) := rfl
@[simp] theorem psl_lst (o : Bool) (xs : List PV) (lo hi : Option Int) : psl (.lst o xs) lo hi = guard (PV.pures xs = true) (some (.lst true (cut xs lo hi))) := rfl
@[simp] theorem cut_map {α β : Type} (f : α → β) (xs : List α) (lo hi : Option Int) : cut (xs.map f) lo hi = (cut xs lo hi).map f := by simp [cut]
@[simp] theorem cut_take {α : Type} (xs : List α) (k : Int) (h : 0 ≤ k) : cut xs none (some k) = xs.take k.toNat := by
  have e : HT.sIx xs.length xs.length (some k) = min k.toNat xs.length := by
    show (if k < 0 then _ else _) = _
    rw [if_neg (by omega)]
  unfold cut
  rw [e]
  show (xs.drop 0).take (min k.toNat xs.length - 0) = _
  rw [List.drop_zero, Nat.sub_zero]
  by_cases q : k.toNat ≤ xs.length
  · rw [Nat.min_eq_left q]
  · rw [Nat.min_eq_right (by omega), List.take_length, List.take_of_length_le (by omega)]
@[simp] theorem cut_drop {α : Type} (xs : List α) (k : Int) (h : 0 ≤ k) : cut xs (some k) none = xs.drop k.toNat := by
  have e : HT.sIx xs.length 0 (some k) = min k.toNat xs.length := by
    show (if k < 0 then _ else _) = _
    rw [if_neg (by omega)]
  unfold cut
  rw [e]
  show (xs.drop (min k.toNat xs.length)).take (xs.length - _) = _
  by_cases q : k.toNat ≤ xs.length
  · rw [Nat.min_eq_left q, List.take_of_length_le (by simp)]
  · rw [Nat.min_eq_right (by omega), List.drop_length, List.drop_of_length_le (by omega)]
    simp
@[simp] theorem cut_init {α : Type} (xs : List α) : cut xs none (some (-1)) = xs.dropLast := by
  have e : HT.sIx xs.length xs.length (some (-1)) = xs.length - 1 := by
    show (if (-1 : Int) < 0 then (-1 + (xs.length : Int)).toNat else min (-1 : Int).toNat xs.length) = _
    rw [if_pos (by omega)]
    omega
  unfold cut
  rw [e]
  show (xs.drop 0).take (xs.length - 1 - 0) = _
  rw [List.drop_zero, Nat.sub_zero, List.dropLast_eq_take]
@[simp] theorem intsOf_nil : intsOf [] = some [] := rfl
@[simp] theorem intsOf_cons (i : Int) (xs : List PV) : intsOf (.int i :: xs) = (intsOf xs).map (i :: ·) := by
  rw [intsOf]
  cases intsOf xs <;> rfl
@[simp] theorem intsOf_append : ∀ xs ys : List PV, intsOf (xs ++ ys) = (intsOf xs).bind fun a => (intsOf ys).map (a ++ ·)
  | [], ys => by
    rw [List.nil_append, intsOf_nil]
    cases intsOf ys <;> rfl
  | x :: xs, ys => by
    cases x with
    | int i =>
      rw [List.cons_append, intsOf_cons, intsOf_cons, intsOf_append xs ys]
      cases intsOf xs with
      | none => rfl
      | some a => cases intsOf ys <;> rfl
    | _ => rfl
@[simp] theorem psortset_lst (o : Bool) (xs : List PV) : psortset [.lst o xs] = (intsOf xs).bind fun ns => if ns.length < 64 then some (.lst true ((sset ns).map .int)) else none := rfl
@[simp] theorem psortset_tup (xs : List PV) : psortset [.tup xs] = (intsOf xs).bind fun ns => if ns.length < 64 then some (.lst true ((sset ns).map .int)) else none := rfl
theorem psum_lst_ (o : Bool) (xs : List PV) : psum [.lst o xs] = (intsOf xs).bind fun ns => some (.int ns.sum) := rfl
theorem psum_tup_ (xs : List PV) : psum [.tup xs] = (intsOf xs).bind fun ns => some (.int ns.sum) := rfl
theorem pures_iff : ∀ {xs : List PV}, PV.pures xs = true ↔ ∀ x ∈ xs, x.pure = true
  | [] => by simp
  | x :: xs => by rw [PVpures_cons, Bool.and_eq_true, pures_iff]; simp
@[simp] theorem pures_dropLast {xs : List PV} (h : PV.pures xs = true) : PV.pures xs.dropLast = true := pures_iff.mpr fun x hx => pures_iff.mp h x ((List.dropLast_sublist _).mem hx)
@[simp] theorem pures_take {n : Nat} {xs : List PV} (h : PV.pures xs = true) : PV.pures (xs.take n) = true := pures_iff.mpr fun x hx => pures_iff.mp h x (List.mem_of_mem_take hx)
@[simp] theorem pures_drop {n : Nat} {xs : List PV} (h : PV.pures xs = true) : PV.pures (xs.drop n) = true := pures_iff.mpr fun x hx => pures_iff.mp h x (List.mem_of_mem_drop hx)
@[simp] theorem pures_reverse {xs : List PV} : PV.pures xs.reverse = PV.pures xs := by
  rw [Bool.eq_iff_iff, pures_iff, pures_iff]
  simp
/-! in -/
@[simp] theorem eqF_int (i j : Int) : eqF (.int i) (.int j) = (i == j) := rfl
@[simp] theorem eqF_str (i j : Str) : eqF (.str i) (.str j) = (i == j) := rfl
theorem all_flat : ∀ xs : List Int, (xs.map PV.int).all flatP = true
  | [] => rfl
  | x :: xs => by rw [List.map_cons, List.all_cons, all_flat xs] <;> rfl
theorem any_int (k : Int) : ∀ xs : List Int, (xs.map PV.int).any (fun y => eqF y (.int k)) = decide (k ∈ xs)
  | [] => rfl
  | x :: xs => by
    rw [List.map_cons, List.any_cons, any_int k xs]
    show (x == k || decide (k ∈ xs)) = _
    by_cases h : x = k
    · subst h; simp
    · have : (x == k) = false := by simpa using h
      rw [this]
      have h2 : ¬ k = x := fun e => h e.symm
      simp [h2]
theorem pinB_tup (k : Int) (xs : List Int) : pinB (.int k) (.tup (xs.map .int)) = some (decide (k ∈ xs)) := by
  show guard _ _ = _
  rw [guard_pos ⟨rfl, all_flat xs⟩, any_int]
theorem pinB_lst (k : Int) (o : Bool) (xs : List Int) : pinB (.int k) (.lst o (xs.map .int)) = some (decide (k ∈ xs)) := by
  show (if _ then _ else _) = _
  rw [if_pos ⟨rfl, all_flat xs⟩, any_int]
@[simp] theorem pin_tup (k : Int) (xs : List Int) : pin (.int k) (.tup (xs.map .int)) = some (.bl (decide (k ∈ xs))) := by unfold pin; rw [pinB_tup] <;> rfl
@[simp] theorem pnin_tup (k : Int) (xs : List Int) : pnin (.int k) (.tup (xs.map .int)) = some (.bl (!decide (k ∈ xs))) := by unfold pnin; rw [pinB_tup] <;> rfl
@[simp] theorem pin_lst (k : Int) (o : Bool) (xs : List Int) : pin (.int k) (.lst o (xs.map .int)) = some (.bl (decide (k ∈ xs))) := by unfold pin; rw [pinB_lst] <;> rfl
@[simp] theorem pnin_lst (k : Int) (o : Bool) (xs : List Int) : pnin (.int k) (.lst o (xs.map .int)) = some (.bl (!decide (k ∈ xs))) := by unfold pnin; rw [pinB_lst] <;> rfl
end GX

/-! GX: values that are alike, and their repr. -/
namespace GX
open PySem PySem.Spec PyProof.Rows L2

/-- v is the data d, that can be shown: depth at most k, weight at most n -/
structure Sh (k n : Nat) (v : PV) (d : PyData) : Prop where
  t : toD v = some d
  c : d.canLay0 = true
  i : d.intsShort 41 = true
  s : d.showable = true
  k : d.depth ≤ k
  n : d.weight ≤ n
structure ShL (k n : Nat) (v : List PV) (d : List PyData) : Prop where
  t : toDs v = some d
  c : PyData.canLayAll0 d = true
  i : PyData.intsShortAll 41 d = true
  s : PyData.showableAll d = true
  k : PyData.depthAll d ≤ k
  n : PyData.weightAll d ≤ n
theorem Sh.mono {k n k' n' : Nat} {v : PV} {d : PyData} (h : Sh k n v d) (hk : k ≤ k') (hn : n ≤ n') : Sh k' n' v d := ⟨h.t, h.c, h.i, h.s, Nat.le_trans h.k hk, Nat.le_trans h.n hn⟩
theorem ShL.mono {k n k' n' : Nat} {v : List PV} {d : List PyData} (h : ShL k n v d) (hk : k ≤ k') (hn : n ≤ n') : ShL k' n' v d := ⟨h.t, h.c, h.i, h.s, Nat.le_trans h.k hk, Nat.le_trans h.n hn⟩
theorem sh_non : Sh 0 0 .non .none := ⟨rfl, rfl, rfl, rfl, Nat.le_refl _, Nat.le_refl _⟩
theorem sh_bl (b : Bool) : Sh 0 0 (.bl b) (.bool b) := ⟨rfl, rfl, rfl, rfl, Nat.le_refl _, Nat.le_refl _⟩
theorem log2_lt_p {n m : Nat} (h : n < 2 ^ m) (hm : 0 < m) : n.log2 < m := by
  by_cases h0 : n = 0
  · subst h0; simpa using hm
  · exact (Nat.log2_lt h0).mpr h
theorem sh_int (i : Int) (h : i.natAbs < 1000000000000000000000000000000000000000) : Sh 0 140 (.int i) (.int i) := by
  have l : i.natAbs.log2 < 133 := log2_lt_p (Nat.lt_of_lt_of_le h (by decide)) (by decide)
  refine ⟨rfl, rfl, ?_, ?_, Nat.le_refl _, ?_⟩
  · have e := int_text_length_le10 (k := 40) (by decide) (Nat.lt_of_lt_of_le h (by decide))
    simp only [PyData.intsShort, decide_eq_true_eq]
    show (Str.ofString (toString i)).length ≤ 41
    rw [PySem.ofString_length]; exact e
  · simp only [PyData.showable, decide_eq_true_eq]; omega
  · show (if i == 0 then 0 else i.natAbs.log2 + 1) ≤ 140
    split <;> omega
theorem sh_str (x : Str) (h : PyData.strOk x = true) : Sh 0 x.cps.size (.str x) (.str x) := ⟨rfl, by simpa only [PyData.canLay0] using h, rfl, rfl, Nat.le_refl _, by simp only [PyData.weight]; exact Nat.le_refl _⟩
theorem shL_nil {k : Nat} : ShL k 0 [] [] := ⟨rfl, rfl, rfl, rfl, Nat.zero_le _, Nat.le_refl _⟩
theorem shL_cons {k n m : Nat} {v : PV} {vs : List PV} {d : PyData} {ds : List PyData} (h : Sh k n v d) (t : ShL k m vs ds) : ShL k (n + 1 + m) (v :: vs) (d :: ds) := by
  refine ⟨?_, ?_, ?_, ?_, ?_, ?_⟩
  · rw [toDs, h.t]; simp only [Option.bind_some]; rw [t.t]; rfl
  · simp only [PyData.canLayAll0, h.c, t.c, Bool.and_self]
  · simp only [PyData.intsShortAll, h.i, t.i, Bool.and_self]
  · simp only [PyData.showableAll, h.s, t.s, Bool.and_self]
  · simp only [PyData.depthAll]; exact Nat.max_le.mpr ⟨h.k, t.k⟩
  · simp only [PyData.weightAll]; have := h.n; have := t.n; omega
theorem shL_map {α : Type} {k n : Nat} {f : α → PV} {g : α → PyData} : ∀ {xs : List α}, (∀ x ∈ xs, Sh k n (f x) (g x)) → ShL k ((n + 1) * xs.length) (xs.map f) (xs.map g)
  | [], _ => shL_nil
  | x :: xs, h => by
    have := shL_cons (h x (List.mem_cons_self ..)) (shL_map fun y hy => h y (List.mem_cons_of_mem _ hy))
    exact this.mono (Nat.le_refl _) (by rw [List.length_cons, Nat.mul_succ]; omega)
theorem sh_tup {k n : Nat} {vs : List PV} {ds : List PyData} (h : ShL k n vs ds) : Sh (k + 1) n (.tup vs) (.tuple ds) :=
  ⟨by rw [toD, h.t]; rfl, by simpa only [PyData.canLay0] using h.c, by simpa only [PyData.intsShort] using h.i, by simpa only [PyData.showable] using h.s, by simp only [PyData.depth]; have := h.k; omega, by simpa only [PyData.weight] using h.n⟩
theorem sh_lst {k n : Nat} {vs : List PV} {ds : List PyData} {o : Bool} (h : ShL k n vs ds) : Sh (k + 1) n (.lst o vs) (.list ds) :=
  ⟨by rw [toD, h.t]; rfl, by simpa only [PyData.canLay0] using h.c, by simpa only [PyData.intsShort] using h.i, by simpa only [PyData.showable] using h.s, by simp only [PyData.depth]; have := h.k; omega, by simpa only [PyData.weight] using h.n⟩
mutual
theorem eqv_rfl : ∀ d : PyData, d.hasDict = false → PyData.eqv d d = true
  | .none, _ => rfl
  | .bool b, _ => by simp [PyData.eqv]
  | .int i, _ => by simp [PyData.eqv]
  | .str x, _ => by simp [PyData.eqv]
  | .list xs, h => by simp only [PyData.eqv]; exact eqvs_rfl xs (by simpa only [PyData.hasDict] using h)
  | .tuple xs, h => by simp only [PyData.eqv]; exact eqvs_rfl xs (by simpa only [PyData.hasDict] using h)
  | .dict _, h => by simp [PyData.hasDict] at h
theorem eqvs_rfl : ∀ d : List PyData, PyData.hasDictAll d = false → PyData.eqvAll d d = true
  | [], _ => by simp [PyData.eqvAll]
  | x :: xs, h => by
    simp only [PyData.hasDictAll, Bool.or_eq_false_iff] at h
    simp only [PyData.eqvAll, eqv_rfl x h.1, eqvs_rfl xs h.2, Bool.and_self]
end
theorem toD_scal {a b : PV} {d : PyData} {c : Bool} (ha : toD a = some d) (hb : toD b = some d) (h : scalP a b = some c) : c = true := by
  unfold scalP at h
  split at h <;> (try (cases ha; cases hb; done)) <;> (try cases ha) <;> (try cases hb) <;> simp_all
theorem peqB_same {a b : PV} {d : PyData} (ha : toD a = some d) (hb : toD b = some d) (hc : d.canLay0 = true) (hk : d.depth ≤ 64) : peqB a b = some true := by
  unfold peqB
  split
  · rename_i c e
    rw [toD_scal ha hb e]
  · unfold deepEq
    rw [ha, hb]
    simp only [Option.bind_some]
    have sh : SeqAt.shaped d = true := by
      show (d.canLay0 && decide (d.depth ≤ 64)) = true
      simp [hc, hk]
    rw [guard_pos ⟨sh, sh⟩, eqv_rfl d (toD_flat ha)]
theorem Sh.peq {k n k' n' : Nat} {a b : PV} {d : PyData} (ha : Sh k n a d) (hb : Sh k' n' b d) (h : k ≤ 64) : peq a b = some (.bl true) := by
  unfold GX.peq
  rw [peqB_same ha.t hb.t ha.c (Nat.le_trans ha.k h)]
  rfl
theorem Sh.pne {k n k' n' : Nat} {a b : PV} {d : PyData} (ha : Sh k n a d) (hb : Sh k' n' b d) (h : k ≤ 64) : pne a b = some (.bl false) := by
  unfold GX.pne
  rw [peqB_same ha.t hb.t ha.c (Nat.le_trans ha.k h)]
  rfl
theorem Sh.prepr {k n : Nat} {a : PV} {d : PyData} (ha : Sh k n a d) (hk : k ≤ 60) (hn : n ≤ 380000) : prepr [a] = some (.str d.shown) := by
  show (toD a).bind _ = _
  rw [ha.t]
  simp only [Option.bind_some]
  have := PyData.shown_le 41 (by decide) d (PyData.leavesShort_of_canLay0 41 d ha.c ha.i)
  have h1 := ha.n
  have h2 := ha.k
  rw [if_pos ⟨ha.s, by omega, by omega⟩]
/-- two values that are alike, also as they are shown -/
def Alike (a b : PV) : Prop := ∃ k n d, Sh k n a d ∧ Sh k n b d ∧ k ≤ 60 ∧ n ≤ 380000
theorem alike {k n k' n' : Nat} {a b : PV} {d d' : PyData} (ha : Sh k n a d) (hb : Sh k' n' b d') (e : d = d') (hk : k ≤ 60) (hn : n ≤ 380000) (hk' : k' ≤ 60) (hn' : n' ≤ 380000) : Alike a b := by
  subst e
  exact ⟨max k k', max n n', d, ha.mono (Nat.le_max_left ..) (Nat.le_max_left ..), hb.mono (Nat.le_max_right ..) (Nat.le_max_right ..), by omega, by omega⟩
theorem alike_self {k n : Nat} {a : PV} {d : PyData} (ha : Sh k n a d) (hk : k ≤ 60) (hn : n ≤ 380000) : Alike a a := ⟨k, n, d, ha, ha, hk, hn⟩
theorem Alike.peq {a b : PV} (h : Alike a b) : GX.peq a b = some (.bl true) := by
  obtain ⟨k, n, d, ha, hb, hk, hn⟩ := h
  exact ha.peq hb (by omega)
theorem Alike.repr {a b : PV} (h : Alike a b) : ∃ x, GX.prepr [a] = some (.str x) ∧ GX.prepr [b] = some (.str x) := by
  obtain ⟨k, n, d, ha, hb, hk, hn⟩ := h
  exact ⟨_, ha.prepr hk hn, hb.prepr hk hn⟩
theorem toDs_ints : ∀ xs : List Int, toDs (xs.map .int) = some (xs.map PyData.int)
  | [] => rfl
  | x :: xs => by rw [List.map_cons, toDs, toDs_ints xs] <;> rfl
theorem canLay_ints : ∀ xs : List Int, PyData.canLayAll0 (xs.map PyData.int) = true
  | [] => rfl
  | x :: xs => by simp only [List.map_cons, PyData.canLayAll0, PyData.canLay0, canLay_ints xs, Bool.and_self]
theorem depth_ints : ∀ xs : List Int, PyData.depthAll (xs.map PyData.int) = 0
  | [] => by simp only [List.map_nil, PyData.depthAll]
  | x :: xs => by simp only [List.map_cons, PyData.depthAll, PyData.depth, depth_ints xs, Nat.max_self]
theorem eqv_ints : ∀ xs ys : List Int, PyData.eqvAll (xs.map PyData.int) (ys.map PyData.int) = decide (xs = ys)
  | [], [] => by simp [PyData.eqvAll]
  | [], y :: ys => by simp [PyData.eqvAll]
  | x :: xs, [] => by simp [PyData.eqvAll]
  | x :: xs, y :: ys => by
    simp only [List.map_cons, PyData.eqvAll, PyData.eqv, eqv_ints xs ys]
    by_cases h : x = y <;> simp [h]
theorem shaped_tupI (xs : List Int) : SeqAt.shaped (.tuple (xs.map PyData.int)) = true := by
  show (PyData.canLay0 _ && decide (PyData.depth _ ≤ 64)) = true
  simp only [PyData.canLay0, canLay_ints, PyData.depth, depth_ints] <;> decide
theorem shaped_lstI (xs : List Int) : SeqAt.shaped (.list (xs.map PyData.int)) = true := by
  show (PyData.canLay0 _ && decide (PyData.depth _ ≤ 64)) = true
  simp only [PyData.canLay0, canLay_ints, PyData.depth, depth_ints] <;> decide
theorem peqB_tupI (xs ys : List Int) : peqB (.tup (xs.map .int)) (.tup (ys.map .int)) = some (decide (xs = ys)) := by
  show deepEq _ _ = _
  unfold deepEq
  simp only [toD, toDs_ints, Option.map_some, Option.bind_some]
  rw [guard_pos ⟨shaped_tupI xs, shaped_tupI ys⟩]
  simp only [PyData.eqv, eqv_ints]
theorem peqB_lstI (o p : Bool) (xs ys : List Int) : peqB (.lst o (xs.map .int)) (.lst p (ys.map .int)) = some (decide (xs = ys)) := by
  show deepEq _ _ = _
  unfold deepEq
  simp only [toD, toDs_ints, Option.map_some, Option.bind_some]
  rw [guard_pos ⟨shaped_lstI xs, shaped_lstI ys⟩]
  simp only [PyData.eqv, eqv_ints]
@[simp] theorem peq_tupI (xs ys : List Int) : peq (.tup (xs.map .int)) (.tup (ys.map .int)) = some (.bl (decide (xs = ys))) := by unfold peq; rw [peqB_tupI] <;> rfl
@[simp] theorem pne_tupI (xs ys : List Int) : pne (.tup (xs.map .int)) (.tup (ys.map .int)) = some (.bl (!decide (xs = ys))) := by unfold pne; rw [peqB_tupI] <;> rfl
@[simp] theorem peq_lstI (o p : Bool) (xs ys : List Int) : peq (.lst o (xs.map .int)) (.lst p (ys.map .int)) = some (.bl (decide (xs = ys))) := by unfold peq; rw [peqB_lstI] <;> rfl
@[simp] theorem pne_lstI (o p : Bool) (xs ys : List Int) : pne (.lst o (xs.map .int)) (.lst p (ys.map .int)) = some (.bl (!decide (xs = ys))) := by unfold pne; rw [peqB_lstI] <;> rfl
@[simp] theorem peq_lstI0 (o p : Bool) (xs : List Int) : peq (.lst o (xs.map .int)) (.lst p []) = some (.bl (decide (xs = []))) := peq_lstI o p xs []
end GX

/-! GX: dicts further: update, sums over values. -/
namespace GX
open PySem PySem.Spec PyProof.Rows L2

/-! ### d.update(e) -/
def rDUpd : V → List V → Hp → VK → Prop := fun x vs H Q => ∃ (a b : Addr) (ks ls : List (Key × V)), x = .ref a ∧ vs = [.ref b] ∧ H a = some (.dK ks) ∧ Rd H b (.dK ls) ∧ a ≠ b ∧ ks.length + ls.length ≤ sizeLine ∧ Q .non (upd H a (.dK (mergeK ks ls)))
theorem mergeK_len : ∀ (ls ks : List (Key × V)), (mergeK ks ls).length ≤ ks.length + ls.length
  | [], ks => Nat.le_refl _
  | l :: ls, ks => by
    have h1 := mergeK_len ls (putK ks l.1 l.2)
    have h2 := length_putK ks l.1 l.2
    show (mergeK (putK ks l.1 l.2) ls).length ≤ _
    simp only [List.length_cons]
    omega
theorem mtd_update {X : Cx} : MtR X "dict.update" rDUpd := by
  intro pins s σ H x vs v us Q I rx rv h
  obtain ⟨a, b, ks, ls, ex, ev, e1, e2, ne, hl, q⟩ := h
  subst ex
  subst ev
  obtain rfl : v = Value.ref a := rx
  obtain ⟨u, rfl, ru⟩ := vals1 rv
  obtain rfl : u = Value.ref b := ru
  obtain ⟨z1, hd1, vs1, rel1, dd1⟩ := dk_of I.hok e1
  obtain ⟨z2, hd2, vs2, rel2, dd2⟩ := dk_rd I.hok e2
  have l1 : ks.length = vs1.length := rel1.length
  have l2 : ls.length = vs2.length := rel2.length
  refine call_meetsIn PySem.F.slot_dict_update dd1.typeIs PySem.F.entry_dict_update (PySem.F.args_dict_update_2 _ _) (meets_dict_update (mixKind X.prog X.w) a b ne hd2) ⟨vs1, vs2, dd1, dd2, by rw [← l1, ← l2]; exact hl, fun h' dd' _ hs => ?_⟩
  have he : ∃ q, h'.get? a = some q := let ⟨q, _, _, hq, _⟩ := dd'; ⟨q, hq⟩
  exact ⟨.non, _, d_write (t' := s.toks) I (by rw [e1]; exact True.intro) hs he (dk_new (Nat.le_trans (mergeK_len ls ks) hl) hd1 (KV.merge rel2 rel1) dd'), rfl, q⟩

/-! ### sum(d.values()), max(d.values()) -/
section
variable {X : Cx} {o : Expr} {p pos apos mpos : Pos} {td : TE}
def tMaxVals (td : TE) : TE := fun σ H Q => td σ H fun x H1 => ∃ (a : Addr) (kvs : List (Key × V)) (is : List Int), x = V.ref a ∧ Rd H1 a (.dK kvs) ∧ kvs.map (·.2) = is.map V.int ∧ is ≠ [] ∧ ∀ m, m ∈ is → (∀ j ∈ is, j ≤ m) → Q (.int m) H1
theorem pe_maxVals (hc : X.calm = true) (hg : Gl X "max") (hm : X.mg "max" = none) (hd : PE X o td) (hbase : attributeBase o "values" X.env (eval o X.env) = eval o X.env := by rfl) (hline : (apos.endLine == mpos.line) = true := by rfl)
    (hse : starEach [Expr.Call (.Attribute o "values" apos) [] [] mpos] X.env = [(false, eval (Expr.Call (.Attribute o "values" apos) [] [] mpos) X.env)] := by rfl) :
    PE X (.Call (.Name "max" p) [.Call (.Attribute o "values" apos) [] [] mpos] [] pos) (tMaxVals td) := by
  refine ⟨fun pins s σ H Q I h => ?_⟩
  refine wpAny_Call_Name_kw (ld_blt I hg hm (u := .builtin "max") (by first | rfl | decide +kernel) ?_ (by first | decide +kernel | decide) (by first | decide +kernel | decide))
  rw [hse]
  refine PySem.callWith_builtin1 (wpAny_Call_method0_late hbase hline (thn (hd.run pins s σ H _ I h) fun v s1 ⟨x, H1, I1, r1, a, kvs, is, ex, ha, hv, hne, q⟩ => ?_))
  subst ex
  obtain rfl : v = Value.ref a := r1
  obtain ⟨_, hsys, vs, rel, dof⟩ := dk_rd I1.hok ha
  obtain ⟨ep, dat⟩ := dof.dictAt
  have dat' := dat
  obtain ⟨ob, es, ho, ex, hdat, hko, hpr, hnd⟩ := dat'
  refine ⟨"dict", "dict.values", F.plainAttrs_dict, F.slot_dict_values, F.type_dict_values, ⟨ob, ho, ex.1⟩, fun b e => ?_, Calls.callWith_builtin rfl (PySem.evalArgs_none ?_)⟩
  · cases e
    exact ⟨ob, ho, ex.2.1⟩
  refine call_meetsIn F.slot_dict_values ⟨ob, ho, ex.1⟩ F.entry_dict_values (F.args_dict_values_1 _) (meets_dict_values (mixKind X.prog X.w) a hsys) ⟨⟨vs, dof⟩, ?_⟩
  have k1 : ∀ b u, s1.heap.get? b = some u → (s1.heap.push { cls := .type "dict_values", data := .fields #[.ref a] }).get? b = some u := fun b u e => Heap.get?_push_of_some _ e
  have dat1 : (s1.heap.push { cls := .type "dict_values", data := .fields #[.ref a] }).DictAt (mixKind X.prog X.w) a vs ep := dat.keep k1
  have hlv : vs.length = is.length := by
    have e1 := congrArg List.length hv
    rw [List.length_map, List.length_map] at e1
    rw [← e1]
    exact (KV.length rel).symm
  have hlen : 0 < vs.length := by
    rw [hlv]
    exact List.length_pos_iff.mpr hne
  have hval : ∀ (i : Nat) (v : Value), (∃ k, vs[i]? = some (k, v)) → ∃ t, v = Value.int (is.getD i 0) t := fun i v ⟨k, hk⟩ => by
    obtain ⟨x, h1, h2⟩ := KV.at' rel hk
    have e1 : (kvs.map (·.2))[i]? = some x := by rw [List.getElem?_map, h1] <;> rfl
    rw [hv, List.getElem?_map] at e1
    obtain ⟨j, hj, e2⟩ := Option.map_eq_some_iff.mp e1
    subst e2
    obtain ⟨t, e3⟩ := h2
    refine ⟨t, ?_⟩
    rw [e3, List.getD_eq_getElem?_getD, hj] <;> rfl
  refine call_max_walk (wpAny_pyIter_values (v := s1.heap.objs.size) (d := a) ⟨_, Heap.get?_push_size _ rfl, rfl, rfl⟩ dat1 ?_)
  have hlt : a < s1.heap.objs.size := Heap.lt_size ho
  have hsz : (s1.heap.push { cls := .type "dict_values", data := .fields #[.ref a] }).objs.size = s1.heap.objs.size + 1 := Heap.size_push _ _
  refine ⟨_, _, _, _, _, _, _, rfl, Walks.dictValues (knd := mixKind X.prog X.w) (A := X.A.in1) (I.ok.hd hc) (s1.heap.push { cls := .type "dict_values", data := .fields #[.ref a] }).objs.size a (by rw [hsz]; exact Nat.ne_of_lt (Nat.lt_succ_of_lt hlt)) vs ep,
    ⟨⟨_, Heap.get?_push_size _ rfl, rfl, rfl⟩, dat1.keep fun b u e => Heap.get?_push_of_some _ e⟩, fun b hb => ?_, hlen, CmpOf.ints_gt (fun i => is.getD i 0) hval, fun v h' tk hP hk => ?_⟩
  · show b < ((s1.heap.push _).push _).objs.size
    rw [Heap.size_push, Heap.size_push]
    rw [hsz] at hb
    rcases List.mem_cons.mp hb with e | hb
    · rw [e]
      exact Nat.lt_succ_self _
    · have e : b = a := List.mem_singleton.mp hb
      rw [e]
      exact Nat.lt_succ_of_lt (Nat.lt_succ_of_lt hlt)
  · obtain ⟨t, rfl⟩ := hval _ v hP
    obtain ⟨b1, b2⟩ := argBest_gt (fun i => is.getD i 0) (vs.length - 1)
    refine ⟨.int _, H1, I1.kept (t' := tk) fun b u e => hk b u (fun hmem => ?_) (Heap.get?_push_of_some _ (k1 b u e)), ⟨t, rfl⟩, q _ ?_ fun j hj => ?_⟩
    · have e1 : b = (s1.heap.push { cls := .type "dict_values", data := .fields #[.ref a] }).objs.size := List.mem_singleton.mp hmem
      have e2 := Heap.lt_size e
      rw [hsz] at e1
      rw [e1] at e2
      exact absurd e2 (Nat.not_lt.mpr (Nat.le_succ _))
    · have hb : argBest (fun i j => decide (is.getD i 0 > is.getD j 0)) (vs.length - 1) < is.length := by omega
      rw [List.getD_eq_getElem?_getD, List.getElem?_eq_getElem hb]
      exact List.getElem_mem hb
    · obtain ⟨i, hi, e⟩ := List.mem_iff_getElem.mp hj
      have e2 : is.getD i 0 = j := by rw [List.getD_eq_getElem?_getD, List.getElem?_eq_getElem hi, ← e] <;> rfl
      rw [← e2]
      exact b2 i (by omega)
theorem preSum_sum (is : List Int) : ∀ n, n ≤ is.length → preSum (fun i => is.getD i 0) n = (is.take n).sum
  | 0, _ => by simp [preSum]
  | n + 1, h => by
    have ih := preSum_sum is n (by omega)
    have hn : n < is.length := by omega
    rw [List.take_succ_eq_append_getElem hn]
    simp only [preSum, ih, List.sum_append, List.sum_cons, List.sum_nil, Int.add_zero]
    simp [List.getElem?_eq_getElem hn]
theorem sum_bnd (m : Int) : ∀ is : List Int, (∀ i ∈ is, -m ≤ i ∧ i ≤ m) → -(m * is.length) ≤ is.sum ∧ is.sum ≤ m * is.length
  | [], _ => by simp
  | i :: is, h => by
    have h1 := h i (List.mem_cons_self ..)
    have h2 := sum_bnd m is fun j hj => h j (List.mem_cons_of_mem _ hj)
    simp only [List.sum_cons, List.length_cons]
    have e : m * ((is.length + 1 : Nat) : Int) = m * is.length + m := by push_cast; rw [Int.mul_add, Int.mul_one]
    rw [e]
    omega
def tSumVals (td : TE) : TE := fun σ H Q => td σ H fun x H1 => ∃ (a : Addr) (kvs : List (Key × V)) (is : List Int), x = V.ref a ∧ Rd H1 a (.dK kvs) ∧ kvs.map (·.2) = is.map V.int ∧ is.length ≤ 1000000 ∧ (∀ i ∈ is, -1000000000000 ≤ i ∧ i ≤ 1000000000000) ∧ Q (.int is.sum) H1
theorem pe_sumVals (hc : X.calm = true) (hg : Gl X "sum") (hm : X.mg "sum" = none) (hd : PE X o td) (hbase : attributeBase o "values" X.env (eval o X.env) = eval o X.env := by rfl) (hline : (apos.endLine == mpos.line) = true := by rfl)
    (hse : starEach [Expr.Call (.Attribute o "values" apos) [] [] mpos] X.env = [(false, eval (Expr.Call (.Attribute o "values" apos) [] [] mpos) X.env)] := by rfl) :
    PE X (.Call (.Name "sum" p) [.Call (.Attribute o "values" apos) [] [] mpos] [] pos) (tSumVals td) := by
  refine ⟨fun pins s σ H Q I h => ?_⟩
  refine wpAny_Call_Name_kw (ld_blt I hg hm (u := .builtin "sum") (by first | rfl | decide +kernel) ?_ (by first | decide +kernel | decide) (by first | decide +kernel | decide))
  rw [hse]
  refine PySem.callWith_builtin1 (wpAny_Call_method0_late hbase hline (thn (hd.run pins s σ H _ I h) fun v s1 ⟨x, H1, I1, r1, a, kvs, is, ex, ha, hv, hne, hbd, q⟩ => ?_))
  subst ex
  obtain rfl : v = Value.ref a := r1
  obtain ⟨_, hsys, vs, rel, dof⟩ := dk_rd I1.hok ha
  obtain ⟨ep, dat⟩ := dof.dictAt
  have dat' := dat
  obtain ⟨ob, es, ho, ex, hdat, hko, hpr, hnd⟩ := dat'
  refine ⟨"dict", "dict.values", F.plainAttrs_dict, F.slot_dict_values, F.type_dict_values, ⟨ob, ho, ex.1⟩, fun b e => ?_, Calls.callWith_builtin rfl (PySem.evalArgs_none ?_)⟩
  · cases e
    exact ⟨ob, ho, ex.2.1⟩
  refine call_meetsIn F.slot_dict_values ⟨ob, ho, ex.1⟩ F.entry_dict_values (F.args_dict_values_1 _) (meets_dict_values (mixKind X.prog X.w) a hsys) ⟨⟨vs, dof⟩, ?_⟩
  have k1 : ∀ b u, s1.heap.get? b = some u → (s1.heap.push { cls := .type "dict_values", data := .fields #[.ref a] }).get? b = some u := fun b u e => Heap.get?_push_of_some _ e
  have dat1 : (s1.heap.push { cls := .type "dict_values", data := .fields #[.ref a] }).DictAt (mixKind X.prog X.w) a vs ep := dat.keep k1
  have hlv : vs.length = is.length := by
    have e1 := congrArg List.length hv
    rw [List.length_map, List.length_map] at e1
    rw [← e1]
    exact (KV.length rel).symm
  have hval : ∀ (i : Nat) (v : Value), (∃ k, vs[i]? = some (k, v)) → ∃ t, v = Value.int (is.getD i 0) t := fun i v ⟨k, hk⟩ => by
    obtain ⟨x, h1, h2⟩ := KV.at' rel hk
    have e1 : (kvs.map (·.2))[i]? = some x := by rw [List.getElem?_map, h1] <;> rfl
    rw [hv, List.getElem?_map] at e1
    obtain ⟨j, hj, e2⟩ := Option.map_eq_some_iff.mp e1
    subst e2
    obtain ⟨t, e3⟩ := h2
    refine ⟨t, ?_⟩
    rw [e3, List.getD_eq_getElem?_getD, hj] <;> rfl
  refine call_sum_walk (wpAny_pyIter_values (v := s1.heap.objs.size) (d := a) ⟨_, Heap.get?_push_size _ rfl, rfl, rfl⟩ dat1 ?_)
  have hlt : a < s1.heap.objs.size := Heap.lt_size ho
  have hsz : (s1.heap.push { cls := .type "dict_values", data := .fields #[.ref a] }).objs.size = s1.heap.objs.size + 1 := Heap.size_push _ _
  refine ⟨_, _, _, _, _, _, _, rfl, Walks.dictValues (knd := mixKind X.prog X.w) (A := X.A.in1) (I.ok.hd hc) (s1.heap.push { cls := .type "dict_values", data := .fields #[.ref a] }).objs.size a (by rw [hsz]; exact Nat.ne_of_lt (Nat.lt_succ_of_lt hlt)) vs ep,
    ⟨⟨_, Heap.get?_push_size _ rfl, rfl, rfl⟩, dat1.keep fun b u e => Heap.get?_push_of_some _ e⟩, fun b hb => ?_, hval, fun j hj => ?_, fun h' tk t' hk => ?_⟩
  · show b < ((s1.heap.push _).push _).objs.size
    rw [Heap.size_push, Heap.size_push]
    rw [hsz] at hb
    rcases List.mem_cons.mp hb with e | hb
    · rw [e]
      exact Nat.lt_succ_self _
    · have e : b = a := List.mem_singleton.mp hb
      rw [e]
      exact Nat.lt_succ_of_lt (Nat.lt_succ_of_lt hlt)
  · rw [hlv] at hj
    have b1 := hbd (is.getD j 0) (by rw [List.getD_eq_getElem?_getD, List.getElem?_eq_getElem hj]; exact List.getElem_mem hj)
    have b2 := sum_bnd 1000000000000 (is.take (j + 1)) fun i hi => hbd i (List.mem_of_mem_take hi)
    have b3 : (is.take (j + 1)).length ≤ 1000000 := by rw [List.length_take]; omega
    have b4 := preSum_sum is (j + 1) (by omega)
    refine ⟨?_, ?_⟩
    · show InLong (is.getD j 0)
      unfold InLong
      omega
    · rw [b4]
      unfold InLong
      omega
  · refine ⟨.int _, H1, I1.kept (t' := tk) fun b u e => hk b u (fun hmem => ?_) (Heap.get?_push_of_some _ (k1 b u e)), ⟨t', rfl⟩, ?_⟩
    · have e1 : b = (s1.heap.push { cls := .type "dict_values", data := .fields #[.ref a] }).objs.size := List.mem_singleton.mp hmem
      have e2 := Heap.lt_size e
      rw [hsz] at e1
      rw [e1] at e2
      exact absurd e2 (Nat.not_lt.mpr (Nat.le_succ _))
    · rw [hlv, preSum_sum is is.length (Nat.le_refl _), List.take_length]
      exact q
end
end GX

/-! GX: dicts: displays, comprehensions, update. -/
namespace GX
open PySem PySem.Spec PyProof.Rows L2
section
variable {q : Bool} {K : PySem.W.Frag} {mg : Str → Option Value} {P : List V} {H H' H1 H2 : Hp} {B B' B1 B2 : Addr → Prop} {x y : V} {v w r c : PV} {xs : List PV} {ys : List V} {F F' F1 F2 G G1 G2 W : List Addr} {ρ ρ' ρ1 ρ2 : Rho} {σ σ' σ1 σ2 : Sg} {X : Cx} {a b e : Expr} {pos p2 : Pos} {D : Ends} {o : Out}
/-- {} -/
def cD0 : M PV := fun ρ => some (.dic true [], ρ)
theorem ge_d0 : PE X (.Dict [] [] pos) (tE q K mg P cD0) := by
  refine PE.weak pe_dnewK fun σ H Q ⟨ρ, B, F, u, ρ', R, e1, k⟩ => ?_
  cases e1
  intro p hp
  have kp : Keep [] H B (upd H p (.dK [])) (own1 B p) := Keep.newO hp
  refine k (.ref p) _ (own1 B p) [p] F ⟨.dicO (ks := []) (ps := []) upd_same (.inl rfl) rfl .nil, R.slots.keep kp MutW.nil (fun _ _ h => nomatch h), ?_, ⟨fun b hb => ?_, kp.mono fun _ h => nomatch h⟩, fun _ => ⟨rfl, rfl, ?_⟩⟩
  · refine List.nodup_cons.mpr ⟨fun hm => ?_, R.nd⟩
    have := (R.slots.mut p hm).2
    rw [hp] at this
    exact this
  · rcases List.mem_cons.mp hb with h | h
    · exact .inr (h ▸ hp)
    · exact .inl h
  · exact kp
/-! ### update -/
def mergeP {α : Type} (ks ls : List (Key × α)) : List (Key × α) := ls.foldl (fun acc kv => putP acc kv.1 kv.2) ks
def gUpdate : PV → List PV → Option (PV × PV)
  | .dic true ps, [.dic _ qs] => guard (PV.pures (qs.map (·.2)) = true ∧ ps.length + qs.length ≤ 16777216) (some (.dic true (mergeP ps qs), .non))
  | _, _ => none
theorem putP_fst {α β : Type} : ∀ {ps : List (Key × α)} {ks : List (Key × β)} {k : Key} {u : α} {z : β}, ps.map (·.1) = ks.map (·.1) → (putP ps k u).map (·.1) = (putP ks k z).map (·.1)
  | [], [], k, u, z, _ => rfl
  | [], _ :: _, _, _, _, e => by simp at e
  | _ :: _, [], _, _, _, e => by simp at e
  | (k1, v1) :: ps, (k2, v2) :: ks, k, u, z, e => by
    simp only [List.map_cons, List.cons.injEq] at e
    obtain ⟨e1, e2⟩ := e
    subst e1
    unfold putP
    by_cases h : k1 = k
    · rw [if_pos h, if_pos h]
      simp [e2]
    · rw [if_neg h, if_neg h]
      simp [putP_fst (k := k) (u := u) (z := z) e2]
theorem putP_keys {α : Type} : ∀ {ps : List (Key × α)} {k : Key} {u : α}, (ps.map (·.1)).Nodup → ((putP ps k u).map (·.1)).Nodup ∧ ∀ j, j ∈ (putP ps k u).map (·.1) ↔ j = k ∨ j ∈ ps.map (·.1)
  | [], k, u, _ => by simp [putP]
  | (k1, v1) :: ps, k, u, h => by
    simp only [List.map_cons, List.nodup_cons] at h
    obtain ⟨i1, i2⟩ := putP_keys (k := k) (u := u) h.2
    unfold putP
    by_cases e : k1 = k
    · rw [if_pos e]
      subst e
      exact ⟨by simpa using h, fun j => by simp⟩
    · rw [if_neg e]
      refine ⟨?_, fun j => ?_⟩
      · simp only [List.map_cons, List.nodup_cons]
        refine ⟨fun hm => ?_, i1⟩
        rcases (i2 k1).mp hm with z | z
        · exact e z
        · exact h.1 z
      · simp only [List.map_cons, List.mem_cons, i2 j]
        constructor
        · rintro (z | z | z)
          · exact .inr (.inl z)
          · exact .inl z
          · exact .inr (.inr z)
        · rintro (z | z | z)
          · exact .inr (.inl z)
          · exact .inl z
          · exact .inr (.inr z)
theorem putK_eq_putP : ∀ {ks : List (Key × V)} {k : Key} {u : V}, (ks.map (·.1)).Nodup → putK ks k u = putP ks k u
  | [], k, u, _ => by simp [putK, putP]
  | (k1, v1) :: ks, k, u, h => by
    simp only [List.map_cons, List.nodup_cons] at h
    by_cases e : k1 = k
    · rw [putK_cons_eq e h.1, putP, if_pos e]
    · rw [putK_cons_ne e, putP, if_neg e, putK_eq_putP h.2]
theorem putP_len {α : Type} : ∀ (ps : List (Key × α)) (k : Key) (u : α), (putP ps k u).length ≤ ps.length + 1
  | [], k, u => by simp [putP]
  | (k1, v1) :: ps, k, u => by
    have := putP_len ps k u
    unfold putP
    split <;> simp <;> omega
theorem RVs.merge : ∀ {qs : List (Key × PV)} {ls : List (Key × V)} {ps : List (Key × PV)} {ks : List (Key × V)} {Fx : List Addr}, ps.map (·.1) = ks.map (·.1) → (ks.map (·.1)).Nodup → RVs K mg H B (ps.map (·.2)) (ks.map (·.2)) Fx → Fx.Nodup →
    qs.map (·.1) = ls.map (·.1) → RVs K mg H B (qs.map (·.2)) (ls.map (·.2)) [] → (mergeP ps qs).map (·.1) = (mergeK ks ls).map (·.1) ∧ ∃ F', RVs K mg H B ((mergeP ps qs).map (·.2)) ((mergeK ks ls).map (·.2)) F' ∧ F'.Nodup ∧ ∀ b ∈ F', b ∈ Fx
  | [], [], ps, ks, Fx, e, nk, r, nd, _, _ => ⟨e, Fx, r, nd, fun b hb => hb⟩
  | [], _ :: _, _, _, _, _, _, _, _, e, _ => by simp at e
  | _ :: _, [], _, _, _, _, _, _, _, e, _ => by simp at e
  | (k1, v1) :: qs, (k2, v2) :: ls, ps, ks, Fx, e, nk, r, nd, e2, r2 => by
    simp only [List.map_cons, List.cons.injEq] at e2
    obtain ⟨e3, e4⟩ := e2
    subst e3
    generalize hz : ([] : List Addr) = Z at r2
    cases r2 with
    | @cons _ _ _ _ Ga Gb ra rb =>
    obtain ⟨rfl, rfl⟩ := List.append_eq_nil_iff.mp hz.symm
    obtain ⟨i1, F', i2, i3, i4⟩ := RVs.put (k := k1) e nk r ra (by simpa using nd)
    have nk2 : ((putK ks k1 v2).map (·.1)).Nodup := by rw [putK_eq_putP nk]; exact (putP_keys nk).1
    obtain ⟨j1, F2, j2, j3, j4⟩ := RVs.merge (qs := qs) (ls := ls) i1 nk2 i2 i3 e4 rb
    exact ⟨j1, F2, j2, j3, fun b hb => by have := i4 b (j4 b hb); simpa using this⟩
theorem mt_updP : MtR X "dict.update" (rMut K mg gUpdate) := by
  intro pins s σ H x xs v us Q I rx rxs ⟨B, ob, vs, Wo, Ga, ob', r, r1, r2, nd, g, hp, k⟩
  unfold gUpdate at g
  split at g
  · rename_i ps o2 qs
    obtain ⟨⟨c1, c2⟩, g⟩ := guard_some g
    cases g
    have nil2 : ∀ {ls : List (Key × V)} {F : List Addr}, RVs K mg H B (qs.map (·.2)) (ls.map (·.2)) F → RVs K mg H B (qs.map (·.2)) (ls.map (·.2)) [] := fun r => r.pures0 c1
    cases r1 with
    | @dicO a ks _ Fx h hB e2 rs =>
      have hl : ps.length = ks.length := by simpa using congrArg List.length e2
      have fin : ∀ {b : Addr} {ls : List (Key × V)}, xs = [.ref b] → Rd H b (.dK ls) → a ≠ b → qs.map (·.1) = ls.map (·.1) → RVs K mg H B (qs.map (·.2)) (ls.map (·.2)) [] → rDUpd (.ref a) xs H Q := fun {b ls} ex rd ne e3 rq => by
        have hl2 : qs.length = ls.length := by simpa using congrArg List.length e3
        refine ⟨a, b, ks, ls, rfl, ex, h, rd, ne, by rw [← hl, ← hl2]; exact c2, ?_⟩
        have kp : Keep [a] H B (upd H a (.dK (mergeK ks ls))) B := Keep.at
        have m : MutW [a] H B := MutW.one hB (by rw [h]; trivial)
        have hnd : (a :: Fx).Nodup := nodup_l nd
        obtain ⟨na, nd2⟩ := List.nodup_cons.mp hnd
        have rs' := rs.keep kp m fun b hb z => na (by simp at z; subst z; exact hb)
        have rq' := rq.keep kp m fun b hb => nomatch hb
        obtain ⟨i1, F', i2, i3, i4⟩ := RVs.merge e2 (dict_nodup I h) rs' nd2 e3 rq'
        exact k .non _ B (a :: F') ⟨.dicO upd_same hB i1 i2, List.nodup_cons.mpr ⟨fun hm => na (i4 a hm), i3⟩, fun b hb => by
          rcases List.mem_cons.mp hb with z | z
          · simp [z]
          · simp [i4 b z], kp.mono fun b hb => by simp at hb; simp [hb]⟩ .non
      cases r2 with
      | cons ra rn =>
        cases rn
        refine mtd_update pins s σ H _ _ v us Q I rx rxs ?_
        cases ra with
        | @dicO b ls _ Fb h2 hB2 e3 rq => exact fin rfl (.inl h2) (fun e => by have := nodup_ne nd a (by simp); exact this (by subst e; simp)) e3 (nil2 rq)
        | @dicF b ls _ h2 nB e3 rq => exact fin rfl h2 (fun e => nB (e ▸ hB)) e3 rq
  · cases g
end
end GX

/-! GX: dict comprehensions with one clause. -/
namespace GX
open PySem PySem.Spec PyProof.Rows L2
section
variable {q : Bool} {K : PySem.W.Frag} {mg : Str → Option Value} {P : List V} {H H' H1 H2 : Hp} {B B' B1 B2 : Addr → Prop} {x y : V} {v w r c : PV} {xs : List PV} {ys : List V} {F F' F1 F2 G G1 G2 W : List Addr} {ρ ρ' ρ1 ρ2 : Rho} {σ σ' σ1 σ2 : Sg} {X : Cx} {a b e : Expr} {pos p2 : Pos} {D : Ends} {o : Out}
def dcompL (vs : List Nat) (g : Tg) (t : M Bool) (ke ve : M PV) : List PV → List (Key × PV) → Rho → Option (List (Key × PV) × Rho)
  | [], acc, ρ => some (acc, ρ)
  | x :: xs, acc, ρ => if x.pure then (g x ρ).bind fun ρ1 => (t ρ1).bind fun z => if z.1 then (ke z.2).bind fun kk => if kk.1.pure then (toKey kk.1).bind fun k => (ve kk.2).bind fun y => if acc.length < 16777216 then dcompL vs g t ke ve xs (putP acc k y.1) (mskR vs 0 y.2) else none else none else dcompL vs g t ke ve xs acc (mskR vs 0 z.2) else none
def cDComp (vs : List Nat) (f : M (List PV)) (g : Tg) (t : M Bool) (ke ve : M PV) : M PV := fun ρ => (f ρ).bind fun z => if pureW vs 0 z.2 then (dcompL vs g t ke ve z.1 [] (mskR vs 0 z.2)).bind fun r => some (.dic true r.1, bckR vs 0 r.2 z.2) else none
structure DCompAt (K : PySem.W.Frag) (mg : Str → Option Value) (P : List V) (vs : List Nat) (g : Tg) (t : M Bool) (ke te : M PV) (items : List PV) (bs : List PV) (xs : List V) (Gs : List Addr) (σw : Sg) (H1 : Hp) (B1 : Addr → Prop) (F1 : List Addr) (D : Addr) (fin : List (Key × PV)) (ρe : Rho)
    (i : Nat) (H : Hp) (B : Addr → Prop) (F Fa : List Addr) (ρ : Rho) (acc : List (Key × PV)) (ks : List (Key × V)) : Prop where
  hbs : RVs K mg H B bs xs Gs
  sl : RSs K mg H B ρ σw P F
  lst : H D = some (.dK ks)
  own : B D
  keq : acc.map (·.1) = ks.map (·.1)
  nk : (ks.map (·.1)).Nodup
  hacc : RVs K mg H B (acc.map (·.2)) (ks.map (·.2)) Fa
  nd : (Gs ++ (D :: (Fa ++ F))).Nodup
  st : Step H1 B1 F1 H B (D :: (Fa ++ F))
  run : dcompL vs g t ke te (items.drop i) acc ρ = some (fin, ρe)
theorem nd_put {Gs Fa G7 F7 F' F8 : List Addr} {D : Addr} (h : (Gs ++ (D :: (Fa ++ (G7 ++ F7)))).Nodup) (a : ∀ b ∈ F', b ∈ Fa ++ G7) (n1 : F'.Nodup) (s : ∀ b ∈ F8, b ∈ F7) (n2 : F8.Nodup) : (Gs ++ (D :: (F' ++ F8))).Nodup := by
  obtain ⟨g1, g2, g3⟩ := List.nodup_append.mp h
  obtain ⟨g4, g5⟩ := List.nodup_cons.mp g2
  obtain ⟨g6, g7, g8⟩ := List.nodup_append.mp g5
  obtain ⟨_, _, g9⟩ := List.nodup_append.mp g7
  have up : ∀ b ∈ D :: (F' ++ F8), b ∈ D :: (Fa ++ (G7 ++ F7)) := fun b hb => by
    rcases List.mem_cons.mp hb with z | z
    · simp [z]
    · rcases List.mem_append.mp z with z | z
      · have := a b z
        simp only [List.mem_append, List.mem_cons] at this ⊢
        rcases this with q | q
        · exact .inr (.inl q)
        · exact .inr (.inr (.inl q))
      · simp [s b z]
  refine List.nodup_append.mpr ⟨g1, List.nodup_cons.mpr ⟨fun hm => g4 ?_, List.nodup_append.mpr ⟨n1, n2, fun b hb c hc e => ?_⟩⟩, fun b hb c hc => g3 b hb c (up c hc)⟩
  · rcases List.mem_append.mp hm with z | z
    · have := a D z
      simp only [List.mem_append] at this ⊢
      rcases this with q | q
      · exact .inl q
      · exact .inr (.inl q)
    · simp [s D z]
  · subst e
    rcases List.mem_append.mp (a b hb) with z | z
    · exact g8 b z b (List.mem_append_right _ (s b hc)) rfl
    · exact g9 b z b (s b hc) rfl
theorem toKey_kV {k : PV} {kx : Key} (r : RV K mg H B k x F) (e : toKey k = some kx) : x = kV kx := toKey_ok r e
theorem dcomp_te {vs : List Nat} {f : M (List PV)} {g : Tg} {t : M Bool} {ke te : M PV} {H : Hp} {Q : VK} (h : tE false K mg P (cDComp vs f g t ke te) σ H Q) : tDc (tI K mg P f) (tG K mg P (TW vs) g) (tT false K mg P t) (tE false K mg P ke) (tE false K mg P te) vs σ H Q := by
  obtain ⟨ρ, B, F, v, ρ', R, e1, k⟩ := h
  obtain ⟨⟨items, ρ1⟩, z1, e1⟩ := bind_some e1
  split at e1
  rotate_left
  · cases e1
  rename_i hpw
  obtain ⟨⟨fin, ρe⟩, z2, e1⟩ := bind_some e1
  obtain ⟨rfl, rfl⟩ : v = .dic true fin ∧ ρ' = bckR vs 0 ρe ρ1 := by cases e1; exact ⟨rfl, rfl⟩
  refine ⟨ρ, B, F, items, ρ1, R, z1, fun J H1 B1 F1 bs xs Gs rb sl nd st it D hD => ?_⟩
  have mD : ∀ b ∈ Gs ++ F1, b ≠ D := fun b hb e => by
    subst e
    have : Mut (H1 b) := (List.mem_append.mp hb).elim (fun h => (rb.mut b h).2) fun h => (sl.mut b h).2
    rw [hD] at this
    exact this
  have kD : Keep [] H1 B1 (upd H1 D (.dK [])) (own1 B1 D) := Keep.newO hD
  obtain ⟨F0, sl0, sub0⟩ := (sl.keep kD MutW.nil fun _ _ h => nomatch h).msk (vs := vs) (k := 0)
  have c0 : DCompAt K mg P vs g t ke te items bs xs Gs (wipe σ vs) H1 B1 F1 D fin ρe 0 (upd H1 D (.dK [])) (own1 B1 D) F0 [] (mskR vs 0 ρ1) [] [] := by
    refine ⟨rb.keep0 kD, by rw [wipe_msk]; exact sl0, upd_same, .inl rfl, rfl, List.nodup_nil, .nil, ?_, ⟨fun b hb => ?_, kD.mono fun _ h => nomatch h⟩, z2⟩
    · have n2 : (Gs ++ F0).Nodup := nd.sublist (List.Sublist.append (List.Sublist.refl _) sub0)
      have m2 : ∀ b ∈ Gs ++ F0, b ≠ D := fun b hb => mD b ((List.Sublist.append (List.Sublist.refl Gs) sub0).subset hb)
      grind [List.nodup_append]
    · rcases List.mem_cons.mp hb with e | hb
      · exact .inr (e ▸ hD)
      · exact .inl (sub0.subset (by simpa using hb))
  refine ⟨fun i m H => m + i = items.length ∧ ∃ B F Fa ρ acc ks, DCompAt K mg P vs g t ke te items bs xs Gs (wipe σ vs) H1 B1 F1 D fin ρe i H B F Fa ρ acc ks, ⟨items.length, by simp, _, _, _, _, _, _, c0⟩, ?_⟩
  rintro i m H2 ⟨hm, B2, F2, Fa, ρ2, acc, ks, c⟩
  obtain ⟨js, jg⟩ := it H2 B2 Gs c.hbs
  by_cases hi : i < items.length
  · have hd : items.drop i = items[i] :: items.drop (i + 1) := List.drop_eq_getElem_cons hi
    have e2 := c.run
    rw [hd, dcompL] at e2
    split at e2
    rotate_left
    · cases e2
    rename_i hpure
    obtain ⟨ρ3, z3, e2⟩ := bind_some e2
    obtain ⟨⟨b, ρ4⟩, z4, e2⟩ := bind_some e2
    obtain ⟨go, yl⟩ := jg i items[i] (List.getElem?_eq_getElem hi)
    refine .inr ⟨go, fun H' => ∃ B F Fa ρ acc ks, DCompAt K mg P vs g t ke te items bs xs Gs (wipe σ vs) H1 B1 F1 D fin ρe (i + 1) H' B F Fa ρ acc ks, fun H' h => ⟨items.length - (i + 1), by omega, by omega, h⟩, fun x H' hy => ?_⟩
    obtain ⟨B3, kp, rx⟩ := yl x H' hy hpure
    have sl3 := c.sl.keep kp MutW.nil fun _ _ h => nomatch h
    have bs3 := c.hbs.keep0 kp
    have ac3 := c.hacc.keep0 kp
    obtain ⟨l3, o3⟩ := kp D _ c.lst (fun h => nomatch h)
    have st3 : Step H1 B1 F1 H' B3 (D :: (Fa ++ F2)) := c.st.trans ⟨fun b hb => .inl hb, kp.mono fun _ h => nomatch h⟩
    have ndF : F2.Nodup := by have := c.nd; grind [List.nodup_append]
    refine ⟨ρ2, B3, F2, items[i], [], ρ3, rx, sl3, by simpa using ndF, z3, fun σ4 H4 B4 F4 p4 tw => ⟨tw.trans wipe_wipe, ?_⟩⟩
    have p4s : Step H' B3 F2 H4 B4 F4 := p4.st
    refine ⟨ρ3, B4, F4, b, ρ4, p4.rel, z4, fun H5 B5 F5 p5 => ?_⟩
    have st5 : Step H' B3 F2 H5 B5 F5 := p4s.trans p5.st
    -- behind the tests
    have rest : ∀ {H6 : Hp} {B6 : Addr → Prop} {F6 : List Addr}, Step H' B3 F2 H6 B6 F6 → F6.Nodup → RVs K mg H6 B6 bs xs Gs ∧ RVs K mg H6 B6 (acc.map (·.2)) (ks.map (·.2)) Fa ∧ H6 D = some (.dK ks) ∧ B6 D ∧ (Gs ++ (D :: (Fa ++ F6))).Nodup ∧ Step H1 B1 F1 H6 B6 (D :: (Fa ++ F6)) := fun {H6 B6 F6} s6 n6 => by
      have nd := c.nd
      have m3 : MutW F2 H' B3 := sl3.mut
      have d1 : ∀ b ∈ Gs, b ∉ F2 := by grind [List.nodup_append]
      have d2 : ∀ b ∈ Fa, b ∉ F2 := by grind [List.nodup_append]
      have d3 : D ∉ F2 := by grind [List.nodup_append]
      obtain ⟨l6, o6⟩ := s6.keep D _ l3 d3
      refine ⟨bs3.keep s6.keep m3 d1, ac3.keep s6.keep m3 d2, l6, o6.mpr (o3.mpr c.own), ?_, ?_⟩
      · have fr : ∀ b ∈ F6, b ∉ Gs ++ (D :: Fa) := fun b hb hg => by
          rcases s6.own b hb with h | h
          · grind [List.nodup_append]
          · have : Mut (H' b) := by
              simp only [List.mem_append, List.mem_cons] at hg
              rcases hg with h | h | h
              · exact (bs3.mut b h).2
              · subst h; rw [l3]; trivial
              · exact (ac3.mut b h).2
            rw [h] at this
            exact this
        grind [List.nodup_append]
      · exact st3.trans (s6.beside (D :: Fa))
    cases b with
    | false =>
      simp only [Bool.false_eq_true, if_false]
      have e2 : dcompL vs g t ke te (items.drop (i + 1)) acc (mskR vs 0 ρ4) = some (fin, ρe) := by simpa using e2
      obtain ⟨F7, sl7, sub7⟩ := p5.sl.msk (vs := vs) (k := 0)
      rw [← wipe_msk, show wipe σ4 vs = wipe σ vs from tw.trans wipe_wipe] at sl7
      obtain ⟨h1, h2, h3, h4, h5, h6⟩ := rest st5 p5.nd
      have sb : List.Sublist (D :: (Fa ++ F7)) (D :: (Fa ++ F5)) := (List.Sublist.append (List.Sublist.refl Fa) sub7).cons_cons D
      exact ⟨B5, F7, Fa, _, acc, ks, h1, sl7, h3, h4, c.keq, c.nk, h2, h5.sublist (List.Sublist.append (List.Sublist.refl Gs) sb), h6.less fun b hb => sb.subset hb, e2⟩
    | true =>
      simp only [if_true] at e2 ⊢
      obtain ⟨⟨kk, ρ5⟩, z5, e2⟩ := bind_some e2
      split at e2
      rotate_left
      · cases e2
      rename_i hkp
      obtain ⟨kx, zk, e2⟩ := bind_some e2
      obtain ⟨⟨y, ρ6⟩, z6, e2⟩ := bind_some e2
      split at e2
      rotate_left
      · cases e2
      rename_i hlen
      refine ⟨ρ4, B5, F5, kk, ρ5, p5.rel, z5, fun kv H6 B6 G6 F6 p6 => ?_⟩
      have eG : G6 = [] := p6.rv.pure hkp
      subst eG
      have ek : kv = kV kx := toKey_kV p6.rv zk
      refine ⟨ρ5, B6, F6, y, ρ6, p6.rel, z6, fun yv H7 B7 G7 F7 p7 => ?_⟩
      have stq : Step H' B3 F2 H7 B7 (G7 ++ F7) := (st5.trans (p6.st.less fun b hb => by simpa using hb)).trans p7.st
      obtain ⟨h1, h2, h3, h4, h5, h6⟩ := rest stq p7.nd
      have hl : acc.length = ks.length := by simpa using congrArg List.length c.keq
      refine ⟨ks, kx, ek, h3, by show ks.length < 16777216; omega, ?_⟩
      have kp7 : Keep [D] H7 B7 (upd H7 D (.dK (putK ks kx yv))) B7 := Keep.at
      have m7 : MutW [D] H7 B7 := MutW.one h4 (by rw [h3]; trivial)
      obtain ⟨n1, n2, n3, n4⟩ := nd_parts h5
      have d1 := not_one n1
      have d2 := not_one n2
      have d3 := not_one n3
      have d4 := not_one n4
      obtain ⟨F8, sl8, sub8⟩ := (p7.sl.keep kp7 m7 d4).msk (vs := vs) (k := 0)
      rw [← wipe_msk, show wipe σ4 vs = wipe σ vs from tw.trans wipe_wipe] at sl8
      have ndFa : (Fa ++ G7).Nodup := by
        have z := nodup_r h5
        have z2 := (List.nodup_cons.mp z).2
        rw [← List.append_assoc] at z2
        exact nodup_l z2
      obtain ⟨j1, F', j2, j3, j4⟩ := RVs.put (k := kx) c.keq c.nk (h2.keep kp7 m7 d2) (p7.rv.keep kp7 m7 d3) ndFa
      have nk2 : ((putK ks kx yv).map (·.1)).Nodup := by rw [putK_eq_putP c.nk]; exact (putP_keys c.nk).1
      have sb8 : ∀ b ∈ F8, b ∈ F7 := fun b hb => sub8.subset hb
      have nd8 : F8.Nodup := (nodup_r p7.nd).sublist sub8
      have inn : ∀ b ∈ D :: (F' ++ F8), b ∈ D :: (Fa ++ (G7 ++ F7)) := fun b hb => by
        rcases List.mem_cons.mp hb with z | z
        · simp [z]
        · rcases List.mem_append.mp z with z | z
          · have := j4 b z
            simp only [List.mem_append, List.mem_cons] at this ⊢
            rcases this with q | q
            · exact .inr (.inl q)
            · exact .inr (.inr (.inl q))
          · simp [sb8 b z]
      refine ⟨B7, F8, F', _, putP acc kx y, putK ks kx yv, h1.keep kp7 m7 d1, sl8, upd_same, h4, j1, nk2, j2, ?_, ?_, e2⟩
      · exact nd_put h5 j4 j3 sb8 nd8
      · have s7 : Step H7 B7 (D :: (Fa ++ (G7 ++ F7))) (upd H7 D (.dK (putK ks kx yv))) B7 (D :: (Fa ++ (G7 ++ F7))) := ⟨fun b hb => .inl hb, kp7.mono fun b hb => by simp at hb; simp [hb]⟩
        exact (h6.trans s7).less inn
  · have hd : items.drop i = [] := List.drop_eq_nil_of_le (by omega)
    have e2 := c.run
    rw [hd] at e2
    obtain ⟨rfl, rfl⟩ : fin = acc ∧ ρe = ρ2 := by cases e2; exact ⟨rfl, rfl⟩
    have sl2 := c.sl
    rw [wipe_msk] at sl2
    obtain ⟨F3, sl3, sub3⟩ := RSs.bck c.st.keep sl.mut sl hpw sl2
    refine .inl ⟨js i (by omega), k (.ref D) H2 B2 (D :: Fa) F3 ⟨.dicO c.lst c.own c.keq c.hacc, sl3, ?_, ?_, fun h => nomatch h⟩⟩
    · have n := nodup_r c.nd
      exact n.sublist ((List.Sublist.append (List.Sublist.refl Fa) sub3).cons_cons D)
    · refine (st.trans (c.st.beside Gs)).less fun b hb => List.mem_append_right _ ?_
      exact ((List.Sublist.append (List.Sublist.refl Fa) sub3).cons_cons D).subset hb
theorem ge_dcomp {kx vx tg iter : Expr} {ifs : List Expr} {scope : Scope} {own : List (Str × Nat)} {f : M (List PV)} {g : Tg} {t : M Bool} {ke te : M PV} (hc : X.calm = true) (hN : X.N.Nodup) (hi : PI X tg iter (tI K mg P f)) (ok : BlkOk X.N X.env.scope scope own)
    (hg : ∀ (s : Shared) (H : Hp) (C : Addr) (cl : List (Str × Addr)) (fp : List Addr), PG (X.blk s H scope (compEnvC scope cl C X.env) fp) tg (tG K mg P (TW (own.map (·.2))) g)) (ht : ∀ (s : Shared) (H : Hp) (C : Addr) (cl : List (Str × Addr)) (fp : List Addr), PTs (X.blk s H scope (compEnvC scope cl C X.env) fp) ifs (tT false K mg P t))
    (hk : ∀ (s : Shared) (H : Hp) (C : Addr) (cl : List (Str × Addr)) (fp : List Addr), PE (X.blk s H scope (compEnvC scope cl C X.env) fp) kx (tE false K mg P ke)) (he : ∀ (s : Shared) (H : Hp) (C : Addr) (cl : List (Str × Addr)) (fp : List Addr), PE (X.blk s H scope (compEnvC scope cl C X.env) fp) vx (tE false K mg P te)) (hs : ∀ x, foldedSetIterable iter X.env x = pure x := by intro _; rfl) :
    PE X (.DictComp kx vx [⟨tg, iter, ifs, 0⟩] scope pos) (tE false K mg P (cDComp (own.map (·.2)) f g t ke te)) := PE.weak (pe_dc hc hN hi ok hg ht hk he hs) fun σ H Q h => dcomp_te h
end
end GX

/-! GX: enumerate and zip over lists and tuples, in any mix. -/
namespace GX
open PySem PySem.Spec PyProof.Rows L2
set_option maxHeartbeats 1000000 in
theorem meets_enumT (l : Addr) (items : Array Value) (n : Nat) (dct : Option Addr) (sl : Array (Option Value)) :
    Meets (Builtin.«enumerate.__new__» ⟨[.type "enumerate", .ref l], []⟩) (fun _ R s => s.heap.get? l = some ⟨.type "tuple", dct, .seq items n, sl⟩ ∧
      R (.ok (.ret (.ref (s.heap.push { cls := .type "tuple_iterator", data := .fields #[.ref l, .int 0 0] }).objs.size)))
        { s with heap := (s.heap.push { cls := .type "tuple_iterator", data := .fields #[.ref l, .int 0 0] }).push { cls := .type "enumerate", data := .fields #[.none, .bool false, .ref s.heap.objs.size, rawInt 0, .none, .none] } }) :=
  .of_wp fun prog w A R s h => by
    obtain ⟨hp, g, d, tk, os⟩ := s; obtain ⟨hl, h⟩ := h
    have hL : Heap.IsTuple hp l items := ⟨_, hl, rfl, _, rfl⟩
    have hsub := sub_enumerate
    wp_walk using wpAny_loadPart' hl, wpAny_pyIter_tuple hL
    refine wpAny_stack_any fun st => wpAny_pure ?_
    split
    · rename_i c _ _ _ _ _
      cases (c == Value.type "enumerate")
      · wp_walk using wpAny_loadPart' hl, wpAny_pyIter_tuple hL
        exact ⟨_, rfl, h⟩
      · wp_walk using wpAny_loadPart' hl, wpAny_pyIter_tuple hL
        exact ⟨_, rfl, h⟩
    · wp_walk using wpAny_loadPart' hl, wpAny_pyIter_tuple hL
      exact ⟨_, rfl, h⟩
/-! lists and tuples alike -/
def Sqk (K : PySem.W.Frag) (k : Bool) (H : Hp) (a : Addr) (xs : List V) : Prop := if k = true then SqL K H a xs else SqT K H a xs
def Isk (k : Bool) (h : Heap) (a : Addr) (its : Array Value) : Prop := if k = true then h.IsList a its else h.IsTuple a its
def Itk (k : Bool) (h : Heap) (it a : Addr) (i : Nat) : Prop := if k = true then h.IsListIter it a i else h.IsTupleIter it a i
theorem Isk.lt {k : Bool} {h : Heap} {a : Addr} {its : Array Value} (x : Isk k h a its) : a < h.objs.size := by
  cases k
  · obtain ⟨_, e, _⟩ := (show h.IsTuple a its from x); exact Heap.lt_size e
  · obtain ⟨_, e, _⟩ := (show h.IsList a its from x); exact Heap.lt_size e
theorem Itk.at {k : Bool} {h h' : Heap} {it a : Addr} {i : Nat} (x : Itk k h it a i) (e : ∀ o, h.get? it = some o → h'.get? it = some o) : Itk k h' it a i := by
  cases k
  · exact (show h.IsTupleIter it a i from x).at e
  · exact (show h.IsListIter it a i from x).at e
theorem Itk.obj {k : Bool} {h : Heap} {it a : Addr} {i : Nat} (x : Itk k h it a i) : ∃ o, h.get? it = some o ∧ ∀ v, o.data ≠ .cell v := by
  cases k
  · obtain ⟨o, e, c, d⟩ := (show h.IsTupleIter it a i from x); exact ⟨o, e, fun v z => by rw [d] at z; cases z⟩
  · obtain ⟨o, e, c, d⟩ := (show h.IsListIter it a i from x); exact ⟨o, e, fun v z => by rw [d] at z; cases z⟩
section
variable {X : Cx} {pins : List (Addr × Obj)} {σ : L2.St} {H : Hp} {s : Shared} {k : Bool} {a : Addr} {xs ys : List V}
theorem sqk_at (I : Inv X pins σ H s) (h : Sqk X.K k H a xs) : ∃ its : List Value, Vals xs its ∧ Isk k s.heap a its.toArray ∧ its.length ≤ sizeLine := by
  cases k
  · obtain ⟨its, rv, p, z⟩ := I.tuple h
    exact ⟨its, rv, p, by rw [← rv.length]; exact z⟩
  · obtain ⟨its, rv, p, z⟩ := I.list h
    exact ⟨its, rv, p.isList, by rw [← rv.length]; exact z⟩
theorem sqk_inj (I : Inv X pins σ H s) (h : Sqk X.K k H a xs) (h' : Sqk X.K k H a ys) : xs = ys := by
  cases k
  · exact I.tuple_inj h h'
  · exact I.list_inj h h'
end
theorem drawsk {prog : Program} {w : World} {A : Around} (hh : A.handled = none) (k : Bool) (it l : Addr) (hne : l ≠ it) (its : Array Value) : Draws prog w A it [it, l] its.size (fun i v => its[i]? = some v) (fun i h => Itk k h it l i ∧ Isk k h l its) := by
  cases k
  · exact Draws.tuple hh it l hne its
  · exact Draws.list hh it l hne its
theorem beginsk (k : Bool) (l : Addr) (its : Array Value) : ∃ o : Obj, Begins (.ref l) o (fun h => Isk k h l its) ∧ ∀ (h : Heap) (it : Addr), h.get? it = some o → Itk k h it l 0 := by
  cases k
  · exact ⟨_, begins_tuple l its, fun h it e => ⟨_, e, rfl, rfl⟩⟩
  · exact ⟨_, begins_list l its, fun h it e => ⟨_, e, rfl, rfl⟩⟩
/-! ### enumerate -/
def IteK (K : PySem.W.Frag) (k : Bool) (a : Addr) : It :=
  ⟨fun i H => ∃ (xs : List V) (x : V), Sqk K k H a xs ∧ xs[i]? = some x, fun i H v H' => ∃ T x, v = .ref T ∧ H T = none ∧ H' = upd H T (.tup [.int (i : Nat), x]) ∧ ∀ xs, Sqk K k H a xs → xs[i]? = some x, fun i H => ∃ xs : List V, Sqk K k H a xs ∧ xs.length ≤ i⟩
theorem turn_enumK {P : Program} {w : World} {K : PySem.W.Frag} {elts : List Expr} {kk : Nat} {tpos : Pos} (k : Bool) (a e it : Addr) (hai : a ≠ it) (hae : e ≠ a) :
    Turn P w K (.Tuple elts kk tpos) (IteK K k a) [e, it] e (fun i h => (∃ old, IsEnum h e it ((i : Nat) : Int) old) ∧ Itk k h it a i ∧ e ≠ it) where
  mem := by simp
  obj := fun i h st b hb => by
    obtain ⟨⟨old, he⟩, hi, _⟩ := st
    have e' : b = e ∨ b = it := by simpa using hb
    rcases e' with z | z
    · rw [z]; exact ⟨_, he, fun v q => nomatch q⟩
    · rw [z]; exact hi.obj
  keep := fun i h h' st q => let ⟨⟨old, he⟩, hi, hne⟩ := st; ⟨⟨old, q e (by simp) _ he⟩, hi.at fun o z => q it (by simp) o z, hne⟩
  item := by
    intro X hP hw hK hc i pins s σ H E I hf st hg
    subst hP hw hK
    obtain ⟨⟨old, he⟩, hit, hne⟩ := st
    obtain ⟨xs, x, hq, hx⟩ := hg
    obtain ⟨its, rv, p, hz⟩ := sqk_at I hq
    obtain ⟨u, hu, ru⟩ := rv.get hx
    have hel : e < s.heap.objs.size := Heap.lt_size he
    have hil : it < s.heap.objs.size := by obtain ⟨_, q, _⟩ := hit.obj; exact Heap.lt_size q
    have hlt : i < its.toArray.size := by
      have := (List.getElem?_eq_some_iff.mp hu).1
      simpa using this
    refine wpAny_pyNext_enum_itemD (drawsk (A := X.A.in1) (I.ok.hd hc) k it a hai its.toArray) he ⟨hit, p⟩ hlt hne (by simp [hae, hne]) fun x' h' tk hx' ho hit' hT hsz hk => ?_
    obtain rfl : x' = u := by
      have e1 : its.toArray[i]? = some u := by simpa using hu
      rw [e1] at hx'
      cases hx'; rfl
    refine ⟨_, rfl, wpAny_letOwnedTupleGo_enum (s := { s with heap := h', toks := tk + 1 }) ho fun h'' he' sb => ?_⟩
    have hT2 : h''.get? s.heap.objs.size = some { cls := .type "tuple", data := .seq #[.int i tk, x'] } := (sb.2 _ (Nat.ne_of_gt hel)).trans hT
    have new : ObjOk X.prog X.w (upd H s.heap.objs.size (.tup [.int (i : Nat), x])) h'' s.heap.objs.size (.tup [.int (i : Nat), x]) :=
      ⟨by show 2 ≤ sizeLine; decide, [.int i tk, x'], .cons ⟨_, rfl⟩ (.cons ru .nil), ⟨_, hT2, rfl, _, rfl⟩⟩
    have I1 : Inv X pins σ (upd H s.heap.objs.size (.tup [.int (i : Nat), x])) { s with heap := h'', toks := tk + 1 } :=
      I.turnedNew (ch := [e, it]) (fun b ob hb q => (sb.2 b (fun z => hb (by simp [z]))).trans (hk b ob (fun z => hb (by simp [z])) (fun z => hb (by simp [z])) q)) hf (Nat.le_refl _) new
    refine ⟨.ref s.heap.objs.size, _, I1, rfl, ⟨_, x, rfl, I.hok.fresh (Nat.le_refl _), rfl, fun ys hy => by rw [sqk_inj I hy hq]; exact hx⟩, ⟨⟨x', ?_⟩, hit'.1.at fun o q => (sb.2 it (Ne.symm hne)).trans q, hne⟩, fun b hb => ?_⟩
    · have e1 : ((i + 1 : Nat) : Int) = (i : Int) + 1 := by omega
      rw [e1]; exact he'
    · have hb' : b < s.heap.objs.size := by
        have e' : b = e ∨ b = it := by simpa using hb
        rcases e' with z | z
        · rw [z]; exact hel
        · rw [z]; exact hil
      rw [upd_ne (Nat.ne_of_lt hb')]
      exact (hf b hb).1
  done := by
    intro X hP hw hK hc i pins s σ H E I hf st hg
    subst hP hw hK
    obtain ⟨⟨old, he⟩, hit, hne⟩ := st
    obtain ⟨xs, hq, hx⟩ := hg
    obtain ⟨its, rv, p, hz⟩ := sqk_at I hq
    obtain ⟨f0, f1, f2, f3, f4, f5⟩ := hf it (by simp)
    have hl := rv.length
    have fin : ∀ h', Heap.ExtBut it s.heap h' → (none : Option Value) = none ∧ Inv X pins σ H { s with heap := h' } := fun h' eb => ⟨rfl, I.turned (t' := s.toks) (fun b o hb q => eb b o hb q) f0 f1 f3 f4 f5⟩
    cases k with
    | true => exact wpAny_pyNext_enum_end (I.ok.hd hc) he hit p (by simp; omega) fin
    | false =>
      have hT : s.TypeIs (.ref e) "enumerate" := ⟨_, he, rfl⟩
      unfold pyNext
      refine wpAny_bind (wpAny_attempt (wpAny_callSpecial?_slot (name := Str.ofString "__next__") hT F.slot_enumerate_next
        (wpAny_call_entry F.slot_enumerate_next hT F.entry_enumerate_next ?_ (F.args_enumerate_next_1 _))))
      show wpAny _ _ (field (.ref e) 2 >>= _) _ _ _
      refine wpAny_bind (wpAny_field he rfl (x := .ref it) rfl ?_)
      refine wpAny_bind (wpAny_nextOf_tuple_end (A := X.A.in1) (I.ok.hd hc) hit p (by simp; omega) fun h' x he' hx' => ?_)
      obtain ⟨o, ho, hc⟩ := hx'
      refine wpAny_bind (wpAny_isInstance (T := "StopIteration") (b := true) ⟨o, ho, hc⟩ isSubtype_stop ?_)
      exact wpAny_pure (fin _ he')
  self := fun A i s Q E st h => let ⟨⟨_, he⟩, _⟩ := st; wpAny_pyIter_enum he h
theorem call_enumT {prog : Program} {w : World} {A : Around} {E : Value → Shared → Prop} {s : Shared} {l : Addr} {items : Array Value} {Q : Value → Shared → Prop} (hL : s.heap.IsTuple l items)
    (h : ∀ h', IsEnum h' (s.heap.objs.size + 1) s.heap.objs.size 0 .none → h'.IsTupleIter s.heap.objs.size l 0 → h'.objs.size = s.heap.objs.size + 2 →
      (∀ b o, s.heap.get? b = some o → h'.get? b = some o) → Q (.ref (s.heap.objs.size + 1)) { s with heap := h' }) :
    wpAny (model prog w) A (call (.type "enumerate") [.ref l]) Q E s := by
  obtain ⟨⟨c, dct, dt, sl⟩, hl, hc, n, hd⟩ := hL
  replace hc : c = .type "tuple" := hc
  replace hd : dt = .seq items n := hd
  subst hc hd
  refine callType_new F.called_enumerate (by decide) (F.typeCall_enumerate_1 _) (F.newCall_enumerate_1 _) (fun obj => F.args_object_init_2 obj _) F.entry_enumerate_new
    (meets_enumT l items n dct sl) ⟨hl, ?_⟩
  have hz : (s.heap.push { cls := .type "tuple_iterator", data := .fields #[.ref l, .int 0 0] }).objs.size = s.heap.objs.size + 1 := Heap.size_push ..
  show _ ∧ _
  rw [hz]
  have he : IsEnum ((s.heap.push { cls := .type "tuple_iterator", data := .fields #[.ref l, .int 0 0] }).push
      { cls := .type "enumerate", data := .fields #[.none, .bool false, .ref s.heap.objs.size, rawInt 0, .none, .none] }) (s.heap.objs.size + 1) s.heap.objs.size 0 .none := by
    have := Heap.get?_push_size (s.heap.push { cls := .type "tuple_iterator", data := .fields #[.ref l, .int 0 0] })
      (o := { cls := .type "enumerate", data := .fields #[.none, .bool false, .ref s.heap.objs.size, rawInt 0, .none, .none] }) rfl
    rw [hz] at this; exact this
  refine ⟨⟨_, he, rfl⟩, h _ he ⟨_, Heap.get?_push_of_some _ (Heap.get?_push_size _ rfl), rfl, rfl⟩ (by rw [Heap.size_push, hz]) fun b o x => Heap.get?_push_of_some _ (Heap.get?_push_of_some _ x)⟩
def iEnumK (K : PySem.W.Frag) (ta : TA) : TI := fun σ H R => ta σ H fun vs H1 => ∃ k a xs, vs = [.ref a] ∧ Sqk K k H1 a xs ∧ R (IteK K k a) H1
theorem pi_enumK {X : Cx} {e : Expr} {ta : TA} {p pos tpos : Pos} {elts : List Expr} {kk : Nat} (hg : Gl X "enumerate") (hm : X.mg "enumerate" = none) (ha : PA X [e] ta) (hs : starEach [e] X.env = [(false, eval e X.env)] := by rfl) :
    PI X (.Tuple elts kk tpos) (.Call (.Name "enumerate" p) [e] [] pos) (iEnumK X.K ta) := by
  refine ⟨fun pins s σ H R I h => ?_⟩
  refine Call_ (ld_blt I hg hm boot_enumerate (PyProof.Rows.callWith_type1 (thn (ha.run pos pins s σ H _ I h) fun us s1 ⟨vs, H1, I1, r1, q1⟩ => ?_) hs rfl))
  obtain ⟨k, a, xs, ex, hq, q⟩ := q1
  subst ex
  cases r1 with
  | cons r rr =>
    cases rr
    cases r
    obtain ⟨its, rv, p', hz⟩ := sqk_at I1 hq
    have hal := p'.lt
    have fin : ∀ h', IsEnum h' (s1.heap.objs.size + 1) s1.heap.objs.size 0 .none → Itk k h' s1.heap.objs.size a 0 → (∀ b o, s1.heap.get? b = some o → h'.get? b = some o) → wpAny (model X.prog X.w) X.A (pyIter (.ref (s1.heap.objs.size + 1))) (PIE X pins σ (.Tuple elts kk tpos) R) X.xe { s1 with heap := h' } := fun h' he hit hk => by
      refine wpAny_pyIter_enum he ?_
      have I2 : Inv X pins σ H1 { s1 with heap := h' } := I1.kept (t' := s1.toks) hk
      refine ⟨s1.heap.objs.size + 1, [s1.heap.objs.size + 1, s1.heap.objs.size], _, _, H1, rfl, I2, turn_enumK k a (s1.heap.objs.size + 1) s1.heap.objs.size (Nat.ne_of_lt hal) (Nat.ne_of_gt (Nat.lt_succ_of_lt hal)), ⟨⟨.none, he⟩, hit, Nat.succ_ne_self _⟩, fun b hb => ?_, q⟩
      have e' : b = s1.heap.objs.size + 1 ∨ b = s1.heap.objs.size := by simpa using hb
      have hle : s1.heap.objs.size ≤ b := by
        rcases e' with z | z
        · rw [z]; exact Nat.le_add_right _ _
        · rw [z]; exact Nat.le_refl _
      exact I1.fpOk hle (I1.hok.fresh hle)
    cases k with
    | true => exact call_enumerate_list p' fun h' he hit hsz hk => fin h' he hit hk
    | false => exact call_enumT p' fun h' he hit hsz hk => fin h' he hit hk
/-! ### zip -/
def ItzK (K : PySem.W.Frag) (k1 k2 : Bool) (a b : Addr) : It :=
  ⟨fun i H => ∃ (xs ys : List V) (x y : V), Sqk K k1 H a xs ∧ Sqk K k2 H b ys ∧ xs[i]? = some x ∧ ys[i]? = some y,
    fun i H v H' => ∃ T x y, v = .ref T ∧ H T = none ∧ H' = upd H T (.tup [x, y]) ∧ (∀ xs, Sqk K k1 H a xs → xs[i]? = some x) ∧ ∀ ys, Sqk K k2 H b ys → ys[i]? = some y,
    fun i H => ∃ xs ys : List V, Sqk K k1 H a xs ∧ Sqk K k2 H b ys ∧ i ≤ xs.length ∧ i ≤ ys.length ∧ (i = xs.length ∨ i = ys.length)⟩
theorem turn_zipK {P : Program} {w : World} {K : PySem.W.Frag} {elts : List Expr} {kk : Nat} {tpos : Pos} {a b z TI TO i1 i2 : Addr} (k1 k2 : Bool) (D : ZipApart z TI TO i1 i2 a b) :
    Turn P w K (.Tuple elts kk tpos) (ItzK K k1 k2 a b) [z, TI, TO, i1, i2] z (fun i h => IsZip h z TI TO .none ∧ IsTupOf2 h TI (.ref i1) (.ref i2) ∧ (∃ x y, IsTupOf2 h TO x y) ∧ Itk k1 h i1 a i ∧ Itk k2 h i2 b i) :=
  have S : ZipSep2 z TI TO i1 i2 [i1, a] [i2, b] := ⟨D.TIz, D.TOz, D.TITO, D.TIi1, by simp, by simp [D.i1z.symm, D.l1z.symm], by simp [D.TOi1, D.l1TO.symm], D.TIi2, by simp, by simp [D.i2z.symm, D.l2z.symm], by simp [D.TOi2, D.l2TO.symm], by simp [D.i12, D.l2i1.symm], by simp [D.i12.symm, D.l1i2.symm]⟩
  { mem := by simp
    obj := fun i h st c hc => by
      obtain ⟨hz, hTI, ⟨x, y, hTO⟩, h1, h2⟩ := st
      have e' : c = z ∨ c = TI ∨ c = TO ∨ c = i1 ∨ c = i2 := by simpa using hc
      rcases e' with q | q | q | q | q
      · rw [q]; exact ⟨_, hz, fun v q => nomatch q⟩
      · rw [q]; exact ⟨_, hTI, fun v q => nomatch q⟩
      · rw [q]; exact ⟨_, hTO, fun v q => nomatch q⟩
      · rw [q]; exact h1.obj
      · rw [q]; exact h2.obj
    keep := fun i h h' st q => by
      obtain ⟨hz, hTI, ⟨x, y, hTO⟩, h1, h2⟩ := st
      exact ⟨q z (by simp) _ hz, q TI (by simp) _ hTI, ⟨x, y, q TO (by simp) _ hTO⟩, h1.at fun o e => q i1 (by simp) o e, h2.at fun o e => q i2 (by simp) o e⟩
    item := by
      intro X hP hw hK hc i pins s σ H E I hf st hg
      subst hP hw hK
      obtain ⟨hz, hTI, ⟨x0, y0, hTO⟩, h1, h2⟩ := st
      obtain ⟨xs, ys, x, y, hqx, hqy, hx, hy⟩ := hg
      obtain ⟨its, rv, p, _⟩ := sqk_at I hqx
      obtain ⟨its2, rv2, p2, _⟩ := sqk_at I hqy
      obtain ⟨u, hu, ru⟩ := rv.get hx
      obtain ⟨u2, hu2, ru2⟩ := rv2.get hy
      have hzl : z < s.heap.objs.size := Heap.lt_size hz
      have lt1 : i < its.toArray.size := by have := (List.getElem?_eq_some_iff.mp hu).1; simpa using this
      have lt2 : i < its2.toArray.size := by have := (List.getElem?_eq_some_iff.mp hu2).1; simpa using this
      refine wpAny_pyNext_zipD2_item S (drawsk (A := X.A.in1) (I.ok.hd hc) k1 i1 a D.l1i1 its.toArray) (drawsk (A := X.A.in1) (I.ok.hd hc) k2 i2 b D.l2i2 its2.toArray) hz hTI hTO ⟨h1, p⟩ ⟨h2, p2⟩ lt1 lt2 fun v1 v2 h' tk hv1 hv2 z' TO' st1 st2 hT hsz hk => ?_
      obtain rfl : v1 = u := by
        have e1 : its.toArray[i]? = some u := by simpa using hu
        rw [e1] at hv1; cases hv1; rfl
      obtain rfl : v2 = u2 := by
        have e1 : its2.toArray[i]? = some u2 := by simpa using hu2
        rw [e1] at hv2; cases hv2; rfl
      refine ⟨_, rfl, wpAny_letOwnedTupleGo_zip (s := { s with heap := h', toks := tk }) z' fun h'' z'' sb => ?_⟩
      have hT2 : h''.get? s.heap.objs.size = some { cls := .type "tuple", data := .seq #[v1, v2] } := (sb.2 _ (Nat.ne_of_gt hzl)).trans hT
      have new : ObjOk X.prog X.w (upd H s.heap.objs.size (.tup [x, y])) h'' s.heap.objs.size (.tup [x, y]) :=
        ⟨by show 2 ≤ sizeLine; decide, [v1, v2], .cons ru (.cons ru2 .nil), ⟨_, hT2, rfl, _, rfl⟩⟩
      have I1 : Inv X pins σ (upd H s.heap.objs.size (.tup [x, y])) { s with heap := h'', toks := tk } :=
        I.turnedNew (t' := tk) (ch := [z, TI, TO, i1, i2]) (fun c o hb q => (sb.2 c (fun q' => hb (by simp [q']))).trans (hk c o (fun q' => hb (by simp [q'])) (fun q' => hb (by simp [q'])) (fun q' => hb (by simp [q'])) (fun q' => hb (by simp [q'])) q)) hf (Nat.le_refl _) new
      have hTIlt : TI < s.heap.objs.size := Heap.lt_size hTI
      refine ⟨.ref s.heap.objs.size, _, I1, rfl, ⟨_, x, y, rfl, I.hok.fresh (Nat.le_refl _), rfl, fun l hl => by rw [sqk_inj I hl hqx]; exact hx, fun l hl => by rw [sqk_inj I hl hqy]; exact hy⟩, ⟨z'', ?_, ⟨v1, v2, ?_⟩, ?_, ?_⟩, fun c hcm => ?_⟩
      · exact (sb.2 _ D.TIz).trans (hk _ _ D.TIz D.TITO D.TIi1 D.TIi2 hTI)
      · exact (sb.2 _ D.TOz).trans TO'
      · exact st1.1.at fun o q => (sb.2 _ D.i1z).trans q
      · exact st2.1.at fun o q => (sb.2 _ D.i2z).trans q
      · have hlt : c < s.heap.objs.size := by
          have e' : c = z ∨ c = TI ∨ c = TO ∨ c = i1 ∨ c = i2 := by simpa using hcm
          rcases e' with q | q | q | q | q
          · rw [q]; exact hzl
          · rw [q]; exact Heap.lt_size hTI
          · rw [q]; exact Heap.lt_size hTO
          · rw [q]; obtain ⟨_, e1, _⟩ := h1.obj; exact Heap.lt_size e1
          · rw [q]; obtain ⟨_, e2, _⟩ := h2.obj; exact Heap.lt_size e2
        rw [upd_ne (Nat.ne_of_lt hlt)]
        exact (hf c hcm).1
    done := by
      intro X hP hw hK hc i pins s σ H E I hf st hg
      subst hP hw hK
      obtain ⟨hz, hTI, ⟨x0, y0, hTO⟩, h1, h2⟩ := st
      obtain ⟨xs, ys, hqx, hqy, hle1, hle2, hend⟩ := hg
      obtain ⟨its, rv, p, _⟩ := sqk_at I hqx
      obtain ⟨its2, rv2, p2, _⟩ := sqk_at I hqy
      have l1 := rv.length
      have l2 := rv2.length
      refine wpAny_pyNext_zipD2_end S (drawsk (A := X.A.in1) (I.ok.hd hc) k1 i1 a D.l1i1 its.toArray) (drawsk (A := X.A.in1) (I.ok.hd hc) k2 i2 b D.l2i2 its2.toArray) hz hTI hTO (i := i) ⟨h1, p⟩ ⟨h2, p2⟩ (by simp; omega) (by simp; omega) (by simp; omega) fun h' tk hk => ⟨rfl, I.turnedL (t' := tk) (ch := [z, TI, TO, i1, i2]) (fun c o hb q =>
        hk c o (fun q' => hb (by simp [q'])) (fun q' => hb (by simp [q'])) (fun q' => hb (by simp [q'])) (fun q' => hb (by simp [q'])) q) hf⟩
    self := fun A i s Q E st h => wpAny_pyIter_zip st.1 h }
def iZipK (K : PySem.W.Frag) (ta : TA) : TI := fun σ H R => ta σ H fun vs H1 => ∃ k1 k2 a b xs ys, vs = [.ref a, .ref b] ∧ Sqk K k1 H1 a xs ∧ Sqk K k2 H1 b ys ∧ R (ItzK K k1 k2 a b) H1
theorem pi_zipK {X : Cx} {e e2 : Expr} {ta : TA} {p pos tpos : Pos} {elts : List Expr} {kk : Nat} (hg : Gl X "zip") (hm : X.mg "zip" = none) (ha : PA X [e, e2] ta)
    (hs : starEach [e, e2] X.env = (false, eval e X.env) :: starEach [e2] X.env := by rfl) (hpl : (backTo pos (starEach [e2] X.env)).any (·.1) = false := by rfl) :
    PI X (.Tuple elts kk tpos) (.Call (.Name "zip" p) [e, e2] [] pos) (iZipK X.K ta) := by
  refine ⟨fun pins s σ H R I h => ?_⟩
  refine Call_ (ld_blt I hg hm PyProof.Rows.boot_zip (PyProof.Rows.callWith_type1 (thn (ha.run pos pins s σ H _ I h) fun us s1 ⟨vs, H1, I1, r1, q1⟩ => ?_) hs hpl))
  obtain ⟨k1, k2, a, b, xs, ys, ex, hqx, hqy, q⟩ := q1
  subst ex
  cases r1 with
  | cons r rr =>
    cases rr with
    | cons r' rr =>
      cases rr
      cases r
      cases r'
      have fresh5 : ∀ c, c ∈ [s1.heap.objs.size + 4, s1.heap.objs.size + 2, s1.heap.objs.size + 3, s1.heap.objs.size, s1.heap.objs.size + 1] → FpOk X pins H1 c := fun c hcm => by
        have e' : c = s1.heap.objs.size + 4 ∨ c = s1.heap.objs.size + 2 ∨ c = s1.heap.objs.size + 3 ∨ c = s1.heap.objs.size ∨ c = s1.heap.objs.size + 1 := by simpa using hcm
        have hle : s1.heap.objs.size ≤ c := by
          rcases e' with z | z | z | z | z
          · rw [z]; exact Nat.le_add_right _ _
          · rw [z]; exact Nat.le_add_right _ _
          · rw [z]; exact Nat.le_add_right _ _
          · rw [z]; exact Nat.le_refl _
          · rw [z]; exact Nat.le_add_right _ _
        exact I1.fpOk hle (I1.hok.fresh hle)
      obtain ⟨its, rv, p1, _⟩ := sqk_at I1 hqx
      obtain ⟨its2, rv2, p2, _⟩ := sqk_at I1 hqy
      obtain ⟨o1, B1, b1⟩ := beginsk k1 a its.toArray
      obtain ⟨o2, B2, b2⟩ := beginsk k2 b its2.toArray
      refine zip_begins2 B1 B2 p1 p2 fun h' hz hTI hTO h1 h2 hsz hk => wpAny_pyIter_zip hz ?_
      have I2 : Inv X pins σ H1 { s1 with heap := h' } := I1.kept (t' := s1.toks) hk
      exact ⟨s1.heap.objs.size + 4, [s1.heap.objs.size + 4, s1.heap.objs.size + 2, s1.heap.objs.size + 3, s1.heap.objs.size, s1.heap.objs.size + 1], _, _, H1, rfl, I2, turn_zipK k1 k2 (PySem.W.ktu_apart s1.heap.objs.size a b p1.lt p2.lt), ⟨hz, hTI, ⟨_, _, hTO⟩, b1 _ _ h1, b2 _ _ h2⟩, fresh5, q⟩
end GX

/-! GX: places within a name's value: x[i][j] = v, x[i] += v. -/
namespace GX
open PySem PySem.Spec PyProof.Rows L2
inductive Stp where
  | ix (k : PV)
/-- a step within what is owned -/
def getS : PV → Stp → Option PV
  | .lst true xs, .ix (.int i) => atI xs i
  | .dic true kvs, .ix k => (toKey k).bind fun kk => lookK kvs kk
  | _, _ => none
def setS : PV → Stp → PV → Option PV
  | .lst true xs, .ix (.int i), v => (ixN xs.length i).map fun j => .lst true (xs.set j v)
  | .dic true kvs, .ix k, v => (toKey k).map fun kk => .dic true (putP kvs kk v)
  | _, _, _ => none
def getP : PV → List Stp → Option PV
  | v, [] => some v
  | v, s :: p => (getS v s).bind fun w => getP w p
def setP : PV → List Stp → PV → Option PV
  | _, [], u => some u
  | v, s :: p, u => (getS v s).bind fun w => (setP w p u).bind fun w' => setS v s w'
def nxt (H : Hp) (x : V) : Stp → V → Prop
  | .ix k, z => ∃ a, x = .ref a ∧ ((∃ (ys : List V) (i : Int), k = .int i ∧ H a = some (.lst ys) ∧ atI ys i = some z) ∨ ∃ (ks : List (Key × V)) (kk : Key), toKey k = some kk ∧ H a = some (.dK ks) ∧ valV ks kk = some z)
def nxts (H : Hp) : V → List Stp → V → Prop
  | x, [], z => z = x
  | x, s :: p, z => ∃ y, nxt H x s y ∧ nxts H y p z
section
variable {q : Bool} {K : PySem.W.Frag} {mg : Str → Option Value} {P : List V} {H H' H1 H2 : Hp} {B B' B1 B2 : Addr → Prop} {x y z : V} {v w r c u v' u' : PV} {xs : List PV} {ys : List V} {F F' F1 F2 G G1 G2 W Gv : List Addr} {ρ ρ' ρ1 ρ2 : Rho} {σ σ' σ1 σ2 : Sg} {X : Cx} {a b e : Expr} {pos p2 : Pos} {D : Ends} {o : Out}
/-- the i-th item, the others over a step -/
theorem RVs.atK : ∀ {xs : List PV} {vs : List V} {F : List Addr} {i : Nat} {x : PV}, RVs K mg H B xs vs F → xs[i]? = some x →
    ∃ v F1 G F2, vs[i]? = some v ∧ RV K mg H B x v G ∧ F = F1 ++ G ++ F2 ∧ ∀ (H' : Hp) (B' : Addr → Prop) (W : List Addr), Keep W H B H' B' → MutW W H B → (∀ b ∈ F1, b ∉ W) → (∀ b ∈ F2, b ∉ W) → ∀ x' G', RV K mg H' B' x' v G' → RVs K mg H' B' (xs.set i x') vs (F1 ++ G' ++ F2)
  | _, _, _, _, _, .nil, e => by simp at e
  | _, _, _, 0, x, .cons (F := F) (G := G) r t, e => by
    simp at e
    subst e
    refine ⟨_, [], F, G, rfl, r, by simp, fun H' B' W k m d1 d2 x' G' r' => ?_⟩
    simpa using RVs.cons r' (t.keep k m d2)
  | _, _, _, i + 1, x, .cons (F := F) (G := G) r t, e => by
    obtain ⟨v, F1, G1, F2, h1, h2, h3, h4⟩ := RVs.atK (i := i) t (by simpa using e)
    refine ⟨v, F ++ F1, G1, F2, by simpa using h1, h2, by rw [h3]; simp, fun H' B' W k m d1 d2 x' G' r' => ?_⟩
    have := RVs.cons (r.keep k m fun b hb => d1 b (List.mem_append_left _ hb)) (h4 H' B' W k m (fun b hb => d1 b (List.mem_append_right _ hb)) d2 x' G' r')
    simpa using this
theorem if_some {α : Type} {c : Prop} [Decidable c] {a : Option α} {b : α} (h : (if c then a else none) = some b) : c ∧ a = some b := by
  split at h
  · exact ⟨by assumption, h⟩
  · cases h
/-- a key's place -/
theorem key_at : ∀ {ps : List (Key × PV)} {ks : List (Key × V)} {k : Key} {w : PV}, ps.map (·.1) = ks.map (·.1) → lookK ps k = some w →
    ∃ j, (ps.map (·.2))[j]? = some w ∧ (∀ w', (putP ps k w').map (·.2) = (ps.map (·.2)).set j w' ∧ (putP ps k w').map (·.1) = ps.map (·.1)) ∧ ∀ z, valV ks k = some z → (ks.map (·.2))[j]? = some z
  | [], _, k, w, _, h => by simp [lookK] at h
  | _ :: _, [], _, _, e, _ => by simp at e
  | (k1, v1) :: ps, (k2, v2) :: ks, k, w, e, h => by
    simp only [List.map_cons, List.cons.injEq] at e
    obtain ⟨e1, e2⟩ := e
    subst e1
    by_cases hk : k1 = k
    · subst hk
      have h' : w = v1 := by simpa [lookK] using h.symm
      subst h'
      refine ⟨0, by simp, fun w' => by simp [putP], fun z hz => ?_⟩
      simpa [valV] using hz
    · have h' : lookK ps k = some w := by simpa [lookK, hk] using h
      obtain ⟨j, h1, h2, h3⟩ := key_at e2 h'
      refine ⟨j + 1, by simpa using h1, fun w' => ?_, fun z hz => ?_⟩
      · obtain ⟨a1, a2⟩ := h2 w'
        simp [putP, hk, a1, a2]
      · have hz' : valV ks k = some z := by simpa [valV, hk] using hz
        simpa using h3 z hz'
theorem nd_step {A : Addr} {F1 G F2 Gv G' : List Addr} (nd : ((A :: (F1 ++ G ++ F2)) ++ Gv).Nodup) (n' : G'.Nodup) (sub : ∀ b ∈ G', b ∈ G ++ Gv) : (A :: (F1 ++ G' ++ F2)).Nodup ∧ (∀ b ∈ A :: (F1 ++ G' ++ F2), b ∈ (A :: (F1 ++ G ++ F2)) ++ Gv) ∧ (G ++ Gv).Nodup ∧ A ∉ G ∧ (∀ b ∈ F1, b ∉ G) ∧ (∀ b ∈ F2, b ∉ G) := by
  obtain ⟨g1, g2, g3⟩ := List.nodup_append.mp nd
  obtain ⟨g4, g5⟩ := List.nodup_cons.mp g1
  obtain ⟨g6, g7, g8⟩ := List.nodup_append.mp g5
  obtain ⟨g9, g10, g11⟩ := List.nodup_append.mp g6
  simp only [List.mem_append, not_or] at g4
  have dis : ∀ b ∈ G', b ∉ F1 ∧ b ∉ F2 ∧ b ≠ A := fun b hb => by
    rcases List.mem_append.mp (sub b hb) with z | z
    · exact ⟨fun h => g11 b h b z rfl, fun h => g8 b (List.mem_append_right _ z) b h rfl, fun h => g4.1.2 (h ▸ z)⟩
    · exact ⟨fun h => g3 b (by simp [h]) b z rfl, fun h => g3 b (by simp [h]) b z rfl, fun h => g3 b (by simp [h]) b z rfl⟩
  refine ⟨List.nodup_cons.mpr ⟨?_, List.nodup_append.mpr ⟨List.nodup_append.mpr ⟨g9, n', fun b hb c hc e => ?_⟩, g7, fun b hb c hc e => ?_⟩⟩, fun b hb => ?_, List.nodup_append.mpr ⟨g10, g2, fun b hb c hc e => ?_⟩, g4.1.2, fun b hb hg => g11 b hb b hg rfl, fun b hb hg => g8 b (List.mem_append_right _ hg) b hb rfl⟩
  · simp only [List.mem_append, not_or]
    exact ⟨⟨g4.1.1, fun h => (dis A h).2.2 rfl⟩, g4.2⟩
  · subst e; exact (dis b hc).1 hb
  · subst e
    rcases List.mem_append.mp hb with z | z
    · exact g8 b (List.mem_append_left _ z) b hc rfl
    · exact (dis b z).2.1 hc
  · simp only [List.mem_cons, List.mem_append] at hb ⊢
    rcases hb with h | (h | h) | h
    · exact .inl (.inl h)
    · exact .inl (.inr (.inl (.inl h)))
    · rcases List.mem_append.mp (sub b h) with z | z
      · exact .inl (.inr (.inl (.inr z)))
      · exact .inr z
    · exact .inl (.inr (.inr h))
  · subst e
    exact g3 b (by simp [hb]) b hc rfl
theorem stp_chd {s : Stp} (rv : RV K mg H B v x W) (hg : getS v s = some w) (hn : nxt H x s y) (nd : (W ++ Gv).Nodup) :
    ∃ Ww, RV K mg H B w y Ww ∧ (Ww ++ Gv).Nodup ∧ ∀ w' v' H' B' G', setS v s w' = some v' → Chd K mg H B Ww Gv w' y H' B' G' → ∃ G'', Chd K mg H B W Gv v' x H' B' G'' := by
  cases s with
  | ix k =>
  obtain ⟨a0, hx, hn⟩ := hn
  subst hx
  cases rv with
  | @lstO _ ys xs Fx h hB rs =>
    cases k with
    | int i =>
      have hg : atI xs i = some w := hg
      obtain ⟨j, hj, hjx⟩ := bind_some hg
      rcases hn with ⟨ys', i', hi, h', hy⟩ | ⟨ks, kk, _, h', _⟩
      · cases hi
        rw [h] at h'
        cases h'
        have hl := rs.length
        have hy' : ys[j]? = some y := by
          unfold L2.atI at hy
          rw [← hl, hj] at hy
          exact hy
        obtain ⟨y0, F1, G, F2, e1, e2, e3, e4⟩ := rs.atK hjx
        rw [hy'] at e1
        cases e1
        subst e3
        obtain ⟨_, _, n1, n2, n3, n4⟩ := nd_step (G' := []) nd List.nodup_nil (fun _ h => nomatch h)
        refine ⟨G, e2, n1, fun w' v' H' B' G' hs ch => ?_⟩
        have hs : (ixN xs.length i).map (fun j => PV.lst true (xs.set j w')) = some v' := hs
        rw [hj] at hs
        cases hs
        obtain ⟨a1, a2⟩ := ch.kp a0 _ h n2
        obtain ⟨m1, m2, _⟩ := nd_step nd ch.nd ch.sub
        exact ⟨_, .lstO a1 (a2.mpr hB) (e4 H' B' G ch.kp e2.mut n3 n4 w' G' ch.rv), m1, m2, ch.kp.mono fun b hb => by simp [hb]⟩
      · rw [h] at h'; cases h'
    | _ => cases hg
  | @dicO _ ks ps Fx h hB e0 rs =>
    have hg : (toKey k).bind (fun kk => lookK ps kk) = some w := by
      cases k <;> exact hg
    obtain ⟨kk, hk, hl⟩ := bind_some hg
    rcases hn with ⟨ys', i', hi, h', hy⟩ | ⟨ks', kk', hk', h', hy⟩
    · rw [h] at h'; cases h'
    · rw [h] at h'
      cases h'
      rw [hk] at hk'
      cases hk'
      obtain ⟨j, b1, b2, b3⟩ := key_at e0 hl
      obtain ⟨y0, F1, G, F2, e1, e2, e3, e4⟩ := rs.atK b1
      rw [b3 y hy] at e1
      cases e1
      subst e3
      obtain ⟨_, _, n1, n2, n3, n4⟩ := nd_step (G' := []) nd List.nodup_nil (fun _ h => nomatch h)
      refine ⟨G, e2, n1, fun w' v' H' B' G' hs ch => ?_⟩
      have hs : (toKey k).map (fun kk => PV.dic true (putP ps kk w')) = some v' := by
        cases k <;> exact hs
      rw [hk] at hs
      cases hs
      obtain ⟨a1, a2⟩ := ch.kp a0 _ h n2
      obtain ⟨m1, m2, _⟩ := nd_step nd ch.nd ch.sub
      obtain ⟨c1, c2⟩ := b2 w'
      exact ⟨_, .dicO a1 (a2.mpr hB) (c2.trans e0) (by rw [c1]; exact e4 H' B' G ch.kp e2.mut n3 n4 w' G' ch.rv), m1, m2, ch.kp.mono fun b hb => by simp [hb]⟩
  | _ => cases k <;> cases hg
theorem pth_chd : ∀ {ks : List Stp} {v u : PV} {x y : V} {W : List Addr}, RV K mg H B v x W → getP v ks = some u → nxts H x ks y → (W ++ Gv).Nodup →
    ∃ Wu, RV K mg H B u y Wu ∧ (Wu ++ Gv).Nodup ∧ ∀ u' v' H' B' G', setP v ks u' = some v' → Chd K mg H B Wu Gv u' y H' B' G' → ∃ G'', Chd K mg H B W Gv v' x H' B' G''
  | [], v, u, x, y, W, rv, hg, hn, nd => by
    cases hg
    obtain rfl : y = x := hn
    exact ⟨W, rv, nd, fun u' v' H' B' G' hs ch => by cases hs; exact ⟨G', ch⟩⟩
  | s :: p, v, u, x, y, W, rv, hg, hn, nd => by
    obtain ⟨w, g1, g2⟩ := bind_some hg
    obtain ⟨m, n1, n2⟩ := hn
    obtain ⟨Ww, r1, nd1, k1⟩ := stp_chd rv g1 n1 nd
    obtain ⟨Wu, r2, nd2, k2⟩ := pth_chd r1 g2 n2 nd1
    refine ⟨Wu, r2, nd2, fun u' v' H' B' G' hs ch => ?_⟩
    have hs : (getS v s).bind (fun w => (setP w p u').bind fun w' => setS v s w') = some v' := hs
    rw [g1] at hs
    simp only [Option.bind_some] at hs
    obtain ⟨w', s1, s2⟩ := bind_some hs
    obtain ⟨G1, c1⟩ := k2 u' w' H' B' G' s1 ch
    exact k1 w' v' H' B' G1 s2 c1
/-! ### where a container's expression leads -/
section
variable (K mg P)
def tPl (n : Nat) (f : Rho → Option (List Stp)) : TE := fun σ H Q => ∃ ρ B F ks v u, Rel K mg H B P ρ σ F ∧ f ρ = some ks ∧ (ρ[n]?).bind Slot.get = some v ∧ getP v ks = some u ∧ ∀ x xo H' B', Rel K mg H' B' P ρ σ F → Keep [] H B H' B' → σ[n]? = some (some xo) → nxts H' xo ks x → Q x H'
end
theorem pl_name {n : Nat} (h : PE X e (tVar n)) : PE X e (tPl K mg P n fun _ => some []) := by
  refine PE.weak h fun σ H Q ⟨ρ, B, F, ks, v, u, R, e1, e2, e3, k⟩ => ?_
  cases e1
  obtain ⟨x, hx⟩ := slot_at R.slots e2
  exact ⟨x, hx, k x x H B R Keep.refl hx rfl⟩
theorem nxt_keep {s : Stp} (k : Keep [] H B H' B') (h : nxt H x s y) : nxt H' x s y := by
  cases s with
  | ix kx =>
    obtain ⟨a0, e, h⟩ := h
    refine ⟨a0, e, ?_⟩
    rcases h with ⟨ys, i, e1, e2, e3⟩ | ⟨ks, kk, e1, e2, e3⟩
    · exact .inl ⟨ys, i, e1, (k a0 _ e2 (fun h => nomatch h)).1, e3⟩
    · exact .inr ⟨ks, kk, e1, (k a0 _ e2 (fun h => nomatch h)).1, e3⟩
theorem nxts_keep (k : Keep [] H B H' B') : ∀ {ks : List Stp} {x y : V}, nxts H x ks y → nxts H' x ks y
  | [], _, _, h => h
  | s :: p, _, _, ⟨m, h1, h2⟩ => ⟨m, nxt_keep k h1, nxts_keep k h2⟩
theorem nxts_snoc {s : Stp} : ∀ {ks : List Stp} {x y z : V}, nxts H x ks y → nxt H y s z → nxts H x (ks ++ [s]) z
  | [], x, y, z, h, h2 => by
    obtain rfl : y = x := h
    exact ⟨z, h2, rfl⟩
  | s' :: p, x, y, z, ⟨m, h1, h2⟩, h3 => ⟨m, h1, nxts_snoc h2 h3⟩
theorem getP_snoc {s : Stp} : ∀ {ks : List Stp} {v u w : PV}, getP v ks = some u → getS u s = some w → getP v (ks ++ [s]) = some w
  | [], v, u, w, h, h2 => by
    cases h
    show (getS v s).bind _ = _
    rw [h2] <;> rfl
  | s' :: p, v, u, w, h, h2 => by
    obtain ⟨m, h1, h3⟩ := bind_some h
    show (getS v s').bind _ = _
    rw [h1]
    exact getP_snoc h3 h2
theorem getP_pre {s : Stp} : ∀ {ks : List Stp} {v w : PV}, getP v (ks ++ [s]) = some w → ∃ u, getP v ks = some u ∧ getS u s = some w
  | [], v, w, h => by
    obtain ⟨m, h1, h3⟩ := bind_some h
    cases h3
    exact ⟨v, rfl, h1⟩
  | s' :: p, v, w, h => by
    obtain ⟨m, h1, h3⟩ := bind_some h
    obtain ⟨u, h4, h5⟩ := getP_pre h3
    refine ⟨u, ?_, h5⟩
    show (getS v s').bind _ = _
    rw [h1]
    exact h4
section
variable (K mg)
/-- an item of what is owned, and that it is just the item -/
def rIxN : R2 := fun x y H Q => ∃ B va vb Wa Wb c, RV K mg H B va x Wa ∧ RV K mg H B vb y Wb ∧ getS va (.ix vb) = some c ∧ ∀ z, nxt H x (.ix vb) z → Q z H
end
theorem getS_lst {va vb : PV} (rv : RV K mg H B va x W) (hg : getS va (.ix vb) = some c) : (∃ xs ys i a0, va = .lst true xs ∧ vb = .int i ∧ x = .ref a0 ∧ H a0 = some (.lst ys) ∧ atI xs i = some c ∧ ∃ z G, atI ys i = some z ∧ RV K mg H B c z G) ∨
    ∃ ps ks kk a0, va = .dic true ps ∧ toKey vb = some kk ∧ x = .ref a0 ∧ H a0 = some (.dK ks) ∧ ∃ z G, valV ks kk = some z ∧ RV K mg H B c z G := by
  cases rv with
  | lstO h hB rs =>
    cases vb with
    | int i =>
      have hg : atI _ i = some c := hg
      obtain ⟨z, G, h1, h2, _⟩ := rs.atI hg
      exact .inl ⟨_, _, i, _, rfl, rfl, rfl, h, hg, z, G, h1, h2⟩
    | _ => cases hg
  | @dicO _ ks ps Fx h hB e0 rs =>
    have hg : (toKey vb).bind (fun kk => lookK ps kk) = some c := by
      cases vb <;> exact hg
    obtain ⟨kk, hk, hl⟩ := bind_some hg
    have lk := look_ok (k := kk) e0 rs
    rw [hl] at lk
    obtain ⟨z, G, h1, h2, _⟩ := lk
    exact .inr ⟨_, _, kk, _, rfl, hk, rfl, h, z, G, h1, h2⟩
  | _ => cases vb <;> cases hg
theorem ix_nxt (hK : X.K = K) (hu : X.A.units + 1 < cLine) : IxR X (rIxN K mg) := by
  subst hK
  intro value slice pins s σ H x y v u Q I rx ry ⟨B, va, vb, Wa, Wb, c, ra, rb, g, k⟩ hs
  rcases getS_lst ra g with ⟨xs, ys, i, a0, rfl, rfl, rfl, h, h1, z, G, h2, h3⟩ | ⟨ps, ks, kk, a0, rfl, hk, rfl, h, z, G, h2, h3⟩
  · cases rb
    exact ix_list value slice pins s σ H _ _ v u Q I rx ry ⟨_, _, _, z, rfl, rfl, .of h, h2, k z ⟨a0, rfl, .inl ⟨ys, i, rfl, h, h2⟩⟩⟩ hs
  · obtain rfl := toKey_ok rb hk
    exact ix_dict hu value slice pins s σ H _ _ v u Q I rx ry ⟨_, z, rfl, .inl ⟨ks, kk, .inl h, rfl, h2.symm⟩, k z ⟨a0, rfl, .inr ⟨ks, kk, hk, h, h2⟩⟩⟩ hs
theorem slot_rv {n : Nat} {xo : V} (R : Rel K mg H B P ρ σ F) (e : (ρ[n]?).bind Slot.get = some v) (h : σ[n]? = some (some xo)) : ∃ Wn, RV K mg H B v xo Wn ∧ Wn.Nodup ∧ ∀ b ∈ Wn, b ∈ F := by
  obtain ⟨s, z1, z2⟩ := bind_some e
  obtain ⟨y, p, F1, G, F2, h1, hp, h2, h3, _⟩ := R.slots.at z1
  rw [h] at h1
  cases h1
  have nd := R.nd
  rw [h3] at nd
  have nG : G.Nodup := nodup_r (nodup_l nd)
  have sub : ∀ b ∈ G, b ∈ F := fun b hb => by rw [h3]; simp [hb]
  cases h2 with
  | un => cases z2
  | val r => cases z2; exact ⟨G, r, nG, sub⟩
  | ref r => cases z2; exact ⟨G, r, nG, sub⟩
def plIx (f : Rho → Option (List Stp)) (g : M PV) : Rho → Option (List Stp) := fun ρ => (f ρ).bind fun ks => (g ρ).bind fun k => if k.1.pure then some (ks ++ [.ix k.1]) else none
theorem pl_sub {n : Nat} {f : Rho → Option (List Stp)} {g : M PV} (hK : X.K = K) (hu : X.A.units + 1 < cLine) (ha : PE X a (tPl K mg P n f)) (hb : PE X b (tE true K mg P g)) (hs : PlainIx b := by intro _ _; rfl) : PE X (.Subscript a b pos) (tPl K mg P n (plIx f g)) := by
  refine PE.weak (pe_ix (ix_nxt (mg := mg) hK hu) ha hb hs) fun σ H Q ⟨ρ, B, F, ks, v, u, R, e1, e2, e3, k⟩ => ?_
  obtain ⟨ks0, z1, e1⟩ := bind_some e1
  obtain ⟨⟨kk, ρ2⟩, z2, e1⟩ := bind_some e1
  obtain ⟨hp, e1⟩ := ite_some e1
  subst e1
  obtain ⟨u0, g1, g2⟩ := getP_pre e3
  refine ⟨ρ, B, F, ks0, v, u0, R, z1, e2, g1, fun x xo H1 B1 R1 k1 hxo hn => ?_⟩
  refine ⟨ρ, B1, F, kk, ρ2, R1, z2, fun y H2 B2 G2 F2 p2 => ?_⟩
  obtain ⟨r1, r2, r3⟩ := p2.ro rfl
  subst r1 r2
  have rk := p2.rv
  have eG := rk.pure hp
  subst eG
  obtain ⟨Wn, rn, nn, _⟩ := slot_rv ⟨p2.sl, nodup_r p2.nd⟩ e2 hxo
  have hn2 := nxts_keep r3 hn
  obtain ⟨Wu, ru, _⟩ := pth_chd (Gv := []) rn g1 hn2 (by rw [List.append_nil]; exact nn)
  exact ⟨B2, u0, kk, Wu, [], u, ru, rk, g2, fun z hz => k z xo H2 B2 ⟨p2.sl, nodup_r p2.nd⟩ (k1.trans0 r3) hxo (nxts_snoc hn2 hz)⟩
/-! ### a store -/
/-- name[..][k] = v -/
def gIxP (n : Nat) (f : Rho → Option (List Stp)) (g : M PV) : Tg := fun v ρ => (f ρ).bind fun ks => (g ρ).bind fun kk => if kk.1.pure then ((ρ[n]?).bind Slot.get).bind fun ob => (getP ob ks).bind fun u => (psetI u kk.1 v).bind fun u' => (setP ob ks u').bind fun ob' => chg n ob' ρ else none
theorem Rel.more (R : Rel K mg H B P ρ σ F) : (F : List Addr).Nodup := R.nd
theorem gg_ixP {n : Nat} {f : Rho → Option (List Stp)} {g : M PV} (hu : X.A.units + 1 < cLine) (ha : PE X a (tPl K mg P n f)) (hb : PE X b (tE true K mg P g))
    (hw : ∀ v, assign (.Subscript a b pos) X.env v = (do
      let ov ← holding [v] (eval a X.env)
      let iv ← holding [v, ov] (eval b X.env)
      standAt pos
      holding [v, ov, iv] (setItem ov iv v)
      release [v, ov, iv] []) := by intro _; rfl) : PG X (.Subscript a b pos) (tG K mg P TT1 (gIxP n f g)) :=
  PG.weak (pg_sub ha hb (ps_all (K := K) (mg := mg) hu) hw) fun x σ H Q ⟨ρ, B, F, v, G, ρ', rv, R, nd, e, k⟩ => by
    obtain ⟨ks, z1, e⟩ := bind_some e
    obtain ⟨⟨kk, ρ1⟩, z2, e⟩ := bind_some e
    split at e
    · rename_i hp
      obtain ⟨ob, z3, e⟩ := bind_some e
      obtain ⟨u, z4, e⟩ := bind_some e
      obtain ⟨u', z5, e⟩ := bind_some e
      obtain ⟨ob', z6, e⟩ := bind_some e
      refine ⟨ρ, B, F, ks, ob, u, ⟨R, nodup_r nd⟩, z1, z3, z4, fun xa xo H1 B1 R1 k1 hxo hn => ?_⟩
      refine ⟨ρ, B1, F, kk, ρ1, R1, z2, fun y H2 B2 G2 F2 p2 => ?_⟩
      obtain ⟨r1, r2, r3⟩ := p2.ro rfl
      subst r1 r2
      have rk := p2.rv
      have eG := rk.pure hp
      subst eG
      have k2 := k1.trans0 r3
      have rv' := rv.keep0 k2
      obtain ⟨Wo, ro, ndo, fin⟩ := chg_ok p2.sl nd z3 hxo e rv'.mut
      obtain ⟨Wu, ru, ndu, chd⟩ := pth_chd ro z4 (nxts_keep r3 hn) ndo
      refine ⟨B2, u, kk, v, Wu, [], G, u', ru, rk, rv', z5, ndu, fun H' B' G' ch => ?_⟩
      obtain ⟨G'', ch2⟩ := chd _ _ _ _ _ z6 ch
      obtain ⟨F', p'⟩ := fin H' B' G'' ch2
      exact k σ H' B' F' ⟨p'.sl, p'.nd, (⟨fun b hb => .inl hb, k2.mono fun _ h => nomatch h⟩ : Step H B (G ++ F2) H2 B2 (G ++ F2)).trans p'.st⟩ trivial
    · cases e
/-! ### name[..][k] op= e -/
section
variable (K mg)
def rGet : V → V → Hp → VK → Prop := fun x y H Q => ∃ B va vb Wa Wb c, RV K mg H B va x Wa ∧ RV K mg H B vb y Wb ∧ getS va (.ix vb) = some c ∧ ∀ z G, RV K mg H B c z G → Q z H
end
theorem get_all (hK : X.K = K) (hu : X.A.units + 1 < cLine) : PGet X (rGet K mg) := by
  subst hK
  intro pins s σ H x y v u Q I rx ry ⟨B, va, vb, Wa, Wb, c, ra, rb, g, k⟩
  rcases getS_lst ra g with ⟨xs, ys, i, a0, rfl, rfl, rfl, h, h1, z, G, h2, h3⟩ | ⟨ps, ks, kk, a0, rfl, hk, rfl, h, z, G, h2, h3⟩
  · cases rb
    obtain rfl : v = Value.ref a0 := rx
    obtain ⟨t, rfl⟩ := ry
    obtain ⟨its, r, pl, hz⟩ := I.list (.of h)
    obtain ⟨j, g1, g2, g3, g4, g5⟩ := atI_get h2
    obtain ⟨w, ew, rw'⟩ := r.get g2
    have hl := r.length
    have hn := line63
    have fin : EP X pins σ Q w s := ⟨z, H, I, rw', k z G h3⟩
    by_cases h0 : 0 ≤ i
    · have hj : i.toNat = j := by
        rw [seqIndex_of h0 g5] at g1
        exact Option.some.inj g1
      exact wpAny_getItem_list pl.isList h0 (by omega) (by rw [hj]; simpa using ew) fin
    · have hj : (i + (its.toArray.size : Int)).toNat = j := by
        rw [seqIndex_neg (by omega) g4] at g1
        rw [List.size_toArray, ← hl]
        exact Option.some.inj g1
      exact wpAny_getItem_list_neg pl.isList (by omega) (by rw [List.size_toArray] <;> omega) (by omega) (by rw [hj]; simpa using ew) fin
  · obtain rfl := toKey_ok rb hk
    obtain rfl : v = Value.ref a0 := rx
    exact d_getItem hu I (.inl ⟨ks, kk, .inl h, rfl, h2.symm⟩) ry fun w' s3 I3 rw' => ⟨z, H, I3, rw', k z G h3⟩
def sAugP (n : Nat) (f : Rho → Option (List Stp)) (g : M PV) (p : PV → PV → Option PV) (ef : M PV) : S := fun ρ => (f ρ).bind fun ks => (g ρ).bind fun kk => if kk.1.pure then ((ρ[n]?).bind Slot.get).bind fun ob => (getP ob ks).bind fun u => (getS u (.ix kk.1)).bind fun old => if old.pure then
  (ef ρ).bind fun z => if z.1.pure then (p old z.1).bind fun r => (psetI u kk.1 r).bind fun u' => (setP ob ks u').bind fun ob' => (chg n ob' ρ).bind fun ρ2 => some (.nx ρ2) else none else none else none
theorem g_augP {n : Nat} {f : Rho → Option (List Stp)} {g : M PV} {ef : M PV} {op : Operator} {p : PV → PV → Option PV} (hK : X.K = K) (hu : X.A.units + 1 < cLine) (ha : PE X a (tPl K mg P n f)) (hb : PE X b (tE true K mg P g)) (ho : OpR X (inplaceOp op) (rOp K mg p)) (he : PE X e (tE true K mg P ef))
    (hw : ∀ ov iv new, augStore b ov iv new = (do holding [new, ov, iv] (setItem ov iv new); release [new, ov, iv] []; pure .next) := by intros; rfl) : PS X (.AugAssign (.Subscript a b p2) op e pos) (tS K mg P (sAugP n f g p ef)) := by
  refine PS.weak (ps_augS ha hb (get_all (K := K) (mg := mg) hK hu) he ho (ps_all (K := K) (mg := mg) hu) hw) fun D σ H ⟨ρ, B, F, o, R, e, k⟩ => ?_
  obtain ⟨ks, z1, e⟩ := bind_some e
  obtain ⟨⟨kk, ρ1⟩, z2, e⟩ := bind_some e
  obtain ⟨hp, e⟩ := if_some e
  obtain ⟨ob, z3, e⟩ := bind_some e
  obtain ⟨u, z4, e⟩ := bind_some e
  obtain ⟨old, z5, e⟩ := bind_some e
  obtain ⟨hold, e⟩ := if_some e
  obtain ⟨⟨ev, ρ3⟩, z6, e⟩ := bind_some e
  obtain ⟨hev, e⟩ := if_some e
  obtain ⟨r, z7, e⟩ := bind_some e
  obtain ⟨u', z8, e⟩ := bind_some e
  obtain ⟨ob', z9, e⟩ := bind_some e
  obtain ⟨ρ4, z10, e⟩ := bind_some e
  cases e
  refine ⟨ρ, B, F, ks, ob, u, R, z1, z3, z4, fun xa xo H1 B1 R1 k1 hxo hn => ?_⟩
  refine ⟨ρ, B1, F, kk, ρ1, R1, z2, fun y H2 B2 G2 F2 p2 => ?_⟩
  obtain ⟨r1, r2, r3⟩ := p2.ro rfl
  subst r1 r2
  have rk := p2.rv
  have eG := rk.pure hp
  subst eG
  have R2 : Rel K mg H2 B2 P ρ1 σ F2 := ⟨p2.sl, nodup_r p2.nd⟩
  obtain ⟨Wn, rn, nn, _⟩ := slot_rv R2 z3 hxo
  obtain ⟨Wu, ru, _⟩ := pth_chd (Gv := []) rn z4 (nxts_keep r3 hn) (by rw [List.append_nil]; exact nn)
  refine ⟨B2, u, kk, Wu, [], old, ru, rk, z5, fun zo Go ro => ?_⟩
  have eGo := ro.pure hold
  subst eGo
  refine ⟨ρ1, B2, F2, ev, ρ3, R2, z6, fun ze H3 B3 G3 F3 p3 => ?_⟩
  obtain ⟨s1, s2, s3⟩ := p3.ro rfl
  subst s1 s2
  have re := p3.rv
  have eG3 := re.pure hev
  subst eG3
  refine ⟨B3, old, ev, [], [], r, ro.keep0 s3, re, z7, fun zr H4 B4 G4 rr ng fr k4 => ?_⟩
  have k5 := (r3.trans0 s3).trans0 k4
  have sl4 := p3.sl.keep k4 MutW.nil fun _ _ h => nomatch h
  have nd4 : (G4 ++ F3).Nodup := List.nodup_append.mpr ⟨ng, nodup_r p3.nd, fun a1 h1 a2 h2 e => by
    subst e
    have := (p3.sl.mut a1 h2).2
    rw [fr a1 h1] at this
    exact this⟩
  obtain ⟨Wo, ro', ndo, fin⟩ := chg_ok sl4 nd4 z3 hxo z10 rr.mut
  obtain ⟨Wu2, ru2, ndu2, chd⟩ := pth_chd ro' z4 (nxts_keep k5 hn) ndo
  refine ⟨B4, u, kk, r, Wu2, [], G4, u', ru2, (rk.keep0 s3).keep0 k4, rr, z8, ndu2, fun H' B' G' ch => ?_⟩
  obtain ⟨G'', ch2⟩ := chd _ _ _ _ _ z9 ch
  obtain ⟨F', p'⟩ := fin H' B' G'' ch2
  refine k _ _ _ _ ⟨p'.sl, p'.nd, ?_⟩
  have st0 : Step H B F3 H4 B4 (G4 ++ F3) := ⟨fun b hb => (List.mem_append.mp hb).elim (fun h => ?_) .inl, ((k1.trans0 k5)).mono fun _ h => nomatch h⟩
  · exact st0.trans p'.st
  · right
    cases eH : H b with
    | none => rfl
    | some o1 =>
      have := ((k1.trans0 (r3.trans0 s3)) b o1 eH (fun h => nomatch h)).1
      rw [fr b h] at this
      cases this
end
end GX

/-! GX: enumerate, zip, index, sorted(dict), dict(..), sums over values. -/
namespace GX
open PySem PySem.Spec PyProof.Rows L2
section
variable {q : Bool} {K : PySem.W.Frag} {mg : Str → Option Value} {P : List V} {H H' H1 H2 : Hp} {B B' B1 B2 : Addr → Prop} {x y z : V} {v w r c u v' u' : PV} {xs : List PV} {ys : List V} {F F' F1 F2 G G1 G2 W Gv : List Addr} {ρ ρ' ρ1 ρ2 : Rho} {σ σ' σ1 σ2 : Sg} {X : Cx} {a b e : Expr} {pos p2 : Pos} {D : Ends} {o : Out}
/-! ### enumerate, zip -/
def iTm (g : List PV → Option (List PV)) (a : M (List Opd)) : M (List PV) := fun ρ => (a ρ).bind fun z => (tmVals z.1).bind fun vs => (g vs).bind fun r => some (r, z.2)
def enumL (i : Nat) : List PV → List PV
  | [] => []
  | x :: xs => .tup [.int (i : Int), x] :: enumL (i + 1) xs
def seqOf : PV → Option (List PV)
  | .tup xs => some xs
  | .lst _ xs => some xs
  | .zls xs => some xs
  | _ => none
def penum : List PV → Option (List PV)
  | [v] => (seqOf v).map (enumL 0)
  | _ => none
def zipL : List PV → List PV → List PV
  | x :: xs, y :: ys => .tup [x, y] :: zipL xs ys
  | _, _ => []
def pzip : List PV → Option (List PV)
  | [v, w] => (seqOf v).bind fun xs => (seqOf w).bind fun ys => some (zipL xs ys)
  | _ => none
def kindB : PV → Bool
  | .tup _ => false
  | _ => true
theorem enumL_get : ∀ {xs : List PV} {i n : Nat}, (enumL n xs)[i]? = (xs[i]?).map fun x => PV.tup [.int ((n + i : Nat) : Int), x]
  | [], i, n => by simp [enumL]
  | x :: xs, 0, n => by simp [enumL]
  | x :: xs, i + 1, n => by
    rw [enumL, List.getElem?_cons_succ, enumL_get, List.getElem?_cons_succ]
    have e : n + 1 + i = n + (i + 1) := by omega
    rw [e]
theorem enumL_len : ∀ (xs : List PV) (n : Nat), (enumL n xs).length = xs.length
  | [], n => rfl
  | x :: xs, n => by rw [enumL, List.length_cons, enumL_len xs, List.length_cons]
theorem zipL_len : ∀ (xs ys : List PV), (zipL xs ys).length = min xs.length ys.length
  | [], ys => by simp [zipL]
  | x :: xs, [] => by simp [zipL]
  | x :: xs, y :: ys => by rw [zipL, List.length_cons, zipL_len xs ys]; simp
theorem zipL_get : ∀ {xs ys : List PV} {i : Nat} {it : PV}, (zipL xs ys)[i]? = some it → ∃ a b, xs[i]? = some a ∧ ys[i]? = some b ∧ it = .tup [a, b]
  | [], ys, i, it, h => by simp [zipL] at h
  | x :: xs, [], i, it, h => by simp [zipL] at h
  | x :: xs, y :: ys, 0, it, h => by
    simp [zipL] at h
    exact ⟨x, y, by simp, by simp, h.symm⟩
  | x :: xs, y :: ys, i + 1, it, h => by
    obtain ⟨a, b, h1, h2, h3⟩ := zipL_get (i := i) (by simpa [zipL] using h)
    exact ⟨a, b, by simpa using h1, by simpa using h2, h3⟩
theorem seq_sqk {its : List PV} (rv : RV K mg H B v x W) (e : seqOf v = some its) : ∃ a ys W', x = .ref a ∧ Sqk K (kindB v) H a ys ∧ RVs K mg H B its ys W' := by
  cases rv with
  | tup h rs => cases e; exact ⟨_, _, _, rfl, h, rs⟩
  | lstO h b rs => cases e; exact ⟨_, _, _, rfl, (.of h : SqL K H _ _), rs⟩
  | lstF h b rs => cases e; exact ⟨_, _, _, rfl, (.of h : SqL K H _ _), rs⟩
  | zls h rs => cases e; exact ⟨_, _, _, rfl, h.sq, rs⟩
  | _ => cases e
theorem pair_pure {a b : PV} (h : (PV.tup [a, b]).pure = true) : a.pure = true ∧ b.pure = true := by
  have : PV.pures [a, b] = true := by rw [PV.pure] at h; exact h
  rw [PV.pures, PV.pures, PV.pures] at this
  simp only [Bool.and_eq_true, Bool.and_true] at this
  exact this
theorem rvs_two {s t : PV} {xv yv : V} {Gs : List Addr} (r : RVs K mg H B [s, t] [xv, yv] Gs) : ∃ W1 W2, RV K mg H B s xv W1 ∧ RV K mg H B t yv W2 := by
  cases r with
  | cons r1 t1 =>
    cases t1 with
    | cons r2 _ => exact ⟨_, _, r1, r2⟩
theorem itOk_enum {a0 : Addr} {its : List PV} (e : seqOf v = some its) : ItOk K mg (IteK K (kindB v) a0) (enumL 0 its) [v] [.ref a0] := fun H B Gs r => by
  obtain ⟨W, r1⟩ := rv_one r
  obtain ⟨a, ys, W', ea, hs, rs⟩ := seq_sqk r1 e
  cases ea
  have hl := rs.length
  refine ⟨fun i hi => ⟨ys, hs, by rw [enumL_len] at hi; omega⟩, fun i it hit => ?_⟩
  rw [enumL_get] at hit
  obtain ⟨x, hx, rfl⟩ := Option.map_eq_some_iff.mp hit
  obtain ⟨y, Fa, G, Fb, e1, e2, e3, _⟩ := rs.at hx
  refine ⟨⟨ys, y, hs, e1⟩, fun z H' hy hp => ?_⟩
  obtain ⟨T, y', rfl, hT, rfl, hall⟩ := hy
  have e4 := hall ys hs
  rw [e1] at e4
  cases e4
  have hxp := (pair_pure hp).2
  have := e2.pure hxp
  subst this
  have kp : Keep [] H B (upd H T (.tup [.int (i : Nat), y])) B := Keep.new hT
  refine ⟨B, kp, .tup (.inl (.inl upd_same)) ?_⟩
  rw [Nat.zero_add]
  exact .cons (F := []) (.int _) (.cons (F := []) (G := []) (e2.keep0 kp) .nil)
theorem itOk_zip {a0 b0 : Addr} {its jts : List PV} (e : seqOf v = some its) (e' : seqOf w = some jts) : ItOk K mg (ItzK K (kindB v) (kindB w) a0 b0) (zipL its jts) [v, w] [.ref a0, .ref b0] := fun H B Gs r => by
  obtain ⟨W1, W2, r1, r2⟩ := rvs_two r
  obtain ⟨a, ys, W', ea, hs, rs⟩ := seq_sqk r1 e
  obtain ⟨b, zs, W'', eb, hs2, rs2⟩ := seq_sqk r2 e'
  cases ea
  cases eb
  have hl := rs.length
  have hl2 := rs2.length
  refine ⟨fun i hi => ⟨ys, zs, hs, hs2, ?_⟩, fun i it hit => ?_⟩
  · rw [zipL_len] at hi
    refine ⟨by omega, by omega, by omega⟩
  · obtain ⟨p, q, hx, hy, rfl⟩ := zipL_get hit
    obtain ⟨y, Fa, G, Fb, e1, e2, e3, _⟩ := rs.at hx
    obtain ⟨y2, Fa2, G2, Fb2, g1, g2, g3, _⟩ := rs2.at hy
    refine ⟨⟨ys, zs, y, y2, hs, hs2, e1, g1⟩, fun z H' hyl hp => ?_⟩
    obtain ⟨T, y', y2', rfl, hT, rfl, hall, hall2⟩ := hyl
    have e4 := hall ys hs
    rw [e1] at e4
    cases e4
    have g4 := hall2 zs hs2
    rw [g1] at g4
    cases g4
    obtain ⟨hp1, hp2⟩ := pair_pure hp
    have := e2.pure hp1
    subst this
    have := g2.pure hp2
    subst this
    have kp : Keep [] H B (upd H T (.tup [y, y2])) B := Keep.new hT
    exact ⟨B, kp, .tup (.inl (.inl upd_same)) (.cons (F := []) (e2.keep0 kp) (.cons (F := []) (G := []) (g2.keep0 kp) .nil))⟩
theorem gi_enum {elts : List Expr} {kk : Nat} {tpos p : Pos} {f : M (List Opd)} (hK : X.K = K) (hm : X.mg "enumerate" = none) (hg : Gl X "enumerate") (ha : PA X [a] (tA false K mg P f)) (hs : starEach [a] X.env = [(false, eval a X.env)] := by rfl) :
    PI X (.Tuple elts kk tpos) (.Call (.Name "enumerate" p) [a] [] pos) (tI K mg P (iTm penum f)) := by
  subst hK
  refine PI.weak (pi_enumK hg hm ha hs) fun σ H R ⟨ρ, B, F, items, ρ', Rr, e1, k⟩ => ?_
  obtain ⟨⟨os, ρ1⟩, z1, e1⟩ := bind_some e1
  obtain ⟨vs, z2, e1⟩ := bind_some e1
  obtain ⟨r, z3, e1⟩ := bind_some e1
  obtain ⟨rfl, rfl⟩ : items = r ∧ ρ' = ρ1 := by cases e1; exact ⟨rfl, rfl⟩
  refine ⟨ρ, B, F, os, _, Rr, z1, fun xs H1 B1 G1 F1 p => ?_⟩
  have rv := ovs_tm p.ov z2
  unfold penum at z3
  split at z3
  · rename_i v
    obtain ⟨its, z4, rfl⟩ := Option.map_eq_some_iff.mp z3
    have rv0 := rv
    cases rv with
    | cons r1 rn =>
      cases rn
      obtain ⟨a0, ys, W', rfl, hs, rs⟩ := seq_sqk r1 z4
      exact ⟨kindB v, a0, ys, rfl, hs, k _ H1 B1 F1 [v] [.ref a0] _ rv0 p.sl p.nd p.st (itOk_enum z4)⟩
  · cases z3
theorem gi_zip {elts : List Expr} {kk : Nat} {tpos p : Pos} {f : M (List Opd)} (hK : X.K = K) (hm : X.mg "zip" = none) (hg : Gl X "zip") (ha : PA X [a, b] (tA false K mg P f)) (hs : starEach [a, b] X.env = (false, eval a X.env) :: starEach [b] X.env := by rfl) (hpl : (backTo pos (starEach [b] X.env)).any (·.1) = false := by rfl) :
    PI X (.Tuple elts kk tpos) (.Call (.Name "zip" p) [a, b] [] pos) (tI K mg P (iTm pzip f)) := by
  subst hK
  refine PI.weak (pi_zipK hg hm ha hs hpl) fun σ H R ⟨ρ, B, F, items, ρ', Rr, e1, k⟩ => ?_
  obtain ⟨⟨os, ρ1⟩, z1, e1⟩ := bind_some e1
  obtain ⟨vs, z2, e1⟩ := bind_some e1
  obtain ⟨r, z3, e1⟩ := bind_some e1
  obtain ⟨rfl, rfl⟩ : items = r ∧ ρ' = ρ1 := by cases e1; exact ⟨rfl, rfl⟩
  refine ⟨ρ, B, F, os, _, Rr, z1, fun xs H1 B1 G1 F1 p => ?_⟩
  have rv := ovs_tm p.ov z2
  unfold pzip at z3
  split at z3
  · rename_i v w
    obtain ⟨its, z4, z3⟩ := bind_some z3
    obtain ⟨jts, z5, z3⟩ := bind_some z3
    cases z3
    have rv0 := rv
    cases rv with
    | cons r1 rn =>
      cases rn with
      | cons r2 rn =>
        cases rn
        obtain ⟨a0, ys, W', rfl, hs, rs⟩ := seq_sqk r1 z4
        obtain ⟨b0, zs, W'', rfl, hs2, rs2⟩ := seq_sqk r2 z5
        exact ⟨kindB v, kindB w, a0, b0, ys, zs, rfl, hs, hs2, k _ H1 B1 F1 [v, w] [.ref a0, .ref b0] _ rv0 p.sl p.nd p.st (itOk_zip z4 z5)⟩
  · cases z3
/-! ### sorted of a dict with int keys -/
def keysI : List Key → Option (List Int)
  | [] => some []
  | .inl i :: ks => (keysI ks).map (i :: ·)
  | _ :: _ => none
theorem keysI_map : ∀ {ks : List Key} {ns : List Int}, keysI ks = some ns → ks = ns.map Sum.inl
  | [], ns, h => by cases h; rfl
  | .inl i :: ks, ns, h => by
    obtain ⟨m, h1, rfl⟩ := Option.map_eq_some_iff.mp h
    rw [keysI_map h1] <;> rfl
  | .inr i :: ks, ns, h => by cases h
def psorted2 : List PV → Option PV
  | [.dic _ kvs] => (keysI (kvs.map (·.1))).bind fun ns => if ns.length < 64 then some (.lst true ((sset ns).map .int)) else none
  | xs => psorted xs
theorem dict_nodupR {pins : List (Addr × Obj)} {s : Shared} {a : Addr} {ks : List (Key × V)} (I : Inv X pins σ H s) (h : Rd H a (.dK ks)) : (ks.map (·.1)).Nodup := by
  obtain ⟨_, _, vs, r, dd⟩ := dk_rd I.hok h
  rw [kv_keys r]
  obtain ⟨_, _, _, _, _, _, _, _, n⟩ := dd
  exact n
theorem lt_of_le : ∀ {l : List Int}, l.Pairwise (· ≤ ·) → l.Nodup → l.Pairwise (· < ·)
  | [], _, _ => .nil
  | x :: l, h, n => by
    obtain ⟨h1, h2⟩ := List.pairwise_cons.mp h
    obtain ⟨n1, n2⟩ := List.nodup_cons.mp n
    refine List.pairwise_cons.mpr ⟨fun y hy => ?_, lt_of_le h2 n2⟩
    have := h1 y hy
    have ne : x ≠ y := fun e => n1 (e ▸ hy)
    omega
theorem cr_sorted2 (hc : X.calm = true) (hK : X.K = K) (hu : X.A.units + 66 < cLine) (h : CallR X (.builtin "sorted") (rCall K mg psorted)) : CallR X (.builtin "sorted") (rCall K mg psorted2) := by
  intro pins s σ H xs us Q I rx ⟨B, vs, r, ps, g, nw⟩
  unfold psorted2 at g
  split at g
  · rename_i o kvs
    obtain ⟨ns, g1, g⟩ := bind_some g
    obtain ⟨h64, rfl⟩ := ite_some g
    cases ps with
    | cons r1 rn =>
      cases rn
      obtain ⟨W1, r1⟩ := r1
      obtain ⟨a, ks, W, rfl, hr, e2, r2, _⟩ := r1.dics
      have hk : ks.map (·.1) = ns.map Sum.inl := by rw [← e2]; exact keysI_map g1
      have nk := dict_nodupR I hr
      have nn : ns.Nodup := by
        rw [hk] at nk
        exact List.Pairwise.of_map _ (fun a b h e => h (congrArg Sum.inl e)) nk
      refine call_sortedDI hc pins s σ H _ us Q I rx ⟨a, ks, ns, rfl, hr, hk, h64, fun ys p hp hs hn => ?_⟩
      have ny : ys.Nodup := hp.nodup_iff.mpr nn
      have e : ys = sset ns := eq_of_lt (lt_of_le hs ny) (sset_lt ns) fun j => by rw [sset_mem]; exact hp.mem_iff
      subst e
      exact nw.list (rvs_ints _) hn
  · exact h pins s σ H xs us Q I rx ⟨B, vs, r, ps, g, nw⟩
/-! ### max(d.values()), sum(d.values()) -/
def pmaxV : PV → Option PV
  | .dic _ kvs => (intsOf (kvs.map (·.2))).bind fun ns => guard (ns ≠ []) (some (.int (maxI ns)))
  | _ => none
def psumV : PV → Option PV
  | .dic _ kvs => (intsOf (kvs.map (·.2))).bind fun ns => guard (ns.length ≤ 1000000 ∧ ∀ i ∈ ns, -1000000000000 ≤ i ∧ i ≤ 1000000000000) (some (.int ns.sum))
  | _ => none
theorem rvs_intsOf : ∀ {vs : List PV} {ys : List V} {W : List Addr} {ns : List Int}, RVs K mg H B vs ys W → intsOf vs = some ns → ys = ns.map V.int
  | [], _, _, ns, .nil, e => by cases e; rfl
  | v :: vs, _, _, ns, .cons r t, e => by
    unfold intsOf at e
    split at e
    · rename_i hh; cases hh
    · rename_i i xs h1
      cases h1
      obtain ⟨m, e1, e2⟩ := bind_some e
      cases e2
      cases r
      rw [rvs_intsOf t e1] <;> rfl
    · cases e
theorem maxI_ge : ∀ (ns : List Int) (n : Int), n ≤ ns.foldl max n ∧ (∀ j ∈ ns, j ≤ ns.foldl max n) ∧ (ns.foldl max n = n ∨ ns.foldl max n ∈ ns)
  | [], n => ⟨Int.le_refl _, (fun _ h => nomatch h), .inl rfl⟩
  | m :: ns, n => by
    obtain ⟨h1, h2, h3⟩ := maxI_ge ns (max n m)
    rw [List.foldl_cons]
    refine ⟨by omega, fun j hj => ?_, ?_⟩
    · rcases List.mem_cons.mp hj with e | hj
      · subst e; omega
      · exact h2 j hj
    · rcases h3 with h | h
      · rcases Int.le_total n m with q | q
        · right; rw [h]; simp [Int.max_eq_right q]
        · left; rw [h]; exact Int.max_eq_left q
      · exact .inr (List.mem_cons_of_mem _ h)
theorem maxI_uniq {ns : List Int} {m : Int} (hn : ns ≠ []) (h1 : m ∈ ns) (h2 : ∀ j ∈ ns, j ≤ m) : m = maxI ns := by
  cases ns with
  | nil => exact absurd rfl hn
  | cons n ns =>
    obtain ⟨g1, g2, g3⟩ := maxI_ge ns n
    show m = ns.foldl max n
    have a1 : ns.foldl max n ≤ m := by
      rcases g3 with h | h
      · rw [h]; exact h2 n (List.mem_cons_self ..)
      · exact h2 _ (List.mem_cons_of_mem _ h)
    have a2 : m ≤ ns.foldl max n := by
      rcases List.mem_cons.mp h1 with h | h
      · rw [h]; exact g1
      · exact g2 m h
    omega
theorem ge_maxV {fa : O} {p apos mpos : Pos} (hc : X.calm = true) (hm : X.mg "max" = none) (hg : Gl X "max") (ha : PE X a (tO q K mg P fa)) (hbase : attributeBase a "values" X.env (eval a X.env) = eval a X.env := by rfl) (hline : (apos.endLine == mpos.line) = true := by rfl)
    (hse : starEach [Expr.Call (.Attribute a "values" apos) [] [] mpos] X.env = [(false, eval (Expr.Call (.Attribute a "values" apos) [] [] mpos) X.env)] := by rfl) :
    PE X (.Call (.Name "max" p) [.Call (.Attribute a "values" apos) [] [] mpos] [] pos) (tE q K mg P (cUn pmaxV fa)) :=
  PE.weak (pe_maxVals hc hg hm ha hbase hline hse) fun σ H Q h => by
    obtain ⟨ρ, B, F, o, ρ', R, e1, k⟩ := un_te h
    refine ⟨ρ, B, F, o, ρ', R, e1, fun x H1 B1 G1 F1 p1 => ?_⟩
    obtain ⟨B2, va, Wa, r, ra, g, nw⟩ := k x H1 B1 G1 F1 p1
    unfold pmaxV at g
    split at g
    · obtain ⟨ns, g1, g⟩ := bind_some g
      obtain ⟨gc, g⟩ := guard_some g
      cases g
      obtain ⟨a0, ks, W, rfl, hr, e2, r2, _⟩ := ra.dics
      exact ⟨a0, ks, ns, rfl, hr, rvs_intsOf r2 g1, gc, fun m h1 h2 => by rw [maxI_uniq gc h1 h2]; exact nw.pure (.int _)⟩
    · cases g
theorem ge_sumV {fa : O} {p apos mpos : Pos} (hc : X.calm = true) (hm : X.mg "sum" = none) (hg : Gl X "sum") (ha : PE X a (tO q K mg P fa)) (hbase : attributeBase a "values" X.env (eval a X.env) = eval a X.env := by rfl) (hline : (apos.endLine == mpos.line) = true := by rfl)
    (hse : starEach [Expr.Call (.Attribute a "values" apos) [] [] mpos] X.env = [(false, eval (Expr.Call (.Attribute a "values" apos) [] [] mpos) X.env)] := by rfl) :
    PE X (.Call (.Name "sum" p) [.Call (.Attribute a "values" apos) [] [] mpos] [] pos) (tE q K mg P (cUn psumV fa)) :=
  PE.weak (pe_sumVals hc hg hm ha hbase hline hse) fun σ H Q h => by
    obtain ⟨ρ, B, F, o, ρ', R, e1, k⟩ := un_te h
    refine ⟨ρ, B, F, o, ρ', R, e1, fun x H1 B1 G1 F1 p1 => ?_⟩
    obtain ⟨B2, va, Wa, r, ra, g, nw⟩ := k x H1 B1 G1 F1 p1
    unfold psumV at g
    split at g
    · obtain ⟨ns, g1, g⟩ := bind_some g
      obtain ⟨⟨c1, c2⟩, g⟩ := guard_some g
      cases g
      obtain ⟨a0, ks, W, rfl, hr, e2, r2, _⟩ := ra.dics
      exact ⟨a0, ks, ns, rfl, hr, rvs_intsOf r2 g1, c1, c2, nw.pure (.int _)⟩
    · cases g
/-! ### dict(list of pairs) -/
def pairsOf : List PV → Option (List (Key × PV))
  | [] => some []
  | .tup [k, v] :: xs => (toKey k).bind fun kk => (pairsOf xs).map ((kk, v) :: ·)
  | _ :: _ => none
def pdict : List PV → Option PV
  | [.lst _ xs] => if PV.pures xs = true then (pairsOf xs).map fun kvs => .dic true (mergeP [] kvs) else none
  | _ => none
theorem pairs_rv : ∀ {xs : List PV} {ys : List V} {W : List Addr} {kvs : List (Key × PV)}, RVs K mg H B xs ys W → PV.pures xs = true → pairsOf xs = some kvs →
    ∃ (ps : List Addr) (ls : List (Key × V)), ys = ps.map V.ref ∧ Paired (fun p kv => SqT K H p [kV kv.1, kv.2]) ps ls ∧ kvs.map (·.1) = ls.map (·.1) ∧ RVs K mg H B (kvs.map (·.2)) (ls.map (·.2)) []
  | [], _, _, kvs, .nil, _, e => by cases e; exact ⟨[], [], rfl, .nil, rfl, .nil⟩
  | x :: xs, _, _, kvs, .cons r t, hp, e => by
    rw [PV.pures, Bool.and_eq_true] at hp
    unfold pairsOf at e
    split at e
    · rename_i hh; cases hh
    · rename_i k v xs' h1
      cases h1
      obtain ⟨kk, e1, e⟩ := bind_some e
      obtain ⟨m, e2, rfl⟩ := Option.map_eq_some_iff.mp e
      obtain ⟨ps, ls, i1, i2, i3, i4⟩ := pairs_rv t hp.2 e2
      cases r with
      | @tup a ys' _ _ hs rs =>
        cases rs with
        | cons rk rn =>
          cases rn with
          | cons rv rn =>
            cases rn
            obtain rfl := toKey_ok rk e1
            have pv := (pair_pure hp.1).2
            have := rv.pure pv
            subst this
            exact ⟨a :: ps, (kk, _) :: ls, by rw [i1] <;> rfl, .cons hs i2, by simp [i3], .cons (F := []) (G := []) rv i4⟩
    · cases e
theorem merge_keys : ∀ {kvs : List (Key × PV)} {ls : List (Key × V)} {ps : List (Key × PV)} {ks : List (Key × V)}, True := trivial
theorem cr_dict (hc : X.calm = true) (hK : X.K = K) : CallR X (.type "dict") (rCall K mg pdict) := by
  subst hK
  intro pins s σ H xs us Q I rx ⟨B, vs, r, ps, g, nw⟩
  unfold pdict at g
  split at g
  · rename_i o ws
    split at g
    · rename_i hp
      obtain ⟨kvs, g1, rfl⟩ := Option.map_eq_some_iff.mp g
      cases ps with
      | cons r1 rn =>
        cases rn
        obtain ⟨W1, r1⟩ := r1
        obtain ⟨a, ys, W, rfl, hr, rs, _⟩ := r1.lsts
        obtain ⟨as, ls, rfl, i2, i3, i4⟩ := pairs_rv rs hp g1
        refine call_dictP hc pins s σ H _ us Q I rx ⟨a, as, ls, rfl, .of hr, i2, fun p hn => ?_⟩
        obtain ⟨j1, F', j2, j3, j4⟩ := RVs.merge (ps := []) (ks := []) (Fx := []) rfl List.nodup_nil .nil List.nodup_nil i3 i4
        have : F' = [] := List.eq_nil_iff_forall_not_mem.mpr fun b hb => nomatch j4 b hb
        subst this
        exact nw _ _ (own1 B p) [p] (.dicO upd_same (.inl rfl) j1 (j2.keep0 (Keep.newO hn))) (by simp) (fun b hb => by simp at hb; rw [hb]; exact hn) (Keep.newO hn)
    · cases g
  · cases g
/-! ### l.index(x) -/
def firstAt (d : PyData) : List PyData → Nat → Option Nat
  | [], _ => none
  | z :: zs, i => if PyData.eqv z d = true then some i else firstAt d zs (i + 1)
theorem firstAt_ok {d : PyData} : ∀ {ds : List PyData} {i j : Nat}, firstAt d ds i = some j → i ≤ j ∧ (∃ z, ds[j - i]? = some z ∧ PyData.eqv z d = true) ∧ ∀ m z', m < j - i → ds[m]? = some z' → PyData.eqv z' d = false
  | [], i, j, h => by cases h
  | z :: zs, i, j, h => by
    unfold firstAt at h
    split at h
    · rename_i he
      cases h
      refine ⟨Nat.le_refl _, ⟨z, by simp, he⟩, fun m z' hm => by omega⟩
    · rename_i he
      obtain ⟨h1, ⟨z1, h2, h3⟩, h4⟩ := firstAt_ok h
      have e : j - i = (j - (i + 1)) + 1 := by omega
      refine ⟨by omega, ⟨z1, by rw [e]; simpa using h2, h3⟩, fun m z' hm hz => ?_⟩
      cases m with
      | zero =>
        simp at hz
        subst hz
        simpa using he
      | succ m => exact h4 m z' (by omega) (by simpa using hz)
def pindex : PV → PV → Option PV
  | .lst _ xs, v => (toDs xs).bind fun ds => (toD v).bind fun d => guard (SeqAt.shaped (.list ds) = true ∧ SeqAt.shaped d = true) ((firstAt d ds 0).map fun j => .int (j : Nat))
  | _, _ => none
def isLst : PV → Bool
  | .lst _ _ => true
  | _ => false
def cIdx (a b : O) : M PV := fun ρ => (a ρ).bind fun z1 => (deref z1.1 z1.2).bind fun v0 => if isLst v0 = true then (b z1.2).bind fun z2 => (deref z1.1 z2.2).bind fun va => (deref z2.1 z2.2).bind fun vb => (pindex va vb).bind fun r => some (r, z2.2) else none
theorem ge_index {fa fb : O} {apos cpos : Pos} (hK : X.K = K) (hu : X.A.units + 65 < cLine) (ha : PE X a (tO q K mg P fa)) (hb : PE X b (tO q K mg P fb)) (hp : NoPk fa ∨ q = true := by first | exact .inl nopk_sl | exact .inl nopk_tm | exact .inr rfl | assumption)
    (hbase : attributeBase a "index" X.env (eval a X.env) = eval a X.env := by rfl)
    (hfew : ((backTo cpos (starEach [b] X.env)).all (fun x => !x.1) && (backToKw cpos (keywordEach [] X.env)).all (fun x => x.1.isSome)
      && decide (([b] : List Expr).length + ([] : List Keyword).length + (if ([] : List Keyword).isEmpty then 0 else 1) < 30)) = true := by rfl)
    (hline : (apos.endLine == cpos.line) = true := by rfl) (hs : starEach [b] X.env = (false, eval b X.env) :: starEach [] X.env := by rfl) (hplain : (backTo cpos (starEach [] X.env)).any (·.1) = false := by rfl) :
    PE X (.Call (.Attribute a "index" apos) [b] [] cpos) (tE q K mg P (cIdx fa fb)) := by
  subst hK
  refine PE.weak (pe_bm PySem.F.plainAttrs_list PySem.F.slot_list_index PySem.F.type_list_index (mt_indexD hu) ha (pa_cons hb pa_nil hs) hbase hfew hline hs hplain) fun σ H Q ⟨ρ, B, F, r, ρ', R, e1, k⟩ => ?_
  obtain ⟨⟨o1, ρ1⟩, z1, e1⟩ := bind_some e1
  obtain ⟨v0, d0, e1⟩ := bind_some e1
  obtain ⟨hl0, e1⟩ := if_some e1
  obtain ⟨⟨o2, ρ2⟩, z2, e1⟩ := bind_some e1
  obtain ⟨va, d1, e1⟩ := bind_some e1
  obtain ⟨vb, d2, e1⟩ := bind_some e1
  obtain ⟨c, gc, e1⟩ := bind_some e1
  cases e1
  refine ⟨ρ, B, F, o1, ρ1, R, z1, fun x H1 B1 G1 F1 p1 => ?_⟩
  obtain ⟨W0, r0, _⟩ := p1.ov.deref p1.sl d0
  have ty : tyV X.K "list" x H1 := by
    unfold isLst at hl0
    split at hl0
    · obtain ⟨a0, ys, W, rfl, h, _⟩ := r0.lsts
      exact .inl ⟨rfl, _, .of h⟩
    · cases hl0
  unfold pindex at gc
  split at gc
  · rename_i o xs
    obtain ⟨ds, g1, gc⟩ := bind_some gc
    obtain ⟨d, g2, gc⟩ := bind_some gc
    obtain ⟨⟨c1, c2⟩, gc⟩ := guard_some gc
    obtain ⟨j, g3, rfl⟩ := Option.map_eq_some_iff.mp gc
    refine ⟨ty, ρ1, B1, F1, o2, ρ2, p1.rel, z2, fun y H2 B2 G2 F2 p2 => ?_⟩
    have np : (∀ v, o1 ≠ .pk v) ∨ (F2 = F1 ∧ Keep [] H1 B1 H2 B2) := hp.imp (fun n => n _ _ _ z1) fun e => (p2.ro e).2
    have ov := p1.ov.over p1.nd p1.sl.mut p2.st.keep np
    obtain ⟨Wa, ra, _⟩ := ov.deref p2.sl d1
    obtain ⟨Wb, rb, _⟩ := p2.ov.deref p2.sl d2
    obtain ⟨a0, ys, W, ea, _, _⟩ := ra.lsts
    subst ea
    obtain ⟨_, ⟨z, k1, k2⟩, k3⟩ := firstAt_ok g3
    have st : Step H B F H2 B2 F2 := (p1.st.trans (p2.st.beside G1)).less fun b hb => List.mem_append_right _ (List.mem_append_right _ hb)
    exact ⟨a0, y, d, ds, j, z, rfl, rfl, ra.dp (by rw [toD, g1]; rfl), rb.dp g2, c1, c2, by simpa using k1, k2, fun m z' hm => k3 m z' (by omega), k (.int (j : Nat)) H2 B2 [] F2 ⟨.int _, p2.sl, nodup_r p2.nd, st, fun e => let ⟨a1, a2, a3⟩ := p1.ro e; let ⟨b1, b2, b3⟩ := p2.ro e; ⟨b1.trans a1, b2.trans a2, a3.trans0 b3⟩⟩⟩
  · cases gc
end
end GX

/-! GX: sorted pairs of ints; lemmas of the newer values. -/
namespace GX
open PySem PySem.Spec PyProof.Rows L2
def pE (p : Int × Int) : PV := .tup [.int p.1, .int p.2]
def pD (p : Int × Int) : PyData := .tuple [.int p.1, .int p.2]
@[simp] theorem pE_pure (p : Int × Int) : (pE p).pure = true := by simp [pE]
def leP (p q : Int × Int) : Bool := decide (p.1 < q.1 ∨ (p.1 = q.1 ∧ p.2 ≤ q.2))
def sortP (ps : List (Int × Int)) : List (Int × Int) := ps.mergeSort leP
theorem sortP_perm (ps : List (Int × Int)) : (sortP ps).Perm ps := List.mergeSort_perm ps _
theorem sortP_sorted (ps : List (Int × Int)) : (sortP ps).Pairwise (fun p q => p.1 < q.1 ∨ (p.1 = q.1 ∧ p.2 ≤ q.2)) := by
  have h := List.pairwise_mergeSort (le := leP) (fun a b c h1 h2 => by simp only [leP, decide_eq_true_eq] at *; omega) (fun a b => by simp only [leP, Bool.or_eq_true, decide_eq_true_eq]; omega) ps
  exact h.imp fun h => by simpa [leP] using h
theorem toDs_map {α : Type} {f : α → PV} {g : α → PyData} (h : ∀ x, toD (f x) = some (g x)) : ∀ xs : List α, toDs (xs.map f) = some (xs.map g)
  | [] => rfl
  | x :: xs => by rw [List.map_cons, toDs, h, toDs_map h xs] <;> rfl
theorem sortD_pairs (ps : List (Int × Int)) : sortD (ps.map pE) (ps.map pD) = (sortP ps).map pE := by
  unfold sortD sortP
  have e : (ps.map pE).zip (ps.map pD) = ps.map fun p => (pE p, pD p) := by
    induction ps with
    | nil => rfl
    | cons p ps ih => simp only [List.map_cons, List.zip_cons_cons, ih]
  rw [e]
  have h : ((ps.mergeSort leP).map fun p => (pE p, pD p)) = (ps.map fun p => (pE p, pD p)).mergeSort (PySem.W.dataLe false Prod.snd) := by
    refine List.map_mergeSort fun a _ b _ => ?_
    have := congrFun (congrFun (PySem.W.dataLe_ii (fun p : Int × Int => p.1) (fun p => p.2)) a) b
    show leP a b = PySem.W.dataLe false Prod.snd (pE a, pD a) (pE b, pD b)
    rw [show PySem.W.dataLe false Prod.snd (pE a, pD a) (pE b, pD b) = PySem.W.dataLe false (fun p : Int × Int => .tuple [.int p.1, .int p.2]) a b from rfl, this]
    rfl
  rw [← h, List.map_map]
  rfl
theorem sortOk_pairs (ps : List (Int × Int)) : sortOk (ps.map pD) = true := by
  unfold sortOk
  simp only [Bool.and_eq_true, List.all_eq_true, List.mem_map, Bool.or_eq_true]
  refine ⟨⟨?_, .inl ?_⟩, ?_⟩
  · rintro d ⟨p, _, rfl⟩ e ⟨q, _, rfl⟩
    rfl
  · rintro d ⟨p, _, rfl⟩
    rfl
  · rintro d ⟨p, _, rfl⟩
    exact decide_eq_true (by show PyData.depth (.tuple [.int p.1, .int p.2]) ≤ 60; simp [PyData.depth, PyData.depthAll])
@[simp] theorem psorted2_lst (o : Bool) (xs : List PV) : psorted2 [.lst o xs] = psortL xs := rfl
theorem psortL_pairs (ps : List (Int × Int)) (h : ps.length ≤ 16777216) : psortL (ps.map pE) = some (.lst true ((sortP ps).map pE)) := by
  unfold psortL
  rw [toDs_map (g := pD) (fun p => rfl)]
  simp only [Option.bind_some]
  rw [guard_pos ⟨sortOk_pairs ps, by simp, by simpa using h⟩, sortD_pairs]
@[simp] theorem psorted2_dic (o : Bool) (kvs : List (Key × PV)) : psorted2 [.dic o kvs] = (keysI (kvs.map (·.1))).bind fun ns => if ns.length < 64 then some (.lst true ((sset ns).map .int)) else none := rfl
@[simp] theorem keysI_inl (ns : List Int) : keysI (ns.map Sum.inl) = some ns := by
  induction ns with
  | nil => rfl
  | cons n ns ih => rw [List.map_cons, keysI, ih] <;> rfl
theorem keysI_of {α : Type} (f : α → Int) (xs : List α) : keysI (xs.map fun x => Sum.inl (f x)) = some (xs.map f) := by
  have := keysI_inl (xs.map f)
  rw [List.map_map] at this
  exact this
@[simp] theorem PVpure_dic (o : Bool) (kvs : List (Key × PV)) : (PV.dic o kvs).pure = !o := by rw [PV.pure]
@[simp] theorem itemsOf_str (x : Str) : itemsOf (.str x) = some (x.cps.toList.map fun c => .str ⟨#[c]⟩) := rfl
@[simp] theorem toKey_int (i : Int) : toKey (.int i) = some (.inl i) := rfl
@[simp] theorem toKey_str (x : Str) : toKey (.str x) = some (.inr x) := rfl
@[simp] theorem pgetI_dic (o : Bool) (kvs : List (Key × PV)) (k : PV) : pgetI (.dic o kvs) k = (toKey k).bind fun k => lookK kvs k := by cases k <;> rfl
@[simp] theorem plen_dic (kvs : List (Key × PV)) : plen [.dic true kvs] = some (.int kvs.length) := rfl
@[simp] theorem getS_lst_ (xs : List PV) (i : Int) : getS (.lst true xs) (.ix (.int i)) = atI xs i := rfl
@[simp] theorem getP_nil (v : PV) : getP v [] = some v := rfl
@[simp] theorem getP_cons (v : PV) (s : Stp) (p : List Stp) : getP v (s :: p) = (getS v s).bind fun w => getP w p := rfl
@[simp] theorem setP_nil (v u : PV) : setP v [] u = some u := rfl
@[simp] theorem setP_cons (v u : PV) (s : Stp) (p : List Stp) : setP v (s :: p) u = (getS v s).bind fun w => (setP w p u).bind fun w' => setS v s w' := rfl
@[simp] theorem setS_lst_ (xs : List PV) (i : Int) (v : PV) : setS (.lst true xs) (.ix (.int i)) v = (ixN xs.length i).map fun j => .lst true (xs.set j v) := rfl
@[simp] theorem pdict_lst (o : Bool) (xs : List PV) : pdict [.lst o xs] = if PV.pures xs = true then (pairsOf xs).map fun kvs => .dic true (mergeP [] kvs) else none := rfl
@[simp] theorem pmaxV_dic (o : Bool) (kvs : List (Key × PV)) : pmaxV (.dic o kvs) = (intsOf (kvs.map (·.2))).bind fun ns => guard (ns ≠ []) (some (.int (maxI ns))) := rfl
@[simp] theorem psumV_dic (o : Bool) (kvs : List (Key × PV)) : psumV (.dic o kvs) = (intsOf (kvs.map (·.2))).bind fun ns => guard (ns.length ≤ 1000000 ∧ ∀ i ∈ ns, -1000000000000 ≤ i ∧ i ≤ 1000000000000) (some (.int ns.sum)) := rfl
@[simp] theorem gUpdate_dic (o : Bool) (ps qs : List (Key × PV)) : gUpdate (.dic true ps) [.dic o qs] = guard (PV.pures (qs.map (·.2)) = true ∧ ps.length + qs.length ≤ 16777216) (some (.dic true (mergeP ps qs), .non)) := rfl
@[simp] theorem seqOf_tup (xs : List PV) : seqOf (.tup xs) = some xs := rfl
@[simp] theorem seqOf_lst (o : Bool) (xs : List PV) : seqOf (.lst o xs) = some xs := rfl
@[simp] theorem penum_one (v : PV) : penum [v] = (seqOf v).map (enumL 0) := rfl
@[simp] theorem pzip_two (v w : PV) : pzip [v, w] = (seqOf v).bind fun xs => (seqOf w).bind fun ys => some (zipL xs ys) := rfl
@[simp] theorem isLst_lst (o : Bool) (xs : List PV) : isLst (.lst o xs) = true := rfl
@[simp] theorem cD0_run (ρ : Rho) : cD0 ρ = some (.dic true [], ρ) := rfl
theorem putP_fresh {α : Type} : ∀ {ps : List (Key × α)} {k : Key} {u : α}, k ∉ ps.map (·.1) → putP ps k u = ps ++ [(k, u)]
  | [], k, u, _ => rfl
  | (k1, v1) :: ps, k, u, h => by
    simp only [List.map_cons, List.mem_cons, not_or] at h
    rw [putP, if_neg (fun e => h.1 e.symm), putP_fresh h.2, List.cons_append]
theorem mergeP_fresh {α : Type} : ∀ {qs ps : List (Key × α)}, (qs.map (·.1)).Nodup → (∀ q ∈ qs, q.1 ∉ ps.map (·.1)) → mergeP ps qs = ps ++ qs
  | [], ps, _, _ => by simp [mergeP]
  | q :: qs, ps, nd, h => by
    simp only [List.map_cons, List.nodup_cons] at nd
    show mergeP (putP ps q.1 q.2) qs = _
    rw [putP_fresh (h q (List.mem_cons_self ..)), mergeP_fresh nd.2 (fun r hr => ?_)]
    · simp
    · simp only [List.map_append, List.map_cons, List.map_nil, List.mem_append, List.mem_singleton, not_or]
      exact ⟨h r (List.mem_cons_of_mem _ hr), fun e => nd.1 (List.mem_map.mpr ⟨r, hr, e⟩)⟩
section
variable {ρ : Rho} {R : PV × Rho → Prop} {Q : Out → Prop} {RT : Rho → Prop} {RL : List PV × Rho → Prop} {α : Type} {enc : α → PV} {vs : List Nat} {t : Tg} {c : M Bool} {ke ve : M PV}
theorem bind_W {β γ : Type} {m : Option β} {f : β → Option γ} {Q : γ → Prop} : W (m.bind f) (Q := ⟨Q⟩) = W m (Q := ⟨fun a => W (f a) (Q := ⟨Q⟩)⟩) := W_bind m f Q
@[simp] theorem W_iTm (g : List PV → Option (List PV)) (a : M (List Opd)) : W (iTm g a ρ) (Q := ⟨RL⟩) = W (a ρ) (Q := ⟨fun z => W (tmVals z.1) (Q := ⟨fun v => W (g v) (Q := ⟨fun r => RL (r, z.2)⟩)⟩)⟩) := by
  have h : ∀ z : List Opd × Rho, W ((tmVals z.1).bind fun vs => (g vs).bind fun r => some (r, z.2)) (Q := ⟨RL⟩) = W (tmVals z.1) (Q := ⟨fun v => W (g v) (Q := ⟨fun r => RL (r, z.2)⟩)⟩) := fun z => by
    rw [W_bind]
    have h2 : ∀ v, W ((g v).bind fun r => some (r, z.2)) (Q := ⟨RL⟩) = W (g v) (Q := ⟨fun r => RL (r, z.2)⟩) := fun v => by
      rw [W_bind]
      have h3 : (fun r : List PV => W (some (r, z.2)) (Q := ⟨RL⟩)) = fun r => RL (r, z.2) := funext fun r => W_some ..
      rw [h3]
    rw [funext h2]
  show W ((a ρ).bind _) (Q := ⟨RL⟩) = _
  rw [W_bind, funext h]
@[simp] theorem W_cIdx (a b : O) : W (cIdx a b ρ) (Q := ⟨R⟩) = W (a ρ) (Q := ⟨fun z1 => W (deref z1.1 z1.2) (Q := ⟨fun v0 => An (isLst v0 = true) (x := ⟨W (b z1.2) (Q := ⟨fun z2 => W (deref z1.1 z2.2) (Q := ⟨fun va => W (deref z2.1 z2.2) (Q := ⟨fun vb => W (pindex va vb) (Q := ⟨fun r => R (r, z2.2)⟩)⟩)⟩)⟩)⟩)⟩)⟩) := by
  show W ((a ρ).bind _) (Q := ⟨R⟩) = _
  rw [W_bind]
  refine congrArg (fun f => W (a ρ) (Q := ⟨f⟩)) (funext fun z1 => ?_)
  rw [W_bind]
  refine congrArg (fun f => W (deref z1.1 z1.2) (Q := ⟨f⟩)) (funext fun v0 => ?_)
  rw [W_ifn, W_bind]
  refine congrArg (fun f => An (isLst v0 = true) (x := ⟨W (b z1.2) (Q := ⟨f⟩)⟩)) (funext fun z2 => ?_)
  rw [W_bind]
  refine congrArg (fun f => W (deref z1.1 z2.2) (Q := ⟨f⟩)) (funext fun va => ?_)
  rw [W_bind]
  refine congrArg (fun f => W (deref z2.1 z2.2) (Q := ⟨f⟩)) (funext fun vb => ?_)
  rw [W_bind]
  refine congrArg (fun f => W (pindex va vb) (Q := ⟨f⟩)) (funext fun r => ?_)
  rw [W_some]
@[simp] theorem W_plIx (f : Rho → Option (List Stp)) (g : M PV) (RK : List Stp → Prop) : W (plIx f g ρ) (Q := ⟨RK⟩) = W (f ρ) (Q := ⟨fun ks => W (g ρ) (Q := ⟨fun k => An (k.1.pure = true) (x := ⟨RK (ks ++ [.ix k.1])⟩)⟩)⟩) := by
  show W ((f ρ).bind _) (Q := ⟨RK⟩) = _
  rw [W_bind]
  refine congrArg (fun h => W (f ρ) (Q := ⟨h⟩)) (funext fun ks => ?_)
  rw [W_bind]
  refine congrArg (fun h => W (g ρ) (Q := ⟨h⟩)) (funext fun k => ?_)
  rw [W_ifn, W_some]
@[simp] theorem W_gIxP (n : Nat) (f : Rho → Option (List Stp)) (g : M PV) (v : PV) : W (gIxP n f g v ρ) (Q := ⟨RT⟩) = W (f ρ) (Q := ⟨fun ks => W (g ρ) (Q := ⟨fun kk => An (kk.1.pure = true) (x := ⟨W ((ρ[n]?).bind Slot.get) (Q := ⟨fun ob => W (getP ob ks) (Q := ⟨fun u => W (psetI u kk.1 v) (Q := ⟨fun u' => W (setP ob ks u') (Q := ⟨fun ob' => W (chg n ob' ρ) (Q := ⟨RT⟩)⟩)⟩)⟩)⟩)⟩)⟩)⟩) := by
  show W ((f ρ).bind _) (Q := ⟨RT⟩) = _
  rw [W_bind]
  refine congrArg (fun h => W (f ρ) (Q := ⟨h⟩)) (funext fun ks => ?_)
  rw [W_bind]
  refine congrArg (fun h => W (g ρ) (Q := ⟨h⟩)) (funext fun kk => ?_)
  rw [W_ifn, W_bind]
  refine congrArg (fun h => An (kk.1.pure = true) (x := ⟨W ((ρ[n]?).bind Slot.get) (Q := ⟨h⟩)⟩)) (funext fun ob => ?_)
  rw [W_bind]
  refine congrArg (fun h => W (getP ob ks) (Q := ⟨h⟩)) (funext fun u => ?_)
  rw [W_bind]
  refine congrArg (fun h => W (psetI u kk.1 v) (Q := ⟨h⟩)) (funext fun u' => ?_)
  rw [W_bind]
@[simp] theorem W_sAugP (n : Nat) (f : Rho → Option (List Stp)) (g : M PV) (p : PV → PV → Option PV) (ef : M PV) : W (sAugP n f g p ef ρ) (Q := ⟨Q⟩) = W (f ρ) (Q := ⟨fun ks => W (g ρ) (Q := ⟨fun kk => An (kk.1.pure = true) (x := ⟨W ((ρ[n]?).bind Slot.get) (Q := ⟨fun ob => W (getP ob ks) (Q := ⟨fun u => W (getS u (.ix kk.1)) (Q := ⟨fun old => An (old.pure = true) (x := ⟨W (ef ρ) (Q := ⟨fun z => An (z.1.pure = true) (x := ⟨W (p old z.1) (Q := ⟨fun r => W (psetI u kk.1 r) (Q := ⟨fun u' => W (setP ob ks u') (Q := ⟨fun ob' => W (chg n ob' ρ) (Q := ⟨fun ρ2 => Q (.nx ρ2)⟩)⟩)⟩)⟩)⟩)⟩)⟩)⟩)⟩)⟩)⟩)⟩)⟩) := by
  show W ((f ρ).bind _) (Q := ⟨Q⟩) = _
  rw [W_bind]
  refine congrArg (fun h => W (f ρ) (Q := ⟨h⟩)) (funext fun ks => ?_)
  rw [W_bind]
  refine congrArg (fun h => W (g ρ) (Q := ⟨h⟩)) (funext fun kk => ?_)
  rw [W_ifn, W_bind]
  refine congrArg (fun h => An (kk.1.pure = true) (x := ⟨W ((ρ[n]?).bind Slot.get) (Q := ⟨h⟩)⟩)) (funext fun ob => ?_)
  rw [W_bind]
  refine congrArg (fun h => W (getP ob ks) (Q := ⟨h⟩)) (funext fun u => ?_)
  rw [W_bind]
  refine congrArg (fun h => W (getS u (.ix kk.1)) (Q := ⟨h⟩)) (funext fun old => ?_)
  rw [W_ifn, W_bind]
  refine congrArg (fun h => An (old.pure = true) (x := ⟨W (ef ρ) (Q := ⟨h⟩)⟩)) (funext fun z => ?_)
  rw [W_ifn, W_bind]
  refine congrArg (fun h => An (z.1.pure = true) (x := ⟨W (p old z.1) (Q := ⟨h⟩)⟩)) (funext fun r => ?_)
  rw [W_bind]
  refine congrArg (fun h => W (psetI u kk.1 r) (Q := ⟨h⟩)) (funext fun u' => ?_)
  rw [W_bind]
  refine congrArg (fun h => W (setP ob ks u') (Q := ⟨h⟩)) (funext fun ob' => ?_)
  rw [W_bind]
  refine congrArg (fun h => W (chg n ob' ρ) (Q := ⟨h⟩)) (funext fun ρ2 => ?_)
  rw [W_some]
@[simp] theorem W_cDComp (i : M (List PV)) : W (cDComp vs i t c ke ve ρ) (Q := ⟨R⟩) = W (i ρ) (Q := ⟨fun z => An (pureW vs 0 z.2 = true) (x := ⟨W (dcompL vs t c ke ve z.1 [] (mskR vs 0 z.2)) (Q := ⟨fun r => R (.dic true r.1, bckR vs 0 r.2 z.2)⟩)⟩)⟩) := by
  show W ((i ρ).bind _) (Q := ⟨R⟩) = _
  rw [W_bind]
  refine congrArg (fun h => W (i ρ) (Q := ⟨h⟩)) (funext fun z => ?_)
  rw [W_ifn, W_bind]
  refine congrArg (fun h => An (pureW vs 0 z.2 = true) (x := ⟨W (dcompL vs t c ke ve z.1 [] (mskR vs 0 z.2)) (Q := ⟨h⟩)⟩)) (funext fun r => ?_)
  rw [W_some]
/-- a dict comprehension that leaves the names as they are -/
theorem W_dcompL (f : α → Option (Key × PV)) {xs : List α} {acc : List (Key × PV)} {R : List (Key × PV) × Rho → Prop} (hlen : acc.length + xs.length < 16777216)
    (h : ∀ x ∈ xs, (enc x).pure = true ∧ W (t (enc x) ρ) (Q := ⟨fun ρ1 => W (c ρ1) (Q := ⟨fun z => Br (z.1 = true) (x := ⟨W (ke z.2) (Q := ⟨fun kk => An (kk.1.pure = true) (x := ⟨W (toKey kk.1) (Q := ⟨fun k => W (ve kk.2) (Q := ⟨fun y => f x = some (k, y.1) ∧ mskR vs 0 y.2 = ρ⟩)⟩)⟩)⟩)⟩) (y := ⟨f x = none ∧ mskR vs 0 z.2 = ρ⟩)⟩)⟩))
    (k : R (mergeP acc (xs.filterMap f), ρ)) : W (dcompL vs t c ke ve (xs.map enc) acc ρ) (Q := ⟨R⟩) := by
  refine W_ofEq ?_ k
  clear k
  induction xs generalizing acc with
  | nil => rfl
  | cons x xs ih =>
    obtain ⟨hp, ρ1, h1, z, h2, h3⟩ := h x (List.mem_cons_self ..)
    have ih := fun acc hl => ih (acc := acc) hl fun y hy => h y (List.mem_cons_of_mem _ hy)
    simp only [List.length_cons] at hlen
    rw [List.map_cons, dcompL, if_pos hp, h1]
    simp only [Option.bind_some]
    rw [h2]
    simp only [Option.bind_some]
    by_cases hb : z.1 = true
    · obtain ⟨kk, h4, h5, k, h6, y, h7, h8, h9⟩ := h3.1 hb
      rw [if_pos hb, h4]
      simp only [Option.bind_some]
      rw [if_pos h5, h6]
      simp only [Option.bind_some]
      rw [h7]
      simp only [Option.bind_some]
      have := putP_len acc k y.1
      rw [if_pos (by omega), h9, ih _ (by omega), List.filterMap_cons, h8]
      rfl
    · obtain ⟨h5, h6⟩ := h3.2 hb
      rw [if_neg hb, h6, ih _ (by omega), List.filterMap_cons, h5]
end
end GX

set_option maxHeartbeats 0
namespace Xk44
open PySem PySem.Spec PyProof.Rows L2 GX
def topS (i : Nat) : Stmt := PySem.Challenge.pw_owedthen_k44_whole_sureties.main.body.getD i (.Pass ⟨0, 0, 0, 0⟩)
abbrev s__law_start : Stmt := topS 29
theorem sc__law_start : FnScope ["script", "seed", "cell"] ["script"] (defScope s__law_start) := ⟨rfl, rfl, rfl, by decide +kernel, rfl, by decide +kernel, by decide +kernel⟩
abbrev s__law_draw : Stmt := topS 30
theorem sc__law_draw : FnScope ["state", "many", "value"] ["state", "many"] (defScope s__law_draw) := ⟨rfl, rfl, rfl, by decide +kernel, rfl, by decide +kernel, by decide +kernel⟩
abbrev s__law_sureties : Stmt := topS 31
theorem sc__law_sureties : FnScope ["state", "many", "found", "k", "limit", "means"] ["state", "many"] (defScope s__law_sureties) := ⟨rfl, rfl, rfl, by decide +kernel, rfl, by decide +kernel, by decide +kernel⟩
abbrev s__law_parts : Stmt := topS 32
theorem sc__law_parts : FnScope ["weights", "amount", "whole", "found", "order", "rest", "k", "own"] ["weights", "amount"] (defScope s__law_parts) := ⟨rfl, rfl, rfl, by decide +kernel, rfl, by decide +kernel, by decide +kernel⟩
abbrev s__law_level : Stmt := topS 33
theorem sc__law_level : FnScope ["sureties", "level", "claim", "paid", "left", "rooms", "parts_now", "at", "k", "own"] ["sureties", "level", "claim"] (defScope s__law_level) := ⟨rfl, rfl, rfl, by decide +kernel, rfl, by decide +kernel, by decide +kernel⟩
abbrev s__law_shares : Stmt := topS 34
theorem sc__law_shares : FnScope ["sureties", "claim", "every", "left", "level", "paid", "k", "row"] ["sureties", "claim"] (defScope s__law_shares) := ⟨rfl, rfl, rfl, by decide +kernel, rfl, by decide +kernel, by decide +kernel⟩
abbrev s_is_name : Stmt := topS 10
theorem sc_is_name : FnScope ["value", "sign"] ["value"] (defScope s_is_name) := ⟨rfl, rfl, rfl, by decide +kernel, rfl, by decide +kernel, by decide +kernel⟩
abbrev s_is_integer : Stmt := topS 5
theorem sc_is_integer : FnScope ["value"] ["value"] (defScope s_is_integer) := ⟨rfl, rfl, rfl, by decide +kernel, rfl, by decide +kernel, by decide +kernel⟩
abbrev s_check_sureties : Stmt := topS 12
theorem sc_check_sureties : FnScope ["sureties", "row", "part"] ["sureties"] (defScope s_check_sureties) := ⟨rfl, rfl, rfl, by decide +kernel, rfl, by decide +kernel, by decide +kernel⟩
abbrev s_check_claim : Stmt := topS 13
theorem sc_check_claim : FnScope ["claim"] ["claim"] (defScope s_check_claim) := ⟨rfl, rfl, rfl, by decide +kernel, rfl, by decide +kernel, by decide +kernel⟩
abbrev s_room_of : Stmt := topS 14
theorem sc_room_of : FnScope ["row"] ["row"] (defScope s_room_of) := ⟨rfl, rfl, rfl, by decide +kernel, rfl, by decide +kernel, by decide +kernel⟩
abbrev s_accept_shares : Stmt := topS 23
theorem sc_accept_shares : FnScope ["sureties", "claim", "rows", "row", "own", "at", "other"] ["sureties", "claim", "rows"] (defScope s_accept_shares) := ⟨rfl, rfl, rfl, by decide +kernel, rfl, by decide +kernel, by decide +kernel⟩
abbrev s__law_same_as : Stmt := topS 35
theorem sc__law_same_as : FnScope ["first", "second"] ["first", "second"] (defScope s__law_same_as) := ⟨rfl, rfl, rfl, by decide +kernel, rfl, by decide +kernel, by decide +kernel⟩
abbrev s_parts_by : Stmt := topS 15
theorem sc_parts_by : FnScope ["weights", "amount", "total", "found", "order", "missing", "at", "weight"] ["weights", "amount"] (defScope s_parts_by) := ⟨rfl, rfl, rfl, by decide +kernel, rfl, by decide +kernel, by decide +kernel⟩
abbrev s_parts : Stmt := topS 26
theorem sc_parts : FnScope ["weights", "amount", "weight"] ["weights", "amount"] (defScope s_parts) := ⟨rfl, rfl, rfl, by decide +kernel, rfl, by decide +kernel, by decide +kernel⟩
abbrev s_accept_parts : Stmt := topS 27
theorem sc_accept_parts : FnScope ["weights", "amount", "rows", "due", "total", "own", "weight"] ["weights", "amount", "rows"] (defScope s_accept_parts) := ⟨rfl, rfl, rfl, by decide +kernel, rfl, by decide +kernel, by decide +kernel⟩
abbrev s_levels_of : Stmt := topS 17
theorem sc_levels_of : FnScope ["sureties", "row"] ["sureties"] (defScope s_levels_of) := ⟨rfl, rfl, rfl, by decide +kernel, rfl, by decide +kernel, by decide +kernel⟩
abbrev s_shares_in : Stmt := topS 16
theorem sc_shares_in : FnScope ["rows", "amount", "paid", "left", "open_ones", "parts", "at", "part", "own", "row"] ["rows", "amount"] (defScope s_shares_in) := ⟨rfl, rfl, rfl, by decide +kernel, rfl, by decide +kernel, by decide +kernel⟩
abbrev s_shares_of : Stmt := topS 18
theorem sc_shares_of : FnScope ["sureties", "claim", "found", "left", "level", "rows", "paid", "row", "own"] ["sureties", "claim"] (defScope s_shares_of) := ⟨rfl, rfl, rfl, by decide +kernel, rfl, by decide +kernel, by decide +kernel⟩
abbrev s_least_level : Stmt := topS 22
theorem sc_least_level : FnScope ["sureties", "claim", "table", "levels", "row"] ["sureties", "claim"] (defScope s_least_level) := ⟨rfl, rfl, rfl, by decide +kernel, rfl, by decide +kernel, by decide +kernel⟩
abbrev s_greatest_share : Stmt := topS 25
theorem sc_greatest_share : FnScope ["sureties", "claim", "table", "best", "row"] ["sureties", "claim"] (defScope s_greatest_share) := ⟨rfl, rfl, rfl, by decide +kernel, rfl, by decide +kernel, by decide +kernel⟩
abbrev s_shares : Stmt := topS 19
theorem sc_shares : FnScope ["sureties", "claim", "table", "row"] ["sureties", "claim"] (defScope s_shares) := ⟨rfl, rfl, rfl, by decide +kernel, rfl, by decide +kernel, by decide +kernel⟩
abbrev s_even_shares : Stmt := topS 24
theorem sc_even_shares : FnScope ["sureties", "claim", "payer", "level", "rows", "paid", "row", "own"] ["sureties", "claim", "payer"] (defScope s_even_shares) := ⟨rfl, rfl, rfl, by decide +kernel, rfl, by decide +kernel, by decide +kernel⟩
abbrev s_unpaid : Stmt := topS 20
theorem sc_unpaid : FnScope ["sureties", "claim"] ["sureties", "claim"] (defScope s_unpaid) := ⟨rfl, rfl, rfl, by decide +kernel, rfl, by decide +kernel, by decide +kernel⟩
abbrev s_most : Stmt := topS 21
theorem sc_most : FnScope ["sureties", "row"] ["sureties"] (defScope s_most) := ⟨rfl, rfl, rfl, by decide +kernel, rfl, by decide +kernel, by decide +kernel⟩
abbrev s_law : Stmt := topS 36
theorem sc_law : FnScope ["script", "state", "turn", "weights", "amount", "told", "sureties", "top", "claim", "every", "left", "paying", "first", "payer", "alone", "due", "k", "row"] ["script"] (defScope s_law) := ⟨rfl, rfl, rfl, by decide +kernel, rfl, by decide +kernel, by decide +kernel⟩
def k_LETTERS : PV := .str "abcdefghijklmnopqrstuvwxyz"
def k_MAX_PARTIES : PV := .int 12
def k_MAX_SUM : PV := .int 1000000000
noncomputable def _law_start_l1b : S :=
  sAsg (gNm 1) (cBin padd (oTm (cBin pmod (oTm (cCall pint (oCons (oTm (cBin padd (oTm (cBin pmul (oSl 1) (oTm (cC (.int 48271))))) (oSl 2))) oNil))) (oTm (cC (.int 2147483629))))) (oTm (cC (.int 1))))
noncomputable def _law_start_l1 : S := sFor (iVal (cName 0)) (gNm 2) _law_start_l1b
noncomputable def _law_startB : S :=
  sSeq (sAsg (gNm 1) (cC (.int 7))) <|
  sSeq (_law_start_l1) <|
  sRet (cLst (oCons (oTm (cCall plist (oCons (oSl 0) oNil))) (oCons (oTm (cC (.int 0))) (oCons (oTm (cC (.int 0))) (oCons (oTm (cName 1)) oNil)))))
noncomputable def _law_startF : Fn := fnRun 3 1 _law_startB
noncomputable def _law_drawB : S :=
  sSeq (sIf (mAnd (mVal (cBin peq (oSub (oSl 0) (oTm (cC (.int 1)))) (oTm (cC (.int 0))))) (mVal (cBin pge (oSub (oSl 0) (oTm (cC (.int 2)))) (oTm (cCall plen (oCons (oSub (oSl 0) (oTm (cC (.int 0)))) oNil)))))) (sSeq (sAsg (gIx 0 (cC (.int 3))) (cBin pmod (oTm (cCall pint (oCons (oTm (cBin padd (oTm (cBin pmul (oSub (oSl 0) (oTm (cC (.int 3)))) (oTm (cC (.int 48271))))) (oTm (cC (.int 69621))))) oNil))) (oTm (cC (.int 2147483629))))) <|
  sRet (cBin pmod (oTm (cCall pint (oCons (oTm (cBin pfdiv (oSub (oSl 0) (oTm (cC (.int 3)))) (oTm (cC (.int 13))))) oNil))) (oSl 1))) (sSkip)) <|
  sSeq (sIf (mVal (cBin peq (oSub (oSl 0) (oTm (cC (.int 1)))) (oTm (cC (.int 0))))) (sSeq (sAsg (gIx 0 (cC (.int 1))) (cCall pabs (oCons (oSub (oSub (oSl 0) (oTm (cC (.int 0)))) (oSub (oSl 0) (oTm (cC (.int 2))))) oNil))) <|
  sAsg (gIx 0 (cC (.int 2))) (cBin padd (oSub (oSl 0) (oTm (cC (.int 2)))) (oTm (cC (.int 1))))) (sSkip)) <|
  sSeq (sAsg (gNm 2) (cBin pmod (oTm (cCall pint (oCons (oSub (oSl 0) (oTm (cC (.int 1)))) oNil))) (oSl 1))) <|
  sSeq (sAsg (gIx 0 (cC (.int 1))) (cBin pfdiv (oSub (oSl 0) (oTm (cC (.int 1)))) (oSl 1))) <|
  sRet (cMov 2)
noncomputable def _law_drawF : Fn := fnRun 3 2 _law_drawB
noncomputable def _law_sureties_l1b : S :=
  sSeq (sAsg (gNm 4) (cSubM (cLst (oCons (oTm (cC (.int 0))) (oCons (oTm (cC (.int 1))) (oCons (oTm (cFn _law_drawF [] (oCons (oSl 0) (oCons (oTm (cC (.int 100))) oNil)))) (oCons (oTm (cFn _law_drawF [] (oCons (oSl 0) (oCons (oTm (cC (.int 1000000001))) oNil)))) oNil))))) (oTm (cSubM (cLst (oCons (oTm (cC (.int 0))) (oCons (oTm (cC (.int 1))) (oCons (oTm (cC (.int 2))) (oCons (oTm (cC (.int 2))) (oCons (oTm (cC (.int 2))) (oCons (oTm (cC (.int 3))) oNil))))))) (oTm (cFn _law_drawF [] (oCons (oSl 0) (oCons (oTm (cC (.int 6))) oNil)))))))) <|
  sSeq (sAsg (gNm 5) (cSubM (cLst (oCons (oTm (cName 4)) (oCons (oTm (cC (.int 0))) (oCons (oTm (cFn _law_drawF [] (oCons (oSl 0) (oCons (oTm (cC (.int 100))) oNil)))) (oCons (oTm (cC (.int 1000000000))) oNil))))) (oTm (cFn _law_drawF [] (oCons (oSl 0) (oCons (oTm (cC (.int 4))) oNil)))))) <|
  sExpr (cMut 2 "list" gAppend (oCons (oTm (cTup (oCons (oTm (cBin padd (oTm (cC (.str "s"))) (oTm (cSubM (cC (.str "abcdefghijkl")) (oSl 3))))) (oCons (oTm (cFn _law_drawF [] (oCons (oSl 0) (oCons (oTm (cSubM (cLst (oCons (oTm (cC (.int 1))) (oCons (oTm (cC (.int 3))) (oCons (oTm (cC (.int 13))) oNil)))) (oTm (cFn _law_drawF [] (oCons (oSl 0) (oCons (oTm (cC (.int 3))) oNil)))))) oNil)))) (oCons (oTm (cName 4)) (oCons (oTm (cName 5)) oNil)))))) oNil))
noncomputable def _law_sureties_l1 : S := sFor (iCall rng1 (oCons (oTm (cFn _law_drawF [] (oCons (oSl 0) (oCons (oTm (cBin padd (oSl 1) (oTm (cC (.int 1))))) oNil)))) oNil)) (gNm 3) _law_sureties_l1b
noncomputable def _law_suretiesB : S :=
  sSeq (sAsg (gNm 2) (cLst (oNil))) <|
  sSeq (_law_sureties_l1) <|
  sRet (cCall ptuple (oCons (oSl 2) oNil))
noncomputable def _law_suretiesF : Fn := fnRun 6 2 _law_suretiesB
noncomputable def _law_parts_c1 : M PV :=
  cComp [7] (iVal (cName 0)) (gNm 7) (mYes) (cBin pfdiv (oTm (cCall pint (oCons (oTm (cBin pmul (oSl 1) (oSl 7))) oNil))) (oTm (cCall pint (oCons (oSl 2) oNil))))
noncomputable def _law_parts_c2 : M PV :=
  cComp [6] (iCall rng1 (oCons (oTm (cCall plen (oCons (oSl 0) oNil))) oNil)) (gNm 6) (mYes) (cTup (oCons (oTm (cUn pneg (oTm (cBin pmod (oTm (cCall pint (oCons (oTm (cBin pmul (oSl 1) (oSub (oSl 0) (oSl 6)))) oNil))) (oTm (cCall pint (oCons (oSl 2) oNil))))))) (oCons (oTm (cName 6)) oNil)))
noncomputable def _law_parts_l1b : S :=
  sAsg (gIx 3 (cName 6)) (cBin padd (oSub (oSl 3) (oSl 6)) (oTm (cC (.int 1))))
noncomputable def _law_parts_l1 : S := sFor (iVal (cSl (oSl 4) (mNo) (mSome (cBin psub (oSl 1) (oTm (cCall psum (oCons (oSl 3) oNil))))))) (gTp 2 (gsCons (gNm 5) (gsCons (gNm 6) (gsNil)))) _law_parts_l1b
noncomputable def _law_partsB : S :=
  sSeq (sAsg (gNm 2) (cCall psum (oCons (oSl 0) oNil))) <|
  sSeq (sIf (mVal (cBin peq (oSl 2) (oTm (cC (.int 0))))) (sRet (cBin pmul (oTm (cLst (oCons (oTm (cC (.int 0))) oNil))) (oTm (cCall plen (oCons (oSl 0) oNil))))) (sSkip)) <|
  sSeq (sAsg (gNm 3) (_law_parts_c1)) <|
  sSeq (sAsg (gNm 4) (cCall psorted2 (oCons (oTm (_law_parts_c2)) oNil))) <|
  sSeq (_law_parts_l1) <|
  sRet (cMov 3)
noncomputable def _law_partsF : Fn := fnRun 8 2 _law_partsB
noncomputable def _law_level_c1 : M PV :=
  cComp [8] (iCall rng1 (oCons (oTm (cCall plen (oCons (oSl 0) oNil))) oNil)) (gNm 8) (mAnd (mVal (cBin peq (oSub (oSub (oSl 0) (oSl 8)) (oTm (cC (.int 1)))) (oSl 1))) (mVal (cBin pgt (oTm (cCall pmin (oCons (oSub (oSub (oSl 0) (oSl 8)) (oTm (cC (.int 2)))) (oCons (oSub (oSub (oSl 0) (oSl 8)) (oTm (cC (.int 3)))) oNil)))) (oSub (oSl 3) (oSl 8))))) (cName 8)
noncomputable def _law_level_c2 : M PV :=
  cComp [8] (iVal (cName 5)) (gNm 8) (mYes) (cSub (oSub (oSl 0) (oSl 8)) (oTm (cC (.int 2))))
noncomputable def _law_level_l1b : S :=
  sSeq (sAsg (gNm 8) (cSub (oSl 5) (oSl 7))) <|
  sSeq (sAsg (gNm 9) (cCall pmin (oCons (oSub (oSl 6) (oSl 7)) (oCons (oTm (cBin psub (oTm (cCall pmin (oCons (oSub (oSub (oSl 0) (oSl 8)) (oTm (cC (.int 2)))) (oCons (oSub (oSub (oSl 0) (oSl 8)) (oTm (cC (.int 3)))) oNil)))) (oSub (oSl 3) (oSl 8)))) oNil)))) <|
  sAsg (gTp 2 (gsCons (gIx 3 (cName 8)) (gsCons (gNm 4) (gsNil)))) (cTup (oCons (oTm (cBin padd (oSub (oSl 3) (oSl 8)) (oSl 9))) (oCons (oTm (cBin psub (oSl 4) (oSl 9))) oNil)))
noncomputable def _law_level_l1 : S := sFor (iCall rng1 (oCons (oTm (cCall plen (oCons (oSl 5) oNil))) oNil)) (gNm 7) _law_level_l1b
noncomputable def _law_level_l2t : M Bool :=
  mVal (cBin pgt (oSl 4) (oTm (cC (.int 0))))
noncomputable def _law_level_l2b : S :=
  sSeq (sAsg (gNm 5) (_law_level_c1)) <|
  sSeq (sIf (mNot (mTru (oSl 5))) (sBrk) (sSkip)) <|
  sSeq (sAsg (gNm 6) (cFn _law_partsF [] (oCons (oTm (_law_level_c2)) (oCons (oSl 4) oNil)))) <|
  _law_level_l1
noncomputable def _law_level_l2 : S := sWhile _law_level_l2t _law_level_l2b
noncomputable def _law_levelB : S :=
  sSeq (sAsg (gTp 2 (gsCons (gNm 3) (gsCons (gNm 4) (gsNil)))) (cTup (oCons (oTm (cBin pmul (oTm (cLst (oCons (oTm (cC (.int 0))) oNil))) (oTm (cCall plen (oCons (oSl 0) oNil))))) (oCons (oTm (cName 2)) oNil)))) <|
  sSeq (_law_level_l2) <|
  sRet (cTup (oCons (oTm (cName 3)) (oCons (oTm (cName 4)) oNil)))
noncomputable def _law_levelF : Fn := fnRun 10 3 _law_levelB
noncomputable def _law_shares_c1 : M PV :=
  cComp [7] (iVal (cName 0)) (gNm 7) (mYes) (cTup (oCons (oTm (cSub (oSl 7) (oTm (cC (.int 1))))) (oCons (oTm (cC (.bl true))) oNil)))
noncomputable def _law_shares_c2 : M PV :=
  cComp [6] (iCall rng1 (oCons (oTm (cCall plen (oCons (oSl 2) oNil))) oNil)) (gNm 6) (mYes) (cBin padd (oSub (oSl 2) (oSl 6)) (oSub (oSl 5) (oSl 6)))
noncomputable def _law_shares_l1b : S :=
  sSeq (sAsg (gTp 2 (gsCons (gNm 5) (gsCons (gNm 3) (gsNil)))) (cFn _law_levelF [] (oCons (oSl 0) (oCons (oSl 4) (oCons (oSl 3) oNil))))) <|
  sAsg (gNm 2) (_law_shares_c2)
noncomputable def _law_shares_l1 : S := sFor (iVal (cCall psorted2 (oCons (oTm (cCall pdict (oCons (oTm (_law_shares_c1)) oNil))) oNil))) (gNm 4) _law_shares_l1b
noncomputable def _law_sharesB : S :=
  sSeq (sAsg (gTp 2 (gsCons (gNm 2) (gsCons (gNm 3) (gsNil)))) (cTup (oCons (oTm (cBin pmul (oTm (cLst (oCons (oTm (cC (.int 0))) oNil))) (oTm (cCall plen (oCons (oSl 0) oNil))))) (oCons (oTm (cName 1)) oNil)))) <|
  sSeq (_law_shares_l1) <|
  sRet (cTup (oCons (oTm (cName 2)) (oCons (oTm (cName 3)) oNil)))
noncomputable def _law_sharesF : Fn := fnRun 8 2 _law_sharesB
noncomputable def is_name_c1 : M PV :=
  cComp [1] (iVal (cName 0)) (gNm 1) (mYes) (cBin pin (oSl 1) (oTm (cC k_LETTERS)))
noncomputable def is_nameB : S :=
  sRet (cAnd (cCall pisi (oCons (oSl 0) (oCons (oTm (cC (.ty "str"))) oNil))) (cAnd (cChain ple ple (oTm (cC (.int 1))) (oTm (cCall plen (oCons (oSl 0) oNil))) (oTm (cC (.int 10)))) (cCall pall (oCons (oTm (is_name_c1)) oNil))))
noncomputable def is_nameF : Fn := fnRun 2 1 is_nameB
noncomputable def is_integerB : S :=
  sRet (cAnd (cCall pisi (oCons (oSl 0) (oCons (oTm (cC (.ty "int"))) oNil))) (cNot (cCall pisi (oCons (oSl 0) (oCons (oTm (cC (.ty "bool"))) oNil)))))
noncomputable def is_integerF : Fn := fnRun 1 1 is_integerB
noncomputable def check_sureties_c1 : M PV :=
  cComp [2] (iVal (cSl (oSl 1) (mSome (cC (.int 1))) (mNo))) (gNm 2) (mYes) (cFn is_integerF [] (oCons (oSl 2) oNil))
noncomputable def check_sureties_l1b : S :=
  sSeq (sIf (mOr (mNot (mVal (cCall pisi (oCons (oSl 1) (oCons (oTm (cC (.ty "tuple"))) oNil))))) (mOr (mVal (cBin pne (oTm (cCall plen (oCons (oSl 1) oNil))) (oTm (cC (.int 4))))) (mNot (mVal (cFn is_nameF [] (oCons (oSub (oSl 1) (oTm (cC (.int 0)))) oNil)))))) (sNever) (sSkip)) <|
  sSeq (sIf (mOr (mNot (mVal (cCall pall (oCons (oTm (check_sureties_c1)) oNil)))) (mNot (mVal (cChain ple ple (oTm (cC (.int 0))) (oSub (oSl 1) (oTm (cC (.int 1)))) (oTm (cC k_MAX_PARTIES)))))) (sNever) (sSkip)) <|
  sIf (mOr (mNot (mVal (cChain ple ple (oTm (cC (.int 0))) (oSub (oSl 1) (oTm (cC (.int 2)))) (oTm (cC k_MAX_SUM))))) (mNot (mVal (cChain ple ple (oTm (cC (.int 0))) (oSub (oSl 1) (oTm (cC (.int 3)))) (oTm (cC k_MAX_SUM)))))) (sNever) (sSkip)
noncomputable def check_sureties_l1 : S := sFor (iVal (cName 0)) (gNm 1) check_sureties_l1b
noncomputable def check_sureties_c2 : M PV :=
  cDComp [1] (iVal (cName 0)) (gNm 1) (mYes) (cSub (oSl 1) (oTm (cC (.int 0)))) (cC (.bl true))
noncomputable def check_suretiesB : S :=
  sSeq (sIf (mOr (mNot (mVal (cCall pisi (oCons (oSl 0) (oCons (oTm (cC (.ty "tuple"))) oNil))))) (mVal (cBin pgt (oTm (cCall plen (oCons (oSl 0) oNil))) (oTm (cC k_MAX_PARTIES))))) (sNever) (sSkip)) <|
  sSeq (check_sureties_l1) <|
  sIf (mVal (cBin pne (oTm (cCall plen (oCons (oTm (check_sureties_c2)) oNil))) (oTm (cCall plen (oCons (oSl 0) oNil))))) (sNever) (sSkip)
noncomputable def check_suretiesF : Fn := fnRun 3 1 check_suretiesB
noncomputable def check_claimB : S :=
  sIf (mOr (mNot (mVal (cFn is_integerF [] (oCons (oSl 0) oNil)))) (mNot (mVal (cChain ple ple (oTm (cC (.int 0))) (oSl 0) (oTm (cC k_MAX_SUM)))))) (sNever) (sSkip)
noncomputable def check_claimF : Fn := fnRun 1 1 check_claimB
noncomputable def room_ofB : S :=
  sRet (cCall pmin (oCons (oSub (oSl 0) (oTm (cC (.int 2)))) (oCons (oSub (oSl 0) (oTm (cC (.int 3)))) oNil)))
noncomputable def room_ofF : Fn := fnRun 1 1 room_ofB
noncomputable def accept_shares_c1 : M PV :=
  cComp [4] (iVal (cName 2)) (gNm 4) (mYes) (cFn is_integerF [] (oCons (oSl 4) oNil))
noncomputable def accept_shares_c2 : M PV :=
  cComp [4, 3] (iTm pzip (oCons (oTm (cName 2)) (oCons (oTm (cName 0)) oNil))) (gTp 2 (gsCons (gNm 4) (gsCons (gNm 3) (gsNil)))) (mYes) (cChain ple ple (oTm (cC (.int 0))) (oSl 4) (oTm (cFn room_ofF [] (oCons (oSl 3) oNil))))
noncomputable def accept_shares_c3 : M PV :=
  cComp [5, 6] (iTm penum (oCons (oTm (cName 0)) oNil)) (gTp 2 (gsCons (gNm 5) (gsCons (gNm 6) (gsNil)))) (mVal (cBin plt (oSub (oSl 6) (oTm (cC (.int 1)))) (oSub (oSl 3) (oTm (cC (.int 1)))))) (cBin plt (oTm (cSub (oSl 2) (oSl 5))) (oTm (cFn room_ofF [] (oCons (oSl 6) oNil))))
noncomputable def accept_shares_l1b : S :=
  sIf (mAnd (mVal (cBin pgt (oSl 4) (oTm (cC (.int 0))))) (mVal (cCall pany (oCons (oTm (accept_shares_c3)) oNil)))) (sNever) (sSkip)
noncomputable def accept_shares_l1 : S := sFor (iTm pzip (oCons (oTm (cName 0)) (oCons (oTm (cName 2)) oNil))) (gTp 2 (gsCons (gNm 3) (gsCons (gNm 4) (gsNil)))) accept_shares_l1b
noncomputable def accept_shares_c4 : M PV :=
  cComp [4, 3] (iTm pzip (oCons (oTm (cName 2)) (oCons (oTm (cName 0)) oNil))) (gTp 2 (gsCons (gNm 4) (gsCons (gNm 3) (gsNil)))) (mYes) (cBin plt (oSl 4) (oTm (cFn room_ofF [] (oCons (oSl 3) oNil))))
noncomputable def accept_sharesB : S :=
  sSeq (sExpr (cFn check_suretiesF [] (oCons (oSl 0) oNil))) <|
  sSeq (sExpr (cFn check_claimF [] (oCons (oSl 1) oNil))) <|
  sSeq (sIf (mOr (mNot (mVal (cCall pisi (oCons (oSl 2) (oCons (oTm (cC (.ty "tuple"))) oNil))))) (mOr (mVal (cBin pne (oTm (cCall plen (oCons (oSl 2) oNil))) (oTm (cCall plen (oCons (oSl 0) oNil))))) (mNot (mVal (cCall pall (oCons (oTm (accept_shares_c1)) oNil)))))) (sNever) (sSkip)) <|
  sSeq (sIf (mNot (mVal (cCall pall (oCons (oTm (accept_shares_c2)) oNil)))) (sNever) (sSkip)) <|
  sSeq (sIf (mVal (cBin pgt (oTm (cCall psum (oCons (oSl 2) oNil))) (oSl 1))) (sNever) (sSkip)) <|
  sSeq (accept_shares_l1) <|
  sIf (mAnd (mVal (cBin plt (oTm (cCall psum (oCons (oSl 2) oNil))) (oSl 1))) (mVal (cCall pany (oCons (oTm (accept_shares_c4)) oNil)))) (sNever) (sSkip)
noncomputable def accept_sharesF : Fn := fnRun 7 3 accept_sharesB
noncomputable def _law_same_asB : S :=
  sRet (cAnd (cBin peq (oSl 0) (oSl 1)) (cBin peq (oTm (cCall prepr (oCons (oSl 0) oNil))) (oTm (cCall prepr (oCons (oSl 1) oNil)))))
noncomputable def _law_same_asF : Fn := fnRun 2 2 _law_same_asB
noncomputable def parts_by_c1 : M PV :=
  cComp [7] (iVal (cName 0)) (gNm 7) (mYes) (cBin pfdiv (oTm (cBin pmul (oSl 1) (oSl 7))) (oSl 2))
noncomputable def parts_by_c2 : M PV :=
  cComp [6, 7] (iTm penum (oCons (oTm (cName 0)) oNil)) (gTp 2 (gsCons (gNm 6) (gsCons (gNm 7) (gsNil)))) (mYes) (cTup (oCons (oTm (cUn pneg (oTm (cBin pmod (oTm (cBin pmul (oSl 1) (oSl 7))) (oSl 2))))) (oCons (oTm (cName 6)) oNil)))
noncomputable def parts_by_l1b : S :=
  sAugP 3 (fun _ => some []) (cNameR 6) piadd (cC (.int 1))
noncomputable def parts_by_l1 : S := sFor (iVal (cSl (oSl 4) (mNo) (mSome (cBin psub (oSl 1) (oTm (cCall psum (oCons (oSl 3) oNil))))))) (gTp 2 (gsCons (gNm 5) (gsCons (gNm 6) (gsNil)))) parts_by_l1b
noncomputable def parts_byB : S :=
  sSeq (sAsg (gNm 2) (cCall psum (oCons (oSl 0) oNil))) <|
  sSeq (sIf (mVal (cBin peq (oSl 2) (oTm (cC (.int 0))))) (sRet (cBin pmul (oTm (cLst (oCons (oTm (cC (.int 0))) oNil))) (oTm (cCall plen (oCons (oSl 0) oNil))))) (sSkip)) <|
  sSeq (sAsg (gNm 3) (parts_by_c1)) <|
  sSeq (sAsg (gNm 4) (cCall psorted2 (oCons (oTm (parts_by_c2)) oNil))) <|
  sSeq (parts_by_l1) <|
  sRet (cMov 3)
noncomputable def parts_byF : Fn := fnRun 8 2 parts_byB
noncomputable def parts_c1 : M PV :=
  cComp [2] (iVal (cName 0)) (gNm 2) (mYes) (cAnd (cFn is_integerF [] (oCons (oSl 2) oNil)) (cChain ple ple (oTm (cC (.int 0))) (oSl 2) (oTm (cC k_MAX_SUM))))
noncomputable def partsB : S :=
  sSeq (sIf (mOr (mNot (mVal (cCall pisi (oCons (oSl 0) (oCons (oTm (cC (.ty "tuple"))) oNil))))) (mVal (cBin pgt (oTm (cCall plen (oCons (oSl 0) oNil))) (oTm (cC k_MAX_PARTIES))))) (sNever) (sSkip)) <|
  sSeq (sIf (mNot (mVal (cCall pall (oCons (oTm (parts_c1)) oNil)))) (sNever) (sSkip)) <|
  sSeq (sIf (mOr (mNot (mVal (cFn is_integerF [] (oCons (oSl 1) oNil)))) (mNot (mVal (cChain ple ple (oTm (cC (.int 0))) (oSl 1) (oTm (cC k_MAX_SUM)))))) (sNever) (sSkip)) <|
  sRet (cCall ptuple (oCons (oTm (cFn parts_byF [] (oCons (oSl 0) (oCons (oSl 1) oNil)))) oNil))
noncomputable def partsF : Fn := fnRun 3 2 partsB
noncomputable def accept_parts_c1 : M PV :=
  cComp [5] (iVal (cName 2)) (gNm 5) (mYes) (cFn is_integerF [] (oCons (oSl 5) oNil))
noncomputable def accept_parts_l1b : S :=
  sIf (mNot (mVal (cChain ple ple (oTm (cC (.int 0))) (oTm (cBin psub (oSl 5) (oTm (cBin pfdiv (oTm (cBin pmul (oSl 1) (oSl 6))) (oSl 4))))) (oTm (cIf (mTru (oTm (cBin pmod (oTm (cBin pmul (oSl 1) (oSl 6))) (oSl 4)))) (cC (.int 1)) (cC (.int 0))))))) (sNever) (sSkip)
noncomputable def accept_parts_l1 : S := sFor (iTm pzip (oCons (oTm (cName 2)) (oCons (oTm (cName 0)) oNil))) (gTp 2 (gsCons (gNm 5) (gsCons (gNm 6) (gsNil)))) accept_parts_l1b
noncomputable def accept_partsB : S :=
  sSeq (sAsg (gNm 3) (cFn partsF [] (oCons (oSl 0) (oCons (oSl 1) oNil)))) <|
  sSeq (sIf (mOr (mNot (mVal (cCall pisi (oCons (oSl 2) (oCons (oTm (cC (.ty "tuple"))) oNil))))) (mOr (mVal (cBin pne (oTm (cCall plen (oCons (oSl 2) oNil))) (oTm (cCall plen (oCons (oSl 0) oNil))))) (mNot (mVal (cCall pall (oCons (oTm (accept_parts_c1)) oNil)))))) (sNever) (sSkip)) <|
  sSeq (sAsg (gNm 4) (cCall psum (oCons (oSl 0) oNil))) <|
  sSeq (sIf (mVal (cBin pne (oTm (cCall psum (oCons (oSl 2) oNil))) (oTm (cCall psum (oCons (oSl 3) oNil))))) (sNever) (sSkip)) <|
  sIf (mVal (cBin pgt (oSl 4) (oTm (cC (.int 0))))) (accept_parts_l1) (sSkip)
noncomputable def accept_partsF : Fn := fnRun 7 3 accept_partsB
noncomputable def levels_of_c1 : M PV :=
  cDComp [1] (iVal (cName 0)) (gNm 1) (mYes) (cSub (oSl 1) (oTm (cC (.int 1)))) (cC (.bl true))
noncomputable def levels_ofB : S :=
  sRet (cCall psorted2 (oCons (oTm (levels_of_c1)) oNil))
noncomputable def levels_ofF : Fn := fnRun 2 1 levels_ofB
noncomputable def shares_in_c1 : M PV :=
  cComp [6, 9] (iTm penum (oCons (oTm (cName 0)) oNil)) (gTp 2 (gsCons (gNm 6) (gsCons (gNm 9) (gsNil)))) (mVal (cBin plt (oTm (cSub (oSl 2) (oSl 6))) (oTm (cFn room_ofF [] (oCons (oSl 9) oNil))))) (cName 6)
noncomputable def shares_in_c2 : M PV :=
  cComp [6] (iVal (cName 4)) (gNm 6) (mYes) (cSub (oSub (oSl 0) (oSl 6)) (oTm (cC (.int 2))))
noncomputable def shares_in_l1b : S :=
  sSeq (sAsg (gNm 8) (cCall pmin (oCons (oSl 7) (oCons (oTm (cBin psub (oTm (cFn room_ofF [] (oCons (oSub (oSl 0) (oSl 6)) oNil))) (oSub (oSl 2) (oSl 6)))) oNil)))) <|
  sSeq (sAugP 2 (fun _ => some []) (cNameR 6) piadd (cNameR 8)) <|
  sAug 3 pisub (cName 8)
noncomputable def shares_in_l1 : S := sFor (iTm pzip (oCons (oTm (cName 4)) (oCons (oTm (cName 5)) oNil))) (gTp 2 (gsCons (gNm 6) (gsCons (gNm 7) (gsNil)))) shares_in_l1b
noncomputable def shares_in_l2t : M Bool :=
  mVal (cBin pgt (oSl 3) (oTm (cC (.int 0))))
noncomputable def shares_in_l2b : S :=
  sSeq (sAsg (gNm 4) (shares_in_c1)) <|
  sSeq (sIf (mNot (mTru (oSl 4))) (sBrk) (sSkip)) <|
  sSeq (sAsg (gNm 5) (cFn parts_byF [] (oCons (oTm (shares_in_c2)) (oCons (oSl 3) oNil)))) <|
  shares_in_l1
noncomputable def shares_in_l2 : S := sWhile shares_in_l2t shares_in_l2b
noncomputable def shares_inB : S :=
  sSeq (sAsg (gNm 2) (cBin pmul (oTm (cLst (oCons (oTm (cC (.int 0))) oNil))) (oTm (cCall plen (oCons (oSl 0) oNil))))) <|
  sSeq (sAsg (gNm 3) (cName 1)) <|
  sSeq (shares_in_l2) <|
  sRet (cMov 2)
noncomputable def shares_inF : Fn := fnRun 10 2 shares_inB
noncomputable def shares_of_c1 : M PV :=
  cComp [7] (iVal (cName 0)) (gNm 7) (mVal (cBin peq (oSub (oSl 7) (oTm (cC (.int 1)))) (oSl 4))) (cName 7)
noncomputable def shares_of_c2 : M PV :=
  cDComp [7, 8] (iTm pzip (oCons (oTm (cName 5)) (oCons (oTm (cName 6)) oNil))) (gTp 2 (gsCons (gNm 7) (gsCons (gNm 8) (gsNil)))) (mYes) (cSub (oSl 7) (oTm (cC (.int 0)))) (cName 8)
noncomputable def shares_of_l1b : S :=
  sSeq (sAsg (gNm 5) (shares_of_c1)) <|
  sSeq (sAsg (gNm 6) (cFn shares_inF [] (oCons (oSl 5) (oCons (oSl 3) oNil)))) <|
  sSeq (sExpr (cMut 2 "dict" gUpdate (oCons (oTm (shares_of_c2)) oNil))) <|
  sAug 3 pisub (cCall psum (oCons (oSl 6) oNil))
noncomputable def shares_of_l1 : S := sFor (iVal (cFn levels_ofF [] (oCons (oSl 0) oNil))) (gNm 4) shares_of_l1b
noncomputable def shares_ofB : S :=
  sSeq (sAsg (gNm 2) (cD0)) <|
  sSeq (sAsg (gNm 3) (cName 1)) <|
  sSeq (shares_of_l1) <|
  sRet (cMov 2)
noncomputable def shares_ofF : Fn := fnRun 9 2 shares_ofB
noncomputable def least_level_c1 : M PV :=
  cComp [4] (iVal (cName 0)) (gNm 4) (mVal (cBin pgt (oSub (oSl 2) (oSub (oSl 4) (oTm (cC (.int 0))))) (oTm (cC (.int 0))))) (cSub (oSl 4) (oTm (cC (.int 1))))
noncomputable def least_levelB : S :=
  sSeq (sExpr (cFn check_suretiesF [] (oCons (oSl 0) oNil))) <|
  sSeq (sExpr (cFn check_claimF [] (oCons (oSl 1) oNil))) <|
  sSeq (sAsg (gNm 2) (cFn shares_ofF [] (oCons (oSl 0) (oCons (oSl 1) oNil)))) <|
  sSeq (sAsg (gNm 3) (least_level_c1)) <|
  sRet (cIf (mTru (oSl 3)) (cCall pmax (oCons (oSl 3) oNil)) (cC .non))
noncomputable def least_levelF : Fn := fnRun 5 2 least_levelB
noncomputable def greatest_share_c1 : M PV :=
  cComp [4] (iVal (cName 0)) (gNm 4) (mVal (cBin peq (oSub (oSl 2) (oSub (oSl 4) (oTm (cC (.int 0))))) (oSl 3))) (cSub (oSl 4) (oTm (cC (.int 0))))
noncomputable def greatest_shareB : S :=
  sSeq (sExpr (cFn check_suretiesF [] (oCons (oSl 0) oNil))) <|
  sSeq (sExpr (cFn check_claimF [] (oCons (oSl 1) oNil))) <|
  sSeq (sAsg (gNm 2) (cFn shares_ofF [] (oCons (oSl 0) (oCons (oSl 1) oNil)))) <|
  sSeq (sIf (mNot (mTru (oSl 0))) (sRet (cC .non)) (sSkip)) <|
  sSeq (sAsg (gNm 3) (cUn pmaxV (oSl 2))) <|
  sRet (cTup (oCons (oTm (cSubM (greatest_share_c1) (oTm (cC (.int 0))))) (oCons (oTm (cName 3)) oNil)))
noncomputable def greatest_shareF : Fn := fnRun 5 2 greatest_shareB
noncomputable def shares_c1 : M PV :=
  cComp [3] (iVal (cName 0)) (gNm 3) (mYes) (cSub (oSl 2) (oSub (oSl 3) (oTm (cC (.int 0)))))
noncomputable def sharesB : S :=
  sSeq (sExpr (cFn check_suretiesF [] (oCons (oSl 0) oNil))) <|
  sSeq (sExpr (cFn check_claimF [] (oCons (oSl 1) oNil))) <|
  sSeq (sAsg (gNm 2) (cFn shares_ofF [] (oCons (oSl 0) (oCons (oSl 1) oNil)))) <|
  sRet (cCall ptuple (oCons (oTm (shares_c1)) oNil))
noncomputable def sharesF : Fn := fnRun 4 2 sharesB
noncomputable def even_shares_c1 : M PV :=
  cComp [6] (iVal (cName 0)) (gNm 6) (mYes) (cSub (oSl 6) (oTm (cC (.int 0))))
noncomputable def even_shares_c2 : M PV :=
  cComp [6] (iVal (cName 0)) (gNm 6) (mVal (cBin peq (oSub (oSl 6) (oTm (cC (.int 0)))) (oSl 2))) (cSub (oSl 6) (oTm (cC (.int 1))))
noncomputable def even_shares_c3 : M PV :=
  cComp [6] (iVal (cName 0)) (gNm 6) (mVal (cBin peq (oSub (oSl 6) (oTm (cC (.int 1)))) (oSl 3))) (cName 6)
noncomputable def even_shares_c4 : M PV :=
  cComp [6, 7] (iTm pzip (oCons (oTm (cName 4)) (oCons (oTm (cName 5)) oNil))) (gTp 2 (gsCons (gNm 6) (gsCons (gNm 7) (gsNil)))) (mVal (cBin pne (oSub (oSl 6) (oTm (cC (.int 0)))) (oSl 2))) (cTup (oCons (oTm (cSub (oSl 6) (oTm (cC (.int 0))))) (oCons (oTm (cName 7)) oNil)))
noncomputable def even_sharesB : S :=
  sSeq (sExpr (cFn check_suretiesF [] (oCons (oSl 0) oNil))) <|
  sSeq (sExpr (cFn check_claimF [] (oCons (oSl 1) oNil))) <|
  sSeq (sIf (mOr (mNot (mVal (cCall pisi (oCons (oSl 2) (oCons (oTm (cC (.ty "str"))) oNil))))) (mVal (cBin pnin (oSl 2) (oTm (even_shares_c1))))) (sNever) (sSkip)) <|
  sSeq (sAsg (gNm 3) (cSubM (even_shares_c2) (oTm (cC (.int 0))))) <|
  sSeq (sAsg (gNm 4) (even_shares_c3)) <|
  sSeq (sAsg (gNm 5) (cFn shares_inF [] (oCons (oSl 4) (oCons (oSl 1) oNil)))) <|
  sRet (cCall ptuple (oCons (oTm (even_shares_c4)) oNil))
noncomputable def even_sharesF : Fn := fnRun 8 3 even_sharesB
noncomputable def unpaidB : S :=
  sSeq (sExpr (cFn check_suretiesF [] (oCons (oSl 0) oNil))) <|
  sSeq (sExpr (cFn check_claimF [] (oCons (oSl 1) oNil))) <|
  sRet (cBin psub (oSl 1) (oTm (cUn psumV (oTm (cFn shares_ofF [] (oCons (oSl 0) (oCons (oSl 1) oNil)))))))
noncomputable def unpaidF : Fn := fnRun 2 2 unpaidB
noncomputable def most_c1 : M PV :=
  cComp [1] (iVal (cName 0)) (gNm 1) (mYes) (cFn room_ofF [] (oCons (oSl 1) oNil))
noncomputable def mostB : S :=
  sSeq (sExpr (cFn check_suretiesF [] (oCons (oSl 0) oNil))) <|
  sRet (cCall psum (oCons (oTm (most_c1)) oNil))
noncomputable def mostF : Fn := fnRun 2 1 mostB
noncomputable def law_c1 : M PV :=
  cComp [16] (iCall rng1 (oCons (oTm (cFn _law_drawF [] (oCons (oSl 1) (oCons (oTm (cC (.int 13))) oNil)))) oNil)) (gNm 16) (mYes) (cSubM (cLst (oCons (oTm (cC (.int 0))) (oCons (oTm (cC (.int 1))) (oCons (oTm (cFn _law_drawF [] (oCons (oSl 1) (oCons (oTm (cC (.int 20))) oNil)))) (oCons (oTm (cFn _law_drawF [] (oCons (oSl 1) (oCons (oTm (cC (.int 1000000001))) oNil)))) oNil))))) (oTm (cFn _law_drawF [] (oCons (oSl 1) (oCons (oTm (cC (.int 4))) oNil)))))
noncomputable def law_c2 : M PV :=
  cComp [17] (iVal (cName 6)) (gNm 17) (mYes) (cCall pmin (oCons (oSub (oSl 17) (oTm (cC (.int 2)))) (oCons (oSub (oSl 17) (oTm (cC (.int 3)))) oNil)))
noncomputable def law_c3 : M PV :=
  cComp [16] (iCall rng1 (oCons (oTm (cCall plen (oCons (oSl 6) oNil))) oNil)) (gNm 16) (mVal (cBin pgt (oSub (oSl 9) (oSl 16)) (oTm (cC (.int 0))))) (cSub (oSub (oSl 6) (oSl 16)) (oTm (cC (.int 1))))
noncomputable def law_c4 : M PV :=
  cComp [16] (iCall rng1 (oCons (oTm (cCall plen (oCons (oSl 6) oNil))) oNil)) (gNm 16) (mAnd (mVal (cBin peq (oSub (oSub (oSl 6) (oSl 16)) (oTm (cC (.int 1)))) (oSub (oSl 13) (oTm (cC (.int 1)))))) (mVal (cBin pne (oSub (oSub (oSl 6) (oSl 16)) (oTm (cC (.int 0)))) (oSub (oSl 13) (oTm (cC (.int 0))))))) (cTup (oCons (oTm (cSub (oSub (oSl 6) (oSl 16)) (oTm (cC (.int 0))))) (oCons (oTm (cSub (oSl 14) (oSl 16))) oNil)))
noncomputable def law_l1b : S :=
  sSeq (sAsg (gNm 3) (cCall ptuple (oCons (oTm (law_c1)) oNil))) <|
  sSeq (sAsg (gNm 4) (cSubM (cLst (oCons (oTm (cC (.int 0))) (oCons (oTm (cC (.int 1))) (oCons (oTm (cFn _law_drawF [] (oCons (oSl 1) (oCons (oTm (cC (.int 50))) oNil)))) (oCons (oTm (cFn _law_drawF [] (oCons (oSl 1) (oCons (oTm (cC (.int 1000000001))) oNil)))) oNil))))) (oTm (cFn _law_drawF [] (oCons (oSl 1) (oCons (oTm (cC (.int 4))) oNil)))))) <|
  sSeq (sAsg (gNm 5) (cCall ptuple (oCons (oTm (cFn _law_partsF [] (oCons (oSl 3) (oCons (oSl 4) oNil)))) oNil))) <|
  sSeq (sIf (mOr (mNot (mVal (cFn _law_same_asF [] (oCons (oTm (cFn partsF [] (oCons (oSl 3) (oCons (oSl 4) oNil)))) (oCons (oSl 5) oNil))))) (mVal (cBin pnotN (oTm (cFn accept_partsF [] (oCons (oSl 3) (oCons (oSl 4) (oCons (oSl 5) oNil))))) (oTm (cC .non))))) (sRet (cC (.bl false))) (sSkip)) <|
  sSeq (sAsg (gNm 6) (cFn _law_suretiesF [] (oCons (oSl 1) (oCons (oTm (cSubM (cLst (oCons (oTm (cC (.int 3))) (oCons (oTm (cC (.int 12))) oNil))) (oTm (cFn _law_drawF [] (oCons (oSl 1) (oCons (oTm (cC (.int 2))) oNil)))))) oNil)))) <|
  sSeq (sAsg (gNm 7) (cCall psum (oCons (oTm (law_c2)) oNil))) <|
  sSeq (sAsg (gNm 8) (cCall pmin (oCons (oTm (cC (.int 1000000000))) (oCons (oTm (cSubM (cLst (oCons (oTm (cC (.int 0))) (oCons (oTm (cC (.int 1))) (oCons (oTm (cName 7)) (oCons (oTm (cCall pmax (oCons (oTm (cC (.int 0))) (oCons (oTm (cBin psub (oSl 7) (oTm (cC (.int 1))))) oNil)))) (oCons (oTm (cBin padd (oSl 7) (oTm (cC (.int 1))))) (oCons (oTm (cFn _law_drawF [] (oCons (oSl 1) (oCons (oTm (cC (.int 300))) oNil)))) oNil))))))) (oTm (cFn _law_drawF [] (oCons (oSl 1) (oCons (oTm (cC (.int 6))) oNil)))))) oNil)))) <|
  sSeq (sAsg (gTp 2 (gsCons (gNm 9) (gsCons (gNm 10) (gsNil)))) (cFn _law_sharesF [] (oCons (oSl 6) (oCons (oSl 8) oNil)))) <|
  sSeq (sIf (mOr (mNot (mVal (cFn _law_same_asF [] (oCons (oTm (cFn sharesF [] (oCons (oSl 6) (oCons (oSl 8) oNil)))) (oCons (oTm (cCall ptuple (oCons (oSl 9) oNil))) oNil))))) (mNot (mVal (cFn _law_same_asF [] (oCons (oTm (cLst (oCons (oTm (cFn unpaidF [] (oCons (oSl 6) (oCons (oSl 8) oNil)))) (oCons (oTm (cFn mostF [] (oCons (oSl 6) oNil))) oNil)))) (oCons (oTm (cLst (oCons (oTm (cName 10)) (oCons (oTm (cName 7)) oNil)))) oNil)))))) (sRet (cC (.bl false))) (sSkip)) <|
  sSeq (sIf (mVal (cBin pnotN (oTm (cFn accept_sharesF [] (oCons (oSl 6) (oCons (oSl 8) (oCons (oTm (cCall ptuple (oCons (oSl 9) oNil))) oNil))))) (oTm (cC .non)))) (sRet (cC (.bl false))) (sSkip)) <|
  sSeq (sAsg (gNm 11) (law_c3)) <|
  sSeq (sIf (mNot (mVal (cFn _law_same_asF [] (oCons (oTm (cFn least_levelF [] (oCons (oSl 6) (oCons (oSl 8) oNil)))) (oCons (oTm (cIf (mTru (oSl 11)) (cCall pmax (oCons (oSl 11) oNil)) (cC .non))) oNil))))) (sRet (cC (.bl false))) (sSkip)) <|
  sSeq (sAsg (gNm 12) (cIf (mTru (oSl 9)) (cIdx (oSl 9) (oTm (cCall pmax (oCons (oSl 9) oNil)))) (cC .non))) <|
  sSeq (sIf (mNot (mVal (cFn _law_same_asF [] (oCons (oTm (cFn greatest_shareF [] (oCons (oSl 6) (oCons (oSl 8) oNil)))) (oCons (oTm (cIf (mVal (cBin pisN (oSl 12) (oTm (cC .non)))) (cC .non) (cTup (oCons (oTm (cSub (oSub (oSl 6) (oSl 12)) (oTm (cC (.int 0))))) (oCons (oTm (cSub (oSl 9) (oSl 12))) oNil))))) oNil))))) (sRet (cC (.bl false))) (sSkip)) <|
  sIf (mTru (oSl 6)) (sSeq (sAsg (gNm 13) (cSub (oSl 6) (oTm (cFn _law_drawF [] (oCons (oSl 1) (oCons (oTm (cCall plen (oCons (oSl 6) oNil))) oNil)))))) <|
  sSeq (sAsg (gNm 14) (cSubM (cFn _law_levelF [] (oCons (oSl 6) (oCons (oTm (cSub (oSl 13) (oTm (cC (.int 1))))) (oCons (oSl 8) oNil)))) (oTm (cC (.int 0))))) <|
  sSeq (sAsg (gNm 15) (cCall ptuple (oCons (oTm (law_c4)) oNil))) <|
  sIf (mNot (mVal (cFn _law_same_asF [] (oCons (oTm (cFn even_sharesF [] (oCons (oSl 6) (oCons (oSl 8) (oCons (oSub (oSl 13) (oTm (cC (.int 0)))) oNil))))) (oCons (oSl 15) oNil))))) (sRet (cC (.bl false))) (sSkip)) (sSkip)
noncomputable def law_l1 : S := sFor (iCall rng1 (oCons (oTm (cC (.int 4))) oNil)) (gNm 2) law_l1b
noncomputable def lawB : S :=
  sSeq (sAsg (gNm 1) (cFn _law_startF [] (oCons (oSl 0) oNil))) <|
  sSeq (law_l1) <|
  sRet (cC (.bl true))
noncomputable def lawF : Fn := fnRun 18 1 lawB
/-- what the module's names hold -/
structure Tab (K : PySem.W.Frag) (mg : Str → Option Value) (ad : Nat → Addr) (fd : Nat → FuncData) : Prop where
  f__law_start : Fk K mg "_law_start" s__law_start ["script"] (ad 0) (fd 0)
  f__law_draw : Fk K mg "_law_draw" s__law_draw ["state", "many"] (ad 1) (fd 1)
  f__law_sureties : Fk K mg "_law_sureties" s__law_sureties ["state", "many"] (ad 2) (fd 2)
  f__law_parts : Fk K mg "_law_parts" s__law_parts ["weights", "amount"] (ad 3) (fd 3)
  f__law_level : Fk K mg "_law_level" s__law_level ["sureties", "level", "claim"] (ad 4) (fd 4)
  f__law_shares : Fk K mg "_law_shares" s__law_shares ["sureties", "claim"] (ad 5) (fd 5)
  f_is_name : Fk K mg "is_name" s_is_name ["value"] (ad 6) (fd 6)
  f_is_integer : Fk K mg "is_integer" s_is_integer ["value"] (ad 7) (fd 7)
  f_check_sureties : Fk K mg "check_sureties" s_check_sureties ["sureties"] (ad 8) (fd 8)
  f_check_claim : Fk K mg "check_claim" s_check_claim ["claim"] (ad 9) (fd 9)
  f_room_of : Fk K mg "room_of" s_room_of ["row"] (ad 10) (fd 10)
  f_accept_shares : Fk K mg "accept_shares" s_accept_shares ["sureties", "claim", "rows"] (ad 11) (fd 11)
  f__law_same_as : Fk K mg "_law_same_as" s__law_same_as ["first", "second"] (ad 12) (fd 12)
  f_parts_by : Fk K mg "parts_by" s_parts_by ["weights", "amount"] (ad 13) (fd 13)
  f_parts : Fk K mg "parts" s_parts ["weights", "amount"] (ad 14) (fd 14)
  f_accept_parts : Fk K mg "accept_parts" s_accept_parts ["weights", "amount", "rows"] (ad 15) (fd 15)
  f_levels_of : Fk K mg "levels_of" s_levels_of ["sureties"] (ad 16) (fd 16)
  f_shares_in : Fk K mg "shares_in" s_shares_in ["rows", "amount"] (ad 17) (fd 17)
  f_shares_of : Fk K mg "shares_of" s_shares_of ["sureties", "claim"] (ad 18) (fd 18)
  f_least_level : Fk K mg "least_level" s_least_level ["sureties", "claim"] (ad 19) (fd 19)
  f_greatest_share : Fk K mg "greatest_share" s_greatest_share ["sureties", "claim"] (ad 20) (fd 20)
  f_shares : Fk K mg "shares" s_shares ["sureties", "claim"] (ad 21) (fd 21)
  f_even_shares : Fk K mg "even_shares" s_even_shares ["sureties", "claim", "payer"] (ad 22) (fd 22)
  f_unpaid : Fk K mg "unpaid" s_unpaid ["sureties", "claim"] (ad 23) (fd 23)
  f_most : Fk K mg "most" s_most ["sureties"] (ad 24) (fd 24)
  f_law : Fk K mg "law" s_law ["script"] (ad 25) (fd 25)
  c_LETTERS : Ck K mg "LETTERS" k_LETTERS
  c_MAX_PARTIES : Ck K mg "MAX_PARTIES" k_MAX_PARTIES
  c_MAX_SUM : Ck K mg "MAX_SUM" k_MAX_SUM
  n_int : mg "int" = none
  n_list : mg "list" = none
  n_len : mg "len" = none
  n_abs : mg "abs" = none
  n_range : mg "range" = none
  n_tuple : mg "tuple" = none
  n_sum : mg "sum" = none
  n_sorted : mg "sorted" = none
  n_min : mg "min" = none
  n_dict : mg "dict" = none
  n_isinstance : mg "isinstance" = none
  n_str : mg "str" = none
  n_all : mg "all" = none
  n_bool : mg "bool" = none
  n_zip : mg "zip" = none
  n_any : mg "any" = none
  n_enumerate : mg "enumerate" = none
  n_repr : mg "repr" = none
  n_max : mg "max" = none
variable {Pr : Program} {w : World} {base : Heap} {K : PySem.W.Frag} {mg : Str → Option Value} {ad : Nat → Addr} {fd : Nat → FuncData}
theorem ok__law_start (T : Tab K mg ad fd) : GOk Pr w K mg base CX0 1 (ad 0) (fd 0) ["script"] (spG K mg 1 _law_startF) :=
  fn_ok (k := 0) (N := ["script", "seed", "cell"]) (ps := ["script"]) (b := _law_startB) T.f__law_start.f sc__law_start (by decide) fun cdv A outer s H E P hr hgd =>
    have hu1 := room_u hr 1 (by decide); have hu64 := room_u hr 64 (by decide); have hu65 := room_u hr 65 (by decide); have hu66 := room_u hr 66 (by decide)
    gs_cons (g_set (i := 1) sc__law_start.nd rfl (.inl rfl) (ge_int)) <|
    gs_cons (g_for PassesOwn.never rfl (gi_list rfl (ge_name (pv 0))) (gg_name sc__law_start.nd rfl (by first | exact .inl rfl | exact .inr rfl)) (gs_one (g_set (i := 1) sc__law_start.nd rfl (.inl rfl) (ge_bin (or_add rfl) (go_tm (ge_bin (or_mod) (go_tm (ge_callTy (cr_int) T.n_int bb_int (by rfl) (ga_one (go_tm (ge_bin (or_add rfl) (go_tm (ge_bin (or_mul rfl) (go_sl (pv 1)) (go_tm (ge_int)))) (go_sl (pv 2))))))) (go_tm (ge_int)))) (go_tm (ge_int)))))) <|
    gs_one (g_ret (ge_lst (ga_cons (go_tm (ge_callTy (cr_list rfl) T.n_list bb_list (by rfl) (ga_one (go_sl (pv 0))))) (ga_cons (go_tm (ge_int)) (ga_cons (go_tm (ge_int)) (ga_one (go_tm (ge_name (pv 1)))))))))
theorem ok__law_draw (T : Tab K mg ad fd) : GOk Pr w K mg base CX0 1 (ad 1) (fd 1) ["state", "many"] (spG K mg 2 _law_drawF) :=
  fn_ok (k := 0) (N := ["state", "many", "value"]) (ps := ["state", "many"]) (b := _law_drawB) T.f__law_draw.f sc__law_draw (by decide) fun cdv A outer s H E P hr hgd =>
    have hu1 := room_u hr 1 (by decide); have hu64 := room_u hr 64 (by decide); have hu65 := room_u hr 65 (by decide); have hu66 := room_u hr 66 (by decide)
    gs_cons (g_if (gt_rd (PW.pt (gw_and (gt_cmp (or_eq rfl hu64) (go_sub rfl hu1 (go_sl (pv 0)) (go_tm (ge_int))) (go_tm (ge_int)) (by rfl)) (gw_and1 (gt_cmp (or_ge) (go_sub rfl hu1 (go_sl (pv 0)) (go_tm (ge_int))) (go_tm (ge_callB (cr_len rfl) T.n_len bb_len (by rfl) (ga_one (go_sub rfl hu1 (go_sl (pv 0)) (go_tm (ge_int)))))) (by rfl)))))) (gs_cons (g_asg (ge_rd (ge_bin (or_mod) (go_tm (ge_callTy (cr_int) T.n_int bb_int (by rfl) (ga_one (go_tm (ge_bin (or_add rfl) (go_tm (ge_bin (or_mul rfl) (go_sub rfl hu1 (go_sl (pv 0)) (go_tm (ge_int))) (go_tm (ge_int)))) (go_tm (ge_int))))))) (go_tm (ge_int)))) (gg_ix hu1 (pv 0) (ge_int))) <|
    gs_one (g_ret (ge_rd (ge_bin (or_mod) (go_tm (ge_callTy (cr_int) T.n_int bb_int (by rfl) (ga_one (go_tm (ge_bin (or_fdiv) (go_sub rfl hu1 (go_sl (pv 0)) (go_tm (ge_int))) (go_tm (ge_int))))))) (go_sl (pv 1)))))) (gs_nil)) <|
    gs_cons (g_if (gt_rd (gt_cmp (or_eq rfl hu64) (go_sub rfl hu1 (go_sl (pv 0)) (go_tm (ge_int))) (go_tm (ge_int)) (by rfl))) (gs_cons (g_asg (ge_rd (ge_callB (cr_abs) T.n_abs bb_abs (by rfl) (ga_one (go_sub rfl hu1 (go_sub rfl hu1 (go_sl (pv 0)) (go_tm (ge_int))) (go_sub rfl hu1 (go_sl (pv 0)) (go_tm (ge_int))))))) (gg_ix hu1 (pv 0) (ge_int))) <|
    gs_one (g_asg (ge_rd (ge_bin (or_add rfl) (go_sub rfl hu1 (go_sl (pv 0)) (go_tm (ge_int))) (go_tm (ge_int)))) (gg_ix hu1 (pv 0) (ge_int)))) (gs_nil)) <|
    gs_cons (g_set (i := 2) sc__law_draw.nd rfl (.inl rfl) (ge_bin (or_mod) (go_tm (ge_callTy (cr_int) T.n_int bb_int (by rfl) (ga_one (go_sub rfl hu1 (go_sl (pv 0)) (go_tm (ge_int)))))) (go_sl (pv 1)))) <|
    gs_cons (g_asg (ge_rd (ge_bin (or_fdiv) (go_sub rfl hu1 (go_sl (pv 0)) (go_tm (ge_int))) (go_sl (pv 1)))) (gg_ix hu1 (pv 0) (ge_int))) <|
    gs_one (g_ret (ge_mov (pv 2)))
theorem ok__law_sureties (T : Tab K mg ad fd) : GOk Pr w K mg base CX0 2 (ad 2) (fd 2) ["state", "many"] (spG K mg 2 _law_suretiesF) :=
  fn_ok (k := 1) (N := ["state", "many", "found", "k", "limit", "means"]) (ps := ["state", "many"]) (b := _law_suretiesB) T.f__law_sureties.f sc__law_sureties (by decide) fun cdv A outer s H E P hr hgd =>
    have hu1 := room_u hr 1 (by decide); have hu64 := room_u hr 64 (by decide); have hu65 := room_u hr 65 (by decide); have hu66 := room_u hr 66 (by decide)
    gs_cons (g_set (i := 2) sc__law_sureties.nd rfl (.inl rfl) (ge_lst (ga_nil))) <|
    gs_cons (g_for PassesOwn.never rfl (gi_range1 T.n_range (by rfl) (ga_one (go_tm (ge_fn (dvs := []) (ok__law_draw T) hr hgd (by decide) (by rfl) T.f__law_draw.g T.f__law_draw.p T.f__law_draw.b .nil pass0 (fun _ _ => .nil) (fun _ _ h => fnRun_len h) (ga_cons (go_sl (pv 0)) (ga_one (go_tm (ge_bin (or_add rfl) (go_sl (pv 1)) (go_tm (ge_int)))))))))) (gg_name sc__law_sureties.nd rfl (by first | exact .inl rfl | exact .inr rfl)) (gs_cons (g_set (i := 4) sc__law_sureties.nd rfl (.inl rfl) (ge_subM rfl hu1 (ge_lst (ga_cons (go_tm (ge_int)) (ga_cons (go_tm (ge_int)) (ga_cons (go_tm (ge_fn (dvs := []) (ok__law_draw T) hr hgd (by decide) (by rfl) T.f__law_draw.g T.f__law_draw.p T.f__law_draw.b .nil pass0 (fun _ _ => .nil) (fun _ _ h => fnRun_len h) (ga_cons (go_sl (pv 0)) (ga_one (go_tm (ge_int)))))) (ga_one (go_tm (ge_fn (dvs := []) (ok__law_draw T) hr hgd (by decide) (by rfl) T.f__law_draw.g T.f__law_draw.p T.f__law_draw.b .nil pass0 (fun _ _ => .nil) (fun _ _ h => fnRun_len h) (ga_cons (go_sl (pv 0)) (ga_one (go_tm (ge_int))))))))))) (go_tm (ge_subM rfl hu1 (ge_lst (ga_cons (go_tm (ge_int)) (ga_cons (go_tm (ge_int)) (ga_cons (go_tm (ge_int)) (ga_cons (go_tm (ge_int)) (ga_cons (go_tm (ge_int)) (ga_one (go_tm (ge_int))))))))) (go_tm (ge_fn (dvs := []) (ok__law_draw T) hr hgd (by decide) (by rfl) T.f__law_draw.g T.f__law_draw.p T.f__law_draw.b .nil pass0 (fun _ _ => .nil) (fun _ _ h => fnRun_len h) (ga_cons (go_sl (pv 0)) (ga_one (go_tm (ge_int)))))))))) <|
    gs_cons (g_set (i := 5) sc__law_sureties.nd rfl (.inl rfl) (ge_subM rfl hu1 (ge_lst (ga_cons (go_tm (ge_name (pv 4))) (ga_cons (go_tm (ge_int)) (ga_cons (go_tm (ge_fn (dvs := []) (ok__law_draw T) hr hgd (by decide) (by rfl) T.f__law_draw.g T.f__law_draw.p T.f__law_draw.b .nil pass0 (fun _ _ => .nil) (fun _ _ h => fnRun_len h) (ga_cons (go_sl (pv 0)) (ga_one (go_tm (ge_int)))))) (ga_one (go_tm (ge_int))))))) (go_tm (ge_fn (dvs := []) (ok__law_draw T) hr hgd (by decide) (by rfl) T.f__law_draw.g T.f__law_draw.p T.f__law_draw.b .nil pass0 (fun _ _ => .nil) (fun _ _ h => fnRun_len h) (ga_cons (go_sl (pv 0)) (ga_one (go_tm (ge_int)))))))) <|
    gs_one (g_expr (ge_mut rfl PySem.F.plainAttrs_list PySem.F.slot_list_append PySem.F.type_list_append mt_appP (by decide) (pv 2) (ga_one (go_tm (ge_tup (ga_cons (go_tm (ge_bin (or_add rfl) (go_tm (ge_str)) (go_tm (ge_subM rfl hu1 (ge_str) (go_sl (pv 3)))))) (ga_cons (go_tm (ge_fn (dvs := []) (ok__law_draw T) hr hgd (by decide) (by rfl) T.f__law_draw.g T.f__law_draw.p T.f__law_draw.b .nil pass0 (fun _ _ => .nil) (fun _ _ h => fnRun_len h) (ga_cons (go_sl (pv 0)) (ga_one (go_tm (ge_subM rfl hu1 (ge_lst (ga_cons (go_tm (ge_int)) (ga_cons (go_tm (ge_int)) (ga_one (go_tm (ge_int)))))) (go_tm (ge_fn (dvs := []) (ok__law_draw T) hr hgd (by decide) (by rfl) T.f__law_draw.g T.f__law_draw.p T.f__law_draw.b .nil pass0 (fun _ _ => .nil) (fun _ _ h => fnRun_len h) (ga_cons (go_sl (pv 0)) (ga_one (go_tm (ge_int)))))))))))) (ga_cons (go_tm (ge_name (pv 4))) (ga_one (go_tm (ge_name (pv 5)))))))))))))) <|
    gs_one (g_ret (ge_callTy (cr_tuple rfl) T.n_tuple bb_tuple (by rfl) (ga_one (go_sl (pv 2)))))
theorem ok__law_parts (T : Tab K mg ad fd) : GOk Pr w K mg base CX0 1 (ad 3) (fd 3) ["weights", "amount"] (spG K mg 2 _law_partsF) :=
  fn_ok (k := 0) (N := ["weights", "amount", "whole", "found", "order", "rest", "k", "own"]) (ps := ["weights", "amount"]) (b := _law_partsB) T.f__law_parts.f sc__law_parts (by decide) fun cdv A outer s H E P hr hgd =>
    have hu1 := room_u hr 1 (by decide); have hu64 := room_u hr 64 (by decide); have hu65 := room_u hr 65 (by decide); have hu66 := room_u hr 66 (by decide)
    gs_cons (g_set (i := 2) sc__law_parts.nd rfl (.inr rfl) (ge_callB (cr_sumP rfl rfl) T.n_sum bb_sum (by rfl) (ga_one (go_sl (pv 0))))) <|
    gs_cons (g_if (gt_cmp (or_eq rfl hu64) (go_sl (pv 2)) (go_tm (ge_int)) (by rfl)) (gs_one (g_ret (ge_bin (or_mul rfl) (go_tm (ge_lst (ga_one (go_tm (ge_int))))) (go_tm (ge_callB (cr_len rfl) T.n_len bb_len (by rfl) (ga_one (go_sl (pv 0)))))))) (gs_nil)) <|
    gs_cons (g_setLc (own := [("own", 7)]) rfl sc__law_parts.nd rfl (by rfl) (sw_true rfl (by rfl) (by rfl) (by decide +kernel)) (gi_list rfl (ge_name (pv 0))) (by exact blkOk_by (show blkC ["weights", "amount", "whole", "found", "order", "rest", "k", "own"] (defScope s__law_parts) _ _ = true from by decide +kernel)) (fun _ _ _ _ _ => gg_name sc__law_parts.nd rfl (by first | exact .inl rfl | exact .inr rfl) (hT := fun _ _ => wipe_set (by decide))) (fun _ _ _ _ _ => gts_nil) (fun _ _ _ _ _ => ge_bin (or_fdiv) (go_tm (ge_callTy (cr_int) T.n_int bb_int (by rfl) (ga_one (go_tm (ge_bin (or_mul rfl) (go_sl (pv 1)) (go_sl (pv 7))))))) (go_tm (ge_callTy (cr_int) T.n_int bb_int (by rfl) (ga_one (go_sl (pv 2))))))) <|
    gs_cons (g_set (i := 4) sc__law_parts.nd rfl (.inl rfl) (ge_callB (cr_sorted2 rfl rfl hu66 (cr_sortedP rfl hu66)) T.n_sorted bb_sorted (by rfl) (ga_one (go_tm (ge_comp (own := [("k", 6)]) rfl sc__law_parts.nd (gi_range1 T.n_range (by rfl) (ga_one (go_tm (ge_callB (cr_len rfl) T.n_len bb_len (by rfl) (ga_one (go_sl (pv 0))))))) (by exact blkOk_by (show blkC ["weights", "amount", "whole", "found", "order", "rest", "k", "own"] (defScope s__law_parts) _ _ = true from by decide +kernel)) (fun _ _ _ _ _ => gg_name sc__law_parts.nd rfl (by first | exact .inl rfl | exact .inr rfl) (hT := fun _ _ => wipe_set (by decide))) (fun _ _ _ _ _ => gts_nil) (fun _ _ _ _ _ => ge_tup (ga_cons (go_tm (ge_un or_neg (go_tm (ge_bin (or_mod) (go_tm (ge_callTy (cr_int) T.n_int bb_int (by rfl) (ga_one (go_tm (ge_bin (or_mul rfl) (go_sl (pv 1)) (go_sub rfl hu1 (go_sl (pv 0)) (go_sl (pv 6)))))))) (go_tm (ge_callTy (cr_int) T.n_int bb_int (by rfl) (ga_one (go_sl (pv 2))))))))) (ga_one (go_tm (ge_name (pv 6))))))))))) <|
    gs_cons (g_for PassesOwn.never rfl (gi_list rfl (ge_sl rfl (go_sl (pv 4)) (gp_none) (gp_some (ge_bin (or_sub) (go_sl (pv 1)) (go_tm (ge_callB (cr_sumP rfl rfl) T.n_sum bb_sum (by rfl) (ga_one (go_sl (pv 3))))))))) (gg_tup rfl rfl (ggs_cons tr_true (gg_name sc__law_parts.nd rfl (by first | exact .inl rfl | exact .inr rfl)) (ggs_cons tr_true (gg_name sc__law_parts.nd rfl (by first | exact .inl rfl | exact .inr rfl)) (ggs_nil tr_true)))) (gs_one (g_asg (ge_rd (ge_bin (or_add rfl) (go_sub rfl hu1 (go_sl (pv 3)) (go_sl (pv 6))) (go_tm (ge_int)))) (gg_ix hu1 (pv 3) (ge_name (pv 6)))))) <|
    gs_one (g_ret (ge_mov (pv 3)))
theorem ok__law_level (T : Tab K mg ad fd) : GOk Pr w K mg base CX0 2 (ad 4) (fd 4) ["sureties", "level", "claim"] (spG K mg 3 _law_levelF) :=
  fn_ok (k := 1) (N := ["sureties", "level", "claim", "paid", "left", "rooms", "parts_now", "at", "k", "own"]) (ps := ["sureties", "level", "claim"]) (b := _law_levelB) T.f__law_level.f sc__law_level (by decide) fun cdv A outer s H E P hr hgd =>
    have hu1 := room_u hr 1 (by decide); have hu64 := room_u hr 64 (by decide); have hu65 := room_u hr 65 (by decide); have hu66 := room_u hr 66 (by decide)
    gs_cons (g_asg (ge_tup (ga_cons (go_tm (ge_bin (or_mul rfl) (go_tm (ge_lst (ga_one (go_tm (ge_int))))) (go_tm (ge_callB (cr_len rfl) T.n_len bb_len (by rfl) (ga_one (go_sl (pv 0))))))) (ga_one (go_tm (ge_name (pv 2)))))) (gg_tup rfl rfl (ggs_cons tr_true (gg_name sc__law_level.nd rfl (by first | exact .inl rfl | exact .inr rfl)) (ggs_cons tr_true (gg_name sc__law_level.nd rfl (by first | exact .inl rfl | exact .inr rfl)) (ggs_nil tr_true))))) <|
    gs_cons (g_while PassesOwn.never (gt_cmp (or_gt) (go_sl (pv 4)) (go_tm (ge_int)) (by rfl)) (gs_cons (g_setLc (own := [("k", 8)]) rfl sc__law_level.nd rfl (by rfl) (sw_true rfl (by rfl) (by rfl) (by decide +kernel)) (gi_range1 T.n_range (by rfl) (ga_one (go_tm (ge_callB (cr_len rfl) T.n_len bb_len (by rfl) (ga_one (go_sl (pv 0))))))) (by exact blkOk_by (show blkC ["sureties", "level", "claim", "paid", "left", "rooms", "parts_now", "at", "k", "own"] (defScope s__law_level) _ _ = true from by decide +kernel)) (fun _ _ _ _ _ => gg_name sc__law_level.nd rfl (by first | exact .inl rfl | exact .inr rfl) (hT := fun _ _ => wipe_set (by decide))) (fun _ _ _ _ _ => gts_one (gt_rd (PW.pt (gw_and (gt_cmp (or_eq rfl hu64) (go_sub rfl hu1 (go_sub rfl hu1 (go_sl (pv 0)) (go_sl (pv 8))) (go_tm (ge_int))) (go_sl (pv 1)) (by rfl)) (gw_and1 (gt_cmp (or_gt) (go_tm (ge_callB (cr_minP rfl rfl) T.n_min bb_min (by rfl) (ga_cons (go_sub rfl hu1 (go_sub rfl hu1 (go_sl (pv 0)) (go_sl (pv 8))) (go_tm (ge_int))) (ga_one (go_sub rfl hu1 (go_sub rfl hu1 (go_sl (pv 0)) (go_sl (pv 8))) (go_tm (ge_int))))))) (go_sub rfl hu1 (go_sl (pv 3)) (go_sl (pv 8))) (by rfl))))))) (fun _ _ _ _ _ => ge_name (pv 8))) <|
    gs_cons (g_if (gt_not (gt_tru rfl (go_sl (pv 5)))) (gs_one (g_break)) (gs_nil)) <|
    gs_cons (g_set (i := 6) sc__law_level.nd rfl (.inl rfl) (ge_fn (dvs := []) (ok__law_parts T) hr hgd (by decide) (by rfl) T.f__law_parts.g T.f__law_parts.p T.f__law_parts.b .nil pass0 (fun _ _ => .nil) (fun _ _ h => fnRun_len h) (ga_cons (go_tm (ge_comp (own := [("k", 8)]) rfl sc__law_level.nd (gi_list rfl (ge_name (pv 5))) (by exact blkOk_by (show blkC ["sureties", "level", "claim", "paid", "left", "rooms", "parts_now", "at", "k", "own"] (defScope s__law_level) _ _ = true from by decide +kernel)) (fun _ _ _ _ _ => gg_name sc__law_level.nd rfl (by first | exact .inl rfl | exact .inr rfl) (hT := fun _ _ => wipe_set (by decide))) (fun _ _ _ _ _ => gts_nil) (fun _ _ _ _ _ => ge_rd (ge_sub (q := true) rfl hu1 (go_sub rfl hu1 (go_sl (pv 0)) (go_sl (pv 8))) (go_tm (ge_int)))))) (ga_one (go_sl (pv 4)))))) <|
    gs_one (g_for PassesOwn.never rfl (gi_range1 T.n_range (by rfl) (ga_one (go_tm (ge_callB (cr_len rfl) T.n_len bb_len (by rfl) (ga_one (go_sl (pv 5))))))) (gg_name sc__law_level.nd rfl (by first | exact .inl rfl | exact .inr rfl)) (gs_cons (g_set (i := 8) sc__law_level.nd rfl (.inl rfl) (ge_sub (q := false) rfl hu1 (go_sl (pv 5)) (go_sl (pv 7)))) <|
    gs_cons (g_set (i := 9) sc__law_level.nd rfl (.inl rfl) (ge_rd (ge_callB (cr_minP rfl rfl) T.n_min bb_min (by rfl) (ga_cons (go_sub rfl hu1 (go_sl (pv 6)) (go_sl (pv 7))) (ga_one (go_tm (ge_bin (or_sub) (go_tm (ge_callB (cr_minP rfl rfl) T.n_min bb_min (by rfl) (ga_cons (go_sub rfl hu1 (go_sub rfl hu1 (go_sl (pv 0)) (go_sl (pv 8))) (go_tm (ge_int))) (ga_one (go_sub rfl hu1 (go_sub rfl hu1 (go_sl (pv 0)) (go_sl (pv 8))) (go_tm (ge_int))))))) (go_sub rfl hu1 (go_sl (pv 3)) (go_sl (pv 8)))))))))) <|
    gs_one (g_asg (ge_rd (ge_tup (ga_cons (go_tm (ge_bin (or_add rfl) (go_sub rfl hu1 (go_sl (pv 3)) (go_sl (pv 8))) (go_sl (pv 9)))) (ga_one (go_tm (ge_bin (or_sub) (go_sl (pv 4)) (go_sl (pv 9)))))))) (gg_tup rfl rfl (ggs_cons tr_true (gg_ix hu1 (pv 3) (ge_name (pv 8))) (ggs_cons tr_true (gg_name sc__law_level.nd rfl (by first | exact .inl rfl | exact .inr rfl)) (ggs_nil tr_true))))))))) <|
    gs_one (g_ret (ge_tup (ga_cons (go_tm (ge_name (pv 3))) (ga_one (go_tm (ge_name (pv 4)))))))
theorem ok__law_shares (T : Tab K mg ad fd) : GOk Pr w K mg base CX0 3 (ad 5) (fd 5) ["sureties", "claim"] (spG K mg 2 _law_sharesF) :=
  fn_ok (k := 2) (N := ["sureties", "claim", "every", "left", "level", "paid", "k", "row"]) (ps := ["sureties", "claim"]) (b := _law_sharesB) T.f__law_shares.f sc__law_shares (by decide) fun cdv A outer s H E P hr hgd =>
    have hu1 := room_u hr 1 (by decide); have hu64 := room_u hr 64 (by decide); have hu65 := room_u hr 65 (by decide); have hu66 := room_u hr 66 (by decide)
    gs_cons (g_asg (ge_tup (ga_cons (go_tm (ge_bin (or_mul rfl) (go_tm (ge_lst (ga_one (go_tm (ge_int))))) (go_tm (ge_callB (cr_len rfl) T.n_len bb_len (by rfl) (ga_one (go_sl (pv 0))))))) (ga_one (go_tm (ge_name (pv 1)))))) (gg_tup rfl rfl (ggs_cons tr_true (gg_name sc__law_shares.nd rfl (by first | exact .inl rfl | exact .inr rfl)) (ggs_cons tr_true (gg_name sc__law_shares.nd rfl (by first | exact .inl rfl | exact .inr rfl)) (ggs_nil tr_true))))) <|
    gs_cons (g_for PassesOwn.never rfl (gi_list rfl (ge_callB (cr_sorted2 rfl rfl hu66 (cr_sortedP rfl hu66)) T.n_sorted bb_sorted (by rfl) (ga_one (go_tm (ge_callTy (cr_dict rfl rfl) T.n_dict bb_dict (by rfl) (ga_one (go_tm (ge_comp (own := [("row", 7)]) rfl sc__law_shares.nd (gi_list rfl (ge_name (pv 0))) (by exact blkOk_by (show blkC ["sureties", "claim", "every", "left", "level", "paid", "k", "row"] (defScope s__law_shares) _ _ = true from by decide +kernel)) (fun _ _ _ _ _ => gg_name sc__law_shares.nd rfl (by first | exact .inl rfl | exact .inr rfl) (hT := fun _ _ => wipe_set (by decide))) (fun _ _ _ _ _ => gts_nil) (fun _ _ _ _ _ => ge_tup (ga_cons (go_tm (ge_sub (q := false) rfl hu1 (go_sl (pv 7)) (go_tm (ge_int)))) (ga_one (go_tm (ge_bl))))))))))))) (gg_name sc__law_shares.nd rfl (by first | exact .inl rfl | exact .inr rfl)) (gs_cons (g_asg (ge_fn (dvs := []) (ok__law_level T) hr hgd (by decide) (by rfl) T.f__law_level.g T.f__law_level.p T.f__law_level.b .nil pass0 (fun _ _ => .nil) (fun _ _ h => fnRun_len h) (ga_cons (go_sl (pv 0)) (ga_cons (go_sl (pv 4)) (ga_one (go_sl (pv 3)))))) (gg_tup rfl rfl (ggs_cons tr_true (gg_name sc__law_shares.nd rfl (by first | exact .inl rfl | exact .inr rfl)) (ggs_cons tr_true (gg_name sc__law_shares.nd rfl (by first | exact .inl rfl | exact .inr rfl)) (ggs_nil tr_true))))) <|
    gs_one (g_set (i := 2) sc__law_shares.nd rfl (.inr rfl) (ge_comp (own := [("k", 6)]) rfl sc__law_shares.nd (gi_range1 T.n_range (by rfl) (ga_one (go_tm (ge_callB (cr_len rfl) T.n_len bb_len (by rfl) (ga_one (go_sl (pv 2))))))) (by exact blkOk_by (show blkC ["sureties", "claim", "every", "left", "level", "paid", "k", "row"] (defScope s__law_shares) _ _ = true from by decide +kernel)) (fun _ _ _ _ _ => gg_name sc__law_shares.nd rfl (by first | exact .inl rfl | exact .inr rfl) (hT := fun _ _ => wipe_set (by decide))) (fun _ _ _ _ _ => gts_nil) (fun _ _ _ _ _ => ge_rd (ge_bin (or_add rfl) (go_sub rfl hu1 (go_sl (pv 2)) (go_sl (pv 6))) (go_sub rfl hu1 (go_sl (pv 5)) (go_sl (pv 6))))))))) <|
    gs_one (g_ret (ge_tup (ga_cons (go_tm (ge_name (pv 2))) (ga_one (go_tm (ge_name (pv 3)))))))
theorem ok_is_name (T : Tab K mg ad fd) : GOk Pr w K mg base CX0 1 (ad 6) (fd 6) ["value"] (spG K mg 1 is_nameF) :=
  fn_ok (k := 0) (N := ["value", "sign"]) (ps := ["value"]) (b := is_nameB) T.f_is_name.f sc_is_name (by decide) fun cdv A outer s H E P hr hgd =>
    have hu1 := room_u hr 1 (by decide); have hu64 := room_u hr 64 (by decide); have hu65 := room_u hr 65 (by decide); have hu66 := room_u hr 66 (by decide)
    gs_one (g_ret (ge_and (ge_callB (cr_isi rfl) T.n_isinstance bb_isinstance (by rfl) (ga_cons (go_sl (pv 0)) (ga_one (go_tm (ge_tyN T.n_str (by rfl) bb_str))))) (ge_and (ge_chain (or_le) (or_le) (go_tm (ge_int)) (go_tm (ge_callB (cr_len rfl) T.n_len bb_len (by rfl) (ga_one (go_sl (pv 0))))) (go_tm (ge_int))) (ge_one (ge_callB (cr_allP rfl rfl) T.n_all bb_all (by rfl) (ga_one (go_tm (ge_comp (own := [("sign", 1)]) rfl sc_is_name.nd (gi_list rfl (ge_name (pv 0))) (by exact blkOk_by (show blkC ["value", "sign"] (defScope s_is_name) _ _ = true from by decide +kernel)) (fun _ _ _ _ _ => gg_name sc_is_name.nd rfl (by first | exact .inl rfl | exact .inr rfl) (hT := fun _ _ => wipe_set (by decide))) (fun _ _ _ _ _ => gts_nil) (fun _ _ _ _ _ => ge_cmp (or_in rfl hu65) (go_sl (pv 1)) (go_tm (ge_ck T.c_LETTERS rfl (by rfl))) (by rfl))))))))))
theorem ok_is_integer (T : Tab K mg ad fd) : GOk Pr w K mg base CX0 1 (ad 7) (fd 7) ["value"] (spG K mg 1 is_integerF) :=
  fn_ok (k := 0) (N := ["value"]) (ps := ["value"]) (b := is_integerB) T.f_is_integer.f sc_is_integer (by decide) fun cdv A outer s H E P hr hgd =>
    have hu1 := room_u hr 1 (by decide); have hu64 := room_u hr 64 (by decide); have hu65 := room_u hr 65 (by decide); have hu66 := room_u hr 66 (by decide)
    gs_one (g_ret (ge_and (ge_callB (cr_isi rfl) T.n_isinstance bb_isinstance (by rfl) (ga_cons (go_sl (pv 0)) (ga_one (go_tm (ge_tyN T.n_int (by rfl) bb_int))))) (ge_one (ge_not (ge_callB (cr_isi rfl) T.n_isinstance bb_isinstance (by rfl) (ga_cons (go_sl (pv 0)) (ga_one (go_tm (ge_tyN T.n_bool (by rfl) bb_bool)))))))))
theorem ok_check_sureties (T : Tab K mg ad fd) : GOk Pr w K mg base CX0 2 (ad 8) (fd 8) ["sureties"] (spG K mg 1 check_suretiesF) :=
  fn_ok (k := 1) (N := ["sureties", "row", "part"]) (ps := ["sureties"]) (b := check_suretiesB) T.f_check_sureties.f sc_check_sureties (by decide) fun cdv A outer s H E P hr hgd =>
    have hu1 := room_u hr 1 (by decide); have hu64 := room_u hr 64 (by decide); have hu65 := room_u hr 65 (by decide); have hu66 := room_u hr 66 (by decide)
    gs_cons (g_if (PW.pt (gw_or (gt_not (gt_val (ge_callB (cr_isi rfl) T.n_isinstance bb_isinstance (by rfl) (ga_cons (go_sl (pv 0)) (ga_one (go_tm (ge_tyN T.n_tuple (by rfl) bb_tuple))))))) (gw_or1 (gt_cmp (or_gt) (go_tm (ge_callB (cr_len rfl) T.n_len bb_len (by rfl) (ga_one (go_sl (pv 0))))) (go_tm (ge_ck T.c_MAX_PARTIES rfl (by rfl))) (by rfl))))) (gs_one (g_never)) (gs_nil)) <|
    gs_cons (g_for PassesOwn.never rfl (gi_list rfl (ge_name (pv 0))) (gg_name sc_check_sureties.nd rfl (by first | exact .inl rfl | exact .inr rfl)) (gs_cons (g_if (PW.pt (gw_or (gt_not (gt_val (ge_callB (cr_isi rfl) T.n_isinstance bb_isinstance (by rfl) (ga_cons (go_sl (pv 1)) (ga_one (go_tm (ge_tyN T.n_tuple (by rfl) bb_tuple))))))) (gw_or (gt_cmp (or_ne rfl hu64) (go_tm (ge_callB (cr_len rfl) T.n_len bb_len (by rfl) (ga_one (go_sl (pv 1))))) (go_tm (ge_int)) (by rfl)) (gw_or1 (gt_not (gt_val (ge_fn (dvs := []) (ok_is_name T) hr hgd (by decide) (by rfl) T.f_is_name.g T.f_is_name.p T.f_is_name.b .nil pass0 (fun _ _ => .nil) (fun _ _ h => fnRun_len h) (ga_one (go_sub rfl hu1 (go_sl (pv 1)) (go_tm (ge_int))))))))))) (gs_one (g_never)) (gs_nil)) <|
    gs_cons (g_if (PW.pt (gw_or (gt_not (gt_val (ge_callB (cr_allP rfl rfl) T.n_all bb_all (by rfl) (ga_one (go_tm (ge_comp (own := [("part", 2)]) rfl sc_check_sureties.nd (gi_list rfl (ge_sl rfl (go_sl (pv 1)) (gp_some (ge_int)) (gp_none))) (by exact blkOk_by (show blkC ["sureties", "row", "part"] (defScope s_check_sureties) _ _ = true from by decide +kernel)) (fun _ _ _ _ _ => gg_name sc_check_sureties.nd rfl (by first | exact .inl rfl | exact .inr rfl) (hT := fun _ _ => wipe_set (by decide))) (fun _ _ _ _ _ => gts_nil) (fun _ _ _ _ _ => ge_fn (dvs := []) (ok_is_integer T) hr hgd (by decide) (by rfl) T.f_is_integer.g T.f_is_integer.p T.f_is_integer.b .nil pass0 (fun _ _ => .nil) (fun _ _ h => fnRun_len h) (ga_one (go_sl (pv 2)))))))))) (gw_or1 (gt_rd (gt_not (gt_chain (or_le) (or_le) (go_tm (ge_int)) (go_sub rfl hu1 (go_sl (pv 1)) (go_tm (ge_int))) (go_tm (ge_ck T.c_MAX_PARTIES rfl (by rfl))))))))) (gs_one (g_never)) (gs_nil)) <|
    gs_one (g_if (gt_rd (PW.pt (gw_or (gt_not (gt_chain (or_le) (or_le) (go_tm (ge_int)) (go_sub rfl hu1 (go_sl (pv 1)) (go_tm (ge_int))) (go_tm (ge_ck T.c_MAX_SUM rfl (by rfl))))) (gw_or1 (gt_not (gt_chain (or_le) (or_le) (go_tm (ge_int)) (go_sub rfl hu1 (go_sl (pv 1)) (go_tm (ge_int))) (go_tm (ge_ck T.c_MAX_SUM rfl (by rfl))))))))) (gs_one (g_never)) (gs_nil)))) <|
    gs_one (g_if (gt_cmp (or_ne rfl hu64) (go_tm (ge_callB (cr_len rfl) T.n_len bb_len (by rfl) (ga_one (go_tm (ge_dcomp (own := [("row", 1)]) rfl sc_check_sureties.nd (gi_list rfl (ge_name (pv 0))) (by exact blkOk_by (show blkC ["sureties", "row", "part"] (defScope s_check_sureties) _ _ = true from by decide +kernel)) (fun _ _ _ _ _ => gg_name sc_check_sureties.nd rfl (by first | exact .inl rfl | exact .inr rfl) (hT := fun _ _ => wipe_set (by decide))) (fun _ _ _ _ _ => gts_nil) (fun _ _ _ _ _ => ge_sub (q := false) rfl hu1 (go_sl (pv 1)) (go_tm (ge_int))) (fun _ _ _ _ _ => ge_bl)))))) (go_tm (ge_callB (cr_len rfl) T.n_len bb_len (by rfl) (ga_one (go_sl (pv 0))))) (by rfl)) (gs_one (g_never)) (gs_nil))
theorem ok_check_claim (T : Tab K mg ad fd) : GOk Pr w K mg base CX0 2 (ad 9) (fd 9) ["claim"] (spG K mg 1 check_claimF) :=
  fn_ok (k := 1) (N := ["claim"]) (ps := ["claim"]) (b := check_claimB) T.f_check_claim.f sc_check_claim (by decide) fun cdv A outer s H E P hr hgd =>
    have hu1 := room_u hr 1 (by decide); have hu64 := room_u hr 64 (by decide); have hu65 := room_u hr 65 (by decide); have hu66 := room_u hr 66 (by decide)
    gs_one (g_if (PW.pt (gw_or (gt_not (gt_val (ge_fn (dvs := []) (ok_is_integer T) hr hgd (by decide) (by rfl) T.f_is_integer.g T.f_is_integer.p T.f_is_integer.b .nil pass0 (fun _ _ => .nil) (fun _ _ h => fnRun_len h) (ga_one (go_sl (pv 0)))))) (gw_or1 (gt_not (gt_chain (or_le) (or_le) (go_tm (ge_int)) (go_sl (pv 0)) (go_tm (ge_ck T.c_MAX_SUM rfl (by rfl)))))))) (gs_one (g_never)) (gs_nil))
theorem ok_room_of (T : Tab K mg ad fd) : GOk Pr w K mg base CX0 1 (ad 10) (fd 10) ["row"] (spG K mg 1 room_ofF) :=
  fn_ok (k := 0) (N := ["row"]) (ps := ["row"]) (b := room_ofB) T.f_room_of.f sc_room_of (by decide) fun cdv A outer s H E P hr hgd =>
    have hu1 := room_u hr 1 (by decide); have hu64 := room_u hr 64 (by decide); have hu65 := room_u hr 65 (by decide); have hu66 := room_u hr 66 (by decide)
    gs_one (g_ret (ge_rd (ge_callB (cr_minP rfl rfl) T.n_min bb_min (by rfl) (ga_cons (go_sub rfl hu1 (go_sl (pv 0)) (go_tm (ge_int))) (ga_one (go_sub rfl hu1 (go_sl (pv 0)) (go_tm (ge_int))))))))
theorem ok_accept_shares (T : Tab K mg ad fd) : GOk Pr w K mg base CX0 3 (ad 11) (fd 11) ["sureties", "claim", "rows"] (spG K mg 3 accept_sharesF) :=
  fn_ok (k := 2) (N := ["sureties", "claim", "rows", "row", "own", "at", "other"]) (ps := ["sureties", "claim", "rows"]) (b := accept_sharesB) T.f_accept_shares.f sc_accept_shares (by decide) fun cdv A outer s H E P hr hgd =>
    have hu1 := room_u hr 1 (by decide); have hu64 := room_u hr 64 (by decide); have hu65 := room_u hr 65 (by decide); have hu66 := room_u hr 66 (by decide)
    gs_cons (g_expr (ge_fn (dvs := []) (ok_check_sureties T) hr hgd (by decide) (by rfl) T.f_check_sureties.g T.f_check_sureties.p T.f_check_sureties.b .nil pass0 (fun _ _ => .nil) (fun _ _ h => fnRun_len h) (ga_one (go_sl (pv 0))))) <|
    gs_cons (g_expr (ge_fn (dvs := []) (ok_check_claim T) hr hgd (by decide) (by rfl) T.f_check_claim.g T.f_check_claim.p T.f_check_claim.b .nil pass0 (fun _ _ => .nil) (fun _ _ h => fnRun_len h) (ga_one (go_sl (pv 1))))) <|
    gs_cons (g_if (PW.pt (gw_or (gt_not (gt_val (ge_callB (cr_isi rfl) T.n_isinstance bb_isinstance (by rfl) (ga_cons (go_sl (pv 2)) (ga_one (go_tm (ge_tyN T.n_tuple (by rfl) bb_tuple))))))) (gw_or (gt_cmp (or_ne rfl hu64) (go_tm (ge_callB (cr_len rfl) T.n_len bb_len (by rfl) (ga_one (go_sl (pv 2))))) (go_tm (ge_callB (cr_len rfl) T.n_len bb_len (by rfl) (ga_one (go_sl (pv 0))))) (by rfl)) (gw_or1 (gt_not (gt_val (ge_callB (cr_allP rfl rfl) T.n_all bb_all (by rfl) (ga_one (go_tm (ge_comp (own := [("own", 4)]) rfl sc_accept_shares.nd (gi_list rfl (ge_name (pv 2))) (by exact blkOk_by (show blkC ["sureties", "claim", "rows", "row", "own", "at", "other"] (defScope s_accept_shares) _ _ = true from by decide +kernel)) (fun _ _ _ _ _ => gg_name sc_accept_shares.nd rfl (by first | exact .inl rfl | exact .inr rfl) (hT := fun _ _ => wipe_set (by decide))) (fun _ _ _ _ _ => gts_nil) (fun _ _ _ _ _ => ge_fn (dvs := []) (ok_is_integer T) hr hgd (by decide) (by rfl) T.f_is_integer.g T.f_is_integer.p T.f_is_integer.b .nil pass0 (fun _ _ => .nil) (fun _ _ h => fnRun_len h) (ga_one (go_sl (pv 4)))))))))))))) (gs_one (g_never)) (gs_nil)) <|
    gs_cons (g_if (gt_not (gt_val (ge_callB (cr_allP rfl rfl) T.n_all bb_all (by rfl) (ga_one (go_tm (ge_comp (own := [("own", 4), ("row", 3)]) rfl sc_accept_shares.nd (gi_zip rfl T.n_zip (by rfl) (ga_cons (go_tm (ge_name (pv 2))) (ga_one (go_tm (ge_name (pv 0)))))) (by exact blkOk_by (show blkC ["sureties", "claim", "rows", "row", "own", "at", "other"] (defScope s_accept_shares) _ _ = true from by decide +kernel)) (fun _ _ _ _ _ => gg_tup rfl rfl (ggs_cons tr_wipe (gg_name sc_accept_shares.nd rfl (by first | exact .inl rfl | exact .inr rfl) (hT := fun _ _ => wipe_set (by decide))) (ggs_cons tr_wipe (gg_name sc_accept_shares.nd rfl (by first | exact .inl rfl | exact .inr rfl) (hT := fun _ _ => wipe_set (by decide))) (ggs_nil tr_wipe)))) (fun _ _ _ _ _ => gts_nil) (fun _ _ _ _ _ => ge_chain (or_le) (or_le) (go_tm (ge_int)) (go_sl (pv 4)) (go_tm (ge_fn (dvs := []) (ok_room_of T) hr hgd (by decide) (by rfl) T.f_room_of.g T.f_room_of.p T.f_room_of.b .nil pass0 (fun _ _ => .nil) (fun _ _ h => fnRun_len h) (ga_one (go_sl (pv 3)))))))))))) (gs_one (g_never)) (gs_nil)) <|
    gs_cons (g_if (gt_cmp (or_gt) (go_tm (ge_callB (cr_sumP rfl rfl) T.n_sum bb_sum (by rfl) (ga_one (go_sl (pv 2))))) (go_sl (pv 1)) (by rfl)) (gs_one (g_never)) (gs_nil)) <|
    gs_cons (g_for PassesOwn.never rfl (gi_zip rfl T.n_zip (by rfl) (ga_cons (go_tm (ge_name (pv 0))) (ga_one (go_tm (ge_name (pv 2)))))) (gg_tup rfl rfl (ggs_cons tr_true (gg_name sc_accept_shares.nd rfl (by first | exact .inl rfl | exact .inr rfl)) (ggs_cons tr_true (gg_name sc_accept_shares.nd rfl (by first | exact .inl rfl | exact .inr rfl)) (ggs_nil tr_true)))) (gs_one (g_if (PW.pt (gw_and (gt_cmp (or_gt) (go_sl (pv 4)) (go_tm (ge_int)) (by rfl)) (gw_and1 (gt_val (ge_callB (cr_anyP rfl rfl) T.n_any bb_any (by rfl) (ga_one (go_tm (ge_comp (own := [("at", 5), ("other", 6)]) rfl sc_accept_shares.nd (gi_enum rfl T.n_enumerate (by rfl) (ga_one (go_tm (ge_name (pv 0))))) (by exact blkOk_by (show blkC ["sureties", "claim", "rows", "row", "own", "at", "other"] (defScope s_accept_shares) _ _ = true from by decide +kernel)) (fun _ _ _ _ _ => gg_tup rfl rfl (ggs_cons tr_wipe (gg_name sc_accept_shares.nd rfl (by first | exact .inl rfl | exact .inr rfl) (hT := fun _ _ => wipe_set (by decide))) (ggs_cons tr_wipe (gg_name sc_accept_shares.nd rfl (by first | exact .inl rfl | exact .inr rfl) (hT := fun _ _ => wipe_set (by decide))) (ggs_nil tr_wipe)))) (fun _ _ _ _ _ => gts_one (gt_rd (gt_cmp (or_lt) (go_sub rfl hu1 (go_sl (pv 6)) (go_tm (ge_int))) (go_sub rfl hu1 (go_sl (pv 3)) (go_tm (ge_int))) (by rfl)))) (fun _ _ _ _ _ => ge_cmp (or_lt) (go_tm (ge_sub (q := false) rfl hu1 (go_sl (pv 2)) (go_sl (pv 5)))) (go_tm (ge_fn (dvs := []) (ok_room_of T) hr hgd (by decide) (by rfl) T.f_room_of.g T.f_room_of.p T.f_room_of.b .nil pass0 (fun _ _ => .nil) (fun _ _ h => fnRun_len h) (ga_one (go_sl (pv 6))))) (by rfl)))))))))) (gs_one (g_never)) (gs_nil)))) <|
    gs_one (g_if (PW.pt (gw_and (gt_cmp (or_lt) (go_tm (ge_callB (cr_sumP rfl rfl) T.n_sum bb_sum (by rfl) (ga_one (go_sl (pv 2))))) (go_sl (pv 1)) (by rfl)) (gw_and1 (gt_val (ge_callB (cr_anyP rfl rfl) T.n_any bb_any (by rfl) (ga_one (go_tm (ge_comp (own := [("own", 4), ("row", 3)]) rfl sc_accept_shares.nd (gi_zip rfl T.n_zip (by rfl) (ga_cons (go_tm (ge_name (pv 2))) (ga_one (go_tm (ge_name (pv 0)))))) (by exact blkOk_by (show blkC ["sureties", "claim", "rows", "row", "own", "at", "other"] (defScope s_accept_shares) _ _ = true from by decide +kernel)) (fun _ _ _ _ _ => gg_tup rfl rfl (ggs_cons tr_wipe (gg_name sc_accept_shares.nd rfl (by first | exact .inl rfl | exact .inr rfl) (hT := fun _ _ => wipe_set (by decide))) (ggs_cons tr_wipe (gg_name sc_accept_shares.nd rfl (by first | exact .inl rfl | exact .inr rfl) (hT := fun _ _ => wipe_set (by decide))) (ggs_nil tr_wipe)))) (fun _ _ _ _ _ => gts_nil) (fun _ _ _ _ _ => ge_cmp (or_lt) (go_sl (pv 4)) (go_tm (ge_fn (dvs := []) (ok_room_of T) hr hgd (by decide) (by rfl) T.f_room_of.g T.f_room_of.p T.f_room_of.b .nil pass0 (fun _ _ => .nil) (fun _ _ h => fnRun_len h) (ga_one (go_sl (pv 3))))) (by rfl)))))))))) (gs_one (g_never)) (gs_nil))
theorem ok__law_same_as (T : Tab K mg ad fd) : GOk Pr w K mg base CX0 1 (ad 12) (fd 12) ["first", "second"] (spG K mg 2 _law_same_asF) :=
  fn_ok (k := 0) (N := ["first", "second"]) (ps := ["first", "second"]) (b := _law_same_asB) T.f__law_same_as.f sc__law_same_as (by decide) fun cdv A outer s H E P hr hgd =>
    have hu1 := room_u hr 1 (by decide); have hu64 := room_u hr 64 (by decide); have hu65 := room_u hr 65 (by decide); have hu66 := room_u hr 66 (by decide)
    gs_one (g_ret (ge_and (ge_cmp (or_eq rfl hu64) (go_sl (pv 0)) (go_sl (pv 1)) (by rfl)) (ge_one (ge_cmp (or_eq rfl hu64) (go_tm (ge_callB (cr_repr rfl hgd hu66) T.n_repr bb_repr (by rfl) (ga_one (go_sl (pv 0))))) (go_tm (ge_callB (cr_repr rfl hgd hu66) T.n_repr bb_repr (by rfl) (ga_one (go_sl (pv 1))))) (by rfl)))))
theorem ok_parts_by (T : Tab K mg ad fd) : GOk Pr w K mg base CX0 1 (ad 13) (fd 13) ["weights", "amount"] (spG K mg 2 parts_byF) :=
  fn_ok (k := 0) (N := ["weights", "amount", "total", "found", "order", "missing", "at", "weight"]) (ps := ["weights", "amount"]) (b := parts_byB) T.f_parts_by.f sc_parts_by (by decide) fun cdv A outer s H E P hr hgd =>
    have hu1 := room_u hr 1 (by decide); have hu64 := room_u hr 64 (by decide); have hu65 := room_u hr 65 (by decide); have hu66 := room_u hr 66 (by decide)
    gs_cons (g_set (i := 2) sc_parts_by.nd rfl (.inr rfl) (ge_callB (cr_sumP rfl rfl) T.n_sum bb_sum (by rfl) (ga_one (go_sl (pv 0))))) <|
    gs_cons (g_if (gt_cmp (or_eq rfl hu64) (go_sl (pv 2)) (go_tm (ge_int)) (by rfl)) (gs_one (g_ret (ge_bin (or_mul rfl) (go_tm (ge_lst (ga_one (go_tm (ge_int))))) (go_tm (ge_callB (cr_len rfl) T.n_len bb_len (by rfl) (ga_one (go_sl (pv 0)))))))) (gs_nil)) <|
    gs_cons (g_setLc (own := [("weight", 7)]) rfl sc_parts_by.nd rfl (by rfl) (sw_true rfl (by rfl) (by rfl) (by decide +kernel)) (gi_list rfl (ge_name (pv 0))) (by exact blkOk_by (show blkC ["weights", "amount", "total", "found", "order", "missing", "at", "weight"] (defScope s_parts_by) _ _ = true from by decide +kernel)) (fun _ _ _ _ _ => gg_name sc_parts_by.nd rfl (by first | exact .inl rfl | exact .inr rfl) (hT := fun _ _ => wipe_set (by decide))) (fun _ _ _ _ _ => gts_nil) (fun _ _ _ _ _ => ge_bin (or_fdiv) (go_tm (ge_bin (or_mul rfl) (go_sl (pv 1)) (go_sl (pv 7)))) (go_sl (pv 2)))) <|
    gs_cons (g_set (i := 4) sc_parts_by.nd rfl (.inl rfl) (ge_callB (cr_sorted2 rfl rfl hu66 (cr_sortedP rfl hu66)) T.n_sorted bb_sorted (by rfl) (ga_one (go_tm (ge_comp (own := [("at", 6), ("weight", 7)]) rfl sc_parts_by.nd (gi_enum rfl T.n_enumerate (by rfl) (ga_one (go_tm (ge_name (pv 0))))) (by exact blkOk_by (show blkC ["weights", "amount", "total", "found", "order", "missing", "at", "weight"] (defScope s_parts_by) _ _ = true from by decide +kernel)) (fun _ _ _ _ _ => gg_tup rfl rfl (ggs_cons tr_wipe (gg_name sc_parts_by.nd rfl (by first | exact .inl rfl | exact .inr rfl) (hT := fun _ _ => wipe_set (by decide))) (ggs_cons tr_wipe (gg_name sc_parts_by.nd rfl (by first | exact .inl rfl | exact .inr rfl) (hT := fun _ _ => wipe_set (by decide))) (ggs_nil tr_wipe)))) (fun _ _ _ _ _ => gts_nil) (fun _ _ _ _ _ => ge_tup (ga_cons (go_tm (ge_un or_neg (go_tm (ge_bin (or_mod) (go_tm (ge_bin (or_mul rfl) (go_sl (pv 1)) (go_sl (pv 7)))) (go_sl (pv 2)))))) (ga_one (go_tm (ge_name (pv 6))))))))))) <|
    gs_cons (g_for PassesOwn.never rfl (gi_list rfl (ge_sl rfl (go_sl (pv 4)) (gp_none) (gp_some (ge_bin (or_sub) (go_sl (pv 1)) (go_tm (ge_callB (cr_sumP rfl rfl) T.n_sum bb_sum (by rfl) (ga_one (go_sl (pv 3))))))))) (gg_tup rfl rfl (ggs_cons tr_true (gg_name sc_parts_by.nd rfl (by first | exact .inl rfl | exact .inr rfl)) (ggs_cons tr_true (gg_name sc_parts_by.nd rfl (by first | exact .inl rfl | exact .inr rfl)) (ggs_nil tr_true)))) (gs_one (g_augP (n := 3) rfl hu1 (pl_name (pv 3)) (ge_nameR (pv 6)) or_iadd (ge_int)))) <|
    gs_one (g_ret (ge_mov (pv 3)))
theorem ok_parts (T : Tab K mg ad fd) : GOk Pr w K mg base CX0 2 (ad 14) (fd 14) ["weights", "amount"] (spG K mg 2 partsF) :=
  fn_ok (k := 1) (N := ["weights", "amount", "weight"]) (ps := ["weights", "amount"]) (b := partsB) T.f_parts.f sc_parts (by decide) fun cdv A outer s H E P hr hgd =>
    have hu1 := room_u hr 1 (by decide); have hu64 := room_u hr 64 (by decide); have hu65 := room_u hr 65 (by decide); have hu66 := room_u hr 66 (by decide)
    gs_cons (g_if (PW.pt (gw_or (gt_not (gt_val (ge_callB (cr_isi rfl) T.n_isinstance bb_isinstance (by rfl) (ga_cons (go_sl (pv 0)) (ga_one (go_tm (ge_tyN T.n_tuple (by rfl) bb_tuple))))))) (gw_or1 (gt_cmp (or_gt) (go_tm (ge_callB (cr_len rfl) T.n_len bb_len (by rfl) (ga_one (go_sl (pv 0))))) (go_tm (ge_ck T.c_MAX_PARTIES rfl (by rfl))) (by rfl))))) (gs_one (g_never)) (gs_nil)) <|
    gs_cons (g_if (gt_not (gt_val (ge_callB (cr_allP rfl rfl) T.n_all bb_all (by rfl) (ga_one (go_tm (ge_comp (own := [("weight", 2)]) rfl sc_parts.nd (gi_list rfl (ge_name (pv 0))) (by exact blkOk_by (show blkC ["weights", "amount", "weight"] (defScope s_parts) _ _ = true from by decide +kernel)) (fun _ _ _ _ _ => gg_name sc_parts.nd rfl (by first | exact .inl rfl | exact .inr rfl) (hT := fun _ _ => wipe_set (by decide))) (fun _ _ _ _ _ => gts_nil) (fun _ _ _ _ _ => ge_and (ge_fn (dvs := []) (ok_is_integer T) hr hgd (by decide) (by rfl) T.f_is_integer.g T.f_is_integer.p T.f_is_integer.b .nil pass0 (fun _ _ => .nil) (fun _ _ h => fnRun_len h) (ga_one (go_sl (pv 2)))) (ge_one (ge_chain (or_le) (or_le) (go_tm (ge_int)) (go_sl (pv 2)) (go_tm (ge_ck T.c_MAX_SUM rfl (by rfl)))))))))))) (gs_one (g_never)) (gs_nil)) <|
    gs_cons (g_if (PW.pt (gw_or (gt_not (gt_val (ge_fn (dvs := []) (ok_is_integer T) hr hgd (by decide) (by rfl) T.f_is_integer.g T.f_is_integer.p T.f_is_integer.b .nil pass0 (fun _ _ => .nil) (fun _ _ h => fnRun_len h) (ga_one (go_sl (pv 1)))))) (gw_or1 (gt_not (gt_chain (or_le) (or_le) (go_tm (ge_int)) (go_sl (pv 1)) (go_tm (ge_ck T.c_MAX_SUM rfl (by rfl)))))))) (gs_one (g_never)) (gs_nil)) <|
    gs_one (g_ret (ge_callTy (cr_tuple rfl) T.n_tuple bb_tuple (by rfl) (ga_one (go_tm (ge_fn (dvs := []) (ok_parts_by T) hr hgd (by decide) (by rfl) T.f_parts_by.g T.f_parts_by.p T.f_parts_by.b .nil pass0 (fun _ _ => .nil) (fun _ _ h => fnRun_len h) (ga_cons (go_sl (pv 0)) (ga_one (go_sl (pv 1)))))))))
theorem ok_accept_parts (T : Tab K mg ad fd) : GOk Pr w K mg base CX0 3 (ad 15) (fd 15) ["weights", "amount", "rows"] (spG K mg 3 accept_partsF) :=
  fn_ok (k := 2) (N := ["weights", "amount", "rows", "due", "total", "own", "weight"]) (ps := ["weights", "amount", "rows"]) (b := accept_partsB) T.f_accept_parts.f sc_accept_parts (by decide) fun cdv A outer s H E P hr hgd =>
    have hu1 := room_u hr 1 (by decide); have hu64 := room_u hr 64 (by decide); have hu65 := room_u hr 65 (by decide); have hu66 := room_u hr 66 (by decide)
    gs_cons (g_set (i := 3) sc_accept_parts.nd rfl (.inl rfl) (ge_fn (dvs := []) (ok_parts T) hr hgd (by decide) (by rfl) T.f_parts.g T.f_parts.p T.f_parts.b .nil pass0 (fun _ _ => .nil) (fun _ _ h => fnRun_len h) (ga_cons (go_sl (pv 0)) (ga_one (go_sl (pv 1)))))) <|
    gs_cons (g_if (PW.pt (gw_or (gt_not (gt_val (ge_callB (cr_isi rfl) T.n_isinstance bb_isinstance (by rfl) (ga_cons (go_sl (pv 2)) (ga_one (go_tm (ge_tyN T.n_tuple (by rfl) bb_tuple))))))) (gw_or (gt_cmp (or_ne rfl hu64) (go_tm (ge_callB (cr_len rfl) T.n_len bb_len (by rfl) (ga_one (go_sl (pv 2))))) (go_tm (ge_callB (cr_len rfl) T.n_len bb_len (by rfl) (ga_one (go_sl (pv 0))))) (by rfl)) (gw_or1 (gt_not (gt_val (ge_callB (cr_allP rfl rfl) T.n_all bb_all (by rfl) (ga_one (go_tm (ge_comp (own := [("own", 5)]) rfl sc_accept_parts.nd (gi_list rfl (ge_name (pv 2))) (by exact blkOk_by (show blkC ["weights", "amount", "rows", "due", "total", "own", "weight"] (defScope s_accept_parts) _ _ = true from by decide +kernel)) (fun _ _ _ _ _ => gg_name sc_accept_parts.nd rfl (by first | exact .inl rfl | exact .inr rfl) (hT := fun _ _ => wipe_set (by decide))) (fun _ _ _ _ _ => gts_nil) (fun _ _ _ _ _ => ge_fn (dvs := []) (ok_is_integer T) hr hgd (by decide) (by rfl) T.f_is_integer.g T.f_is_integer.p T.f_is_integer.b .nil pass0 (fun _ _ => .nil) (fun _ _ h => fnRun_len h) (ga_one (go_sl (pv 5)))))))))))))) (gs_one (g_never)) (gs_nil)) <|
    gs_cons (g_set (i := 4) sc_accept_parts.nd rfl (.inl rfl) (ge_callB (cr_sumP rfl rfl) T.n_sum bb_sum (by rfl) (ga_one (go_sl (pv 0))))) <|
    gs_cons (g_if (gt_cmp (or_ne rfl hu64) (go_tm (ge_callB (cr_sumP rfl rfl) T.n_sum bb_sum (by rfl) (ga_one (go_sl (pv 2))))) (go_tm (ge_callB (cr_sumP rfl rfl) T.n_sum bb_sum (by rfl) (ga_one (go_sl (pv 3))))) (by rfl)) (gs_one (g_never)) (gs_nil)) <|
    gs_one (g_if (gt_cmp (or_gt) (go_sl (pv 4)) (go_tm (ge_int)) (by rfl)) (gs_one (g_for PassesOwn.never rfl (gi_zip rfl T.n_zip (by rfl) (ga_cons (go_tm (ge_name (pv 2))) (ga_one (go_tm (ge_name (pv 0)))))) (gg_tup rfl rfl (ggs_cons tr_true (gg_name sc_accept_parts.nd rfl (by first | exact .inl rfl | exact .inr rfl)) (ggs_cons tr_true (gg_name sc_accept_parts.nd rfl (by first | exact .inl rfl | exact .inr rfl)) (ggs_nil tr_true)))) (gs_one (g_if (gt_not (gt_chain (or_le) (or_le) (go_tm (ge_int)) (go_tm (ge_bin (or_sub) (go_sl (pv 5)) (go_tm (ge_bin (or_fdiv) (go_tm (ge_bin (or_mul rfl) (go_sl (pv 1)) (go_sl (pv 6)))) (go_sl (pv 4)))))) (go_tm (ge_if (gt_tru rfl (go_tm (ge_bin (or_mod) (go_tm (ge_bin (or_mul rfl) (go_sl (pv 1)) (go_sl (pv 6)))) (go_sl (pv 4))))) (ge_int) (ge_int))))) (gs_one (g_never)) (gs_nil))))) (gs_nil))
theorem ok_levels_of (T : Tab K mg ad fd) : GOk Pr w K mg base CX0 1 (ad 16) (fd 16) ["sureties"] (spG K mg 1 levels_ofF) :=
  fn_ok (k := 0) (N := ["sureties", "row"]) (ps := ["sureties"]) (b := levels_ofB) T.f_levels_of.f sc_levels_of (by decide) fun cdv A outer s H E P hr hgd =>
    have hu1 := room_u hr 1 (by decide); have hu64 := room_u hr 64 (by decide); have hu65 := room_u hr 65 (by decide); have hu66 := room_u hr 66 (by decide)
    gs_one (g_ret (ge_callB (cr_sorted2 rfl rfl hu66 (cr_sortedP rfl hu66)) T.n_sorted bb_sorted (by rfl) (ga_one (go_tm (ge_dcomp (own := [("row", 1)]) rfl sc_levels_of.nd (gi_list rfl (ge_name (pv 0))) (by exact blkOk_by (show blkC ["sureties", "row"] (defScope s_levels_of) _ _ = true from by decide +kernel)) (fun _ _ _ _ _ => gg_name sc_levels_of.nd rfl (by first | exact .inl rfl | exact .inr rfl) (hT := fun _ _ => wipe_set (by decide))) (fun _ _ _ _ _ => gts_nil) (fun _ _ _ _ _ => ge_sub (q := false) rfl hu1 (go_sl (pv 1)) (go_tm (ge_int))) (fun _ _ _ _ _ => ge_bl))))))
theorem ok_shares_in (T : Tab K mg ad fd) : GOk Pr w K mg base CX0 2 (ad 17) (fd 17) ["rows", "amount"] (spG K mg 2 shares_inF) :=
  fn_ok (k := 1) (N := ["rows", "amount", "paid", "left", "open_ones", "parts", "at", "part", "own", "row"]) (ps := ["rows", "amount"]) (b := shares_inB) T.f_shares_in.f sc_shares_in (by decide) fun cdv A outer s H E P hr hgd =>
    have hu1 := room_u hr 1 (by decide); have hu64 := room_u hr 64 (by decide); have hu65 := room_u hr 65 (by decide); have hu66 := room_u hr 66 (by decide)
    gs_cons (g_set (i := 2) sc_shares_in.nd rfl (.inr rfl) (ge_bin (or_mul rfl) (go_tm (ge_lst (ga_one (go_tm (ge_int))))) (go_tm (ge_callB (cr_len rfl) T.n_len bb_len (by rfl) (ga_one (go_sl (pv 0))))))) <|
    gs_cons (g_set (i := 3) sc_shares_in.nd rfl (.inl rfl) (ge_name (pv 1))) <|
    gs_cons (g_while PassesOwn.never (gt_cmp (or_gt) (go_sl (pv 3)) (go_tm (ge_int)) (by rfl)) (gs_cons (g_setLc (own := [("at", 6), ("row", 9)]) rfl sc_shares_in.nd rfl (by rfl) (sw_true rfl (by rfl) (by rfl) (by decide +kernel)) (gi_enum rfl T.n_enumerate (by rfl) (ga_one (go_tm (ge_name (pv 0))))) (by exact blkOk_by (show blkC ["rows", "amount", "paid", "left", "open_ones", "parts", "at", "part", "own", "row"] (defScope s_shares_in) _ _ = true from by decide +kernel)) (fun _ _ _ _ _ => gg_tup rfl rfl (ggs_cons tr_wipe (gg_name sc_shares_in.nd rfl (by first | exact .inl rfl | exact .inr rfl) (hT := fun _ _ => wipe_set (by decide))) (ggs_cons tr_wipe (gg_name sc_shares_in.nd rfl (by first | exact .inl rfl | exact .inr rfl) (hT := fun _ _ => wipe_set (by decide))) (ggs_nil tr_wipe)))) (fun _ _ _ _ _ => gts_one (gt_cmp (or_lt) (go_tm (ge_sub (q := false) rfl hu1 (go_sl (pv 2)) (go_sl (pv 6)))) (go_tm (ge_fn (dvs := []) (ok_room_of T) hr hgd (by decide) (by rfl) T.f_room_of.g T.f_room_of.p T.f_room_of.b .nil pass0 (fun _ _ => .nil) (fun _ _ h => fnRun_len h) (ga_one (go_sl (pv 9))))) (by rfl))) (fun _ _ _ _ _ => ge_name (pv 6))) <|
    gs_cons (g_if (gt_not (gt_tru rfl (go_sl (pv 4)))) (gs_one (g_break)) (gs_nil)) <|
    gs_cons (g_set (i := 5) sc_shares_in.nd rfl (.inl rfl) (ge_fn (dvs := []) (ok_parts_by T) hr hgd (by decide) (by rfl) T.f_parts_by.g T.f_parts_by.p T.f_parts_by.b .nil pass0 (fun _ _ => .nil) (fun _ _ h => fnRun_len h) (ga_cons (go_tm (ge_comp (own := [("at", 6)]) rfl sc_shares_in.nd (gi_list rfl (ge_name (pv 4))) (by exact blkOk_by (show blkC ["rows", "amount", "paid", "left", "open_ones", "parts", "at", "part", "own", "row"] (defScope s_shares_in) _ _ = true from by decide +kernel)) (fun _ _ _ _ _ => gg_name sc_shares_in.nd rfl (by first | exact .inl rfl | exact .inr rfl) (hT := fun _ _ => wipe_set (by decide))) (fun _ _ _ _ _ => gts_nil) (fun _ _ _ _ _ => ge_rd (ge_sub (q := true) rfl hu1 (go_sub rfl hu1 (go_sl (pv 0)) (go_sl (pv 6))) (go_tm (ge_int)))))) (ga_one (go_sl (pv 3)))))) <|
    gs_one (g_for PassesOwn.never rfl (gi_zip rfl T.n_zip (by rfl) (ga_cons (go_tm (ge_name (pv 4))) (ga_one (go_tm (ge_name (pv 5)))))) (gg_tup rfl rfl (ggs_cons tr_true (gg_name sc_shares_in.nd rfl (by first | exact .inl rfl | exact .inr rfl)) (ggs_cons tr_true (gg_name sc_shares_in.nd rfl (by first | exact .inl rfl | exact .inr rfl)) (ggs_nil tr_true)))) (gs_cons (g_set (i := 8) sc_shares_in.nd rfl (.inl rfl) (ge_callB (cr_minP rfl rfl) T.n_min bb_min (by rfl) (ga_cons (go_sl (pv 7)) (ga_one (go_tm (ge_bin (or_sub) (go_tm (ge_fn (dvs := []) (ok_room_of T) hr hgd (by decide) (by rfl) T.f_room_of.g T.f_room_of.p T.f_room_of.b .nil pass0 (fun _ _ => .nil) (fun _ _ h => fnRun_len h) (ga_one (go_sub rfl hu1 (go_sl (pv 0)) (go_sl (pv 6)))))) (go_sub rfl hu1 (go_sl (pv 2)) (go_sl (pv 6))))))))) <|
    gs_cons (g_augP (n := 2) rfl hu1 (pl_name (pv 2)) (ge_nameR (pv 6)) or_iadd (ge_nameR (pv 8))) <|
    gs_one (g_aug sc_shares_in.nd rfl (.inl rfl) or_isub (ge_name (pv 8))))))) <|
    gs_one (g_ret (ge_mov (pv 2)))
theorem ok_shares_of (T : Tab K mg ad fd) : GOk Pr w K mg base CX0 3 (ad 18) (fd 18) ["sureties", "claim"] (spG K mg 2 shares_ofF) :=
  fn_ok (k := 2) (N := ["sureties", "claim", "found", "left", "level", "rows", "paid", "row", "own"]) (ps := ["sureties", "claim"]) (b := shares_ofB) T.f_shares_of.f sc_shares_of (by decide) fun cdv A outer s H E P hr hgd =>
    have hu1 := room_u hr 1 (by decide); have hu64 := room_u hr 64 (by decide); have hu65 := room_u hr 65 (by decide); have hu66 := room_u hr 66 (by decide)
    gs_cons (g_set (i := 2) sc_shares_of.nd rfl (.inl rfl) (ge_d0)) <|
    gs_cons (g_set (i := 3) sc_shares_of.nd rfl (.inl rfl) (ge_name (pv 1))) <|
    gs_cons (g_for PassesOwn.never rfl (gi_list rfl (ge_fn (dvs := []) (ok_levels_of T) hr hgd (by decide) (by rfl) T.f_levels_of.g T.f_levels_of.p T.f_levels_of.b .nil pass0 (fun _ _ => .nil) (fun _ _ h => fnRun_len h) (ga_one (go_sl (pv 0))))) (gg_name sc_shares_of.nd rfl (by first | exact .inl rfl | exact .inr rfl)) (gs_cons (g_setLc (own := [("row", 7)]) rfl sc_shares_of.nd rfl (by rfl) (sw_true rfl (by rfl) (by rfl) (by decide +kernel)) (gi_list rfl (ge_name (pv 0))) (by exact blkOk_by (show blkC ["sureties", "claim", "found", "left", "level", "rows", "paid", "row", "own"] (defScope s_shares_of) _ _ = true from by decide +kernel)) (fun _ _ _ _ _ => gg_name sc_shares_of.nd rfl (by first | exact .inl rfl | exact .inr rfl) (hT := fun _ _ => wipe_set (by decide))) (fun _ _ _ _ _ => gts_one (gt_rd (gt_cmp (or_eq rfl hu64) (go_sub rfl hu1 (go_sl (pv 7)) (go_tm (ge_int))) (go_sl (pv 4)) (by rfl)))) (fun _ _ _ _ _ => ge_name (pv 7))) <|
    gs_cons (g_set (i := 6) sc_shares_of.nd rfl (.inl rfl) (ge_fn (dvs := []) (ok_shares_in T) hr hgd (by decide) (by rfl) T.f_shares_in.g T.f_shares_in.p T.f_shares_in.b .nil pass0 (fun _ _ => .nil) (fun _ _ h => fnRun_len h) (ga_cons (go_sl (pv 5)) (ga_one (go_sl (pv 3)))))) <|
    gs_cons (g_expr (ge_mut rfl PySem.F.plainAttrs_dict PySem.F.slot_dict_update PySem.F.type_dict_update mt_updP (by decide) (pv 2) (ga_one (go_tm (ge_dcomp (own := [("row", 7), ("own", 8)]) rfl sc_shares_of.nd (gi_zip rfl T.n_zip (by rfl) (ga_cons (go_tm (ge_name (pv 5))) (ga_one (go_tm (ge_name (pv 6)))))) (by exact blkOk_by (show blkC ["sureties", "claim", "found", "left", "level", "rows", "paid", "row", "own"] (defScope s_shares_of) _ _ = true from by decide +kernel)) (fun _ _ _ _ _ => gg_tup rfl rfl (ggs_cons tr_wipe (gg_name sc_shares_of.nd rfl (by first | exact .inl rfl | exact .inr rfl) (hT := fun _ _ => wipe_set (by decide))) (ggs_cons tr_wipe (gg_name sc_shares_of.nd rfl (by first | exact .inl rfl | exact .inr rfl) (hT := fun _ _ => wipe_set (by decide))) (ggs_nil tr_wipe)))) (fun _ _ _ _ _ => gts_nil) (fun _ _ _ _ _ => ge_sub (q := false) rfl hu1 (go_sl (pv 7)) (go_tm (ge_int))) (fun _ _ _ _ _ => ge_name (pv 8))))))) <|
    gs_one (g_aug sc_shares_of.nd rfl (.inl rfl) or_isub (ge_callB (cr_sumP rfl rfl) T.n_sum bb_sum (by rfl) (ga_one (go_sl (pv 6))))))) <|
    gs_one (g_ret (ge_mov (pv 2)))
theorem ok_least_level (T : Tab K mg ad fd) : GOk Pr w K mg base CX0 4 (ad 19) (fd 19) ["sureties", "claim"] (spG K mg 2 least_levelF) :=
  fn_ok (k := 3) (N := ["sureties", "claim", "table", "levels", "row"]) (ps := ["sureties", "claim"]) (b := least_levelB) T.f_least_level.f sc_least_level (by decide) fun cdv A outer s H E P hr hgd =>
    have hu1 := room_u hr 1 (by decide); have hu64 := room_u hr 64 (by decide); have hu65 := room_u hr 65 (by decide); have hu66 := room_u hr 66 (by decide)
    gs_cons (g_expr (ge_fn (dvs := []) (ok_check_sureties T) hr hgd (by decide) (by rfl) T.f_check_sureties.g T.f_check_sureties.p T.f_check_sureties.b .nil pass0 (fun _ _ => .nil) (fun _ _ h => fnRun_len h) (ga_one (go_sl (pv 0))))) <|
    gs_cons (g_expr (ge_fn (dvs := []) (ok_check_claim T) hr hgd (by decide) (by rfl) T.f_check_claim.g T.f_check_claim.p T.f_check_claim.b .nil pass0 (fun _ _ => .nil) (fun _ _ h => fnRun_len h) (ga_one (go_sl (pv 1))))) <|
    gs_cons (g_set (i := 2) sc_least_level.nd rfl (.inr rfl) (ge_fn (dvs := []) (ok_shares_of T) hr hgd (by decide) (by rfl) T.f_shares_of.g T.f_shares_of.p T.f_shares_of.b .nil pass0 (fun _ _ => .nil) (fun _ _ h => fnRun_len h) (ga_cons (go_sl (pv 0)) (ga_one (go_sl (pv 1)))))) <|
    gs_cons (g_setLc (own := [("row", 4)]) rfl sc_least_level.nd rfl (by rfl) (sw_true rfl (by rfl) (by rfl) (by decide +kernel)) (gi_list rfl (ge_name (pv 0))) (by exact blkOk_by (show blkC ["sureties", "claim", "table", "levels", "row"] (defScope s_least_level) _ _ = true from by decide +kernel)) (fun _ _ _ _ _ => gg_name sc_least_level.nd rfl (by first | exact .inl rfl | exact .inr rfl) (hT := fun _ _ => wipe_set (by decide))) (fun _ _ _ _ _ => gts_one (gt_rd (gt_cmp (or_gt) (go_sub rfl hu1 (go_sl (pv 2)) (go_sub rfl hu1 (go_sl (pv 4)) (go_tm (ge_int)))) (go_tm (ge_int)) (by rfl)))) (fun _ _ _ _ _ => ge_sub (q := false) rfl hu1 (go_sl (pv 4)) (go_tm (ge_int)))) <|
    gs_one (g_ret (ge_if (gt_tru rfl (go_sl (pv 3))) (ge_callB (cr_maxP rfl rfl) T.n_max bb_max (by rfl) (ga_one (go_sl (pv 3)))) (ge_non)))
theorem ok_greatest_share (T : Tab K mg ad fd) : GOk Pr w K mg base CX0 4 (ad 20) (fd 20) ["sureties", "claim"] (spG K mg 2 greatest_shareF) :=
  fn_ok (k := 3) (N := ["sureties", "claim", "table", "best", "row"]) (ps := ["sureties", "claim"]) (b := greatest_shareB) T.f_greatest_share.f sc_greatest_share (by decide) fun cdv A outer s H E P hr hgd =>
    have hu1 := room_u hr 1 (by decide); have hu64 := room_u hr 64 (by decide); have hu65 := room_u hr 65 (by decide); have hu66 := room_u hr 66 (by decide)
    gs_cons (g_expr (ge_fn (dvs := []) (ok_check_sureties T) hr hgd (by decide) (by rfl) T.f_check_sureties.g T.f_check_sureties.p T.f_check_sureties.b .nil pass0 (fun _ _ => .nil) (fun _ _ h => fnRun_len h) (ga_one (go_sl (pv 0))))) <|
    gs_cons (g_expr (ge_fn (dvs := []) (ok_check_claim T) hr hgd (by decide) (by rfl) T.f_check_claim.g T.f_check_claim.p T.f_check_claim.b .nil pass0 (fun _ _ => .nil) (fun _ _ h => fnRun_len h) (ga_one (go_sl (pv 1))))) <|
    gs_cons (g_set (i := 2) sc_greatest_share.nd rfl (.inr rfl) (ge_fn (dvs := []) (ok_shares_of T) hr hgd (by decide) (by rfl) T.f_shares_of.g T.f_shares_of.p T.f_shares_of.b .nil pass0 (fun _ _ => .nil) (fun _ _ h => fnRun_len h) (ga_cons (go_sl (pv 0)) (ga_one (go_sl (pv 1)))))) <|
    gs_cons (g_if (gt_not (gt_tru rfl (go_sl (pv 0)))) (gs_one (g_ret (ge_non))) (gs_nil)) <|
    gs_cons (g_set (i := 3) sc_greatest_share.nd rfl (.inr rfl) (ge_maxV rfl T.n_max (by rfl) (go_sl (pv 2)))) <|
    gs_one (g_ret (ge_tup (ga_cons (go_tm (ge_subM rfl hu1 (ge_comp (own := [("row", 4)]) rfl sc_greatest_share.nd (gi_list rfl (ge_name (pv 0))) (by exact blkOk_by (show blkC ["sureties", "claim", "table", "best", "row"] (defScope s_greatest_share) _ _ = true from by decide +kernel)) (fun _ _ _ _ _ => gg_name sc_greatest_share.nd rfl (by first | exact .inl rfl | exact .inr rfl) (hT := fun _ _ => wipe_set (by decide))) (fun _ _ _ _ _ => gts_one (gt_rd (gt_cmp (or_eq rfl hu64) (go_sub rfl hu1 (go_sl (pv 2)) (go_sub rfl hu1 (go_sl (pv 4)) (go_tm (ge_int)))) (go_sl (pv 3)) (by rfl)))) (fun _ _ _ _ _ => ge_sub (q := false) rfl hu1 (go_sl (pv 4)) (go_tm (ge_int)))) (go_tm (ge_int)))) (ga_one (go_tm (ge_name (pv 3)))))))
theorem ok_shares (T : Tab K mg ad fd) : GOk Pr w K mg base CX0 4 (ad 21) (fd 21) ["sureties", "claim"] (spG K mg 2 sharesF) :=
  fn_ok (k := 3) (N := ["sureties", "claim", "table", "row"]) (ps := ["sureties", "claim"]) (b := sharesB) T.f_shares.f sc_shares (by decide) fun cdv A outer s H E P hr hgd =>
    have hu1 := room_u hr 1 (by decide); have hu64 := room_u hr 64 (by decide); have hu65 := room_u hr 65 (by decide); have hu66 := room_u hr 66 (by decide)
    gs_cons (g_expr (ge_fn (dvs := []) (ok_check_sureties T) hr hgd (by decide) (by rfl) T.f_check_sureties.g T.f_check_sureties.p T.f_check_sureties.b .nil pass0 (fun _ _ => .nil) (fun _ _ h => fnRun_len h) (ga_one (go_sl (pv 0))))) <|
    gs_cons (g_expr (ge_fn (dvs := []) (ok_check_claim T) hr hgd (by decide) (by rfl) T.f_check_claim.g T.f_check_claim.p T.f_check_claim.b .nil pass0 (fun _ _ => .nil) (fun _ _ h => fnRun_len h) (ga_one (go_sl (pv 1))))) <|
    gs_cons (g_set (i := 2) sc_shares.nd rfl (.inr rfl) (ge_fn (dvs := []) (ok_shares_of T) hr hgd (by decide) (by rfl) T.f_shares_of.g T.f_shares_of.p T.f_shares_of.b .nil pass0 (fun _ _ => .nil) (fun _ _ h => fnRun_len h) (ga_cons (go_sl (pv 0)) (ga_one (go_sl (pv 1)))))) <|
    gs_one (g_ret (ge_callTy (cr_tuple rfl) T.n_tuple bb_tuple (by rfl) (ga_one (go_tm (ge_comp (own := [("row", 3)]) rfl sc_shares.nd (gi_list rfl (ge_name (pv 0))) (by exact blkOk_by (show blkC ["sureties", "claim", "table", "row"] (defScope s_shares) _ _ = true from by decide +kernel)) (fun _ _ _ _ _ => gg_name sc_shares.nd rfl (by first | exact .inl rfl | exact .inr rfl) (hT := fun _ _ => wipe_set (by decide))) (fun _ _ _ _ _ => gts_nil) (fun _ _ _ _ _ => ge_sub (q := false) rfl hu1 (go_sl (pv 2)) (go_sub rfl hu1 (go_sl (pv 3)) (go_tm (ge_int)))))))))
theorem ok_even_shares (T : Tab K mg ad fd) : GOk Pr w K mg base CX0 3 (ad 22) (fd 22) ["sureties", "claim", "payer"] (spG K mg 3 even_sharesF) :=
  fn_ok (k := 2) (N := ["sureties", "claim", "payer", "level", "rows", "paid", "row", "own"]) (ps := ["sureties", "claim", "payer"]) (b := even_sharesB) T.f_even_shares.f sc_even_shares (by decide) fun cdv A outer s H E P hr hgd =>
    have hu1 := room_u hr 1 (by decide); have hu64 := room_u hr 64 (by decide); have hu65 := room_u hr 65 (by decide); have hu66 := room_u hr 66 (by decide)
    gs_cons (g_expr (ge_fn (dvs := []) (ok_check_sureties T) hr hgd (by decide) (by rfl) T.f_check_sureties.g T.f_check_sureties.p T.f_check_sureties.b .nil pass0 (fun _ _ => .nil) (fun _ _ h => fnRun_len h) (ga_one (go_sl (pv 0))))) <|
    gs_cons (g_expr (ge_fn (dvs := []) (ok_check_claim T) hr hgd (by decide) (by rfl) T.f_check_claim.g T.f_check_claim.p T.f_check_claim.b .nil pass0 (fun _ _ => .nil) (fun _ _ h => fnRun_len h) (ga_one (go_sl (pv 1))))) <|
    gs_cons (g_if (PW.pt (gw_or (gt_not (gt_val (ge_callB (cr_isi rfl) T.n_isinstance bb_isinstance (by rfl) (ga_cons (go_sl (pv 2)) (ga_one (go_tm (ge_tyN T.n_str (by rfl) bb_str))))))) (gw_or1 (gt_cmp (or_nin rfl hu65) (go_sl (pv 2)) (go_tm (ge_comp (own := [("row", 6)]) rfl sc_even_shares.nd (gi_list rfl (ge_name (pv 0))) (by exact blkOk_by (show blkC ["sureties", "claim", "payer", "level", "rows", "paid", "row", "own"] (defScope s_even_shares) _ _ = true from by decide +kernel)) (fun _ _ _ _ _ => gg_name sc_even_shares.nd rfl (by first | exact .inl rfl | exact .inr rfl) (hT := fun _ _ => wipe_set (by decide))) (fun _ _ _ _ _ => gts_nil) (fun _ _ _ _ _ => ge_sub (q := false) rfl hu1 (go_sl (pv 6)) (go_tm (ge_int))))) (by rfl))))) (gs_one (g_never)) (gs_nil)) <|
    gs_cons (g_set (i := 3) sc_even_shares.nd rfl (.inr rfl) (ge_subM rfl hu1 (ge_comp (own := [("row", 6)]) rfl sc_even_shares.nd (gi_list rfl (ge_name (pv 0))) (by exact blkOk_by (show blkC ["sureties", "claim", "payer", "level", "rows", "paid", "row", "own"] (defScope s_even_shares) _ _ = true from by decide +kernel)) (fun _ _ _ _ _ => gg_name sc_even_shares.nd rfl (by first | exact .inl rfl | exact .inr rfl) (hT := fun _ _ => wipe_set (by decide))) (fun _ _ _ _ _ => gts_one (gt_rd (gt_cmp (or_eq rfl hu64) (go_sub rfl hu1 (go_sl (pv 6)) (go_tm (ge_int))) (go_sl (pv 2)) (by rfl)))) (fun _ _ _ _ _ => ge_sub (q := false) rfl hu1 (go_sl (pv 6)) (go_tm (ge_int)))) (go_tm (ge_int)))) <|
    gs_cons (g_setLc (own := [("row", 6)]) rfl sc_even_shares.nd rfl (by rfl) (sw_true rfl (by rfl) (by rfl) (by decide +kernel)) (gi_list rfl (ge_name (pv 0))) (by exact blkOk_by (show blkC ["sureties", "claim", "payer", "level", "rows", "paid", "row", "own"] (defScope s_even_shares) _ _ = true from by decide +kernel)) (fun _ _ _ _ _ => gg_name sc_even_shares.nd rfl (by first | exact .inl rfl | exact .inr rfl) (hT := fun _ _ => wipe_set (by decide))) (fun _ _ _ _ _ => gts_one (gt_rd (gt_cmp (or_eq rfl hu64) (go_sub rfl hu1 (go_sl (pv 6)) (go_tm (ge_int))) (go_sl (pv 3)) (by rfl)))) (fun _ _ _ _ _ => ge_name (pv 6))) <|
    gs_cons (g_set (i := 5) sc_even_shares.nd rfl (.inl rfl) (ge_fn (dvs := []) (ok_shares_in T) hr hgd (by decide) (by rfl) T.f_shares_in.g T.f_shares_in.p T.f_shares_in.b .nil pass0 (fun _ _ => .nil) (fun _ _ h => fnRun_len h) (ga_cons (go_sl (pv 4)) (ga_one (go_sl (pv 1)))))) <|
    gs_one (g_ret (ge_callTy (cr_tuple rfl) T.n_tuple bb_tuple (by rfl) (ga_one (go_tm (ge_comp (own := [("row", 6), ("own", 7)]) rfl sc_even_shares.nd (gi_zip rfl T.n_zip (by rfl) (ga_cons (go_tm (ge_name (pv 4))) (ga_one (go_tm (ge_name (pv 5)))))) (by exact blkOk_by (show blkC ["sureties", "claim", "payer", "level", "rows", "paid", "row", "own"] (defScope s_even_shares) _ _ = true from by decide +kernel)) (fun _ _ _ _ _ => gg_tup rfl rfl (ggs_cons tr_wipe (gg_name sc_even_shares.nd rfl (by first | exact .inl rfl | exact .inr rfl) (hT := fun _ _ => wipe_set (by decide))) (ggs_cons tr_wipe (gg_name sc_even_shares.nd rfl (by first | exact .inl rfl | exact .inr rfl) (hT := fun _ _ => wipe_set (by decide))) (ggs_nil tr_wipe)))) (fun _ _ _ _ _ => gts_one (gt_rd (gt_cmp (or_ne rfl hu64) (go_sub rfl hu1 (go_sl (pv 6)) (go_tm (ge_int))) (go_sl (pv 2)) (by rfl)))) (fun _ _ _ _ _ => ge_tup (ga_cons (go_tm (ge_sub (q := false) rfl hu1 (go_sl (pv 6)) (go_tm (ge_int)))) (ga_one (go_tm (ge_name (pv 7)))))))))))
theorem ok_unpaid (T : Tab K mg ad fd) : GOk Pr w K mg base CX0 4 (ad 23) (fd 23) ["sureties", "claim"] (spG K mg 2 unpaidF) :=
  fn_ok (k := 3) (N := ["sureties", "claim"]) (ps := ["sureties", "claim"]) (b := unpaidB) T.f_unpaid.f sc_unpaid (by decide) fun cdv A outer s H E P hr hgd =>
    have hu1 := room_u hr 1 (by decide); have hu64 := room_u hr 64 (by decide); have hu65 := room_u hr 65 (by decide); have hu66 := room_u hr 66 (by decide)
    gs_cons (g_expr (ge_fn (dvs := []) (ok_check_sureties T) hr hgd (by decide) (by rfl) T.f_check_sureties.g T.f_check_sureties.p T.f_check_sureties.b .nil pass0 (fun _ _ => .nil) (fun _ _ h => fnRun_len h) (ga_one (go_sl (pv 0))))) <|
    gs_cons (g_expr (ge_fn (dvs := []) (ok_check_claim T) hr hgd (by decide) (by rfl) T.f_check_claim.g T.f_check_claim.p T.f_check_claim.b .nil pass0 (fun _ _ => .nil) (fun _ _ h => fnRun_len h) (ga_one (go_sl (pv 1))))) <|
    gs_one (g_ret (ge_bin (or_sub) (go_sl (pv 1)) (go_tm (ge_sumV rfl T.n_sum (by rfl) (go_tm (ge_fn (dvs := []) (ok_shares_of T) hr hgd (by decide) (by rfl) T.f_shares_of.g T.f_shares_of.p T.f_shares_of.b .nil pass0 (fun _ _ => .nil) (fun _ _ h => fnRun_len h) (ga_cons (go_sl (pv 0)) (ga_one (go_sl (pv 1))))))))))
theorem ok_most (T : Tab K mg ad fd) : GOk Pr w K mg base CX0 3 (ad 24) (fd 24) ["sureties"] (spG K mg 1 mostF) :=
  fn_ok (k := 2) (N := ["sureties", "row"]) (ps := ["sureties"]) (b := mostB) T.f_most.f sc_most (by decide) fun cdv A outer s H E P hr hgd =>
    have hu1 := room_u hr 1 (by decide); have hu64 := room_u hr 64 (by decide); have hu65 := room_u hr 65 (by decide); have hu66 := room_u hr 66 (by decide)
    gs_cons (g_expr (ge_fn (dvs := []) (ok_check_sureties T) hr hgd (by decide) (by rfl) T.f_check_sureties.g T.f_check_sureties.p T.f_check_sureties.b .nil pass0 (fun _ _ => .nil) (fun _ _ h => fnRun_len h) (ga_one (go_sl (pv 0))))) <|
    gs_one (g_ret (ge_callB (cr_sumP rfl rfl) T.n_sum bb_sum (by rfl) (ga_one (go_tm (ge_comp (own := [("row", 1)]) rfl sc_most.nd (gi_list rfl (ge_name (pv 0))) (by exact blkOk_by (show blkC ["sureties", "row"] (defScope s_most) _ _ = true from by decide +kernel)) (fun _ _ _ _ _ => gg_name sc_most.nd rfl (by first | exact .inl rfl | exact .inr rfl) (hT := fun _ _ => wipe_set (by decide))) (fun _ _ _ _ _ => gts_nil) (fun _ _ _ _ _ => ge_fn (dvs := []) (ok_room_of T) hr hgd (by decide) (by rfl) T.f_room_of.g T.f_room_of.p T.f_room_of.b .nil pass0 (fun _ _ => .nil) (fun _ _ h => fnRun_len h) (ga_one (go_sl (pv 1)))))))))
theorem ok_law (T : Tab K mg ad fd) : GOk Pr w K mg base CX0 5 (ad 25) (fd 25) ["script"] (spG K mg 1 lawF) :=
  fn_ok (k := 4) (N := ["script", "state", "turn", "weights", "amount", "told", "sureties", "top", "claim", "every", "left", "paying", "first", "payer", "alone", "due", "k", "row"]) (ps := ["script"]) (b := lawB) T.f_law.f sc_law (by decide) fun cdv A outer s H E P hr hgd =>
    have hu1 := room_u hr 1 (by decide); have hu64 := room_u hr 64 (by decide); have hu65 := room_u hr 65 (by decide); have hu66 := room_u hr 66 (by decide)
    gs_cons (g_set (i := 1) sc_law.nd rfl (.inr rfl) (ge_fn (dvs := []) (ok__law_start T) hr hgd (by decide) (by rfl) T.f__law_start.g T.f__law_start.p T.f__law_start.b .nil pass0 (fun _ _ => .nil) (fun _ _ h => fnRun_len h) (ga_one (go_sl (pv 0))))) <|
    gs_cons (g_for PassesOwn.never rfl (gi_range1 T.n_range (by rfl) (ga_one (go_tm (ge_int)))) (gg_name sc_law.nd rfl (by first | exact .inl rfl | exact .inr rfl)) (gs_cons (g_set (i := 3) sc_law.nd rfl (.inl rfl) (ge_callTy (cr_tuple rfl) T.n_tuple bb_tuple (by rfl) (ga_one (go_tm (ge_comp (own := [("k", 16)]) rfl sc_law.nd (gi_range1 T.n_range (by rfl) (ga_one (go_tm (ge_fn (dvs := []) (ok__law_draw T) hr hgd (by decide) (by rfl) T.f__law_draw.g T.f__law_draw.p T.f__law_draw.b .nil pass0 (fun _ _ => .nil) (fun _ _ h => fnRun_len h) (ga_cons (go_sl (pv 1)) (ga_one (go_tm (ge_int)))))))) (by exact blkOk_by (show blkC ["script", "state", "turn", "weights", "amount", "told", "sureties", "top", "claim", "every", "left", "paying", "first", "payer", "alone", "due", "k", "row"] (defScope s_law) _ _ = true from by decide +kernel)) (fun _ _ _ _ _ => gg_name sc_law.nd rfl (by first | exact .inl rfl | exact .inr rfl) (hT := fun _ _ => wipe_set (by decide))) (fun _ _ _ _ _ => gts_nil) (fun _ _ _ _ _ => ge_subM rfl hu1 (ge_lst (ga_cons (go_tm (ge_int)) (ga_cons (go_tm (ge_int)) (ga_cons (go_tm (ge_fn (dvs := []) (ok__law_draw T) hr hgd (by decide) (by rfl) T.f__law_draw.g T.f__law_draw.p T.f__law_draw.b .nil pass0 (fun _ _ => .nil) (fun _ _ h => fnRun_len h) (ga_cons (go_sl (pv 1)) (ga_one (go_tm (ge_int)))))) (ga_one (go_tm (ge_fn (dvs := []) (ok__law_draw T) hr hgd (by decide) (by rfl) T.f__law_draw.g T.f__law_draw.p T.f__law_draw.b .nil pass0 (fun _ _ => .nil) (fun _ _ h => fnRun_len h) (ga_cons (go_sl (pv 1)) (ga_one (go_tm (ge_int))))))))))) (go_tm (ge_fn (dvs := []) (ok__law_draw T) hr hgd (by decide) (by rfl) T.f__law_draw.g T.f__law_draw.p T.f__law_draw.b .nil pass0 (fun _ _ => .nil) (fun _ _ h => fnRun_len h) (ga_cons (go_sl (pv 1)) (ga_one (go_tm (ge_int)))))))))))) <|
    gs_cons (g_set (i := 4) sc_law.nd rfl (.inl rfl) (ge_subM rfl hu1 (ge_lst (ga_cons (go_tm (ge_int)) (ga_cons (go_tm (ge_int)) (ga_cons (go_tm (ge_fn (dvs := []) (ok__law_draw T) hr hgd (by decide) (by rfl) T.f__law_draw.g T.f__law_draw.p T.f__law_draw.b .nil pass0 (fun _ _ => .nil) (fun _ _ h => fnRun_len h) (ga_cons (go_sl (pv 1)) (ga_one (go_tm (ge_int)))))) (ga_one (go_tm (ge_fn (dvs := []) (ok__law_draw T) hr hgd (by decide) (by rfl) T.f__law_draw.g T.f__law_draw.p T.f__law_draw.b .nil pass0 (fun _ _ => .nil) (fun _ _ h => fnRun_len h) (ga_cons (go_sl (pv 1)) (ga_one (go_tm (ge_int))))))))))) (go_tm (ge_fn (dvs := []) (ok__law_draw T) hr hgd (by decide) (by rfl) T.f__law_draw.g T.f__law_draw.p T.f__law_draw.b .nil pass0 (fun _ _ => .nil) (fun _ _ h => fnRun_len h) (ga_cons (go_sl (pv 1)) (ga_one (go_tm (ge_int)))))))) <|
    gs_cons (g_set (i := 5) sc_law.nd rfl (.inl rfl) (ge_callTy (cr_tuple rfl) T.n_tuple bb_tuple (by rfl) (ga_one (go_tm (ge_fn (dvs := []) (ok__law_parts T) hr hgd (by decide) (by rfl) T.f__law_parts.g T.f__law_parts.p T.f__law_parts.b .nil pass0 (fun _ _ => .nil) (fun _ _ h => fnRun_len h) (ga_cons (go_sl (pv 3)) (ga_one (go_sl (pv 4))))))))) <|
    gs_cons (g_if (PW.pt (gw_or (gt_not (gt_val (ge_fn (dvs := []) (ok__law_same_as T) hr hgd (by decide) (by rfl) T.f__law_same_as.g T.f__law_same_as.p T.f__law_same_as.b .nil pass0 (fun _ _ => .nil) (fun _ _ h => fnRun_len h) (ga_cons (go_tm (ge_fn (dvs := []) (ok_parts T) hr hgd (by decide) (by rfl) T.f_parts.g T.f_parts.p T.f_parts.b .nil pass0 (fun _ _ => .nil) (fun _ _ h => fnRun_len h) (ga_cons (go_sl (pv 3)) (ga_one (go_sl (pv 4)))))) (ga_one (go_sl (pv 5))))))) (gw_or1 (gt_cmp (or_notN) (go_tm (ge_fn (dvs := []) (ok_accept_parts T) hr hgd (by decide) (by rfl) T.f_accept_parts.g T.f_accept_parts.p T.f_accept_parts.b .nil pass0 (fun _ _ => .nil) (fun _ _ h => fnRun_len h) (ga_cons (go_sl (pv 3)) (ga_cons (go_sl (pv 4)) (ga_one (go_sl (pv 5))))))) (go_tm (ge_non)) (by rfl))))) (gs_one (g_ret (ge_bl))) (gs_nil)) <|
    gs_cons (g_set (i := 6) sc_law.nd rfl (.inr rfl) (ge_fn (dvs := []) (ok__law_sureties T) hr hgd (by decide) (by rfl) T.f__law_sureties.g T.f__law_sureties.p T.f__law_sureties.b .nil pass0 (fun _ _ => .nil) (fun _ _ h => fnRun_len h) (ga_cons (go_sl (pv 1)) (ga_one (go_tm (ge_subM rfl hu1 (ge_lst (ga_cons (go_tm (ge_int)) (ga_one (go_tm (ge_int))))) (go_tm (ge_fn (dvs := []) (ok__law_draw T) hr hgd (by decide) (by rfl) T.f__law_draw.g T.f__law_draw.p T.f__law_draw.b .nil pass0 (fun _ _ => .nil) (fun _ _ h => fnRun_len h) (ga_cons (go_sl (pv 1)) (ga_one (go_tm (ge_int)))))))))))) <|
    gs_cons (g_set (i := 7) sc_law.nd rfl (.inl rfl) (ge_callB (cr_sumP rfl rfl) T.n_sum bb_sum (by rfl) (ga_one (go_tm (ge_comp (own := [("row", 17)]) rfl sc_law.nd (gi_list rfl (ge_name (pv 6))) (by exact blkOk_by (show blkC ["script", "state", "turn", "weights", "amount", "told", "sureties", "top", "claim", "every", "left", "paying", "first", "payer", "alone", "due", "k", "row"] (defScope s_law) _ _ = true from by decide +kernel)) (fun _ _ _ _ _ => gg_name sc_law.nd rfl (by first | exact .inl rfl | exact .inr rfl) (hT := fun _ _ => wipe_set (by decide))) (fun _ _ _ _ _ => gts_nil) (fun _ _ _ _ _ => ge_rd (ge_callB (cr_minP rfl rfl) T.n_min bb_min (by rfl) (ga_cons (go_sub rfl hu1 (go_sl (pv 17)) (go_tm (ge_int))) (ga_one (go_sub rfl hu1 (go_sl (pv 17)) (go_tm (ge_int)))))))))))) <|
    gs_cons (g_set (i := 8) sc_law.nd rfl (.inl rfl) (ge_callB (cr_minP rfl rfl) T.n_min bb_min (by rfl) (ga_cons (go_tm (ge_int)) (ga_one (go_tm (ge_subM rfl hu1 (ge_lst (ga_cons (go_tm (ge_int)) (ga_cons (go_tm (ge_int)) (ga_cons (go_tm (ge_name (pv 7))) (ga_cons (go_tm (ge_callB (cr_maxP rfl rfl) T.n_max bb_max (by rfl) (ga_cons (go_tm (ge_int)) (ga_one (go_tm (ge_bin (or_sub) (go_sl (pv 7)) (go_tm (ge_int)))))))) (ga_cons (go_tm (ge_bin (or_add rfl) (go_sl (pv 7)) (go_tm (ge_int)))) (ga_one (go_tm (ge_fn (dvs := []) (ok__law_draw T) hr hgd (by decide) (by rfl) T.f__law_draw.g T.f__law_draw.p T.f__law_draw.b .nil pass0 (fun _ _ => .nil) (fun _ _ h => fnRun_len h) (ga_cons (go_sl (pv 1)) (ga_one (go_tm (ge_int))))))))))))) (go_tm (ge_fn (dvs := []) (ok__law_draw T) hr hgd (by decide) (by rfl) T.f__law_draw.g T.f__law_draw.p T.f__law_draw.b .nil pass0 (fun _ _ => .nil) (fun _ _ h => fnRun_len h) (ga_cons (go_sl (pv 1)) (ga_one (go_tm (ge_int)))))))))))) <|
    gs_cons (g_asg (ge_fn (dvs := []) (ok__law_shares T) hr hgd (by decide) (by rfl) T.f__law_shares.g T.f__law_shares.p T.f__law_shares.b .nil pass0 (fun _ _ => .nil) (fun _ _ h => fnRun_len h) (ga_cons (go_sl (pv 6)) (ga_one (go_sl (pv 8))))) (gg_tup rfl rfl (ggs_cons tr_true (gg_name sc_law.nd rfl (by first | exact .inl rfl | exact .inr rfl)) (ggs_cons tr_true (gg_name sc_law.nd rfl (by first | exact .inl rfl | exact .inr rfl)) (ggs_nil tr_true))))) <|
    gs_cons (g_if (PW.pt (gw_or (gt_not (gt_val (ge_fn (dvs := []) (ok__law_same_as T) hr hgd (by decide) (by rfl) T.f__law_same_as.g T.f__law_same_as.p T.f__law_same_as.b .nil pass0 (fun _ _ => .nil) (fun _ _ h => fnRun_len h) (ga_cons (go_tm (ge_fn (dvs := []) (ok_shares T) hr hgd (by decide) (by rfl) T.f_shares.g T.f_shares.p T.f_shares.b .nil pass0 (fun _ _ => .nil) (fun _ _ h => fnRun_len h) (ga_cons (go_sl (pv 6)) (ga_one (go_sl (pv 8)))))) (ga_one (go_tm (ge_callTy (cr_tuple rfl) T.n_tuple bb_tuple (by rfl) (ga_one (go_sl (pv 9)))))))))) (gw_or1 (gt_not (gt_val (ge_fn (dvs := []) (ok__law_same_as T) hr hgd (by decide) (by rfl) T.f__law_same_as.g T.f__law_same_as.p T.f__law_same_as.b .nil pass0 (fun _ _ => .nil) (fun _ _ h => fnRun_len h) (ga_cons (go_tm (ge_lst (ga_cons (go_tm (ge_fn (dvs := []) (ok_unpaid T) hr hgd (by decide) (by rfl) T.f_unpaid.g T.f_unpaid.p T.f_unpaid.b .nil pass0 (fun _ _ => .nil) (fun _ _ h => fnRun_len h) (ga_cons (go_sl (pv 6)) (ga_one (go_sl (pv 8)))))) (ga_one (go_tm (ge_fn (dvs := []) (ok_most T) hr hgd (by decide) (by rfl) T.f_most.g T.f_most.p T.f_most.b .nil pass0 (fun _ _ => .nil) (fun _ _ h => fnRun_len h) (ga_one (go_sl (pv 6))))))))) (ga_one (go_tm (ge_lst (ga_cons (go_tm (ge_name (pv 10))) (ga_one (go_tm (ge_name (pv 7))))))))))))))) (gs_one (g_ret (ge_bl))) (gs_nil)) <|
    gs_cons (g_if (gt_cmp (or_notN) (go_tm (ge_fn (dvs := []) (ok_accept_shares T) hr hgd (by decide) (by rfl) T.f_accept_shares.g T.f_accept_shares.p T.f_accept_shares.b .nil pass0 (fun _ _ => .nil) (fun _ _ h => fnRun_len h) (ga_cons (go_sl (pv 6)) (ga_cons (go_sl (pv 8)) (ga_one (go_tm (ge_callTy (cr_tuple rfl) T.n_tuple bb_tuple (by rfl) (ga_one (go_sl (pv 9)))))))))) (go_tm (ge_non)) (by rfl)) (gs_one (g_ret (ge_bl))) (gs_nil)) <|
    gs_cons (g_setLc (own := [("k", 16)]) rfl sc_law.nd rfl (by rfl) (sw_true rfl (by rfl) (by rfl) (by decide +kernel)) (gi_range1 T.n_range (by rfl) (ga_one (go_tm (ge_callB (cr_len rfl) T.n_len bb_len (by rfl) (ga_one (go_sl (pv 6))))))) (by exact blkOk_by (show blkC ["script", "state", "turn", "weights", "amount", "told", "sureties", "top", "claim", "every", "left", "paying", "first", "payer", "alone", "due", "k", "row"] (defScope s_law) _ _ = true from by decide +kernel)) (fun _ _ _ _ _ => gg_name sc_law.nd rfl (by first | exact .inl rfl | exact .inr rfl) (hT := fun _ _ => wipe_set (by decide))) (fun _ _ _ _ _ => gts_one (gt_rd (gt_cmp (or_gt) (go_sub rfl hu1 (go_sl (pv 9)) (go_sl (pv 16))) (go_tm (ge_int)) (by rfl)))) (fun _ _ _ _ _ => ge_rd (ge_sub (q := true) rfl hu1 (go_sub rfl hu1 (go_sl (pv 6)) (go_sl (pv 16))) (go_tm (ge_int))))) <|
    gs_cons (g_if (gt_not (gt_val (ge_fn (dvs := []) (ok__law_same_as T) hr hgd (by decide) (by rfl) T.f__law_same_as.g T.f__law_same_as.p T.f__law_same_as.b .nil pass0 (fun _ _ => .nil) (fun _ _ h => fnRun_len h) (ga_cons (go_tm (ge_fn (dvs := []) (ok_least_level T) hr hgd (by decide) (by rfl) T.f_least_level.g T.f_least_level.p T.f_least_level.b .nil pass0 (fun _ _ => .nil) (fun _ _ h => fnRun_len h) (ga_cons (go_sl (pv 6)) (ga_one (go_sl (pv 8)))))) (ga_one (go_tm (ge_if (gt_tru rfl (go_sl (pv 11))) (ge_callB (cr_maxP rfl rfl) T.n_max bb_max (by rfl) (ga_one (go_sl (pv 11)))) (ge_non)))))))) (gs_one (g_ret (ge_bl))) (gs_nil)) <|
    gs_cons (g_set (i := 12) sc_law.nd rfl (.inl rfl) (ge_if (gt_tru rfl (go_sl (pv 9))) (ge_index rfl hu65 (go_sl (pv 9)) (go_tm (ge_callB (cr_maxP rfl rfl) T.n_max bb_max (by rfl) (ga_one (go_sl (pv 9)))))) (ge_non))) <|
    gs_cons (g_if (gt_not (gt_val (ge_fn (dvs := []) (ok__law_same_as T) hr hgd (by decide) (by rfl) T.f__law_same_as.g T.f__law_same_as.p T.f__law_same_as.b .nil pass0 (fun _ _ => .nil) (fun _ _ h => fnRun_len h) (ga_cons (go_tm (ge_fn (dvs := []) (ok_greatest_share T) hr hgd (by decide) (by rfl) T.f_greatest_share.g T.f_greatest_share.p T.f_greatest_share.b .nil pass0 (fun _ _ => .nil) (fun _ _ h => fnRun_len h) (ga_cons (go_sl (pv 6)) (ga_one (go_sl (pv 8)))))) (ga_one (go_rd (go_tm (ge_if (gt_cmp (or_isN) (go_sl (pv 12)) (go_tm (ge_non)) (by rfl)) (ge_non) (ge_tup (ga_cons (go_tm (ge_sub (q := true) rfl hu1 (go_sub rfl hu1 (go_sl (pv 6)) (go_sl (pv 12))) (go_tm (ge_int)))) (ga_one (go_tm (ge_sub (q := true) rfl hu1 (go_sl (pv 9)) (go_sl (pv 12))))))))))))))) (gs_one (g_ret (ge_bl))) (gs_nil)) <|
    gs_one (g_if (gt_tru rfl (go_sl (pv 6))) (gs_cons (g_set (i := 13) sc_law.nd rfl (.inr rfl) (ge_sub (q := false) rfl hu1 (go_sl (pv 6)) (go_tm (ge_fn (dvs := []) (ok__law_draw T) hr hgd (by decide) (by rfl) T.f__law_draw.g T.f__law_draw.p T.f__law_draw.b .nil pass0 (fun _ _ => .nil) (fun _ _ h => fnRun_len h) (ga_cons (go_sl (pv 1)) (ga_one (go_tm (ge_callB (cr_len rfl) T.n_len bb_len (by rfl) (ga_one (go_sl (pv 6))))))))))) <|
    gs_cons (g_set (i := 14) sc_law.nd rfl (.inr rfl) (ge_subM rfl hu1 (ge_fn (dvs := []) (ok__law_level T) hr hgd (by decide) (by rfl) T.f__law_level.g T.f__law_level.p T.f__law_level.b .nil pass0 (fun _ _ => .nil) (fun _ _ h => fnRun_len h) (ga_cons (go_sl (pv 6)) (ga_cons (go_tm (ge_sub (q := false) rfl hu1 (go_sl (pv 13)) (go_tm (ge_int)))) (ga_one (go_sl (pv 8)))))) (go_tm (ge_int)))) <|
    gs_cons (g_set (i := 15) sc_law.nd rfl (.inl rfl) (ge_callTy (cr_tuple rfl) T.n_tuple bb_tuple (by rfl) (ga_one (go_tm (ge_comp (own := [("k", 16)]) rfl sc_law.nd (gi_range1 T.n_range (by rfl) (ga_one (go_tm (ge_callB (cr_len rfl) T.n_len bb_len (by rfl) (ga_one (go_sl (pv 6))))))) (by exact blkOk_by (show blkC ["script", "state", "turn", "weights", "amount", "told", "sureties", "top", "claim", "every", "left", "paying", "first", "payer", "alone", "due", "k", "row"] (defScope s_law) _ _ = true from by decide +kernel)) (fun _ _ _ _ _ => gg_name sc_law.nd rfl (by first | exact .inl rfl | exact .inr rfl) (hT := fun _ _ => wipe_set (by decide))) (fun _ _ _ _ _ => gts_one (gt_rd (PW.pt (gw_and (gt_cmp (or_eq rfl hu64) (go_sub rfl hu1 (go_sub rfl hu1 (go_sl (pv 6)) (go_sl (pv 16))) (go_tm (ge_int))) (go_sub rfl hu1 (go_sl (pv 13)) (go_tm (ge_int))) (by rfl)) (gw_and1 (gt_cmp (or_ne rfl hu64) (go_sub rfl hu1 (go_sub rfl hu1 (go_sl (pv 6)) (go_sl (pv 16))) (go_tm (ge_int))) (go_sub rfl hu1 (go_sl (pv 13)) (go_tm (ge_int))) (by rfl))))))) (fun _ _ _ _ _ => ge_rd (ge_tup (ga_cons (go_tm (ge_sub (q := true) rfl hu1 (go_sub rfl hu1 (go_sl (pv 6)) (go_sl (pv 16))) (go_tm (ge_int)))) (ga_one (go_tm (ge_sub (q := true) rfl hu1 (go_sl (pv 14)) (go_sl (pv 16))))))))))))) <|
    gs_one (g_if (gt_not (gt_val (ge_fn (dvs := []) (ok__law_same_as T) hr hgd (by decide) (by rfl) T.f__law_same_as.g T.f__law_same_as.p T.f__law_same_as.b .nil pass0 (fun _ _ => .nil) (fun _ _ h => fnRun_len h) (ga_cons (go_tm (ge_fn (dvs := []) (ok_even_shares T) hr hgd (by decide) (by rfl) T.f_even_shares.g T.f_even_shares.p T.f_even_shares.b .nil pass0 (fun _ _ => .nil) (fun _ _ h => fnRun_len h) (ga_cons (go_sl (pv 6)) (ga_cons (go_sl (pv 8)) (ga_one (go_sub rfl hu1 (go_sl (pv 13)) (go_tm (ge_int)))))))) (ga_one (go_sl (pv 15))))))) (gs_one (g_ret (ge_bl))) (gs_nil))) (gs_nil)))) <|
    gs_one (g_ret (ge_bl))
/-! the end -/
end Xk44

/-! k44: parts of a sum by weights: plain mathematics. -/
namespace Xk44
open GX
/-- l[i], 0 behind its end -/
def nth (l : List Int) (i : Nat) : Int := l.getD i 0
theorem nth_of {l : List Int} {i : Nat} (h : i < l.length) : l[i]? = some (nth l i) := by simp [nth, h]
theorem nth_set {l : List Int} {i j : Nat} {v : Int} (h : i < l.length) : nth (l.set i v) j = if i = j then v else nth l j := by
  unfold nth
  rw [List.getD_eq_getElem?_getD, List.getD_eq_getElem?_getD, List.getElem?_set]
  by_cases e : i = j
  · subst e; simp [h]
  · simp [e]
theorem nth_mem {l : List Int} {i : Nat} (h : i < l.length) : nth l i ∈ l := List.mem_of_getElem? (nth_of h)
theorem ext_nth {a b : List Int} (hl : a.length = b.length) (h : ∀ i, i < a.length → nth a i = nth b i) : a = b := by
  apply List.ext_getElem hl
  intro i h1 h2
  have := h i h1
  simpa [nth, h1, h2] using this
theorem sum_set : ∀ {l : List Int} {i : Nat} {v : Int}, i < l.length → (l.set i v).sum = l.sum - nth l i + v
  | [], i, v, h => by simp at h
  | x :: l, 0, v, h => by simp [nth]; omega
  | x :: l, i + 1, v, h => by
    have := sum_set (l := l) (i := i) (v := v) (by simpa using h)
    have e : nth (x :: l) (i + 1) = nth l i := by simp [nth]
    rw [List.set_cons_succ, List.sum_cons, List.sum_cons, this, e]
    omega
theorem sum_nn : ∀ {l : List Int}, (∀ x ∈ l, 0 ≤ x) → 0 ≤ l.sum
  | [], _ => by simp
  | x :: l, h => by
    have := sum_nn (l := l) fun y hy => h y (List.mem_cons_of_mem _ hy)
    have := h x (List.mem_cons_self ..)
    simp; omega
theorem perm_sum {a b : List Int} (h : a.Perm b) : a.sum = b.sum := by
  induction h with
  | nil => rfl
  | cons x _ ih => simp only [List.sum_cons, ih]
  | swap x y l => simp only [List.sum_cons]; omega
  | trans _ _ h1 h2 => rw [h1, h2]
def quo (ws : List Int) (amt : Int) : List Int := ws.map fun w => amt * w / ws.sum
def prs (ws : List Int) (amt : Int) : List (Int × Int) := ws.zipIdx.map fun p => (-(amt * p.1 % ws.sum), ((p.2 : Nat) : Int))
def bump (f : List Int) (p : Int × Int) : List Int := f.set p.2.toNat (nth f p.2.toNat + 1)
def cntP (ws : List Int) (amt : Int) : Int := amt - (quo ws amt).sum
def prt (ws : List Int) (amt : Int) : List Int := if ws.sum = 0 then List.replicate ws.length 0 else ((sortP (prs ws amt)).take (cntP ws amt).toNat).foldl bump (quo ws amt)
theorem bump_len (f : List Int) (p : Int × Int) : (bump f p).length = f.length := by simp [bump]
theorem bumps_len : ∀ (l : List (Int × Int)) (f : List Int), (l.foldl bump f).length = f.length
  | [], f => rfl
  | p :: l, f => by rw [List.foldl_cons, bumps_len l, bump_len]
theorem prt_len (ws : List Int) (amt : Int) : (prt ws amt).length = ws.length := by
  unfold prt
  split
  · simp
  · rw [bumps_len]; simp [quo]
theorem bumps_nth : ∀ (l : List (Int × Int)) (f : List Int) (i : Nat), (∀ p ∈ l, 0 ≤ p.2 ∧ p.2 < f.length) → (l.map (·.2)).Nodup → nth (l.foldl bump f) i = nth f i + (if (i : Int) ∈ l.map (·.2) then 1 else 0)
  | [], f, i, _, _ => by simp
  | p :: l, f, i, h, nd => by
    have hp := h p (List.mem_cons_self ..)
    simp only [List.map_cons, List.nodup_cons] at nd
    rw [List.foldl_cons, bumps_nth l _ i (fun q hq => by rw [bump_len]; exact h q (List.mem_cons_of_mem _ hq)) nd.2]
    unfold bump
    rw [nth_set (by omega)]
    by_cases e : p.2.toNat = i
    · have e2 : (i : Int) = p.2 := by omega
      have n : ¬ (i : Int) ∈ l.map (·.2) := by rw [e2]; exact nd.1
      rw [if_pos e, if_neg n, e]
      simp [e2]
    · have e2 : ¬ (i : Int) = p.2 := by omega
      rw [if_neg e]
      simp only [List.map_cons, List.mem_cons, e2, false_or]
/-- pairs: their places are 0 .. n-1 -/
theorem prs_snd (ws : List Int) (amt : Int) : (prs ws amt).map (·.2) = (List.range ws.length).map fun i : Nat => (i : Int) := by
  unfold prs
  rw [List.map_map]
  apply List.ext_getElem?
  intro i
  simp [List.getElem?_zipIdx]
  by_cases h : i < ws.length
  · simp [h]
  · simp [h]
theorem sort_nodup (ws : List Int) (amt : Int) : ((sortP (prs ws amt)).map (·.2)).Nodup := by
  have hp := (sortP_perm (prs ws amt)).map (·.2)
  rw [hp.nodup_iff, prs_snd]
  refine List.Pairwise.map _ (R := fun a b : Nat => a ≠ b) (fun a b h e => h (by omega)) ?_
  exact List.nodup_range
theorem sort_mem {ws : List Int} {amt : Int} {p : Int × Int} (h : p ∈ sortP (prs ws amt)) : ∃ i : Nat, i < ws.length ∧ p = (-(amt * nth ws i % ws.sum), (i : Int)) := by
  have h := (sortP_perm (prs ws amt)).mem_iff.mp h
  unfold prs at h
  obtain ⟨⟨w, i⟩, hm, rfl⟩ := List.mem_map.mp h
  have hm := List.mem_zipIdx_iff_getElem?.mp hm
  have hi := (List.getElem?_eq_some_iff.mp hm).1
  rw [nth_of hi] at hm
  have e := Option.some.inj hm
  exact ⟨i, hi, by rw [e]⟩
theorem take_sub {ws : List Int} {amt : Int} {n : Nat} : ∀ p ∈ (sortP (prs ws amt)).take n, p ∈ sortP (prs ws amt) := fun p hp => List.mem_of_mem_take hp
/-- rests -/
def rest (ws : List Int) (amt : Int) : List Int := ws.map fun w => amt * w % ws.sum
theorem quo_rest (ws : List Int) (amt t : Int) : ∀ l : List Int, amt * l.sum = t * (l.map fun w => amt * w / t).sum + (l.map fun w => amt * w % t).sum
  | [] => by simp
  | w :: l => by
    have := quo_rest ws amt t l
    have e := Int.mul_ediv_add_emod (amt * w) t
    simp only [List.sum_cons, List.map_cons]
    rw [Int.mul_add, Int.mul_add, this]
    omega
theorem cnt_rest {ws : List Int} {amt : Int} : ws.sum * cntP ws amt = (rest ws amt).sum := by
  have := quo_rest ws amt ws.sum ws
  unfold cntP rest
  have e : (quo ws amt).sum = (ws.map fun w => amt * w / ws.sum).sum := rfl
  rw [Int.mul_sub, e, Int.mul_comm ws.sum amt]
  omega
/-- of the rests the first ones are above 0 -/
theorem rest_pos {ws : List Int} {amt : Int} (ht : 0 < ws.sum) : 0 ≤ cntP ws amt ∧ (cntP ws amt).toNat ≤ ws.length ∧ ∀ p ∈ (sortP (prs ws amt)).take (cntP ws amt).toNat, p.1 < 0 := by
  have c := cnt_rest (ws := ws) (amt := amt)
  have hr : ∀ x ∈ rest ws amt, 0 ≤ x ∧ x < ws.sum := fun x hx => by
    obtain ⟨w, _, rfl⟩ := List.mem_map.mp hx
    exact ⟨Int.emod_nonneg _ (by omega), Int.emod_lt_of_pos _ ht⟩
  have nn := sum_nn fun x hx => (hr x hx).1
  have c0 : 0 ≤ cntP ws amt := by
    refine Decidable.byContradiction fun q => ?_
    have : ws.sum * cntP ws amt < 0 := Int.mul_neg_of_pos_of_neg ht (by omega)
    omega
  -- sum of rests by the sorted pairs
  have es : (rest ws amt).sum = ((sortP (prs ws amt)).map fun p => -p.1).sum := by
    have hp := perm_sum ((sortP_perm (prs ws amt)).map fun p => -p.1)
    rw [hp]
    congr 1
    unfold prs rest
    rw [List.map_map]
    apply List.ext_getElem?
    intro i
    simp only [List.getElem?_map, List.getElem?_zipIdx]
    cases ws[i]? <;> simp
  have bnd : ∀ p ∈ sortP (prs ws amt), 0 ≤ -p.1 ∧ -p.1 < ws.sum := fun p hp => by
    obtain ⟨i, hi, rfl⟩ := sort_mem hp
    have := hr (amt * nth ws i % ws.sum) (List.mem_map.mpr ⟨_, nth_mem hi, rfl⟩)
    simp only
    omega
  have len : (sortP (prs ws amt)).length = ws.length := by rw [(sortP_perm _).length_eq]; simp [prs]
  have sorted := sortP_sorted (prs ws amt)
  generalize hS : sortP (prs ws amt) = S at es bnd len sorted
  generalize hk : (cntP ws amt).toNat = k
  have hkc : cntP ws amt = k := by omega
  rw [es, hkc] at c
  -- all sums below t * number
  have up : ∀ l : List (Int × Int), (∀ p ∈ l, 0 ≤ -p.1 ∧ -p.1 < ws.sum) → (l.map fun p => -p.1).sum ≤ ws.sum * (l.filter fun p => decide (p.1 < 0)).length ∧ (0 < (l.filter fun p => decide (p.1 < 0)).length → (l.map fun p => -p.1).sum < ws.sum * (l.filter fun p => decide (p.1 < 0)).length) := by
    intro l
    induction l with
    | nil => intro _; simp
    | cons p l ih =>
      intro h
      obtain ⟨i1, i2⟩ := ih fun q hq => h q (List.mem_cons_of_mem _ hq)
      have hp := h p (List.mem_cons_self ..)
      simp only [List.map_cons, List.sum_cons, List.filter_cons]
      by_cases q : p.1 < 0
      · simp only [q, decide_true, if_true, List.length_cons]
        have e : ws.sum * (((l.filter fun p => decide (p.1 < 0)).length + 1 : Nat) : Int) = ws.sum * (l.filter fun p => decide (p.1 < 0)).length + ws.sum := by
          push_cast
          rw [Int.mul_add, Int.mul_one]
        rw [e]
        exact ⟨by omega, fun _ => by omega⟩
      · have z : p.1 = 0 := by omega
        simp only [q, decide_false]
        rw [z]
        simp only [Int.neg_zero, Int.zero_add]
        exact ⟨by simpa using i1, fun h => by simpa using i2 (by simpa using h)⟩
  obtain ⟨u1, u2⟩ := up S bnd
  have kl : k ≤ (S.filter fun p => decide (p.1 < 0)).length := by
    refine Decidable.byContradiction fun q => ?_
    have h1 : (((S.filter fun p => decide (p.1 < 0)).length : Nat) : Int) + 1 ≤ k := by omega
    have h2 := Int.mul_le_mul_of_nonneg_left h1 (Int.le_of_lt ht)
    rw [Int.mul_add, Int.mul_one] at h2
    omega
  refine ⟨c0, ?_, fun p hp => ?_⟩
  · have := List.length_filter_le (fun p : Int × Int => decide (p.1 < 0)) S
    omega
  · refine Decidable.byContradiction fun q => ?_
    -- p stands at some place below k, all from there on are 0
    obtain ⟨i, hi, rfl⟩ := List.mem_iff_getElem.mp hp
    rw [List.length_take] at hi
    have hi2 : i < S.length := by omega
    rw [List.getElem_take] at q
    have split : S = S.take i ++ S.drop i := (List.take_append_drop i S).symm
    have hdrop : (S.drop i).filter (fun p => decide (p.1 < 0)) = [] := by
      rw [List.filter_eq_nil_iff]
      intro r hr
      obtain ⟨j, hj, rfl⟩ := List.mem_iff_getElem.mp hr
      rw [List.getElem_drop]
      rw [List.length_drop] at hj
      have b := bnd S[i] (List.getElem_mem _)
      have b2 := bnd (S[i + j]'(by omega)) (List.getElem_mem _)
      simp only [decide_eq_true_eq]
      rcases Nat.eq_zero_or_pos j with z | z
      · subst z; simpa using q
      · have := List.pairwise_iff_getElem.mp sorted i (i + j) hi2 (by omega) (by omega)
        omega
    have hle : (S.filter fun p => decide (p.1 < 0)).length ≤ i := by
      rw [split, List.filter_append, hdrop, List.append_nil]
      have := List.length_filter_le (fun p : Int × Int => decide (p.1 < 0)) (S.take i)
      rw [List.length_take] at this
      omega
    omega
theorem prt_nth {ws : List Int} {amt : Int} (ht : 0 < ws.sum) {i : Nat} (hi : i < ws.length) : 0 ≤ nth (prt ws amt) i - amt * nth ws i / ws.sum ∧ nth (prt ws amt) i - amt * nth ws i / ws.sum ≤ (if amt * nth ws i % ws.sum = 0 then 0 else 1) := by
  obtain ⟨c0, ck, cp⟩ := rest_pos (ws := ws) (amt := amt) ht
  have hq : nth (quo ws amt) i = amt * nth ws i / ws.sum := by
    have : (quo ws amt)[i]? = some (amt * nth ws i / ws.sum) := by simp only [quo, List.getElem?_map, nth_of hi, Option.map_some]
    have h2 : i < (quo ws amt).length := by simp [quo, hi]
    rw [nth_of h2] at this
    exact Option.some.inj this
  unfold prt
  rw [if_neg (by omega), bumps_nth _ _ _ (fun p hp => by
    obtain ⟨j, hj, rfl⟩ := sort_mem (take_sub p hp)
    simp only [quo, List.length_map]
    omega) ((sort_nodup ws amt).sublist ((List.take_sublist _ _).map _)), hq]
  by_cases hm : (i : Int) ∈ ((sortP (prs ws amt)).take (cntP ws amt).toNat).map (·.2)
  · rw [if_pos hm]
    obtain ⟨p, hp, e⟩ := List.mem_map.mp hm
    obtain ⟨j, hj, rfl⟩ := sort_mem (take_sub p hp)
    have := cp _ hp
    simp only at this e
    have e2 : j = i := by omega
    subst e2
    have em := Int.emod_nonneg (amt * nth ws j) (show ws.sum ≠ 0 by omega)
    rw [if_neg (by omega)]
    omega
  · rw [if_neg hm]
    split <;> omega
theorem foldl_sum : ∀ (l : List (Int × Int)) (f : List Int), (∀ p ∈ l, 0 ≤ p.2 ∧ p.2 < f.length) → (l.foldl bump f).sum = f.sum + l.length
  | [], f, _ => by simp
  | p :: l, f, h => by
    have hp := h p (List.mem_cons_self ..)
    rw [List.foldl_cons, foldl_sum l _ (fun q hq => by rw [bump_len]; exact h q (List.mem_cons_of_mem _ hq))]
    unfold bump
    rw [sum_set (by omega)]
    simp only [List.length_cons]
    omega
theorem prt_sum {ws : List Int} {amt : Int} (ht : 0 < ws.sum) : (prt ws amt).sum = amt := by
  obtain ⟨c0, ck, cp⟩ := rest_pos (ws := ws) (amt := amt) ht
  unfold prt
  rw [if_neg (by omega), foldl_sum _ _ (fun p hp => by
    obtain ⟨j, hj, rfl⟩ := sort_mem (take_sub p hp)
    simp only [quo, List.length_map]
    omega), List.length_take, (sortP_perm _).length_eq]
  have : (prs ws amt).length = ws.length := by simp [prs]
  have e : cntP ws amt = amt - (quo ws amt).sum := rfl
  omega
theorem prt_nn {ws : List Int} {amt : Int} (ha : 0 ≤ amt) (hw : ∀ w ∈ ws, 0 ≤ w) : ∀ x ∈ prt ws amt, 0 ≤ x := fun x hx => by
  have hs := sum_nn hw
  by_cases ht : ws.sum = 0
  · unfold prt at hx
    rw [if_pos ht] at hx
    have := List.eq_of_mem_replicate hx
    omega
  · obtain ⟨i, hi, rfl⟩ := List.mem_iff_getElem.mp hx
    rw [prt_len] at hi
    have h := (prt_nth (ws := ws) (amt := amt) (by omega) hi).1
    have e : (prt ws amt)[i]'(by rw [prt_len]; exact hi) = nth (prt ws amt) i := by simp [nth, prt_len, hi]
    rw [e]
    have q : 0 ≤ amt * nth ws i / ws.sum := Int.ediv_nonneg (Int.mul_nonneg ha (hw _ (nth_mem hi))) hs
    omega
end Xk44

namespace Xk44
open PySem PySem.Spec PyProof.Rows L2 GX
/-! the law's draws -/
structure St where
  cells : List Int
  pos : Nat
  cur : Int
  seed : Int
def St.enc (s : St) : PV := .lst true [.lst true (s.cells.map .int), .int s.cur, .int s.pos, .int s.seed]
@[simp] theorem St.enc_pure (s : St) : s.enc.pure = false := by simp [St.enc]
def St.ok (s : St) : Prop := s.pos ≤ s.cells.length
theorem run_start (ns : List Int) : ∃ s : St, s.ok ∧ _law_startF [.val (.zls (ns.map .int))] = some (s.enc, [.un]) := by
  have h : ∀ Q : PV × List Slot → Prop, (∀ s : St, s.ok → Q (s.enc, [.un])) → W (_law_startF [.val (.zls (ns.map .int))]) (Q := ⟨Q⟩) := fun Q hQ => by
    simp [_law_startF, W_fn, _law_startB, _law_start_l1]
    refine W_forL (α := Int) (fun p q ρ => ∃ (i : Int) (y : Slot), y.loc = true ∧ ρ = [.val (.zls (ns.map .int)), .val (.int i), y]) ⟨7, .un, rfl, rfl⟩ (fun p x q ρ e ⟨i, y, hy, hr⟩ => ?_) fun ρ ⟨i, y, hy, hr⟩ => ?_
    · subst hr
      have hm : MulOk i 48271 := mulOk_r (by decide)
      simp [_law_start_l1b, hy, hm]
    · subst hr
      have := hQ ⟨ns, 0, 0, i⟩ (Nat.zero_le _)
      simpa [St.enc] using this
  obtain ⟨a, e, s, h1, h2⟩ := h (fun r => ∃ s : St, s.ok ∧ r = (s.enc, [.un])) fun s h => ⟨s, h, rfl⟩
  exact ⟨s, h1, by rw [e, h2]⟩
theorem run_draw {s : St} (hs : s.ok) (n : Int) (h0 : 0 < n) (h1 : n < 18446744073709551616) : ∃ (s' : St) (v : Int), s'.ok ∧ (0 ≤ v ∧ v < n) ∧ _law_drawF [.ref s.enc, .val (.int n)] = some (.int v, [.ref s'.enc, .un]) := by
  have h : ∀ Q : PV × List Slot → Prop, (∀ (s : St) (v : Int), s.ok → (0 ≤ v ∧ v < n) → Q (.int v, [.ref s.enc, .un])) → W (_law_drawF [.ref s.enc, .val (.int n)]) (Q := ⟨Q⟩) := fun Q hQ => by
    have hd : DivOk n := divOk h0 h1
    have hm : MulOk s.seed 48271 := mulOk_r (by decide)
    have hv : ∀ i : Int, 0 ≤ i % n ∧ i % n < n := fun i => ⟨Int.emod_nonneg _ (by omega), Int.emod_lt_of_pos _ h0⟩
    have d13 : DivOk 13 := by decide
    have tail : ∀ (c : List Int) (q : Nat) (u z : Int), q ≤ c.length → Q (.int (u % n), [.ref (.lst true [.lst true (c.map .int), .int (u / n), .int q, .int z]), .un]) := fun c q u z hq => hQ ⟨c, q, u / n, z⟩ _ hq (hv u)
    simp [_law_drawF, W_fn, _law_drawB, St.enc, hd, hm, h0, d13]
    refine Br.mk (fun hc => ?_) fun hc => ?_
    · simp
      refine Br.mk (fun hp => ?_) fun hp => ?_
      · simp [hm, d13, h0]
        exact hQ ⟨s.cells, s.pos, s.cur, (s.seed * 48271 + 69621) % 2147483629⟩ _ hs (hv _)
      · simp [hc, atI_pos (xs := s.cells) (i := (s.pos : Int)) (by omega) (by omega), h0, hd]
        exact tail s.cells (s.pos + 1) _ s.seed (by omega)
    · simp [hc, h0, hd]
      exact tail s.cells s.pos s.cur s.seed hs
  obtain ⟨a, e, s, v, h1, h2, h3⟩ := h (fun r => ∃ (s : St) (v : Int), s.ok ∧ (0 ≤ v ∧ v < n) ∧ r = (.int v, [.ref s.enc, .un])) fun s v h h' => ⟨s, v, h, h', rfl⟩
  exact ⟨s, v, h1, h2, by rw [e, h3]⟩
theorem run_same {s1 s2 : Slot} {a b : PV} (h1 : s1.get = some a) (h2 : s2.get = some b) (h : Alike a b) : _law_same_asF [s1, s2] = some (.bl true, [outS s1, outS s2]) := by
  obtain ⟨x, e1, e2⟩ := h.repr
  have e3 := h.peq
  apply eq_W
  simp [_law_same_asF, W_fn, _law_same_asB, h1, h2, e1, e2, e3]
end Xk44

namespace Xk44
open PySem PySem.Spec PyProof.Rows L2 GX
/-- weights and sums as they may be -/
structure WsOk (ws : List Int) : Prop where
  len : ws.length ≤ 12
  rg : ∀ x ∈ ws, 0 ≤ x ∧ x ≤ 1000000000
structure AmOk (a : Int) : Prop where
  lo : 0 ≤ a
  hi : a ≤ 1000000000
theorem enumL_map {α : Type} (enc : α → PV) : ∀ (xs : List α) (k : Nat), enumL k (xs.map enc) = (xs.zipIdx k).map fun p => .tup [.int (p.2 : Nat), enc p.1]
  | [], k => rfl
  | x :: xs, k => by
    rw [List.map_cons, List.zipIdx_cons, List.map_cons, ← enumL_map enc xs (k + 1)]
    rfl
theorem sum_le : ∀ {l : List Int} {b : Int}, (∀ x ∈ l, 0 ≤ x ∧ x ≤ b) → 0 ≤ l.sum ∧ l.sum ≤ b * l.length
  | [], b, _ => by simp
  | x :: l, b, h => by
    have := sum_le (l := l) (b := b) fun y hy => h y (List.mem_cons_of_mem _ hy)
    have hx := h x (List.mem_cons_self ..)
    simp only [List.sum_cons, List.length_cons]
    push_cast
    rw [Int.mul_add, Int.mul_one]
    omega
theorem mem_le_sum : ∀ {l : List Int} {x : Int}, (∀ y ∈ l, 0 ≤ y) → x ∈ l → x ≤ l.sum
  | y :: l, x, h, hx => by
    have h1 := sum_nn fun z hz => h z (List.mem_cons_of_mem _ hz)
    have h2 := h y (List.mem_cons_self ..)
    simp only [List.sum_cons]
    rcases List.mem_cons.mp hx with rfl | q
    · omega
    · have := mem_le_sum (fun z hz => h z (List.mem_cons_of_mem _ hz)) q
      omega
theorem WsOk.sum {ws : List Int} (h : WsOk ws) : 0 ≤ ws.sum ∧ ws.sum ≤ 12000000000 := by
  have := sum_le h.rg
  have := h.len
  omega
theorem quo_rg {ws : List Int} {a : Int} (h : WsOk ws) (ha : AmOk a) (ht : 0 < ws.sum) : ∀ x ∈ quo ws a, 0 ≤ x ∧ x ≤ 1000000000 := fun x hx => by
  obtain ⟨w, hw, rfl⟩ := List.mem_map.mp hx
  have w0 := h.rg w hw
  have w1 := mem_le_sum (fun y hy => (h.rg y hy).1) hw
  have e := Int.mul_le_mul_of_nonneg_left w1 ha.lo
  have := ha.hi
  refine ⟨Int.ediv_nonneg (Int.mul_nonneg ha.lo w0.1) (by omega), ?_⟩
  have := Int.ediv_le_ediv ht e
  rw [Int.mul_ediv_cancel _ (by omega)] at this
  omega
@[simp] theorem reps_one {α : Type} (k : Nat) (x : α) : reps k [x] = List.replicate k x := by simp [reps]
theorem ati {l : List Int} {i : Int} (h0 : 0 ≤ i) (h : i < l.length) : atI l i = some (nth l i.toNat) := by
  rw [atI_pos h0 h]
  have : i.toNat < l.length := by omega
  simp [nth, this]
theorem loop_by {w0 w1 w2 w4 w7 : Slot} {S : List (Int × Int)} {f : List Int} {Q : Out → Prop} (hS : ∀ p ∈ S, 0 ≤ p.2 ∧ p.2 < f.length)
    (k : ∀ y5 y6, Q (.nx [w0, w1, w2, .val (.lst true ((S.foldl bump f).map .int)), w4, y5, y6, w7])) :
    W (forL (gTp 2 (gsCons (gNm 5) (gsCons (gNm 6) gsNil))) parts_by_l1b (S.map pE) [w0, w1, w2, .val (.lst true (f.map .int)), w4, .un, .un, w7]) (Q := ⟨Q⟩) := by
  refine W_forL (fun p q ρ => ∃ y5 y6 : Slot, y5.loc = true ∧ y6.loc = true ∧ ρ = [w0, w1, w2, .val (.lst true ((p.foldl bump f).map .int)), w4, y5, y6, w7]) ⟨.un, .un, rfl, rfl, rfl⟩ (fun p x q ρ e ⟨y5, y6, l5, l6, hr⟩ => ?_) fun ρ ⟨y5, y6, _, _, hr⟩ => ?_
  · subst hr
    have hx := hS x (by rw [e]; simp)
    have hl := bumps_len p f
    have h1 := ati (l := p.foldl bump f) hx.1 (by rw [hl]; exact hx.2)
    have h2 := ixN_pos (n := f.length) hx.1 hx.2
    simp [pE, parts_by_l1b, l5, l6, h1, h2, hl]
    simp [bump, List.map_set]
  · subst hr
    exact k y5 y6
theorem loop_law {w0 w1 w2 w4 w7 : Slot} {S : List (Int × Int)} {f : List Int} {Q : Out → Prop} (hS : ∀ p ∈ S, 0 ≤ p.2 ∧ p.2 < f.length)
    (k : ∀ y5 y6, Q (.nx [w0, w1, w2, .val (.lst true ((S.foldl bump f).map .int)), w4, y5, y6, w7])) :
    W (forL (gTp 2 (gsCons (gNm 5) (gsCons (gNm 6) gsNil))) _law_parts_l1b (S.map pE) [w0, w1, w2, .val (.lst true (f.map .int)), w4, .un, .un, w7]) (Q := ⟨Q⟩) := by
  refine W_forL (fun p q ρ => ∃ y5 y6 : Slot, y5.loc = true ∧ y6.loc = true ∧ ρ = [w0, w1, w2, .val (.lst true ((p.foldl bump f).map .int)), w4, y5, y6, w7]) ⟨.un, .un, rfl, rfl, rfl⟩ (fun p x q ρ e ⟨y5, y6, l5, l6, hr⟩ => ?_) fun ρ ⟨y5, y6, _, _, hr⟩ => ?_
  · subst hr
    have hx := hS x (by rw [e]; simp)
    have hl := bumps_len p f
    have h1 := ati (l := p.foldl bump f) hx.1 (by rw [hl]; exact hx.2)
    have h2 := ixN_pos (n := f.length) hx.1 hx.2
    simp [pE, _law_parts_l1b, l5, l6, h1, h2, hl]
    simp [bump, List.map_set]
  · subst hr
    exact k y5 y6
theorem run_parts_by (w : PV) {ws : List Int} {a : Int} (hw : w = .tup (ws.map .int) ∨ w = .lst true (ws.map .int)) (h : WsOk ws) (ha : AmOk a) : parts_byF [.val w, .val (.int a)] = some (.lst true ((prt ws a).map .int), [.un, .un]) := by
  apply eq_W
  have l1 := h.len
  have hs := h.sum
  have g1 : ws.length ≤ 1000000 := by omega
  have g2 : ∀ i ∈ ws, -1000000000000 ≤ i ∧ i ≤ 1000000000000 := fun i hi => by have := h.rg i hi; omega
  have hd : 0 < ws.sum → DivOk ws.sum := fun q => divOk q (by omega)
  rcases hw with rfl | rfl
  all_goals
    simp [parts_byF, parts_byB, W_fn, g1, g2, parts_by_c1]
    refine Br.mk (fun hz => ?_) fun hz => ?_
    · simp [hz]
      refine An.mk ⟨by omega, by omega⟩ ?_
      simp [prt, hz]
    · have ht : 0 < ws.sum := by omega
      have hd := hd ht
      simp [hz]
      have q1 := quo_rg h ha ht
      have q2 : ∀ i ∈ quo ws a, -1000000000000 ≤ i ∧ i ≤ 1000000000000 := fun i hi => by have := q1 i hi; omega
      have q3 : (quo ws a).length = ws.length := by simp [quo]
      obtain ⟨c0, ck, cp⟩ := rest_pos (ws := ws) (amt := a) ht
      refine An.mk (by omega) (W_compM (fun x => .int (a * x / ws.sum)) (fun x hx => ?_) ?_)
      · have hm : MulOk a x := mulOk_r (by have := h.rg x hx; omega)
        simp [hm, hd]
      have eq : ws.map (fun x => PV.int (a * x / ws.sum)) = (quo ws a).map .int := by simp [quo]
      rw [eq]
      simp [parts_by_c2, enumL_map]
      refine An.mk (by omega) ?_
      simp [enumL_map]
      refine W_compM (fun p : Int × Nat => pE (-(a * p.1 % ws.sum), ((p.2 : Nat) : Int))) (fun p hp => ?_) ?_
      · have hx : p.1 ∈ ws := by
          have := List.mem_zipIdx_iff_getElem?.mp hp
          exact List.mem_of_getElem? this
        have hm : MulOk a p.1 := mulOk_r (by have := h.rg p.1 hx; omega)
        simp [hm, hd, pE, ht]
      have ep : ws.zipIdx.map (fun p => pE (-(a * p.1 % ws.sum), ((p.2 : Nat) : Int))) = (prs ws a).map pE := by simp [prs]
      rw [ep]
      have lp : (prs ws a).length ≤ 16777216 := by simp [prs]; omega
      simp [psortL_pairs _ lp, q2, q3, g1, parts_by_l1]
      have ec : a - (quo ws a).sum = cntP ws a := rfl
      rw [ec, cut_take _ _ c0]
      refine loop_by (fun p hp => ?_) fun y5 y6 => ?_
      · obtain ⟨j, hj, rfl⟩ := sort_mem (take_sub p hp)
        simp only [q3]
        omega
      · simp [prt, hz]
end Xk44

namespace Xk44
open PySem PySem.Spec PyProof.Rows L2 GX
theorem irng_zip {β : Type} (g : Int → Int → β) (ws : List Int) : (irng 0 ws.length).map (fun k => g (nth ws k.toNat) k) = ws.zipIdx.map fun p => g p.1 ((p.2 : Nat) : Int) := by
  have e : irng 0 ws.length = (List.range ws.length).map fun i : Nat => (i : Int) := by
    simp [irng]
  rw [e, List.map_map]
  apply List.ext_getElem?
  intro i
  simp only [List.getElem?_map, List.getElem?_zipIdx]
  by_cases h : i < ws.length
  · simp [h, nth]
  · simp [h]
theorem run_law_parts (w : PV) {ws : List Int} {a : Int} (hw : w = .tup (ws.map .int) ∨ w = .lst true (ws.map .int)) (h : WsOk ws) (ha : AmOk a) : _law_partsF [.val w, .val (.int a)] = some (.lst true ((prt ws a).map .int), [.un, .un]) := by
  apply eq_W
  have l1 := h.len
  have hs := h.sum
  have g1 : ws.length ≤ 1000000 := by omega
  have g2 : ∀ i ∈ ws, -1000000000000 ≤ i ∧ i ≤ 1000000000000 := fun i hi => by have := h.rg i hi; omega
  have hd : 0 < ws.sum → DivOk ws.sum := fun q => divOk q (by omega)
  rcases hw with rfl | rfl
  all_goals
    simp [_law_partsF, _law_partsB, W_fn, g1, g2, _law_parts_c1]
    refine Br.mk (fun hz => ?_) fun hz => ?_
    · simp [hz]
      refine An.mk ⟨by omega, by omega⟩ ?_
      simp [prt, hz]
    · have ht : 0 < ws.sum := by omega
      have hd := hd ht
      have q1 := quo_rg h ha ht
      have q2 : ∀ i ∈ quo ws a, -1000000000000 ≤ i ∧ i ≤ 1000000000000 := fun i hi => by have := q1 i hi; omega
      have q3 : (quo ws a).length = ws.length := by simp [quo]
      obtain ⟨c0, ck, cp⟩ := rest_pos (ws := ws) (amt := a) ht
      simp [hz]
      refine An.mk (by omega) (W_compM (fun x => .int (a * x / ws.sum)) (fun x hx => ?_) ?_)
      · have hm : MulOk a x := mulOk_r (by have := h.rg x hx; omega)
        simp [hm, hd]
      have eq : ws.map (fun x => PV.int (a * x / ws.sum)) = (quo ws a).map .int := by simp [quo]
      rw [eq]
      have sm : smallI ws.length = true := smallI_of (by omega) (by omega)
      simp [_law_parts_c2, sm]
      refine An.mk (by omega) (W_compM (fun k : Int => pE (-(a * nth ws k.toNat % ws.sum), k)) (fun k hk => ?_) ?_)
      · have hk := irng_mem.mp hk
        have h1 := ati (l := ws) hk.1 hk.2
        have hm : MulOk a (nth ws k.toNat) := mulOk_r (by have := h.rg _ (nth_mem (l := ws) (i := k.toNat) (by omega)); omega)
        simp [hm, hd, pE, ht, h1]
      have ep : (irng 0 ws.length).map (fun k : Int => pE (-(a * nth ws k.toNat % ws.sum), k)) = (prs ws a).map pE := by
        rw [irng_zip (fun w k => pE (-(a * w % ws.sum), k))]
        simp [prs]
      rw [ep]
      have lp : (prs ws a).length ≤ 16777216 := by simp [prs]; omega
      simp [psortL_pairs _ lp, q2, q3, g1, _law_parts_l1]
      have ec : a - (quo ws a).sum = cntP ws a := rfl
      rw [ec, cut_take _ _ c0]
      refine loop_law (fun p hp => ?_) fun y5 y6 => ?_
      · obtain ⟨j, hj, rfl⟩ := sort_mem (take_sub p hp)
        simp only [q3]
        omega
      · simp [prt, hz]
theorem run_is_integer (i : Int) : is_integerF [.val (.int i)] = some (.bl true, [.un]) := by
  apply eq_W
  simp [is_integerF, is_integerB, W_fn]
theorem run_parts {ws : List Int} {a : Int} (h : WsOk ws) (ha : AmOk a) : partsF [.val (.tup (ws.map .int)), .val (.int a)] = some (.tup ((prt ws a).map .int), [.un, .un]) := by
  apply eq_W
  have l1 := h.len
  have l2 : ¬ (12 : Int) < ws.length := by omega
  simp [partsF, partsB, W_fn, k_MAX_PARTIES, k_MAX_SUM, l2, run_is_integer, parts_c1, run_parts_by _ (.inl rfl) h ha, ha.lo, ha.hi]
  refine An.mk (by omega) (W_compM (fun x => .bl true) (fun x hx => ?_) ?_)
  · have := h.rg x hx
    simp [run_is_integer, this]
  simp [run_is_integer, k_MAX_SUM, run_parts_by _ (.inl rfl) h ha, ha.lo, ha.hi]
theorem zipL_map {α β : Type} (f : α → PV) (g : β → PV) : ∀ (xs : List α) (ys : List β), zipL (xs.map f) (ys.map g) = (xs.zip ys).map fun p => .tup [f p.1, g p.2]
  | [], ys => by cases ys <;> rfl
  | x :: xs, [] => rfl
  | x :: xs, y :: ys => by
    rw [List.map_cons, List.map_cons, zipL, zipL_map f g xs ys]
    rfl
theorem zip_nth {a b : List Int} {p : Int × Int} (h : p ∈ a.zip b) : ∃ i, i < a.length ∧ i < b.length ∧ p = (nth a i, nth b i) := by
  obtain ⟨i, hi, rfl⟩ := List.mem_iff_getElem.mp h
  rw [List.length_zip] at hi
  refine ⟨i, by omega, by omega, ?_⟩
  have h1 : i < a.length := by omega
  have h2 : i < b.length := by omega
  simp [nth, h1, h2]
theorem run_accept_parts {ws : List Int} {a : Int} (h : WsOk ws) (ha : AmOk a) : accept_partsF [.val (.tup (ws.map .int)), .val (.int a), .val (.tup ((prt ws a).map .int))] = some (.non, [.un, .un, .un]) := by
  apply eq_W
  have l1 := h.len
  have hs := h.sum
  have g1 : ws.length ≤ 1000000 := by omega
  have g2 : ∀ i ∈ ws, -1000000000000 ≤ i ∧ i ≤ 1000000000000 := fun i hi => by have := h.rg i hi; omega
  have p1 := prt_nn (ws := ws) (amt := a) ha.lo fun w hw => (h.rg w hw).1
  have p3 : ∀ i ∈ prt ws a, -1000000000000 ≤ i ∧ i ≤ 1000000000000 := fun i hi => by
    have := p1 i hi
    by_cases hz : ws.sum = 0
    · unfold prt at hi
      rw [if_pos hz] at hi
      have := List.eq_of_mem_replicate hi
      omega
    · have h1 := mem_le_sum p1 hi
      rw [prt_sum (by omega)] at h1
      have := ha.hi
      omega
  simp [accept_partsF, accept_partsB, W_fn, k_MAX_PARTIES, k_MAX_SUM, run_is_integer, run_parts h ha, accept_parts_c1, prt_len]
  refine An.mk (by omega) (W_compM (fun x => .bl true) (fun x hx => ?_) ?_)
  · simp [run_is_integer]
  simp [g1, g2, p3, prt_len]
  refine Br.mk (fun hz => ?_) fun hz => ?_
  · simp [accept_parts_l1, zipL_map]
    refine W_forL (α := Int × Int) (fun p q ρ => ∃ y5 y6 : Slot, y5.loc = true ∧ y6.loc = true ∧ ρ = [.val (.tup (ws.map .int)), .val (.int a), .val (.tup ((prt ws a).map .int)), .val (.tup ((prt ws a).map .int)), .val (.int ws.sum), y5, y6]) ⟨.un, .un, rfl, rfl, rfl⟩ (fun p x q ρ e ⟨y5, y6, l5, l6, hr⟩ => ?_) fun ρ ⟨y5, y6, _, _, hr⟩ => ?_
    · subst hr
      obtain ⟨i, i1, i2, rfl⟩ := zip_nth (show x ∈ (prt ws a).zip ws by rw [e]; simp)
      have hm : MulOk a (nth ws i) := mulOk_r (by have := h.rg _ (nth_mem i2); omega)
      have hd := divOk hz (by omega)
      have hp := prt_nth (amt := a) hz i2
      have hp1 : a * nth ws i / ws.sum ≤ nth (prt ws a) i := by have := hp.1; omega
      have hpos : ¬ ws.sum = 0 := by omega
      simp [accept_parts_l1b, l5, l6, hm, hd, hz, hp1]
      by_cases h0 : a * nth ws i % ws.sum = 0
      · rw [if_pos h0] at hp
        have hp2 : nth (prt ws a) i - a * nth ws i / ws.sum ≤ 0 := hp.2
        simp [h0, hp2, hm, hd, hz]
      · rw [if_neg h0] at hp
        have hp2 : nth (prt ws a) i - a * nth ws i / ws.sum ≤ 1 := hp.2
        simp [h0, hp2, hm, hd, hz]
    · subst hr
      simp
  · simp
end Xk44

/-! k44: sureties, what they pay: plain mathematics. -/
namespace Xk44
open PySem PySem.Spec PyProof.Rows L2 GX
structure R where
  nm : Str
  lev : Int
  lim : Int
  mea : Int
def R.room (r : R) : Int := min r.lim r.mea
abbrev Rs := List (R × Int)
abbrev Sel := R → Bool
def pds (st : Rs) : List Int := st.map (·.2)
def rws (st : Rs) : List R := st.map (·.1)
def isO (sel : Sel) (x : R × Int) : Bool := sel x.1 && decide (x.2 < x.1.room)
def opens (sel : Sel) (st : Rs) : Rs := st.filter (isO sel)
def lims (sel : Sel) (st : Rs) : List Int := (opens sel st).map fun x => x.1.lim
def dist (sel : Sel) : Rs → List Int → Rs
  | [], _ => []
  | x :: st, qs => if isO sel x = true then (match qs with
    | [] => x :: dist sel st []
    | q :: qs => (x.1, x.2 + min q (x.1.room - x.2)) :: dist sel st qs) else x :: dist sel st qs
def got (sel : Sel) : Rs → List Int → Int
  | [], _ => 0
  | x :: st, qs => if isO sel x = true then (match qs with
    | [] => got sel st []
    | q :: qs => min q (x.1.room - x.2) + got sel st qs) else got sel st qs
theorem dist_rws (sel : Sel) : ∀ (st : Rs) (qs : List Int), rws (dist sel st qs) = rws st
  | [], _ => rfl
  | x :: st, qs => by
    unfold dist
    split
    · split
      · simp only [rws, List.map_cons]
        congr 1
        exact dist_rws sel st []
      · next q qs =>
        simp only [rws, List.map_cons]
        congr 1
        exact dist_rws sel st qs
    · simp only [rws, List.map_cons]
      congr 1
      exact dist_rws sel st qs
theorem dist_sum (sel : Sel) : ∀ (st : Rs) (qs : List Int), (pds (dist sel st qs)).sum = (pds st).sum + got sel st qs
  | [], _ => rfl
  | x :: st, qs => by
    unfold dist got
    split
    · split
      · have := dist_sum sel st []
        simp only [pds, List.map_cons, List.sum_cons] at this ⊢
        omega
      · next q qs =>
        have := dist_sum sel st qs
        simp only [pds, List.map_cons, List.sum_cons] at this ⊢
        omega
    · have := dist_sum sel st qs
      simp only [pds, List.map_cons, List.sum_cons] at this ⊢
      omega
/-- none pays below 0 or beyond what it can -/
def Fit (st : Rs) : Prop := ∀ x ∈ st, 0 ≤ x.2 ∧ x.2 ≤ x.1.room
theorem dist_step (sel : Sel) : ∀ (st : Rs) (qs : List Int), Fit st → (∀ q ∈ qs, 0 ≤ q) → qs.length = (opens sel st).length →
    Fit (dist sel st qs) ∧ (0 ≤ got sel st qs ∧ got sel st qs ≤ qs.sum) ∧ (opens sel (dist sel st qs)).length ≤ (opens sel st).length ∧ (got sel st qs = qs.sum ∨ (opens sel (dist sel st qs)).length < (opens sel st).length)
  | [], qs, hf, hq, hl => by
    simp only [opens, List.filter_nil, List.length_nil, List.length_eq_zero_iff] at hl
    subst hl
    exact ⟨hf, by simp [got], by simp [opens, dist], .inl rfl⟩
  | x :: st, qs, hf, hq, hl => by
    have hx := hf x (List.mem_cons_self ..)
    have hf2 : Fit st := fun y hy => hf y (List.mem_cons_of_mem _ hy)
    by_cases o : isO sel x = true
    · have o2 := o
      simp only [isO, Bool.and_eq_true, decide_eq_true_eq] at o2
      cases qs with
      | nil => simp [opens, List.filter_cons, o] at hl
      | cons q qs =>
        have hq0 := hq q (List.mem_cons_self ..)
        simp only [opens, List.filter_cons, o, if_true, List.length_cons, Nat.add_right_cancel_iff] at hl
        obtain ⟨i1, ⟨i2, i3⟩, i4, i5⟩ := dist_step sel st qs hf2 (fun y hy => hq y (List.mem_cons_of_mem _ hy)) hl
        unfold dist got
        rw [if_pos o, if_pos o]
        simp only [opens, List.filter_cons, o, if_true, List.length_cons, List.sum_cons] at i4 i5 ⊢
        have hm : min q (x.1.room - x.2) ≤ q ∧ 0 ≤ min q (x.1.room - x.2) ∧ min q (x.1.room - x.2) ≤ x.1.room - x.2 ∧ (min q (x.1.room - x.2) = q ∨ min q (x.1.room - x.2) = x.1.room - x.2) := by omega
        generalize min q (x.1.room - x.2) = m at hm
        refine ⟨fun y hy => ?_, by omega, ?_, ?_⟩
        · rcases List.mem_cons.mp hy with rfl | h
          · simp only; omega
          · exact i1 y h
        · split
          · simp only [List.length_cons]; omega
          · omega
        · by_cases hh : m = q
          · subst hh
            rcases i5 with i5 | i5
            · left; omega
            · right
              split
              · simp only [List.length_cons]; omega
              · omega
          · right
            have : isO sel (x.1, x.2 + m) = false := by
              simp only [isO, Bool.and_eq_false_iff, decide_eq_false_iff_not]
              right
              omega
            rw [this]
            simp only [Bool.false_eq_true, if_false]
            omega
    · have hl2 : qs.length = (opens sel st).length := by simpa [opens, List.filter_cons, o] using hl
      obtain ⟨i1, i2, i4, i5⟩ := dist_step sel st qs hf2 hq hl2
      unfold dist got
      rw [if_neg o, if_neg o]
      simp only [opens, List.filter_cons, o] at i4 i5 ⊢
      refine ⟨fun y hy => ?_, i2, by simpa using i4, by simpa using i5⟩
      rcases List.mem_cons.mp hy with rfl | h
      · exact hx
      · exact i1 y h
abbrev Sx := Rs × Int
def Stop (sel : Sel) (s : Sx) : Prop := s.2 ≤ 0 ∨ opens sel s.1 = []
instance (sel : Sel) (s : Sx) : Decidable (Stop sel s) := by unfold Stop; infer_instance
def stepS (sel : Sel) (s : Sx) : Sx := (dist sel s.1 (prt (lims sel s.1) s.2), s.2 - got sel s.1 (prt (lims sel s.1) s.2))
def iter (sel : Sel) : Nat → Sx → Sx
  | 0, s => s
  | k + 1, s => if Stop sel s then s else iter sel k (stepS sel s)
def mu (sel : Sel) (s : Sx) : Nat := if Stop sel s then 0 else (opens sel s.1).length + 1
/-- what sureties may be -/
structure ROk (r : R) : Prop where
  l0 : 0 ≤ r.lev
  l1 : r.lev ≤ 12
  m0 : 0 ≤ r.lim
  m1 : r.lim ≤ 1000000000
  n0 : 0 ≤ r.mea
  n1 : r.mea ≤ 1000000000
def RsOk (rs : List R) : Prop := rs.length ≤ 12 ∧ ∀ r ∈ rs, ROk r
structure SOk (s : Sx) : Prop where
  rs : RsOk (rws s.1)
  fit : Fit s.1
  am : AmOk s.2
theorem opens_mem {sel : Sel} {st : Rs} {x : R × Int} (h : x ∈ opens sel st) : x ∈ st ∧ sel x.1 = true ∧ x.2 < x.1.room := by
  have := List.mem_filter.mp h
  simpa [isO] using this
theorem lims_ok {sel : Sel} {s : Sx} (h : SOk s) : WsOk (lims sel s.1) ∧ (¬ opens sel s.1 = [] → 0 < (lims sel s.1).sum) := by
  have hr : ∀ x ∈ opens sel s.1, 0 < x.1.lim ∧ x.1.lim ≤ 1000000000 := fun x hx => by
    obtain ⟨h1, h2, h3⟩ := opens_mem hx
    have f := h.fit x h1
    have k := h.rs.2 x.1 (List.mem_map.mpr ⟨x, h1, rfl⟩)
    have := k.m1
    simp only [R.room] at h3 f
    omega
  refine ⟨⟨?_, fun w hw => ?_⟩, fun hn => ?_⟩
  · have := List.length_filter_le (isO sel) s.1
    have h2 := h.rs.1
    simp only [rws, List.length_map] at h2
    simp only [lims, opens, List.length_map]
    omega
  · obtain ⟨x, hx, rfl⟩ := List.mem_map.mp hw
    have := hr x hx
    omega
  · obtain ⟨x, hx⟩ := List.exists_mem_of_ne_nil _ hn
    have h1 := mem_le_sum (l := lims sel s.1) (x := x.1.lim) (fun y hy => by
      obtain ⟨z, hz, rfl⟩ := List.mem_map.mp hy
      have := hr z hz
      omega) (List.mem_map.mpr ⟨x, hx, rfl⟩)
    have := hr x hx
    omega
theorem step_ok {sel : Sel} {s : Sx} (h : SOk s) (hn : ¬ Stop sel s) : SOk (stepS sel s) ∧ mu sel (stepS sel s) < mu sel s ∧ rws (stepS sel s).1 = rws s.1 ∧ (pds (stepS sel s).1).sum + (stepS sel s).2 = (pds s.1).sum + s.2 := by
  have hn2 := hn
  simp only [Stop, not_or] at hn2
  obtain ⟨hw, hp⟩ := lims_ok (sel := sel) h
  have hp := hp hn2.2
  obtain ⟨i1, i2, i3, i4⟩ := dist_step sel s.1 (prt (lims sel s.1) s.2) h.fit (prt_nn h.am.lo fun w hw' => (hw.rg w hw').1) (by rw [prt_len]; simp [lims])
  rw [prt_sum hp] at i2 i4
  have hs := dist_sum sel s.1 (prt (lims sel s.1) s.2)
  have hr := dist_rws sel s.1 (prt (lims sel s.1) s.2)
  have a1 := h.am.hi
  refine ⟨⟨?_, i1, ⟨?_, ?_⟩⟩, ?_, hr, ?_⟩
  · rw [show rws (stepS sel s).1 = rws s.1 from hr]; exact h.rs
  · simp only [stepS]; omega
  · simp only [stepS]; omega
  · unfold mu
    rw [if_neg hn]
    split
    · omega
    · next g =>
      simp only [Stop, not_or, stepS] at g
      simp only [stepS]
      omega
  · simp only [stepS]; omega
theorem mu_le {sel : Sel} {s : Sx} (h : SOk s) : mu sel s ≤ 13 := by
  unfold mu
  split
  · omega
  · have := List.length_filter_le (isO sel) s.1
    have h2 := h.rs.1
    simp only [rws, List.length_map] at h2
    simp only [opens]
    omega
theorem iter_end {sel : Sel} : ∀ {k : Nat} {s : Sx}, SOk s → mu sel s ≤ k → SOk (iter sel k s) ∧ Stop sel (iter sel k s) ∧ rws (iter sel k s).1 = rws s.1 ∧ (pds (iter sel k s).1).sum + (iter sel k s).2 = (pds s.1).sum + s.2
  | 0, s, h, hk => by
    have : Stop sel s := Decidable.byContradiction fun n => by unfold mu at hk; rw [if_neg n] at hk; omega
    exact ⟨h, this, rfl, rfl⟩
  | k + 1, s, h, hk => by
    unfold iter
    by_cases g : Stop sel s
    · rw [if_pos g]; exact ⟨h, g, rfl, rfl⟩
    · rw [if_neg g]
      obtain ⟨a, b, c, d⟩ := step_ok h g
      obtain ⟨e1, e2, e3, e4⟩ := iter_end (sel := sel) (k := k) a (by omega)
      exact ⟨e1, e2, e3.trans c, e4.trans d⟩
def fin (sel : Sel) (rs : List R) (c : Int) : Sx := iter sel 13 (rs.map fun r => (r, 0), c)
theorem rws_zero (rs : List R) : rws (rs.map fun r => (r, (0 : Int))) = rs := by simp [rws, Function.comp_def]
theorem pds_zero (rs : List R) : pds (rs.map fun r => (r, (0 : Int))) = List.replicate rs.length 0 := by simp [pds, Function.comp_def, List.map_const']
theorem sum_zero : ∀ n : Nat, (List.replicate n (0 : Int)).sum = 0
  | 0 => rfl
  | n + 1 => by simp [List.replicate_succ, sum_zero n]
theorem start_ok {rs : List R} {c : Int} (h : RsOk rs) (hc : AmOk c) : SOk (rs.map fun r => (r, (0 : Int)), c) := by
  refine ⟨by rw [rws_zero]; exact h, fun x hx => ?_, hc⟩
  obtain ⟨r, hr, rfl⟩ := List.mem_map.mp hx
  have k := h.2 r hr
  have := k.m0
  have := k.n0
  simp only [R.room]
  omega
theorem fin_ok {sel : Sel} {rs : List R} {c : Int} (h : RsOk rs) (hc : AmOk c) : SOk (fin sel rs c) ∧ Stop sel (fin sel rs c) ∧ rws (fin sel rs c).1 = rs ∧ (pds (fin sel rs c).1).sum + (fin sel rs c).2 = c := by
  have hs := start_ok h hc
  obtain ⟨a, b, d, e⟩ := iter_end (sel := sel) hs (mu_le hs)
  rw [rws_zero] at d
  simp only [pds_zero, sum_zero] at e
  exact ⟨a, b, d, by simp only [fin] at *; omega⟩
/-! those that are not asked stay; those that are asked pay as by themselves -/
def sub (sel : Sel) (st : Rs) : Rs := st.filter fun x => sel x.1
def tt : Sel := fun _ => true
theorem opens_sub (sel : Sel) (st : Rs) : opens sel st = opens tt (sub sel st) := by
  unfold opens sub
  rw [List.filter_filter]
  refine List.filter_congr fun x _ => ?_
  simp only [isO, tt, Bool.true_and]
  exact Bool.and_comm _ _
theorem dist_sub (sel : Sel) : ∀ (st : Rs) (qs : List Int), sub sel (dist sel st qs) = dist tt (sub sel st) qs ∧ got sel st qs = got tt (sub sel st) qs ∧ (dist sel st qs).filter (fun x => !sel x.1) = st.filter fun x => !sel x.1
  | [], _ => ⟨rfl, rfl, rfl⟩
  | x :: st, qs => by
    have e0 := dist_sub sel st []
    have e := dist_sub sel st
    unfold sub at *
    by_cases s : sel x.1 = true
    · have ho : isO sel x = isO tt x := by simp [isO, s, tt]
      by_cases o : isO sel x = true
      · have o' : isO tt x = true := ho ▸ o
        cases qs with
        | nil => simp [dist, got, o, o', s, List.filter_cons, e0]
        | cons q qs => simp [dist, got, o, o', s, List.filter_cons, e qs]
      · have o' : ¬ isO tt x = true := ho ▸ o
        simp [dist, got, o, o', s, List.filter_cons, e qs]
    · have o : ¬ isO sel x = true := by simp [isO, s]
      simp [dist, got, o, s, List.filter_cons, e qs]
theorem step_sub (sel : Sel) (s : Sx) : (sub sel (stepS sel s).1, (stepS sel s).2) = stepS tt (sub sel s.1, s.2) ∧ (stepS sel s).1.filter (fun x => !sel x.1) = s.1.filter fun x => !sel x.1 := by
  have hl : lims sel s.1 = lims tt (sub sel s.1) := by unfold lims; rw [opens_sub]
  obtain ⟨a, b, c⟩ := dist_sub sel s.1 (prt (lims sel s.1) s.2)
  unfold stepS
  simp only
  rw [a, b, c, hl]
  exact ⟨rfl, rfl⟩
theorem iter_sub (sel : Sel) : ∀ (k : Nat) (s : Sx), (sub sel (iter sel k s).1, (iter sel k s).2) = iter tt k (sub sel s.1, s.2) ∧ (iter sel k s).1.filter (fun x => !sel x.1) = s.1.filter fun x => !sel x.1
  | 0, s => ⟨rfl, rfl⟩
  | k + 1, s => by
    have hst : Stop sel s ↔ Stop tt (sub sel s.1, s.2) := by unfold Stop; rw [opens_sub]
    unfold iter
    by_cases g : Stop sel s
    · rw [if_pos g, if_pos (hst.mp g)]
      exact ⟨rfl, rfl⟩
    · rw [if_neg g, if_neg (fun h => g (hst.mpr h))]
      obtain ⟨a, b⟩ := iter_sub sel k (stepS sel s)
      obtain ⟨c, d⟩ := step_sub sel s
      rw [a, c, b, d]
      exact ⟨rfl, rfl⟩
theorem fin_sub (sel : Sel) (rs : List R) (c : Int) : sub sel (fin sel rs c).1 = (fin tt (rs.filter sel) c).1 ∧ (fin sel rs c).2 = (fin tt (rs.filter sel) c).2 ∧ ∀ x ∈ (fin sel rs c).1, sel x.1 = false → x.2 = 0 := by
  obtain ⟨a, b⟩ := iter_sub sel 13 (rs.map fun r => (r, 0), c)
  have e : sub sel (rs.map fun r => (r, (0 : Int))) = (rs.filter sel).map fun r => (r, (0 : Int)) := by
    unfold sub
    rw [List.filter_map]
    rfl
  simp only at a b
  rw [e] at a
  refine ⟨by have := congrArg Prod.fst a; exact this, by have := congrArg Prod.snd a; exact this, fun x hx hs => ?_⟩
  have : x ∈ (fin sel rs c).1.filter (fun x => !sel x.1) := List.mem_filter.mpr ⟨hx, by simp [hs]⟩
  unfold fin at this
  rw [b] at this
  obtain ⟨r, _, rfl⟩ := List.mem_map.mp (List.mem_filter.mp this).1
  rfl
end Xk44

namespace Xk44
open PySem PySem.Spec PyProof.Rows L2 GX
def R.enc (r : R) : PV := .tup [.str r.nm, .int r.lev, .int r.lim, .int r.mea]
@[simp] theorem R.enc_pure (r : R) : r.enc.pure = true := by simp [R.enc]
@[simp] theorem R.enc_0 (r : R) : pgetI r.enc (.int 0) = some (.str r.nm) := rfl
@[simp] theorem R.enc_1 (r : R) : pgetI r.enc (.int 1) = some (.int r.lev) := rfl
@[simp] theorem R.enc_2 (r : R) : pgetI r.enc (.int 2) = some (.int r.lim) := rfl
@[simp] theorem R.enc_3 (r : R) : pgetI r.enc (.int 3) = some (.int r.mea) := rfl
theorem run_room_of (r : R) : room_ofF [.val r.enc] = some (.int r.room, [.un]) := by
  apply eq_W
  simp [room_ofF, room_ofB, W_fn, R.room]
def idx (sel : Sel) (st : Rs) : List Int := (st.zipIdx.filter fun p => isO sel p.1).map fun p => ((p.2 : Nat) : Int)
def fstep (rm : List Int) (s : List Int × Int) (p : Int × Int) : List Int × Int :=
  (s.1.set p.1.toNat (nth s.1 p.1.toNat + min p.2 (nth rm p.1.toNat - nth s.1 p.1.toNat)), s.2 - min p.2 (nth rm p.1.toNat - nth s.1 p.1.toNat))
theorem nth_app {a b : List Int} {x : Int} {k : Nat} (h : k = a.length) : nth (a ++ x :: b) k = x := by subst h; simp [nth]
theorem set_app {a b : List Int} {x y : Int} {k : Nat} (h : k = a.length) : (a ++ x :: b).set k y = a ++ y :: b := by subst h; simp
theorem dist_o {sel : Sel} {x : R × Int} (o : isO sel x = true) (st : Rs) (q : Int) (qs : List Int) : dist sel (x :: st) (q :: qs) = (x.1, x.2 + min q (x.1.room - x.2)) :: dist sel st qs ∧ got sel (x :: st) (q :: qs) = min q (x.1.room - x.2) + got sel st qs := by
  constructor
  · simp only [dist, o, if_true]
  · simp only [got, o, if_true]
theorem dist_e {sel : Sel} {x : R × Int} (o : isO sel x = true) (st : Rs) : dist sel (x :: st) [] = x :: dist sel st [] ∧ got sel (x :: st) [] = got sel st [] := by
  constructor
  · simp only [dist, o, if_true]
  · simp only [got, o, if_true]
theorem dist_c {sel : Sel} {x : R × Int} (o : ¬ isO sel x = true) (st : Rs) (qs : List Int) : dist sel (x :: st) qs = x :: dist sel st qs ∧ got sel (x :: st) qs = got sel st qs := by
  constructor
  · rw [dist.eq_def]; simp only [o]; rfl
  · rw [got.eq_def]; simp only [o]; rfl
theorem fold_dist (sel : Sel) (rm : List Int) : ∀ (st pre : Rs) (qs : List Int) (left : Int), rm = (pre ++ st).map (fun x => x.1.room) →
    ((((st.zipIdx pre.length).filter fun p => isO sel p.1).map fun p => ((p.2 : Nat) : Int)).zip qs).foldl (fstep rm) (pds pre ++ pds st, left) = (pds pre ++ pds (dist sel st qs), left - got sel st qs)
  | [], pre, qs, left, _ => by simp [dist, got, pds]
  | x :: st, pre, qs, left, hrm => by
    have hlen : (pds pre).length = pre.length := by simp [pds]
    rw [List.zipIdx_cons]
    have next : ∀ (x' : R × Int) (qs : List Int) (left : Int), x'.1 = x.1 → ((((st.zipIdx (pre.length + 1)).filter fun p => isO sel p.1).map fun p => ((p.2 : Nat) : Int)).zip qs).foldl (fstep rm) (pds pre ++ x'.2 :: pds st, left) = (pds pre ++ x'.2 :: pds (dist sel st qs), left - got sel st qs) := by
      intro x' qs left hx
      have := fold_dist sel rm st (pre ++ [x']) qs left (by rw [hrm]; simp [hx])
      simpa [pds] using this
    by_cases o : isO sel x = true
    · simp only [List.filter_cons, o, if_true, List.map_cons]
      cases qs with
      | nil =>
        have := next x [] left rfl
        simp only [List.zip_nil_right, List.foldl_nil] at this ⊢
        rw [(dist_e o st).1, (dist_e o st).2]
        simpa [pds] using this
      | cons q qs =>
        simp only [List.zip_cons_cons, List.foldl_cons]
        have e1 : nth rm pre.length = x.1.room := by
          rw [hrm, List.map_append, List.map_cons]
          exact nth_app (by simp)
        have e2 : fstep rm (pds pre ++ pds (x :: st), left) (((pre.length : Nat) : Int), q) = (pds pre ++ (x.2 + min q (x.1.room - x.2)) :: pds st, left - min q (x.1.room - x.2)) := by
          have ep : pds (x :: st) = x.2 :: pds st := rfl
          unfold fstep
          simp only [Int.toNat_natCast]
          rw [ep, nth_app hlen.symm, e1, set_app hlen.symm]
        rw [e2]
        have := next (x.1, x.2 + min q (x.1.room - x.2)) qs (left - min q (x.1.room - x.2)) rfl
        rw [this]
        rw [(dist_o o st q qs).1, (dist_o o st q qs).2]
        refine Prod.ext rfl ?_
        show left - min q (x.1.room - x.2) - got sel st qs = left - (min q (x.1.room - x.2) + got sel st qs)
        omega
    · have := next x qs left rfl
      simp only [List.filter_cons, o]
      rw [(dist_c o st qs).1, (dist_c o st qs).2]
      simpa [pds] using this
theorem fold_idx (sel : Sel) {st : Rs} {rs : List R} (h : rws st = rs) (qs : List Int) (left : Int) :
    ((idx sel st).zip qs).foldl (fstep (rs.map R.room)) (pds st, left) = (pds (dist sel st qs), left - got sel st qs) := by
  have := fold_dist sel (rs.map R.room) st [] qs left (by rw [← h]; simp [rws])
  simpa [pds, idx] using this
theorem fold_len (rm : List Int) : ∀ (l : List (Int × Int)) (s : List Int × Int), (l.foldl (fstep rm) s).1.length = s.1.length
  | [], s => rfl
  | p :: l, s => by rw [List.foldl_cons, fold_len rm l]; simp [fstep]
theorem idx_len (sel : Sel) (st : Rs) : (idx sel st).length = (opens sel st).length := by
  unfold idx opens
  rw [List.length_map]
  have : st.zipIdx.map (·.1) = st := by simp
  conv => rhs; rw [← this, List.filter_map, List.length_map]
  rfl
theorem idx_lims (sel : Sel) {st : Rs} {rs : List R} (h : rws st = rs) : (idx sel st).map (fun k => nth (rs.map R.lim) k.toNat) = lims sel st := by
  unfold idx lims opens
  have : st.zipIdx.map (·.1) = st := by simp
  conv => rhs; rw [← this, List.filter_map, List.map_map]
  rw [List.map_map]
  refine List.map_congr_left fun p hp => ?_
  have hm := List.mem_zipIdx_iff_getElem?.mp (List.mem_filter.mp hp).1
  subst h
  simp [nth, rws, hm]
theorem idx_mem {sel : Sel} {st : Rs} {k : Int} (h : k ∈ idx sel st) : 0 ≤ k ∧ k < st.length := by
  obtain ⟨p, hp, rfl⟩ := List.mem_map.mp h
  have hm := List.mem_zipIdx_iff_getElem?.mp (List.mem_filter.mp hp).1
  have := (List.getElem?_eq_some_iff.mp hm).1
  omega
/-- as the program finds them -/
theorem idx_enum {st : Rs} {rs : List R} (h : rws st = rs) : ((rs.zipIdx.filter fun p => decide (nth (pds st) p.2 < p.1.room)).map fun p => ((p.2 : Nat) : Int)) = idx tt st := by
  unfold idx
  rw [← h]
  have e : (rws st).zipIdx = st.zipIdx.map fun p => (p.1.1, p.2) := by
    unfold rws
    rw [List.zipIdx_map]
    rfl
  rw [e, List.filter_map, List.map_map]
  have e2 : st.zipIdx.filter ((fun p : R × Nat => decide (nth (pds st) p.2 < p.1.room)) ∘ fun p => (p.1.1, p.2)) = st.zipIdx.filter fun p => isO tt p.1 := by
    refine List.filter_congr fun p hp => ?_
    have hm := List.mem_zipIdx_iff_getElem?.mp hp
    have : nth (pds st) p.2 = p.1.2 := by simp [nth, pds, hm]
    simp [isO, tt, this]
  rw [e2]
  rfl
/-- .. and as the law does -/
theorem idx_range {st : Rs} {rs : List R} (h : rws st = rs) (l : Int) : (irng 0 rs.length).filter (fun k => decide (nth (rs.map R.lev) k.toNat = l) && decide (nth (pds st) k.toNat < nth (rs.map R.room) k.toNat)) = idx (fun r => decide (r.lev = l)) st := by
  unfold idx
  have e : irng 0 rs.length = st.zipIdx.map fun p => ((p.2 : Nat) : Int) := by
    subst h
    apply List.ext_getElem?
    intro i
    simp only [irng, List.getElem?_map, List.getElem?_zipIdx, rws]
    by_cases q : i < st.length
    · simp [q]
    · simp [q]
  rw [e, List.filter_map]
  have e2 : st.zipIdx.filter ((fun k : Int => decide (nth (rs.map R.lev) k.toNat = l) && decide (nth (pds st) k.toNat < nth (rs.map R.room) k.toNat)) ∘ fun p => ((p.2 : Nat) : Int)) = st.zipIdx.filter fun p => isO (fun r => decide (r.lev = l)) p.1 := by
    refine List.filter_congr fun p hp => ?_
    have hm := List.mem_zipIdx_iff_getElem?.mp hp
    subst h
    have e1 : nth (pds st) p.2 = p.1.2 := by simp [nth, pds, hm]
    have e2 : nth ((rws st).map R.lev) p.2 = p.1.1.lev := by simp [nth, rws, hm]
    have e3 : nth ((rws st).map R.room) p.2 = p.1.1.room := by simp [nth, rws, hm]
    simp [isO, e1, e2, e3]
  rw [e2]
theorem atR {rs : List R} {k : Int} (h0 : 0 ≤ k) (h : k < rs.length) : ∃ r, atI rs k = some r ∧ r ∈ rs ∧ nth (rs.map R.lim) k.toNat = r.lim ∧ nth (rs.map R.lev) k.toNat = r.lev ∧ nth (rs.map R.room) k.toNat = r.room := by
  have hk : k.toNat < rs.length := by omega
  refine ⟨rs[k.toNat], atI_pos h0 h, List.getElem_mem _, ?_, ?_, ?_⟩ <;> simp [nth, hk]
theorem pds_len {st : Rs} {rs : List R} (h : rws st = rs) : (pds st).length = rs.length := by subst h; simp [pds, rws]
end Xk44

namespace Xk44
open PySem PySem.Spec PyProof.Rows L2 GX
@[simp] theorem R.enc_frz (r : R) : r.enc.frzD = r.enc := by simp [R.enc]
theorem iter_stop {sel : Sel} {s : Sx} (h : Stop sel s) : ∀ k, iter sel k s = s
  | 0 => rfl
  | k + 1 => by rw [iter, if_pos h]
theorem iter_go {sel : Sel} {s t : Sx} {k : Nat} (hs : SOk s) (h : ¬ Stop sel s) (hk : mu sel s ≤ k) (e : iter sel k s = t) : ∃ k, mu sel (stepS sel s) ≤ k ∧ iter sel k (stepS sel s) = t := by
  have hd := (step_ok hs h).2.1
  cases k with
  | zero => omega
  | succ k =>
    rw [iter, if_neg h] at e
    exact ⟨k, by omega, e⟩
theorem idx_nil {sel : Sel} {st : Rs} : idx sel st = [] ↔ opens sel st = [] := by
  rw [← List.length_eq_zero_iff, idx_len, List.length_eq_zero_iff]
theorem run_shares_in {rs : List R} {c : Int} (h : RsOk rs) (hc : AmOk c) : ∃ b, shares_inF [.ref (.lst true (rs.map R.enc)), .val (.int c)] = some (.lst true ((pds (fin tt rs c).1).map .int), [.ref (.lst b (rs.map R.enc)), .un]) := by
  have h : ∀ Q : PV × List Slot → Prop, (∀ b, Q (.lst true ((pds (fin tt rs c).1).map .int), [.ref (.lst b (rs.map R.enc)), .un])) → W (shares_inF [.ref (.lst true (rs.map R.enc)), .val (.int c)]) (Q := ⟨Q⟩) := fun Q hQ => by
    have l1 := h.1
    simp [shares_inF, shares_inB, W_fn]
    refine An.mk ⟨by omega, by omega⟩ ?_
    have e0 : List.replicate rs.length (PV.int 0) = (pds (rs.map fun r => (r, (0 : Int)))).map PV.int := by simp [pds_zero]
    simp [e0, shares_in_l2]
    refine W_while (σ := Sx × Bool × Slot × Slot × Slot × Slot × Slot) (fun s => [.ref (.lst s.2.1 (rs.map R.enc)), .val (.int c), .val (.lst true ((pds s.1.1).map .int)), .val (.int s.1.2), s.2.2.1, s.2.2.2.1, s.2.2.2.2.1, s.2.2.2.2.2.1, s.2.2.2.2.2.2, .un])
      (fun s => SOk s.1 ∧ rws s.1.1 = rs ∧ (∃ k, mu tt s.1 ≤ k ∧ iter tt k s.1 = fin tt rs c) ∧ s.2.2.1.loc = true ∧ s.2.2.2.1.loc = true ∧ s.2.2.2.2.1.loc = true ∧ s.2.2.2.2.1.pure = true ∧ s.2.2.2.2.2.1.loc = true ∧ s.2.2.2.2.2.2.loc = true) (fun s => mu tt s.1) ((rs.map fun r => (r, 0), c), true, .un, .un, .un, .un, .un) rfl ⟨start_ok h hc, rws_zero rs, ⟨13, mu_le (start_ok h hc), rfl⟩, rfl, rfl, rfl, rfl, rfl, rfl⟩ ?_
    rintro ⟨s, b, y4, y5, y6, y7, y8⟩ ⟨i1, i2, ⟨k, i3, i4⟩, l4, l5, l6, p6, l7, l8⟩
    simp only at i1 i2 i3 i4 l4 l5 l6 p6 l7 l8 ⊢
    have lp := pds_len i2
    simp [shares_in_l2t]
    refine Br.mk (fun hl => ?_) fun hl => ?_
    · have e1 : ((rs.zipIdx.filter fun p : R × Nat => decide (nth (pds s.1) p.2 < p.1.room)).map fun p => PV.int ((p.2 : Nat) : Int)) = (idx tt s.1).map .int := by
        rw [← idx_enum i2, List.map_map]
        rfl
      have key : ∀ x ∈ rs.zipIdx, nth (pds s.1) x.2 = nth (pds s.1) x.2 ∧ atI (pds s.1) ((x.2 : Nat) : Int) = some (nth (pds s.1) x.2) := fun p hp => by
        have hm := List.mem_zipIdx_iff_getElem?.mp hp
        have hi := (List.getElem?_eq_some_iff.mp hm).1
        exact ⟨rfl, ati (l := pds s.1) (i := ((p.2 : Nat) : Int)) (by omega) (by omega)⟩
      have hst : ¬ idx tt s.1 = [] → ¬ Stop tt s := fun ho h => h.elim (fun h => by omega) fun h => ho (idx_nil.mpr h)
      obtain ⟨w1, w2⟩ := lims_ok (sel := tt) i1
      have li := idx_len tt s.1
      have lo := w1.len
      simp [lims] at lo
      have e2 : (idx tt s.1).map (fun k : Int => PV.int (nth (rs.map R.lim) k.toNat)) = (lims tt s.1).map .int := by
        rw [← idx_lims tt i2, List.map_map]
        rfl
      have rr : ∀ k ∈ idx tt s.1, ∃ r, atI rs k = some r ∧ nth (rs.map R.lim) k.toNat = r.lim ∧ nth (rs.map R.room) k.toNat = r.room := fun k hk => by
        have hk := idx_mem hk
        have hk2 : k < rs.length := by rw [← i2]; simpa [rws] using hk.2
        obtain ⟨r, r1, r2, r3, r4, r5⟩ := atR hk.1 hk2
        exact ⟨r, r1, r3, r5⟩
      have lop : ∀ (Q : Out → Prop) (z4 z5 z6 z7 z8 : Slot), z6.loc = true → z6.pure = true → z7.loc = true → z8.loc = true → (∀ y6 y7 y8 : Slot, y6.loc = true → y6.pure = true → y7.loc = true → y8.loc = true → Q (.nx [.ref (.lst false (rs.map R.enc)), .val (.int c), .val (.lst true ((pds (stepS tt s).1).map .int)), .val (.int (stepS tt s).2), z4, z5, y6, y7, y8, .un])) →
          W (forL (gTp 2 (gsCons (gNm 6) (gsCons (gNm 7) gsNil))) shares_in_l1b (((idx tt s.1).zip (prt (lims tt s.1) s.2)).map fun p => .tup [.int p.1, .int p.2]) [.ref (.lst false (rs.map R.enc)), .val (.int c), .val (.lst true ((pds s.1).map .int)), .val (.int s.2), z4, z5, z6, z7, z8, .un]) (Q := ⟨Q⟩) := fun Q z4 z5 z6 z7 z8 l6 p6 l7 l8 hQ => by
        refine W_forL (α := Int × Int) (fun p q ρ => ∃ y6 y7 y8 : Slot, y6.loc = true ∧ y6.pure = true ∧ y7.loc = true ∧ y8.loc = true ∧ ρ = [.ref (.lst false (rs.map R.enc)), .val (.int c), .val (.lst true ((p.foldl (fstep (rs.map R.room)) (pds s.1, s.2)).1.map .int)), .val (.int (p.foldl (fstep (rs.map R.room)) (pds s.1, s.2)).2), z4, z5, y6, y7, y8, .un]) ⟨z6, z7, z8, l6, p6, l7, l8, rfl⟩ (fun p x q ρ e ⟨y6, y7, y8, l6, p6, l7, l8, hr⟩ => ?_) fun ρ ⟨y6, y7, y8, l6, p6, l7, l8, hr⟩ => ?_
        · subst hr
          have hx : x ∈ (idx tt s.1).zip (prt (lims tt s.1) s.2) := by rw [e]; simp
          have hk : x.1 ∈ idx tt s.1 := (List.of_mem_zip (a := x.1) (b := x.2) hx).1
          obtain ⟨r, r1, r3, r5⟩ := rr _ hk
          have hb := idx_mem hk
          have hl2 := fold_len (rs.map R.room) p (pds s.1, s.2)
          have hlen : s.1.length = rs.length := by rw [← i2]; simp [rws]
          simp only at hl2
          have h1 := ati (l := (p.foldl (fstep (rs.map R.room)) (pds s.1, s.2)).1) (i := x.1) hb.1 (by omega)
          have h2 := ixN_pos (n := rs.length) (i := x.1) hb.1 (by omega)
          simp [shares_in_l1b, l6, l7, l8, r1, run_room_of, h1, hl2, lp, h2]
          simp [fstep, r5, List.map_set]
          exact ⟨_, rfl, rfl, _, rfl, _, rfl, rfl, rfl, rfl⟩
        · subst hr
          rw [fold_idx tt i2]
          exact hQ _ _ _ l6 p6 l7 l8
      cases b
      all_goals
        simp [shares_in_l2b, shares_in_c1, p6, l4, enumL_map]
        refine An.mk (by omega) ?_
        simp [enumL_map]
        refine W_compB (fun p : R × Nat => decide (nth (pds s.1) p.2 < p.1.room)) (fun p => .int ((p.2 : Nat) : Int)) (fun p hp => ?_) ?_
        · have h1 := (key p hp).2
          simp [h1, run_room_of]
          refine Br.mk (fun q => ?_) fun q => ?_ <;> simp [q]
        rw [e1]
        simp [l4]
        refine Br.mk (fun ho => ?_) fun ho => ?_
        · have : Stop tt s := .inr (idx_nil.mp ho)
          rw [iter_stop this] at i4
          subst i4
          simp [ho]
          exact hQ false
        · have hst := hst ho
          simp [ho, shares_in_c2, l5]
          refine An.mk (by omega) ?_
          simp
          refine An.mk (by omega) ?_
          refine W_compM (fun k : Int => .int (nth (rs.map R.lim) k.toNat)) (fun k hk => ?_) ?_
          · obtain ⟨r, r1, r3, r5⟩ := rr k hk
            simp [r1, r3]
          rw [e2]
          simp [run_parts_by _ (.inr rfl) w1 i1.am, l5, shares_in_l1, zipL_map]
          refine lop _ _ _ _ _ _ l6 p6 l7 l8 fun y6 y7 y8 a1 a2 a3 a4 => ?_
          obtain ⟨j1, j2, j3, j4⟩ := step_ok i1 hst
          exact ⟨(stepS tt s, false, _, _, y6, y7, y8), rfl, ⟨j1, j3.trans i2, iter_go i1 hst i3 i4, rfl, rfl, a1, a2, a3, a4⟩, j2⟩
    · have : Stop tt s := .inl (by omega)
      rw [iter_stop this] at i4
      subst i4
      simp
      exact hQ b
  obtain ⟨a, e, b, h2⟩ := h (fun r => ∃ b, r = (.lst true ((pds (fin tt rs c).1).map .int), [.ref (.lst b (rs.map R.enc)), .un])) fun b => ⟨b, rfl⟩
  exact ⟨b, by rw [e, h2]⟩
end Xk44

namespace Xk44
open PySem PySem.Spec PyProof.Rows L2 GX
def at_ (l : Int) : Sel := fun r => decide (r.lev = l)
theorem zip_range (a b : List Int) (h : a.length = b.length) : (irng 0 a.length).map (fun k => (nth a k.toNat, nth b k.toNat)) = a.zip b := by
  apply List.ext_getElem?
  intro i
  simp only [irng, List.getElem?_map]
  by_cases q : i < a.length
  · have q2 : i < b.length := by omega
    have e : (a.zip b)[i]? = some (a[i], b[i]) := by
      rw [List.getElem?_eq_getElem (by simp; omega)]
      simp
    simp [q, q2, nth, e]
  · have q2 : ¬ i < b.length := by omega
    simp [q, q2]
    omega
theorem run_law_level {rs : List R} {c : Int} (l : Int) (h : RsOk rs) (hc : AmOk c) : _law_levelF [.val (.tup (rs.map R.enc)), .val (.int l), .val (.int c)] = some (.tup [.lst false ((pds (fin (at_ l) rs c).1).map .int), .int (fin (at_ l) rs c).2], [.un, .un, .un]) := by
  apply eq_W
  have l1 := h.1
  simp [_law_levelF, _law_levelB, W_fn]
  refine An.mk ⟨by omega, by omega⟩ ?_
  have e0 : List.replicate rs.length (PV.int 0) = (pds (rs.map fun r => (r, (0 : Int)))).map PV.int := by simp [pds_zero]
  simp [e0, _law_level_l2]
  refine W_while (σ := Sx × Slot × Slot × Slot × Slot × Slot) (fun s => [.val (.tup (rs.map R.enc)), .val (.int l), .val (.int c), .val (.lst true ((pds s.1.1).map .int)), .val (.int s.1.2), s.2.1, s.2.2.1, s.2.2.2.1, s.2.2.2.2.1, s.2.2.2.2.2])
    (fun s => SOk s.1 ∧ rws s.1.1 = rs ∧ (∃ k, mu (at_ l) s.1 ≤ k ∧ iter (at_ l) k s.1 = fin (at_ l) rs c) ∧ s.2.1.loc = true ∧ s.2.2.1.loc = true ∧ s.2.2.2.1.loc = true ∧ s.2.2.2.2.1.loc = true ∧ s.2.2.2.2.1.pure = true ∧ s.2.2.2.2.2.loc = true) (fun s => mu (at_ l) s.1) ((rs.map fun r => (r, 0), c), .un, .un, .un, .un, .un) rfl ⟨start_ok h hc, rws_zero rs, ⟨13, mu_le (start_ok h hc), rfl⟩, rfl, rfl, rfl, rfl, rfl, rfl⟩ ?_
  rintro ⟨s, y5, y6, y7, y8, y9⟩ ⟨i1, i2, ⟨k, i3, i4⟩, l5, l6, l7, l8, p8, l9⟩
  simp only at i1 i2 i3 i4 l5 l6 l7 l8 p8 l9 ⊢
  have lp := pds_len i2
  simp [_law_level_l2t]
  refine Br.mk (fun hl => ?_) fun hl => ?_
  · have hst : ¬ idx (at_ l) s.1 = [] → ¬ Stop (at_ l) s := fun ho h => h.elim (fun h => by omega) fun h => ho (idx_nil.mpr h)
    obtain ⟨w1, w2⟩ := lims_ok (sel := at_ l) i1
    have li := idx_len (at_ l) s.1
    have lo := w1.len
    simp [lims] at lo
    have e2 : (idx (at_ l) s.1).map (fun k : Int => PV.int (nth (rs.map R.lim) k.toNat)) = (lims (at_ l) s.1).map .int := by
      rw [← idx_lims (at_ l) i2, List.map_map]
      rfl
    have rr : ∀ k : Int, 0 ≤ k → k < rs.length → ∃ r, atI rs k = some r ∧ nth (rs.map R.lim) k.toNat = r.lim ∧ nth (rs.map R.lev) k.toNat = r.lev ∧ nth (rs.map R.room) k.toNat = r.room := fun k h0 h1 => by
      obtain ⟨r, r1, r2, r3, r4, r5⟩ := atR h0 h1
      exact ⟨r, r1, r3, r4, r5⟩
    have hlen : s.1.length = rs.length := by rw [← i2]; simp [rws]
    have sm : smallI rs.length = true := smallI_of (by omega) (by omega)
    simp [_law_level_l2b, _law_level_c1, l5, p8, sm]
    refine An.mk (by omega) ?_
    refine W_compB (fun k : Int => decide (nth (rs.map R.lev) k.toNat = l) && decide (nth (pds s.1) k.toNat < nth (rs.map R.room) k.toNat)) .int (fun k hk => ?_) ?_
    · have hk := irng_mem.mp hk
      obtain ⟨r, r1, r3, r4, r5⟩ := rr k hk.1 hk.2
      have h1 := ati (l := pds s.1) (i := k) hk.1 (by omega)
      simp [r1, r4, r5, h1]
      have er : min r.lim r.mea = r.room := rfl
      refine Br.mk (fun q => ?_) fun q => ?_
      · simp [r1, h1, er]
        refine Br.mk (fun q2 => ?_) fun q2 => ?_
        · simp [q, q2, r4, r5]
        · simp [q2, r5]
      · simp [q, r4]
    rw [idx_range i2]
    have ea : idx (fun r => decide (r.lev = l)) s.1 = idx (at_ l) s.1 := rfl
    rw [ea]
    simp [l5]
    refine Br.mk (fun ho => ?_) fun ho => ?_
    · have : Stop (at_ l) s := .inr (idx_nil.mp ho)
      rw [iter_stop this] at i4
      subst i4
      simp [ho]
    · have hst := hst ho
      simp [ho, _law_level_c2, l6, p8]
      refine An.mk (by omega) ?_
      simp
      refine W_compM (fun k : Int => .int (nth (rs.map R.lim) k.toNat)) (fun k hk => ?_) ?_
      · have hk := idx_mem hk
        obtain ⟨r, r1, r3, r4, r5⟩ := rr k hk.1 (by omega)
        simp [r1, r3]
      rw [e2]
      have hp : (prt (lims (at_ l) s.1) s.2).length = (idx (at_ l) s.1).length := by rw [prt_len]; simp [lims, li]
      have sm2 : smallI (idx (at_ l) s.1).length = true := smallI_of (by omega) (by omega)
      simp [run_law_parts _ (.inr rfl) w1 i1.am, l6, _law_level_l1, sm2]
      let g : Int → Int × Int := fun k => (nth (idx (at_ l) s.1) k.toNat, nth (prt (lims (at_ l) s.1) s.2) k.toNat)
      refine W_forL (α := Int) (fun p q ρ => ∃ (y7 y8 y9 : Slot), y7.loc = true ∧ y8.loc = true ∧ y8.pure = true ∧ y9.loc = true ∧ ρ = [.val (.tup (rs.map R.enc)), .val (.int l), .val (.int c), .val (.lst true (((p.map g).foldl (fstep (rs.map R.room)) (pds s.1, s.2)).1.map .int)), .val (.int ((p.map g).foldl (fstep (rs.map R.room)) (pds s.1, s.2)).2), .val (.lst false ((idx (at_ l) s.1).map .int)), .val (.lst true ((prt (lims (at_ l) s.1) s.2).map .int)), y7, y8, y9]) ⟨y7, y8, y9, l7, l8, p8, l9, rfl⟩ (fun p x q ρ e ⟨y7, y8, y9, l7, l8, p8, l9, hr⟩ => ?_) fun ρ ⟨y7, y8, y9, l7, l8, p8, l9, hr⟩ => ?_
      · subst hr
        have hx := irng_mem.mp (show x ∈ irng 0 (idx (at_ l) s.1).length by rw [e]; simp)
        have hk : nth (idx (at_ l) s.1) x.toNat ∈ idx (at_ l) s.1 := nth_mem (by omega)
        have hb := idx_mem hk
        obtain ⟨r, r1, r3, r4, r5⟩ := rr _ hb.1 (by omega)
        have hl2 := fold_len (rs.map R.room) (p.map g) (pds s.1, s.2)
        simp only at hl2
        have h1 := ati (l := ((p.map g).foldl (fstep (rs.map R.room)) (pds s.1, s.2)).1) (i := nth (idx (at_ l) s.1) x.toNat) hb.1 (by omega)
        have h2 := ixN_pos (n := rs.length) (i := nth (idx (at_ l) s.1) x.toNat) hb.1 (by omega)
        have h3 := ati (l := idx (at_ l) s.1) (i := x) hx.1 hx.2
        have h4 := ati (l := prt (lims (at_ l) s.1) s.2) (i := x) hx.1 (by omega)
        have er : min r.lim r.mea = r.room := rfl
        simp [_law_level_l1b, l7, l8, l9, r1, h1, hl2, lp, h2, h3, h4, er]
        refine ⟨_, rfl, _, rfl, rfl, _, rfl, ?_, ?_, rfl, rfl, rfl⟩ <;> simp [fstep, g, r5, List.map_set]
      · subst hr
        have hg : (irng 0 (idx (at_ l) s.1).length).map g = (idx (at_ l) s.1).zip (prt (lims (at_ l) s.1) s.2) := zip_range _ _ hp.symm
        rw [hg, fold_idx (at_ l) i2]
        obtain ⟨j1, j2, j3, j4⟩ := step_ok i1 hst
        exact ⟨(stepS (at_ l) s, _, _, y7, y8, y9), rfl, ⟨j1, j3.trans i2, iter_go i1 hst i3 i4, rfl, rfl, l7, l8, p8, l9⟩, j2⟩
  · have : Stop (at_ l) s := .inl (by omega)
    rw [iter_stop this] at i4
    subst i4
    simp
end Xk44

/-! k44: level by level: plain mathematics. -/
namespace Xk44
open PySem PySem.Spec PyProof.Rows L2 GX
def comb : Rs → Rs → Rs
  | x :: E, y :: F => (x.1, x.2 + y.2) :: comb E F
  | _, _ => []
theorem comb_rws : ∀ {E F : Rs}, rws E = rws F → rws (comb E F) = rws E
  | [], [], _ => rfl
  | [], y :: F, h => by simp [rws] at h
  | x :: E, [], h => by simp [rws] at h
  | x :: E, y :: F, h => by
    simp only [rws, List.map_cons, List.cons.injEq] at h
    have := comb_rws (E := E) (F := F) h.2
    simp only [rws, comb, List.map_cons] at this ⊢
    rw [this]
theorem comb_sum : ∀ {E F : Rs}, rws E = rws F → (pds (comb E F)).sum = (pds E).sum + (pds F).sum
  | [], [], _ => rfl
  | [], y :: F, h => by simp [rws] at h
  | x :: E, [], h => by simp [rws] at h
  | x :: E, y :: F, h => by
    simp only [rws, List.map_cons, List.cons.injEq] at h
    have := comb_sum (E := E) (F := F) h.2
    simp only [pds, comb, List.map_cons, List.sum_cons] at this ⊢
    omega
theorem comb_pds : ∀ {E F : Rs}, rws E = rws F → pds (comb E F) = List.zipWith (· + ·) (pds E) (pds F)
  | [], [], _ => rfl
  | [], y :: F, h => by simp [rws] at h
  | x :: E, [], h => by simp [rws] at h
  | x :: E, y :: F, h => by
    simp only [rws, List.map_cons, List.cons.injEq] at h
    have := comb_pds (E := E) (F := F) h.2
    simp only [pds, comb, List.map_cons, List.zipWith_cons_cons] at this ⊢
    rw [this]
theorem comb_r {sel : Sel} : ∀ {E F : Rs}, rws E = rws F → (∀ x ∈ E, sel x.1 = true → x.2 = 0) → sub sel (comb E F) = sub sel F
  | [], [], _, _ => rfl
  | [], y :: F, h, _ => by simp [rws] at h
  | x :: E, [], h, _ => by simp [rws] at h
  | x :: E, y :: F, h, hz => by
    simp only [rws, List.map_cons, List.cons.injEq] at h
    have := comb_r (sel := sel) (E := E) (F := F) h.2 fun z hz' => hz z (List.mem_cons_of_mem _ hz')
    have hx := hz x (List.mem_cons_self ..)
    unfold sub at this ⊢
    simp only [comb, List.filter_cons]
    by_cases s : sel x.1 = true
    · rw [if_pos s, if_pos (h.1 ▸ s), this, hx s]
      congr 1
      rw [h.1]
      simp
    · rw [if_neg s, if_neg (h.1 ▸ s), this]
theorem comb_l {sel : Sel} : ∀ {E F : Rs}, rws E = rws F → (∀ y ∈ F, sel y.1 = true → y.2 = 0) → sub sel (comb E F) = sub sel E
  | [], [], _, _ => rfl
  | [], y :: F, h, _ => by simp [rws] at h
  | x :: E, [], h, _ => by simp [rws] at h
  | x :: E, y :: F, h, hz => by
    simp only [rws, List.map_cons, List.cons.injEq] at h
    have := comb_l (sel := sel) (E := E) (F := F) h.2 fun z hz' => hz z (List.mem_cons_of_mem _ hz')
    have hy := hz y (List.mem_cons_self ..)
    unfold sub at this ⊢
    simp only [comb, List.filter_cons]
    by_cases s : sel x.1 = true
    · rw [if_pos s, if_pos s, this, hy (h.1 ▸ s)]
      simp
    · rw [if_neg s, if_neg s, this]
theorem sub_mem {sel : Sel} {E : Rs} {x : R × Int} : x ∈ sub sel E ↔ x ∈ E ∧ sel x.1 = true := by simp [sub]
theorem at_iff {l : Int} {r : R} : at_ l r = true ↔ r.lev = l := by simp [at_]
structure LInv (rs : List R) (c : Int) (p : List Int) (E : Rs) (left : Int) : Prop where
  rw : rws E = rs
  zero : ∀ x ∈ E, ¬ x.1.lev ∈ p → x.2 = 0
  fit : Fit E
  am : AmOk left
  cons : (pds E).sum + left = c
  full : left = 0 ∨ ∀ x ∈ E, x.1.lev ∈ p → x.2 = x.1.room
  lev : ∀ x ∈ E, 0 < x.2 → ∀ y ∈ E, y.1.lev < x.1.lev → y.2 = y.1.room
def stepL (rs : List R) (s : Sx) (l : Int) : Sx := (comb s.1 (fin (at_ l) rs s.2).1, (fin (at_ l) rs s.2).2)
theorem LInv.start {rs : List R} {c : Int} (h : RsOk rs) (hc : AmOk c) : LInv rs c [] (rs.map fun r => (r, 0)) c := by
  refine ⟨rws_zero rs, fun x hx _ => ?_, (start_ok h hc).fit, hc, by simp only [pds_zero, sum_zero]; omega, .inr (fun x _ h => nomatch h), fun x hx h0 => ?_⟩
  · obtain ⟨r, _, rfl⟩ := List.mem_map.mp hx; rfl
  · obtain ⟨r, _, rfl⟩ := List.mem_map.mp hx; exact absurd h0 (by simp)
theorem LInv.parts {rs : List R} {c : Int} {p : List Int} {E : Rs} {left : Int} (h : RsOk rs) (i : LInv rs c p E left) {l : Int} (hl : ¬ l ∈ p) :
    sub (at_ l) (stepL rs (E, left) l).1 = sub (at_ l) (fin (at_ l) rs left).1 ∧ ∀ l', l' ≠ l → sub (at_ l') (stepL rs (E, left) l).1 = sub (at_ l') E := by
  obtain ⟨f1, f2, f3, f4⟩ := fin_ok (sel := at_ l) h i.am
  have hr : rws E = rws (fin (at_ l) rs left).1 := by rw [i.rw, f3]
  obtain ⟨g1, g2, g3⟩ := fin_sub (at_ l) rs left
  refine ⟨comb_r hr fun x hx s => i.zero x hx (by rw [at_iff.mp s]; exact hl), fun l' hn => comb_l hr fun y hy s => g3 y hy ?_⟩
  have := at_iff.mp s
  simp only [at_, decide_eq_false_iff_not]
  omega
theorem LInv.step {rs : List R} {c : Int} {p : List Int} {E : Rs} {left : Int} (h : RsOk rs) (i : LInv rs c p E left) {l : Int} (hl : ¬ l ∈ p) (hlow : ∀ r ∈ rs, r.lev < l → r.lev ∈ p) (hup : ∀ x ∈ p, x < l) :
    LInv rs c (p ++ [l]) (stepL rs (E, left) l).1 (stepL rs (E, left) l).2 := by
  obtain ⟨f1, f2, f3, f4⟩ := fin_ok (sel := at_ l) h i.am
  have hr : rws E = rws (fin (at_ l) rs left).1 := by rw [i.rw, f3]
  obtain ⟨s1, s2⟩ := i.parts h hl
  -- an entry is one of the level's, or an old one
  have mem : ∀ x, x ∈ (stepL rs (E, left) l).1 → (x.1.lev = l ∧ x ∈ (fin (at_ l) rs left).1) ∨ (x.1.lev ≠ l ∧ x ∈ E) := fun x hx => by
    by_cases e : x.1.lev = l
    · left
      have : x ∈ sub (at_ l) (stepL rs (E, left) l).1 := sub_mem.mpr ⟨hx, at_iff.mpr e⟩
      rw [s1] at this
      exact ⟨e, (sub_mem.mp this).1⟩
    · right
      have : x ∈ sub (at_ x.1.lev) (stepL rs (E, left) l).1 := sub_mem.mpr ⟨hx, at_iff.mpr rfl⟩
      rw [s2 _ e] at this
      exact ⟨e, (sub_mem.mp this).1⟩
  have hE : ∀ x ∈ E, x.1 ∈ rs := fun x hx => by rw [← i.rw]; exact List.mem_map.mpr ⟨x, hx, rfl⟩
  have hf : (fin (at_ l) rs left).2 = 0 ∨ ∀ x ∈ (fin (at_ l) rs left).1, x.1.lev = l → x.2 = x.1.room := by
    rcases f2 with q | q
    · left; have := f1.am.lo; omega
    · right
      intro x hx e
      have hfit := f1.fit x hx
      refine Decidable.byContradiction fun n => ?_
      have : x ∈ opens (at_ l) (fin (at_ l) rs left).1 := List.mem_filter.mpr ⟨hx, by simp only [isO, at_iff.mpr e, Bool.true_and, decide_eq_true_eq]; omega⟩
      rw [q] at this
      cases this
  have nn := sum_nn (l := pds (fin (at_ l) rs left).1) fun v hv => by
    obtain ⟨x, hx, rfl⟩ := List.mem_map.mp hv
    exact (f1.fit x hx).1
  refine ⟨(comb_rws hr).trans i.rw, fun x hx hn => ?_, fun x hx => ?_, f1.am, ?_, ?_, fun x hx h0 y hy hlt => ?_⟩
  · simp only [List.mem_append, List.mem_singleton, not_or] at hn
    rcases mem x hx with ⟨e, _⟩ | ⟨_, q⟩
    · exact absurd e hn.2
    · exact i.zero x q hn.1
  · rcases mem x hx with ⟨_, q⟩ | ⟨_, q⟩
    · exact f1.fit x q
    · exact i.fit x q
  · show (pds (comb E (fin (at_ l) rs left).1)).sum + (fin (at_ l) rs left).2 = c
    rw [comb_sum hr]
    have := i.cons
    omega
  · rcases hf with q | q
    · exact .inl q
    · rcases i.full with g | g
      · left
        show (fin (at_ l) rs left).2 = 0
        have := f1.am.lo
        omega
      · right
        intro x hx hm
        rcases mem x hx with ⟨e, m⟩ | ⟨ne, m⟩
        · exact q x m e
        · simp only [List.mem_append, List.mem_singleton] at hm
          exact g x m (hm.resolve_right ne)
  · rcases mem x hx with ⟨e, m⟩ | ⟨ne, m⟩
    · -- paid at this level: something was left
      have hsum : x.2 ≤ (pds (fin (at_ l) rs left).1).sum := mem_le_sum (fun v hv => by
        obtain ⟨z, hz, rfl⟩ := List.mem_map.mp hv
        exact (f1.fit z hz).1) (List.mem_map.mpr ⟨x, m, rfl⟩)
      have := f1.am.lo
      rcases mem y hy with ⟨e2, m2⟩ | ⟨ne2, m2⟩
      · omega
      · rcases i.full with g | g
        · omega
        · exact g y m2 (hlow _ (hE y m2) (by omega))
    · rcases mem y hy with ⟨e2, m2⟩ | ⟨ne2, m2⟩
      · -- an old payer lies below
        have hp : x.1.lev ∈ p := Decidable.byContradiction fun n => by have := i.zero x m n; omega
        have := hup _ hp
        omega
      · exact i.lev x m h0 y m2 hlt
theorem fm_congr {α β : Type} {f g : α → List β} : ∀ {l : List α}, (∀ x ∈ l, f x = g x) → l.flatMap f = l.flatMap g
  | [], _ => rfl
  | x :: l, h => by
    rw [List.flatMap_cons, List.flatMap_cons, h x (List.mem_cons_self ..), fm_congr fun y hy => h y (List.mem_cons_of_mem _ hy)]
def fnd (E : Rs) (p : List Int) : List (Str × Int) := p.flatMap fun l => (sub (at_ l) E).map fun x => (x.1.nm, x.2)
theorem fnd_step {rs : List R} {c : Int} {p : List Int} {E : Rs} {left : Int} (h : RsOk rs) (i : LInv rs c p E left) {l : Int} (hl : ¬ l ∈ p) :
    fnd (stepL rs (E, left) l).1 (p ++ [l]) = fnd E p ++ (fin tt (rs.filter (at_ l)) left).1.map fun x => (x.1.nm, x.2) := by
  obtain ⟨s1, s2⟩ := i.parts h hl
  unfold fnd
  rw [List.flatMap_append]
  congr 1
  · exact fm_congr fun l' hl' => by rw [s2 l' (fun e => hl (e ▸ hl'))]
  · simp only [List.flatMap_cons, List.flatMap_nil, List.append_nil]
    rw [s1, (fin_sub (at_ l) rs left).1]
theorem fnd_mem {E : Rs} {p : List Int} {q : Str × Int} : q ∈ fnd E p ↔ ∃ x ∈ E, x.1.lev ∈ p ∧ q = (x.1.nm, x.2) := by
  unfold fnd
  rw [List.mem_flatMap]
  constructor
  · rintro ⟨l, hl, hq⟩
    obtain ⟨x, hx, rfl⟩ := List.mem_map.mp hq
    obtain ⟨a, b⟩ := sub_mem.mp hx
    exact ⟨x, a, by rw [at_iff.mp b]; exact hl, rfl⟩
  · rintro ⟨x, hx, hl, rfl⟩
    exact ⟨_, hl, List.mem_map.mpr ⟨x, sub_mem.mpr ⟨hx, at_iff.mpr rfl⟩, rfl⟩⟩
def levels (rs : List R) : List Int := sset (rs.map R.lev)
def allS (rs : List R) (c : Int) : Sx := (levels rs).foldl (stepL rs) (rs.map fun r => (r, 0), c)
def Nms (rs : List R) : Prop := (rs.map R.nm).Nodup
theorem pre_inv {rs : List R} {c : Int} (h : RsOk rs) (hc : AmOk c) : ∀ (q p : List Int), levels rs = p ++ q → LInv rs c p (p.foldl (stepL rs) (rs.map fun r => (r, 0), c)).1 (p.foldl (stepL rs) (rs.map fun r => (r, 0), c)).2 := by
  have key : ∀ (n : Nat) (p q : List Int), p.length = n → levels rs = p ++ q → LInv rs c p (p.foldl (stepL rs) (rs.map fun r => (r, 0), c)).1 (p.foldl (stepL rs) (rs.map fun r => (r, 0), c)).2 := by
    intro n
    induction n with
    | zero =>
      intro p q hp _
      obtain rfl := List.length_eq_zero_iff.mp hp
      exact LInv.start h hc
    | succ n ih =>
      intro p q hp e
      obtain ⟨p', l, rfl⟩ : ∃ p' l, p = p' ++ [l] := ⟨p.dropLast, p.getLast (by intro h; subst h; simp at hp), (List.dropLast_concat_getLast _).symm⟩
      have ih := ih p' (l :: q) (by simpa using hp) (by rw [e]; simp)
      rw [List.foldl_append]
      have srt : (levels rs).Pairwise (· < ·) := sset_lt _
      have up : ∀ x ∈ p', x < l := fun x hx => by
        rw [e, List.append_assoc] at srt
        exact (List.pairwise_append.mp srt).2.2 x hx l (by simp)
      have dn : ∀ y ∈ q, l < y := fun y hy => by
        rw [e] at srt
        exact (List.pairwise_append.mp srt).2.2 l (by simp) y hy
      refine ih.step h (fun hm => by have := up l hm; omega) (fun r hr hlt => ?_) up
      have : r.lev ∈ levels rs := sset_mem.mpr (List.mem_map.mpr ⟨r, hr, rfl⟩)
      rw [e] at this
      simp only [List.mem_append, List.mem_singleton] at this
      rcases this with (t | t) | t
      · exact t
      · omega
      · have := dn _ t; omega
  intro q p e
  exact key p.length p q rfl e
theorem all_inv {rs : List R} {c : Int} (h : RsOk rs) (hc : AmOk c) : LInv rs c (levels rs) (allS rs c).1 (allS rs c).2 := pre_inv h hc [] _ (List.append_nil _).symm
end Xk44

namespace Xk44
open PySem PySem.Spec PyProof.Rows L2 GX
def NameOk (s : Str) : Prop := is_nameF [.val (.str s)] = some (.bl true, [.un])
structure AllOk (rs : List R) : Prop where
  ok : RsOk rs
  nd : Nms rs
  nm : ∀ r ∈ rs, NameOk r.nm
theorem run_check_claim {c : Int} (hc : AmOk c) : check_claimF [.val (.int c)] = some (.non, [.un]) := by
  apply eq_W
  simp [check_claimF, check_claimB, W_fn, run_is_integer, k_MAX_SUM, hc.lo, hc.hi]
theorem nodup_inr {rs : List R} (h : Nms rs) : (rs.map ((fun q : Key × PV => q.1) ∘ fun r : R => ((.inr r.nm : Key), PV.bl true))).Nodup := by
  unfold Nms at h
  have := List.Pairwise.map (S := fun a b : Key => a ≠ b) (fun s : Str => (.inr s : Key)) (fun a b hab e => hab (by injection e)) h
  rw [List.map_map] at this
  exact this
theorem run_check_sureties {rs : List R} (h : AllOk rs) : check_suretiesF [.val (.tup (rs.map R.enc))] = some (.non, [.un]) := by
  apply eq_W
  have l1 := h.ok.1
  have l2 : ¬ (12 : Int) < rs.length := by omega
  simp [check_suretiesF, check_suretiesB, W_fn, k_MAX_PARTIES, l2, check_sureties_l1]
  refine W_forL (α := R) (fun p q ρ => ∃ y : Slot, y.loc = true ∧ y.pure = true ∧ ρ = [.val (.tup (rs.map R.enc)), y, .un]) ⟨.un, rfl, rfl, rfl⟩ (fun p r q ρ e ⟨y, ly, py, hr⟩ => ?_) fun ρ ⟨y, ly, py, hr⟩ => ?_
  · subst hr
    have hr : r ∈ rs := by rw [e]; simp
    have k := h.ok.2 r hr
    have kn : is_nameF [.val (.str r.nm)] = some (.bl true, [.un]) := h.nm r hr
    simp [check_sureties_l1b, ly, kn]
    have pa : pall [.lst true [.bl true, .bl true, .bl true]] = some (.bl true) := rfl
    simp [R.enc, kn, pa, check_sureties_c1, W_compCons, W_compNil, run_is_integer, k_MAX_PARTIES, k_MAX_SUM, k.l0, k.l1, k.m0, k.m1, k.n0, k.n1]
  · subst hr
    simp [check_sureties_c2, py]
    refine W_dcompL (α := R) (fun r => some (.inr r.nm, .bl true)) (by simp; omega) (fun r hr => ?_) ?_
    · simp
    have hm : mergeP [] (rs.map fun r => ((.inr r.nm : Key), PV.bl true)) = rs.map fun r => ((.inr r.nm : Key), PV.bl true) := by
      rw [mergeP_fresh]
      · simp
      · have := h.nd
        rw [List.map_map]
        exact nodup_inr this
      · simp
    simp [hm]
end Xk44

namespace Xk44
open PySem PySem.Spec PyProof.Rows L2 GX
theorem putP_old {α : Type} : ∀ {ps : List (Key × α)} {k : Key} {u : α}, k ∈ ps.map (·.1) → (putP ps k u).map (·.1) = ps.map (·.1)
  | [], k, u, h => by simp at h
  | (k1, v1) :: ps, k, u, h => by
    rw [putP]
    by_cases e : k1 = k
    · subst e; simp
    · rw [if_neg e]
      simp only [List.map_cons, List.mem_cons] at h ⊢
      rw [putP_old (h.resolve_left fun h => e h.symm)]
theorem merge_int : ∀ (ns : List Int) (acc : List (Key × PV)) (as : List Int), acc.map (·.1) = as.map (fun n => (.inl n : Key)) → ∃ ks : List Int, (mergeP acc (ns.map fun n => ((.inl n : Key), PV.bl true))).map (·.1) = ks.map (fun n => (.inl n : Key)) ∧ ks.length ≤ as.length + ns.length ∧ ∀ x, x ∈ ks ↔ x ∈ as ∨ x ∈ ns
  | [], acc, as, h => ⟨as, h, by simp, by simp⟩
  | n :: ns, acc, as, h => by
    have hm : ((.inl n : Key) ∈ as.map (fun n => (.inl n : Key))) ↔ n ∈ as := by simp
    by_cases q : n ∈ as
    · have hp := putP_old (ps := acc) (k := (.inl n : Key)) (u := PV.bl true) (by rw [h]; exact hm.mpr q)
      rw [h] at hp
      obtain ⟨ks, h1, h2, h3⟩ := merge_int ns _ as hp
      refine ⟨ks, h1, by simp; omega, fun x => ?_⟩
      rw [h3, List.mem_cons]
      constructor
      · rintro (a | a)
        · exact .inl a
        · exact .inr (.inr a)
      · rintro (a | rfl | a)
        · exact .inl a
        · exact .inl q
        · exact .inr a
    · have hp := putP_fresh (ps := acc) (k := (.inl n : Key)) (u := PV.bl true) (by rw [h]; exact fun h => q (hm.mp h))
      obtain ⟨ks, h1, h2, h3⟩ := merge_int ns (putP acc (.inl n : Key) (PV.bl true)) (as ++ [n]) (by rw [hp]; simp [h])
      refine ⟨ks, h1, by simp at h2 ⊢; omega, fun x => ?_⟩
      simp [h3, or_assoc]
theorem sort_keys {rs : List R} (h : rs.length ≤ 12) : psorted2 [.dic true (mergeP [] (rs.map fun r => ((.inl r.lev : Key), PV.bl true)))] = some (.lst true ((levels rs).map .int)) := by
  have e : (rs.map fun r => ((.inl r.lev : Key), PV.bl true)) = (rs.map R.lev).map fun n => ((.inl n : Key), PV.bl true) := by simp
  rw [e]
  obtain ⟨ks, h1, h2, h3⟩ := merge_int (rs.map R.lev) [] [] rfl
  rw [psorted2_dic, h1, keysI_inl]
  simp only [Option.bind_some]
  simp at h2
  rw [if_pos (by omega)]
  have : sset ks = levels rs := eq_of_lt (sset_lt _) (sset_lt _) fun j => by unfold levels; rw [sset_mem, sset_mem, h3]; simp
  rw [this]
theorem run_levels_of {rs : List R} (h : RsOk rs) : levels_ofF [.val (.tup (rs.map R.enc))] = some (.lst true ((levels rs).map .int), [.un]) := by
  apply eq_W
  have l1 := h.1
  simp [levels_ofF, levels_ofB, W_fn, levels_of_c1]
  refine W_dcompL (α := R) (fun r => some (.inl r.lev, .bl true)) (by simp; omega) (fun r hr => ?_) ?_
  · simp
  have := sort_keys l1
  simp [-psorted2_dic, this]
theorem insI_len (k : Int) : ∀ l : List Int, (insI k l).length ≤ l.length + 1
  | [] => by simp [insI]
  | x :: l => by
    unfold insI
    have := insI_len k l
    split
    · simp
    · split <;> simp <;> omega
theorem sset_len : ∀ l : List Int, (sset l).length ≤ l.length
  | [] => by simp [sset]
  | x :: l => by
    have := sset_len l
    have h2 := insI_len x (sset l)
    show (insI x (sset l)).length ≤ l.length + 1
    omega
theorem fnd_len (E : Rs) : ∀ p : List Int, (fnd E p).length ≤ E.length * p.length
  | [] => by simp [fnd]
  | l :: p => by
    have := fnd_len E p
    have h2 : (sub (at_ l) E).length ≤ E.length := List.length_filter_le ..
    unfold fnd at this ⊢
    rw [List.flatMap_cons, List.length_append, List.length_map, List.length_cons, Nat.mul_add]
    omega
theorem nd_inj {rs : List R} (h : Nms rs) {a b : R} (ha : a ∈ rs) (hb : b ∈ rs) (e : a.nm = b.nm) : a = b := by
  unfold Nms at h
  induction rs with
  | nil => cases ha
  | cons r rs ih =>
    simp only [List.map_cons, List.nodup_cons] at h
    rcases List.mem_cons.mp ha with e1 | h1 <;> rcases List.mem_cons.mp hb with e2 | h2
    · rw [e1, e2]
    · exact absurd (List.mem_map.mpr ⟨b, h2, by rw [← e1, e]⟩) h.1
    · exact absurd (List.mem_map.mpr ⟨a, h1, by rw [← e2, e]⟩) h.1
    · exact ih h.2 h1 h2
theorem zip_self : ∀ F : Rs, (rws F).zip (pds F) = F
  | [] => rfl
  | x :: F => by
    have := zip_self F
    simp only [rws, pds, List.map_cons, List.zip_cons_cons] at this ⊢
    rw [this]
def kv (q : Str × Int) : Key × PV := (.inr q.1, .int q.2)
theorem run_shares_of {rs : List R} {c : Int} (h : AllOk rs) (hc : AmOk c) : shares_ofF [.val (.tup (rs.map R.enc)), .val (.int c)] = some (.dic true ((fnd (allS rs c).1 (levels rs)).map kv), [.un, .un]) := by
  apply eq_W
  have l1 := h.ok.1
  simp [shares_ofF, shares_ofB, W_fn, run_levels_of h.ok, shares_of_l1]
  refine W_forL (α := Int) (fun p q ρ => ∃ y4 y5 y6 : Slot, y4.loc = true ∧ y5.loc = true ∧ y6.loc = true ∧ ρ = [.val (.tup (rs.map R.enc)), .val (.int c), .val (.dic true ((fnd (p.foldl (stepL rs) (rs.map fun r => (r, 0), c)).1 p).map kv)), .val (.int (p.foldl (stepL rs) (rs.map fun r => (r, 0), c)).2), y4, y5, y6, .un, .un]) ⟨.un, .un, .un, rfl, rfl, rfl, rfl⟩ (fun p l q ρ e ⟨y4, y5, y6, l4, l5, l6, hr⟩ => ?_) fun ρ ⟨y4, y5, y6, l4, l5, l6, hr⟩ => ?_
  · subst hr
    have inv := pre_inv h.ok hc (l :: q) p e
    have srt : (levels rs).Pairwise (· < ·) := sset_lt _
    rw [e] at srt
    have hl : ¬ l ∈ p := fun hm => by
      have := (List.pairwise_append.mp srt).2.2 l hm l (by simp)
      omega
    have fs := fnd_step h.ok inv hl
    have estep : (p ++ [l]).foldl (stepL rs) (rs.map fun r => (r, 0), c) = stepL rs (p.foldl (stepL rs) (rs.map fun r => (r, 0), c)) l := by simp
    rw [estep]
    generalize p.foldl (stepL rs) (rs.map fun r => (r, 0), c) = S at inv fs ⊢
    have rk : RsOk (rs.filter (at_ l)) := ⟨by have := List.length_filter_le (at_ l) rs; omega, fun r hr => h.ok.2 r (List.mem_filter.mp hr).1⟩
    obtain ⟨b, eb⟩ := run_shares_in rk inv.am
    obtain ⟨g1, g2, g3, g4⟩ := fin_ok (sel := tt) rk inv.am
    have gs := (fin_sub (at_ l) rs S.2).2.1
    have nin : ∀ x ∈ (fin tt (rs.filter (at_ l)) S.2).1, x.1 ∈ rs ∧ x.1.lev = l := fun x hx => by
      have : x.1 ∈ rs.filter (at_ l) := by rw [← g3]; exact List.mem_map.mpr ⟨x, hx, rfl⟩
      obtain ⟨a1, a2⟩ := List.mem_filter.mp this
      exact ⟨a1, at_iff.mp a2⟩
    have len2 := rk.1
    have lenF : (fin tt (rs.filter (at_ l)) S.2).1.length = (rs.filter (at_ l)).length := by
      have := congrArg List.length g3
      simpa [rws] using this
    have z1 : ((rs.filter (at_ l)).zip (pds (fin tt (rs.filter (at_ l)) S.2).1)) = (fin tt (rs.filter (at_ l)) S.2).1 := by
      have := zip_self (fin tt (rs.filter (at_ l)) S.2).1
      rw [g3] at this
      exact this
    generalize (fin tt (rs.filter (at_ l)) S.2) = F at *
    have ndF : (F.1.map fun x => x.1.nm).Nodup := by
      have h1 : (F.1.map fun x => x.1.nm) = (rs.filter (at_ l)).map R.nm := by
        rw [← g3]; simp [rws]
      rw [h1]
      exact h.nd.sublist (List.filter_sublist.map _)
    have m1 : mergeP [] (F.1.map fun x : R × Int => kv (x.1.nm, x.2)) = F.1.map fun x : R × Int => kv (x.1.nm, x.2) := by
      rw [mergeP_fresh]
      · simp
      · rw [List.map_map]
        have := List.Pairwise.map (S := fun a b : Key => a ≠ b) (fun s : Str => (.inr s : Key)) (fun a b hab e => hab (by injection e)) ndF
        rw [List.map_map] at this
        exact this
      · simp
    have m2 : mergeP ((fnd S.1 p).map kv) (F.1.map fun x : R × Int => kv (x.1.nm, x.2)) = (fnd S.1 p ++ F.1.map fun x : R × Int => (x.1.nm, x.2)).map kv := by
      rw [mergeP_fresh]
      · simp
      · rw [List.map_map]
        have := List.Pairwise.map (S := fun a b : Key => a ≠ b) (fun s : Str => (.inr s : Key)) (fun a b hab e => hab (by injection e)) ndF
        rw [List.map_map] at this
        exact this
      · intro q hq hm
        obtain ⟨x, hx, rfl⟩ := List.mem_map.mp hq
        obtain ⟨q2, hq2, e2⟩ := List.mem_map.mp hm
        obtain ⟨q3, hq3, rfl⟩ := List.mem_map.mp hq2
        obtain ⟨y, hy, hyl, rfl⟩ := fnd_mem.mp hq3
        have e3 : y.1.nm = x.1.nm := by simpa [kv] using e2
        obtain ⟨n1, n2⟩ := nin x hx
        have hyr : y.1 ∈ rs := by rw [← inv.rw]; exact List.mem_map.mpr ⟨y, hy, rfl⟩
        have := nd_inj h.nd hyr n1 e3
        rw [this, n2] at hyl
        exact hl hyl
    have fl : (fnd S.1 p).length ≤ 144 := by
      have h1 := fnd_len S.1 p
      have h2 : p.length ≤ 12 := by
        have a := sset_len (rs.map R.lev)
        have b := congrArg List.length e
        unfold levels at b
        simp at a b
        omega
      have h3 : S.1.length ≤ 12 := by
        have := congrArg List.length inv.rw
        simp [rws] at this
        omega
      have := Nat.mul_le_mul h3 h2
      omega
    cases b
    all_goals
      simp [shares_of_l1b, l4, l5, l6, shares_of_c1]
      refine An.mk (by omega) ?_
      refine W_compB (at_ l) R.enc (fun r hr => ?_) ?_
      · simp
        refine Br.mk (fun q => ?_) fun q => ?_ <;> simp [at_, q]
      simp [eb, l5, l6, shares_of_c2, zipL_map, z1]
      refine W_dcompL (α := R × Int) (fun x => some (kv (x.1.nm, x.2))) (by simp; omega) (fun x hx => ?_) ?_
      · simp [kv]
      have fb : ∀ i ∈ pds F.1, -1000000000000 ≤ i ∧ i ≤ 1000000000000 := fun i hi => by
        have nn : ∀ v ∈ pds F.1, 0 ≤ v := fun v hv => by
          obtain ⟨z, hz, rfl⟩ := List.mem_map.mp hv
          exact (g1.fit z hz).1
        have := mem_le_sum nn hi
        have := nn i hi
        have := inv.am.hi
        have := g1.am.lo
        omega
      have fb2 : (pds F.1).length ≤ 1000000 := by simp [pds]; omega
      have e5 : S.2 - (pds F.1).sum = F.2 := by omega
      simp [m1, m2, fb, fb2, e5]
      refine An.mk ⟨fun a b _ => rfl, by omega⟩ ?_
      simp [m2, fb, fb2, e5]
      refine ⟨_, rfl, _, rfl, _, rfl, ?_, gs.symm, rfl, rfl, rfl⟩
      have := congrArg (List.map kv) fs
      simpa using this.symm
  · subst hr
    simp [allS]
theorem range_add (a b : List Int) (h : a.length = b.length) : (irng 0 a.length).map (fun k => PV.int (nth a k.toNat + nth b k.toNat)) = (List.zipWith (· + ·) a b).map .int := by
  have e := zip_range a b h
  have e2 : List.zipWith (· + ·) a b = (a.zip b).map fun p => p.1 + p.2 := by rw [List.map_zip_eq_zipWith]; rfl
  rw [e2, ← e, List.map_map, List.map_map]
  rfl
theorem run_law_shares {rs : List R} {c : Int} (h : AllOk rs) (hc : AmOk c) : _law_sharesF [.val (.tup (rs.map R.enc)), .val (.int c)] = some (.tup [.lst false ((pds (allS rs c).1).map .int), .int (allS rs c).2], [.un, .un]) := by
  apply eq_W
  have l1 := h.ok.1
  simp [_law_sharesF, _law_sharesB, W_fn]
  refine An.mk ⟨by omega, by omega⟩ ?_
  have e0 : List.replicate rs.length (PV.int 0) = (pds (rs.map fun r => (r, (0 : Int)))).map PV.int := by simp [pds_zero]
  simp [e0, _law_shares_l1, _law_shares_c1]
  refine An.mk (by omega) ?_
  refine W_compM (α := R) (fun r => .tup [.int r.lev, .bl true]) (fun r hr => ?_) ?_
  · simp
  have hp : GX.pairsOf (rs.map fun r => PV.tup [.int r.lev, .bl true]) = some (rs.map fun r => ((.inl r.lev : Key), PV.bl true)) := by
    clear l1 h e0
    induction rs with
    | nil => rfl
    | cons r rs ih => rw [List.map_cons, GX.pairsOf, ih]; rfl
  have sk := sort_keys l1
  simp [hp, -psorted2_dic, sk]
  refine W_forL (α := Int) (fun p q ρ => ∃ y4 y5 : Slot, y4.loc = true ∧ y5.loc = true ∧ ρ = [.val (.tup (rs.map R.enc)), .val (.int c), .val (.lst true ((pds (p.foldl (stepL rs) (rs.map fun r => (r, 0), c)).1).map .int)), .val (.int (p.foldl (stepL rs) (rs.map fun r => (r, 0), c)).2), y4, y5, .un, .un]) ⟨.un, .un, rfl, rfl, rfl⟩ (fun p l q ρ e ⟨y4, y5, l4, l5, hr⟩ => ?_) fun ρ ⟨y4, y5, l4, l5, hr⟩ => ?_
  · subst hr
    have inv := pre_inv h.ok hc (l :: q) p e
    have estep : (p ++ [l]).foldl (stepL rs) (rs.map fun r => (r, 0), c) = stepL rs (p.foldl (stepL rs) (rs.map fun r => (r, 0), c)) l := by simp
    rw [estep]
    generalize p.foldl (stepL rs) (rs.map fun r => (r, 0), c) = S at inv ⊢
    obtain ⟨f1, f2, f3, f4⟩ := fin_ok (sel := at_ l) h.ok inv.am
    have hr : rws S.1 = rws (fin (at_ l) rs S.2).1 := by rw [inv.rw, f3]
    have ln1 := pds_len inv.rw
    have ln2 := pds_len f3
    have sm : smallI rs.length = true := smallI_of (by omega) (by omega)
    simp [_law_shares_l1b, l4, l5, run_law_level l h.ok inv.am, _law_shares_c2, ln1, sm]
    refine An.mk (by omega) ?_
    refine W_compM (α := Int) (fun k => .int (nth (pds S.1) k.toNat + nth (pds (fin (at_ l) rs S.2).1) k.toNat)) (fun k hk => ?_) ?_
    · have hk := irng_mem.mp hk
      have h1 := ati (l := pds S.1) (i := k) hk.1 (by omega)
      have h2 := ati (l := pds (fin (at_ l) rs S.2).1) (i := k) hk.1 (by omega)
      simp [h1, h2]
    have := range_add (pds S.1) (pds (fin (at_ l) rs S.2).1) (by omega)
    rw [ln1, ← comb_pds hr] at this
    simp [this]
    exact ⟨_, rfl, _, rfl, rfl, rfl, rfl, rfl⟩
  · subst hr
    simp [allS]
end Xk44

namespace Xk44
open PySem PySem.Spec PyProof.Rows L2 GX
theorem ndE_inj : ∀ {E : Rs}, (E.map fun x => x.1.nm).Nodup → ∀ {a b : R × Int}, a ∈ E → b ∈ E → a.1.nm = b.1.nm → a = b
  | [], _, a, b, h, _, _ => nomatch h
  | x :: E, h, a, b, ha, hb, e => by
    simp only [List.map_cons, List.nodup_cons] at h
    rcases List.mem_cons.mp ha with e1 | h1 <;> rcases List.mem_cons.mp hb with e2 | h2
    · rw [e1, e2]
    · exact absurd (List.mem_map.mpr ⟨b, h2, by rw [← e1, e]⟩) h.1
    · exact absurd (List.mem_map.mpr ⟨a, h1, by rw [← e2, e]⟩) h.1
    · exact ndE_inj h.2 h1 h2 e
theorem look_of : ∀ {l : List (Str × Int)} {s : Str} {v : Int}, (s, v) ∈ l → (∀ q ∈ l, q.1 = s → q.2 = v) → lookK (l.map kv) (.inr s) = some (.int v)
  | [], s, v, h, _ => nomatch h
  | q :: l, s, v, h, hu => by
    unfold lookK
    rw [List.map_cons, List.find?_cons]
    by_cases e : q.1 = s
    · have : decide ((kv q).1 = .inr s) = true := by simp [kv, e]
      rw [this]
      simp only [Option.map_some, kv]
      rw [hu q (List.mem_cons_self ..) e]
    · have : decide ((kv q).1 = .inr s) = false := by simp [kv, e]
      rw [this]
      have hm : (s, v) ∈ l := by
        rcases List.mem_cons.mp h with rfl | h
        · exact absurd rfl e
        · exact h
      exact look_of hm fun q hq => hu q (List.mem_cons_of_mem _ hq)
theorem nm_of {rs : List R} {E : Rs} (h : rws E = rs) : (E.map fun x => x.1.nm) = rs.map R.nm := by subst h; simp [rws]
/-- what is left of all levels -/
structure EOk (rs : List R) (c : Int) (E : Rs) (left : Int) (T : List (Str × Int)) : Prop where
  inv : LInv rs c (levels rs) E left
  look : ∀ x ∈ E, lookK (T.map kv) (.inr x.1.nm) = some (.int x.2)
  vals : ∀ v, v ∈ T.map (·.2) ↔ v ∈ pds E
  sum : (T.map (·.2)).sum + left = c
  len : T.length ≤ 144
theorem pre_ind {rs : List R} {c : Int} (h : RsOk rs) (hc : AmOk c) (P : List Int → Sx → Prop) (h0 : P [] (rs.map fun r => (r, 0), c))
    (hs : ∀ (p : List Int) (l : Int) (S : Sx), LInv rs c p S.1 S.2 → ¬ l ∈ p → P p S → P (p ++ [l]) (stepL rs S l)) : P (levels rs) (allS rs c) := by
  have key : ∀ (n : Nat) (p q : List Int), p.length = n → levels rs = p ++ q → P p (p.foldl (stepL rs) (rs.map fun r => (r, 0), c)) := by
    intro n
    induction n with
    | zero =>
      intro p q hp _
      obtain rfl := List.length_eq_zero_iff.mp hp
      exact h0
    | succ n ih =>
      intro p q hp e
      obtain ⟨p', l, rfl⟩ : ∃ p' l, p = p' ++ [l] := ⟨p.dropLast, p.getLast (by intro h; subst h; simp at hp), (List.dropLast_concat_getLast _).symm⟩
      have ih := ih p' (l :: q) (by simpa using hp) (by rw [e]; simp)
      rw [List.foldl_append]
      have srt : (levels rs).Pairwise (· < ·) := sset_lt _
      have e' : levels rs = p' ++ l :: q := by rw [e]; simp
      refine hs p' l _ (pre_inv h hc (l :: q) p' e') (fun hm => ?_) ih
      rw [e'] at srt
      have := (List.pairwise_append.mp srt).2.2 l hm l (by simp)
      omega
  exact key _ _ [] rfl (List.append_nil _).symm
theorem all_ok {rs : List R} {c : Int} (h : AllOk rs) (hc : AmOk c) : EOk rs c (allS rs c).1 (allS rs c).2 (fnd (allS rs c).1 (levels rs)) := by
  have inv := all_inv h.ok hc
  have hlev : ∀ x ∈ (allS rs c).1, x.1.lev ∈ levels rs := fun x hx => sset_mem.mpr (List.mem_map.mpr ⟨x.1, by rw [← inv.rw]; exact List.mem_map.mpr ⟨x, hx, rfl⟩, rfl⟩)
  have nd : ((allS rs c).1.map fun x => x.1.nm).Nodup := by
    rw [nm_of inv.rw]; exact h.nd
  refine ⟨inv, fun x hx => look_of (fnd_mem.mpr ⟨x, hx, hlev x hx, rfl⟩) fun q hq e => ?_, fun v => ?_, ?_, ?_⟩
  · obtain ⟨y, hy, _, rfl⟩ := fnd_mem.mp hq
    rw [ndE_inj nd hy hx e]
  · constructor
    · intro hv
      obtain ⟨q, hq, rfl⟩ := List.mem_map.mp hv
      obtain ⟨y, hy, _, rfl⟩ := fnd_mem.mp hq
      exact List.mem_map.mpr ⟨y, hy, rfl⟩
    · intro hv
      obtain ⟨y, hy, rfl⟩ := List.mem_map.mp hv
      exact List.mem_map.mpr ⟨_, fnd_mem.mpr ⟨y, hy, hlev y hy, rfl⟩, rfl⟩
  · refine pre_ind h.ok hc (fun p S => ((fnd S.1 p).map (·.2)).sum + S.2 = c) (by simp [fnd]) fun p l S i hl e => ?_
    have rk : RsOk (rs.filter (at_ l)) := ⟨by have := List.length_filter_le (at_ l) rs; have := h.ok.1; omega, fun r hr => h.ok.2 r (List.mem_filter.mp hr).1⟩
    obtain ⟨g1, g2, g3, g4⟩ := fin_ok (sel := tt) rk i.am
    have gs := (fin_sub (at_ l) rs S.2).2.1
    have fs : fnd (stepL rs S l).1 (p ++ [l]) = fnd S.1 p ++ (fin tt (rs.filter (at_ l)) S.2).1.map fun x => (x.1.nm, x.2) := fnd_step h.ok i hl
    have e2 : (stepL rs S l).2 = (fin (at_ l) rs S.2).2 := rfl
    have e3 : (((fin tt (rs.filter (at_ l)) S.2).1.map fun x => (x.1.nm, x.2)).map (·.2)) = pds (fin tt (rs.filter (at_ l)) S.2).1 := by simp [pds]
    show ((fnd (stepL rs S l).1 (p ++ [l])).map (·.2)).sum + (stepL rs S l).2 = c
    rw [fs, List.map_append, List.sum_append, e3, e2, gs]
    omega
  · have h1 := fnd_len (allS rs c).1 (levels rs)
    have h2 : (levels rs).length ≤ 12 := by
      have a := sset_len (rs.map R.lev)
      have := h.ok.1
      unfold levels
      simp at a
      omega
    have h3 : (allS rs c).1.length ≤ 12 := by
      have := congrArg List.length inv.rw
      simp [rws] at this
      have := h.ok.1
      omega
    have := Nat.mul_le_mul h3 h2
    omega
section
variable {rs : List R} {c : Int} (h : AllOk rs) (hc : AmOk c)
include h hc
theorem encE {E : Rs} (e : rws E = rs) : rs.map R.enc = E.map fun x => x.1.enc := by rw [← e]; simp [rws]
theorem run_shares : sharesF [.val (.tup (rs.map R.enc)), .val (.int c)] = some (.tup ((pds (allS rs c).1).map .int), [.un, .un]) := by
  apply eq_W
  have l1 := h.ok.1
  simp [sharesF, sharesB, W_fn, run_check_sureties h, run_check_claim hc, run_shares_of h hc, shares_c1]
  have k := all_ok h hc
  generalize hE : (allS rs c).1 = E at k ⊢
  generalize fnd E (levels rs) = T at k ⊢
  refine An.mk (by omega) ?_
  rw [encE h hc k.inv.rw]
  refine W_compM (α := R × Int) (fun x => .int x.2) (fun x hx => ?_) ?_
  · have := k.look x hx
    simp [this]
  simp [pds]
theorem run_unpaid : unpaidF [.val (.tup (rs.map R.enc)), .val (.int c)] = some (.int (allS rs c).2, [.un, .un]) := by
  apply eq_W
  have k := all_ok h hc
  generalize hE : (allS rs c).1 = E at k
  generalize hT : fnd E (levels rs) = T at k
  have b : ∀ v ∈ T.map (·.2), 0 ≤ v ∧ v ≤ 1000000000 := fun v hv => by
    have nn : ∀ v ∈ T.map (·.2), 0 ≤ v := fun v hv => by
      obtain ⟨x, hx, rfl⟩ := List.mem_map.mp ((k.vals v).mp hv)
      exact (k.inv.fit x hx).1
    have := mem_le_sum nn hv
    have := nn v hv
    have := k.sum
    have := k.inv.am.lo
    have := hc.hi
    omega
  have e1 : intsOf ((T.map kv).map (·.2)) = some (T.map (·.2)) := by
    have : (T.map kv).map (·.2) = (T.map (·.2)).map PV.int := by simp [kv]
    rw [this, intsOf_int]
  have ps : psumV (.dic true (T.map kv)) = some (.int (T.map (·.2)).sum) := by
    rw [psumV_dic, e1]
    simp only [Option.bind_some]
    exact guard_pos ⟨by have := k.len; simp; omega, fun i hi => by have := b i hi; omega⟩
  have e2 : c - (T.map (·.2)).sum = (allS rs c).2 := by have := k.sum; omega
  simp [unpaidF, unpaidB, W_fn, run_check_sureties h, run_check_claim hc, run_shares_of h hc, hE, hT, -psumV_dic, ps, e2]
omit hc in
theorem run_most : mostF [.val (.tup (rs.map R.enc))] = some (.int (rs.map R.room).sum, [.un]) := by
  apply eq_W
  have l1 := h.ok.1
  simp [mostF, mostB, W_fn, run_check_sureties h, most_c1]
  refine An.mk (by omega) ?_
  refine W_compM (α := R) (fun r => .int r.room) (fun r hr => ?_) ?_
  · simp [run_room_of]
  have g1 : rs.length ≤ 1000000 := by omega
  have g2 : ∀ r ∈ rs, -1000000000000 ≤ r.room ∧ r.room ≤ 1000000000000 := fun r hr => by
    have k := h.ok.2 r hr
    have := k.m0
    have := k.m1
    have := k.n0
    have := k.n1
    unfold R.room
    omega
  simp [g1, g2]
theorem run_least : least_levelF [.val (.tup (rs.map R.enc)), .val (.int c)] = some (if (allS rs c).1.filter (fun x => decide (0 < x.2)) = [] then .non else .int (maxI (((allS rs c).1.filter fun x => decide (0 < x.2)).map fun x => x.1.lev)), [.un, .un]) := by
  apply eq_W
  have l1 := h.ok.1
  simp [least_levelF, least_levelB, W_fn, run_check_sureties h, run_check_claim hc, run_shares_of h hc, least_level_c1]
  have k := all_ok h hc
  generalize hE : (allS rs c).1 = E at k ⊢
  generalize fnd E (levels rs) = T at k ⊢
  refine An.mk (by omega) ?_
  rw [encE h hc k.inv.rw]
  refine W_compB (α := R × Int) (fun x => decide (0 < x.2)) (fun x => .int x.1.lev) (fun x hx => ?_) ?_
  · have := k.look x hx
    simp [this]
    refine Br.mk (fun q => ?_) fun q => ?_ <;> simp [q]
  simp
  have pm : ∀ (o : Bool), ¬ (E.filter fun x => decide (0 < x.2)) = [] → pmax [.lst o ((E.filter fun x => decide (0 < x.2)).map fun x => .int x.1.lev)] = some (.int (maxI ((E.filter fun x => decide (0 < x.2)).map fun x => x.1.lev))) := fun o hn => by
    show (intsOf _).bind _ = _
    rw [intsOf_map]
    simp only [Option.bind_some]
    exact guard_pos (by simpa using hn)
  refine Br.mk (fun q => ?_) fun q => ?_
  · have hne : ¬ (E.filter fun x => decide (0 < x.2)) = [] := fun hn => by
      obtain ⟨x, v, hx, h0⟩ := q
      have : (x, v) ∈ E.filter fun x => decide (0 < x.2) := List.mem_filter.mpr ⟨hx, by simpa using h0⟩
      rw [hn] at this
      cases this
    rw [if_neg hne]
    simp [pm _ hne]
  · have he : (E.filter fun x => decide (0 < x.2)) = [] := by
      rw [List.filter_eq_nil_iff]
      intro x hx h0
      exact q ⟨x.1, x.2, hx, by simpa using h0⟩
    rw [if_pos he]
    simp
end
end Xk44

namespace Xk44
open PySem PySem.Spec PyProof.Rows L2 GX
theorem zipP : ∀ E : Rs, (pds E).zip (rws E) = E.map fun x => (x.2, x.1)
  | [] => rfl
  | x :: E => by
    have := zipP E
    simp only [pds, rws, List.map_cons, List.zip_cons_cons] at this ⊢
    rw [this]
theorem run_accept_shares {rs : List R} {c : Int} (h : AllOk rs) (hc : AmOk c) : accept_sharesF [.val (.tup (rs.map R.enc)), .val (.int c), .val (.tup ((pds (allS rs c).1).map .int))] = some (.non, [.un, .un, .un]) := by
  apply eq_W
  have l1 := h.ok.1
  have k := all_ok h hc
  generalize (allS rs c).1 = E at k ⊢
  generalize (allS rs c).2 = left at k
  generalize fnd E (levels rs) = T at k
  have hr := k.inv.rw
  have lp := pds_len hr
  have le : E.length = rs.length := by rw [← hr]; simp [rws]
  have z1 : (pds E).zip rs = E.map fun x => (x.2, x.1) := by rw [← hr]; exact zipP E
  have z2 : rs.zip (pds E) = E := by
    have := zip_self E
    rw [hr] at this
    exact this
  have nn : ∀ v ∈ pds E, 0 ≤ v := fun v hv => by
    obtain ⟨x, hx, rfl⟩ := List.mem_map.mp hv
    exact (k.inv.fit x hx).1
  have b : ∀ v ∈ pds E, -1000000000000 ≤ v ∧ v ≤ 1000000000000 := fun v hv => by
    have := mem_le_sum nn hv
    have := nn v hv
    have := k.inv.cons
    have := k.inv.am.lo
    have := hc.hi
    omega
  have g1 : rs.length ≤ 1000000 := by omega
  have sl : ¬ c < (pds E).sum := by have := k.inv.cons; have := k.inv.am.lo; omega
  simp [accept_sharesF, accept_sharesB, W_fn, run_check_sureties h, run_check_claim hc, lp, accept_shares_c1]
  refine An.mk (by omega) ?_
  refine W_compM (α := Int) (fun x => .bl true) (fun x hx => ?_) ?_
  · simp [run_is_integer]
  have zz1 : zipL ((pds E).map .int) (rs.map R.enc) = E.map fun x => .tup [.int x.2, x.1.enc] := by
    rw [zipL_map, z1, List.map_map]; rfl
  have zz2 : zipL (rs.map R.enc) ((pds E).map .int) = E.map fun x => .tup [x.1.enc, .int x.2] := by
    rw [zipL_map, z2]
  have ee : enumL 0 (rs.map R.enc) = E.zipIdx.map fun p => .tup [.int ((p.2 : Nat) : Int), p.1.1.enc] := by
    rw [encE h hc hr, enumL_map]
  have pan : ∀ {α : Type} (xs : List α), pany [.lst true (xs.map fun _ => PV.bl false)] = some (.bl false) := fun xs => by
    have := pany_map true (fun _ => false) xs
    simpa using this
  simp [lp, zz1, accept_shares_c2]
  refine An.mk (by omega) ?_
  simp
  refine W_compM (α := R × Int) (fun x => .bl true) (fun x hx => ?_) ?_
  · have := k.inv.fit x hx
    simp [run_room_of, this.1, this.2]
  simp [b, lp, g1, sl, accept_shares_l1, zz2]
  refine W_forL (α := R × Int) (fun p q ρ => ∃ y3 y4 : Slot, y3.loc = true ∧ y3.pure = true ∧ y4.loc = true ∧ y4.pure = true ∧ ρ = [.val (.tup (rs.map R.enc)), .val (.int c), .val (.tup ((pds E).map .int)), y3, y4, .un, .un]) ⟨.un, .un, rfl, rfl, rfl, rfl, rfl⟩ (fun p x q ρ e ⟨y3, y4, l3, p3, l4, p4, hr⟩ => ?_) fun ρ ⟨y3, y4, l3, p3, l4, p4, hr⟩ => ?_
  · subst hr
    have hx : x ∈ E := by rw [e]; simp
    simp [accept_shares_l1b, l3, l4, accept_shares_c3]
    refine Br.mk (fun h0 => ?_) fun h0 => ?_
    · simp [ee]
      refine An.mk (by omega) ?_
      simp [ee]
      refine W_compB (α := (R × Int) × Nat) (fun y => decide (y.1.1.lev < x.1.lev)) (fun _ => .bl false) (fun y hy => ?_) ?_
      · have hm := List.mem_zipIdx_iff_getElem?.mp hy
        have hi := (List.getElem?_eq_some_iff.mp hm).1
        have hyE : y.1 ∈ E := List.mem_of_getElem? hm
        have ey : nth (pds E) y.2 = y.1.2 := by simp [nth, pds, hm]
        have h1 := ati (l := pds E) (i := ((y.2 : Nat) : Int)) (by omega) (by omega)
        simp only [Int.toNat_natCast, ey] at h1
        simp
        refine Br.mk (fun q => ?_) fun q => ?_
        · have := k.inv.lev x hx h0 y.1 hyE q
          simp [q, h1, run_room_of, this]
        · simp at q; simp [q]
      simp [pan]
      exact ⟨_, rfl, by simp, _, rfl, rfl, rfl, rfl⟩
    · simp
      exact ⟨_, rfl, by simp, _, rfl, rfl, rfl, rfl⟩
  · subst hr
    simp
    refine Br.mk (fun h0 => ?_) fun h0 => ?_
    · have full : ∀ x ∈ E, x.2 = x.1.room := by
        rcases k.inv.full with q | q
        · have := k.inv.cons; omega
        · exact fun x hx => q x hx (sset_mem.mpr (List.mem_map.mpr ⟨x.1, by rw [← hr]; exact List.mem_map.mpr ⟨x, hx, rfl⟩, rfl⟩))
      simp [accept_shares_c4, zz1]
      refine An.mk ⟨p3, p4⟩ ?_
      simp
      refine An.mk (by omega) ?_
      refine W_compM (α := R × Int) (fun _ => .bl false) (fun x hx => ?_) ?_
      · have := full x hx
        simp [run_room_of, this]
      simp [pan]
    · simp
end Xk44

namespace Xk44
open PySem PySem.Spec PyProof.Rows L2 GX
/-- the first that pays most -/
def best (E : Rs) : Option (Str × Int) := (E.find? fun x => decide (x.2 = maxI (pds E))).map fun x => (x.1.nm, x.2)
theorem best_some {E : Rs} (h : E ≠ []) : ∃ x, x ∈ E ∧ x.2 = maxI (pds E) ∧ E.find? (fun x => decide (x.2 = maxI (pds E))) = some x := by
  have hn : pds E ≠ [] := by cases E with | nil => exact absurd rfl h | cons x E => simp [pds]
  obtain ⟨x, hx, e⟩ := List.mem_map.mp (maxI_spec hn).1
  have : (E.find? fun x => decide (x.2 = maxI (pds E))).isSome := List.find?_isSome.mpr ⟨x, hx, by simpa using e⟩
  obtain ⟨y, hy⟩ := Option.isSome_iff_exists.mp this
  have h1 := List.find?_some hy
  exact ⟨y, List.mem_of_find?_eq_some hy, by simpa using h1, hy⟩
def encB : Option (Str × Int) → PV
  | none => .non
  | some q => .tup [.str q.1, .int q.2]
theorem filter_head {α : Type} (p : α → Bool) : ∀ {l : List α} {x : α}, l.find? p = some x → ∃ t, l.filter p = x :: t
  | [], _, h => nomatch h
  | y :: l, x, h => by
    rw [List.find?_cons] at h
    cases e : p y with
    | true => rw [e] at h; cases h; exact ⟨_, by rw [List.filter_cons, if_pos e]⟩
    | false => rw [e] at h; obtain ⟨t, ht⟩ := filter_head p h; exact ⟨t, by rw [List.filter_cons, if_neg (by simp [e]), ht]⟩
theorem run_greatest {rs : List R} {c : Int} (h : AllOk rs) (hc : AmOk c) : greatest_shareF [.val (.tup (rs.map R.enc)), .val (.int c)] = some (encB (best (allS rs c).1), [.un, .un]) := by
  apply eq_W
  have l1 := h.ok.1
  have k := all_ok h hc
  simp [greatest_shareF, greatest_shareB, W_fn, run_check_sureties h, run_check_claim hc, run_shares_of h hc, greatest_share_c1, -pmaxV_dic]
  generalize hE : (allS rs c).1 = E at k ⊢
  generalize fnd E (levels rs) = T at k ⊢
  refine Br.mk (fun hz => ?_) fun hz => ?_
  · have : E = [] := by
      have := congrArg List.length k.inv.rw
      rw [hz] at this
      simpa [rws] using this
    subst this
    simp [hz, best, encB]
  · have hne : E ≠ [] := fun e => hz (by have := k.inv.rw; rw [e] at this; exact this.symm)
    obtain ⟨x, hx, e1, e2⟩ := best_some hne
    have eT : intsOf ((T.map kv).map (·.2)) = some (T.map (·.2)) := by
      have : (T.map kv).map (·.2) = (T.map (·.2)).map PV.int := by simp [kv]
      rw [this, intsOf_int]
    have hT : T.map (·.2) ≠ [] := fun e => by
      have := (k.vals x.2).mpr (List.mem_map.mpr ⟨x, hx, rfl⟩)
      rw [e] at this
      cases this
    have hP : pds E ≠ [] := fun e => by cases E with | nil => exact hne rfl | cons x E => simp [pds] at e
    have em : maxI (T.map (·.2)) = maxI (pds E) := maxI_uniq hP ((k.vals _).mp (maxI_spec hT).1) fun j hj => (maxI_spec hT).2 j ((k.vals j).mpr hj)
    have pm : ∀ o, pmaxV (.dic o (T.map kv)) = some (.int (maxI (pds E))) := fun o => by
      rw [pmaxV_dic, eT]
      simp only [Option.bind_some]
      rw [guard_pos hT, em]
    simp [hz, pm, -pmaxV_dic]
    refine An.mk (by omega) ?_
    rw [encE h hc k.inv.rw]
    simp
    refine W_compB (α := R × Int) (fun x => decide (x.2 = maxI (pds E))) (fun x => .str x.1.nm) (fun x hx => ?_) ?_
    · have := k.look x hx
      simp [this]
      refine Br.mk (fun q => ?_) fun q => ?_ <;> simp [q]
    obtain ⟨t, ht⟩ := filter_head _ e2
    simp [ht, best, e2, encB, e1]
end Xk44

namespace Xk44
open PySem PySem.Spec PyProof.Rows L2 GX
theorem pin_strs (s : Str) (o : Bool) (xs : List R) (h : ∃ r ∈ xs, r.nm = s) : pnin (.str s) (.lst o (xs.map fun r => .str r.nm)) = some (.bl false) := by
  have h1 : pinB (.str s) (.lst o (xs.map fun r => .str r.nm)) = some true := by
    have hall : (xs.map fun r : R => PV.str r.nm).all flatP = true := by
      rw [List.all_eq_true]
      intro y hy
      obtain ⟨r, _, rfl⟩ := List.mem_map.mp hy
      rfl
    show (if flatP (PV.str s) = true ∧ (xs.map fun r => PV.str r.nm).all flatP = true then _ else _) = _
    rw [if_pos ⟨rfl, hall⟩]
    congr 1
    rw [List.any_eq_true]
    obtain ⟨r, hr, e⟩ := h
    refine ⟨_, List.mem_map.mpr ⟨r, hr, rfl⟩, ?_⟩
    show decide (_ = _) = true
    simp [e]
  show (pinB _ _).map _ = _
  rw [h1]
  rfl
theorem run_even {rs : List R} {c : Int} (h : AllOk rs) (hc : AmOk c) {r : R} (hr : r ∈ rs) : even_sharesF [.val (.tup (rs.map R.enc)), .val (.int c), .val (.str r.nm)] = some (.tup (((fin tt (rs.filter (at_ r.lev)) c).1.filter fun x => !decide (x.1.nm = r.nm)).map fun x => .tup [.str x.1.nm, .int x.2]), [.un, .un, .un]) := by
  apply eq_W
  have l1 := h.ok.1
  have rk : RsOk (rs.filter (at_ r.lev)) := ⟨by have := List.length_filter_le (at_ r.lev) rs; omega, fun r hr => h.ok.2 r (List.mem_filter.mp hr).1⟩
  obtain ⟨b, eb⟩ := run_shares_in rk hc
  obtain ⟨g1, g2, g3, g4⟩ := fin_ok (sel := tt) rk hc
  have fr : rs.find? (fun x => decide (x.nm = r.nm)) = some r := by
    have : (rs.find? fun x => decide (x.nm = r.nm)).isSome := List.find?_isSome.mpr ⟨r, hr, by simp⟩
    obtain ⟨y, hy⟩ := Option.isSome_iff_exists.mp this
    have h1 := List.find?_some hy
    rw [hy, nd_inj h.nd (List.mem_of_find?_eq_some hy) hr (by simpa using h1)]
  obtain ⟨t, ht⟩ := filter_head _ fr
  have len2 := rk.1
  have zF : zipL ((rs.filter (at_ r.lev)).map R.enc) ((pds (fin tt (rs.filter (at_ r.lev)) c).1).map .int) = (fin tt (rs.filter (at_ r.lev)) c).1.map fun x => .tup [x.1.enc, .int x.2] := by
    have := zip_self (fin tt (rs.filter (at_ r.lev)) c).1
    rw [g3] at this
    rw [zipL_map, this]
  have lenF : (fin tt (rs.filter (at_ r.lev)) c).1.length = (rs.filter (at_ r.lev)).length := by
    have := congrArg List.length g3
    simpa [rws] using this
  generalize (fin tt (rs.filter (at_ r.lev)) c).1 = F at *
  simp [even_sharesF, even_sharesB, W_fn, run_check_sureties h, run_check_claim hc, even_shares_c1]
  refine An.mk (by omega) ?_
  refine W_compM (α := R) (fun r => .str r.nm) (fun r hr => ?_) ?_
  · simp
  simp [pin_strs r.nm _ rs ⟨r, hr, rfl⟩, even_shares_c2]
  refine An.mk (by omega) ?_
  refine W_compB (α := R) (fun x => decide (x.nm = r.nm)) (fun x => .int x.lev) (fun x hx => ?_) ?_
  · simp
    refine Br.mk (fun q => ?_) fun q => ?_ <;> simp [q]
  simp [ht, even_shares_c3]
  refine An.mk (by omega) ?_
  refine W_compB (α := R) (at_ r.lev) R.enc (fun x hx => ?_) ?_
  · simp
    refine Br.mk (fun q => ?_) fun q => ?_ <;> simp [at_, q]
  cases b
  all_goals
    simp [eb, even_shares_c4, zF]
    refine An.mk (by omega) ?_
    refine W_compB (α := R × Int) (fun x => !decide (x.1.nm = r.nm)) (fun x => .tup [.str x.1.nm, .int x.2]) (fun x hx => ?_) ?_
    · simp
      refine Br.mk (fun q => ?_) fun q => ?_
      · simp [q]
      · simpa using q
    simp
end Xk44

namespace Xk44
open PySem PySem.Spec PyProof.Rows L2 GX
theorem litI (xs : List Int) {i : Int} (h0 : 0 ≤ i) (h : i < xs.length) : ∃ m ∈ xs, atI (xs.map PV.int) i = some (.int m) := by
  refine ⟨xs[i.toNat]'(by omega), List.getElem_mem _, ?_⟩
  rw [atI_mp, atI_pos h0 h]
  rfl
def nmK (k : Nat) : Str := ⟨#[115, 97 + k]⟩
theorem get_letter : ∀ k : Nat, k < 12 → pgetI (.str "abcdefghijkl") (.int (k : Nat)) = some (.str ⟨#[97 + k]⟩) := by
  intro k hk
  have e : (("abcdefghijkl" : Str).cps.toList) = [97, 98, 99, 100, 101, 102, 103, 104, 105, 106, 107, 108] := by decide +kernel
  have l : ("abcdefghijkl" : Str).length ≤ 16777216 := by decide +kernel
  show guard _ ((atI (("abcdefghijkl" : Str).cps.toList) (k : Nat)).map _) = _
  rw [guard_pos l, e]
  have : k = 0 ∨ k = 1 ∨ k = 2 ∨ k = 3 ∨ k = 4 ∨ k = 5 ∨ k = 6 ∨ k = 7 ∨ k = 8 ∨ k = 9 ∨ k = 10 ∨ k = 11 := by omega
  rcases this with rfl | rfl | rfl | rfl | rfl | rfl | rfl | rfl | rfl | rfl | rfl | rfl <;> rfl
theorem add_letter (k : Nat) (hk : k < 12) : padd (.str "s") (.str ⟨#[97 + k]⟩) = some (.str (nmK k)) := by
  have : k = 0 ∨ k = 1 ∨ k = 2 ∨ k = 3 ∨ k = 4 ∨ k = 5 ∨ k = 6 ∨ k = 7 ∨ k = 8 ∨ k = 9 ∨ k = 10 ∨ k = 11 := by omega
  have e : ("s" : Str) = ⟨#[115]⟩ := by decide +kernel
  rw [e]
  rcases this with rfl | rfl | rfl | rfl | rfl | rfl | rfl | rfl | rfl | rfl | rfl | rfl <;> rfl
theorem nmK_inj {a b : Nat} (h : nmK a = nmK b) : a = b := by
  unfold nmK at h
  injection h with h
  have := congrArg (fun x : Array Nat => x[1]?) h
  simp at this
  exact this
theorem in_letters (c : Nat) (h : c = 115 ∨ (97 ≤ c ∧ c < 109)) : pin (.str ⟨#[c]⟩) k_LETTERS = some (.bl true) := by
  have : c = 115 ∨ c = 97 ∨ c = 98 ∨ c = 99 ∨ c = 100 ∨ c = 101 ∨ c = 102 ∨ c = 103 ∨ c = 104 ∨ c = 105 ∨ c = 106 ∨ c = 107 ∨ c = 108 := by omega
  unfold pin
  have e : ∀ z : Str, pinB (.str z) k_LETTERS = some (!(Builtin.Str.occurrences ("abcdefghijklmnopqrstuvwxyz" : Str) z 0 ("abcdefghijklmnopqrstuvwxyz" : Str).length 1).isEmpty) := fun _ => rfl
  rw [e]
  suffices h : (!(Builtin.Str.occurrences ("abcdefghijklmnopqrstuvwxyz" : Str) (⟨#[c]⟩ : Str) 0 ("abcdefghijklmnopqrstuvwxyz" : Str).length 1).isEmpty) = true by rw [h]; rfl
  rcases this with rfl | rfl | rfl | rfl | rfl | rfl | rfl | rfl | rfl | rfl | rfl | rfl | rfl <;> decide +kernel
theorem name_ok (k : Nat) (hk : k < 12) : NameOk (nmK k) := by
  unfold NameOk
  apply eq_W
  have i1 := in_letters 115 (.inl rfl)
  have i2 := in_letters (97 + k) (.inr (by omega))
  have e1 : itemsOf (.str (nmK k)) = some [.str ⟨#[115]⟩, .str ⟨#[97 + k]⟩] := rfl
  have e2 : plen [.str (nmK k)] = some (.int 2) := rfl
  have pa : pall [.lst true [.bl true, .bl true]] = some (.bl true) := rfl
  simp [is_nameF, is_nameB, W_fn, e1, e2, is_name_c1, W_compCons, W_compNil, i1, i2, pa, -itemsOf_str]
theorem irng_at {n : Int} {p q : List Int} {x : Int} (e : irng 0 n = p ++ x :: q) : x = p.length ∧ (p.length : Int) < n := by
  have h1 := congrArg (fun l : List Int => l[p.length]?) e
  have h2 := congrArg List.length e
  simp only [irng_length, List.length_append, List.length_cons] at h2
  simp only [irng, List.getElem?_map] at h1
  have : p.length < (n - 0).toNat := by omega
  simp [this] at h1
  have h3 : p.length < n.toNat := by omega
  simp [h3] at h1
  omega
def NmS (rs : List R) : Prop := ∀ r ∈ rs, PyData.strOk r.nm = true ∧ r.nm.cps.size = 2
theorem nmK_str (k : Nat) (hk : k < 12) : PyData.strOk (nmK k) = true ∧ (nmK k).cps.size = 2 := by
  have : k = 0 ∨ k = 1 ∨ k = 2 ∨ k = 3 ∨ k = 4 ∨ k = 5 ∨ k = 6 ∨ k = 7 ∨ k = 8 ∨ k = 9 ∨ k = 10 ∨ k = 11 := by omega
  rcases this with rfl | rfl | rfl | rfl | rfl | rfl | rfl | rfl | rfl | rfl | rfl | rfl <;> exact ⟨by decide +kernel, rfl⟩
theorem run_law_sureties {s : St} (hs : s.ok) (many : Int) (m0 : 0 ≤ many) (m1 : many ≤ 12) : ∃ (s' : St) (rs : List R), s'.ok ∧ AllOk rs ∧ NmS rs ∧ _law_suretiesF [.ref s.enc, .val (.int many)] = some (.tup (rs.map R.enc), [.ref s'.enc, .un]) := by
  have h : ∀ Q : PV × List Slot → Prop, (∀ (s : St) (rs : List R), s.ok → AllOk rs → NmS rs → Q (.tup (rs.map R.enc), [.ref s.enc, .un])) → W (_law_suretiesF [.ref s.enc, .val (.int many)]) (Q := ⟨Q⟩) := fun Q hQ => by
    obtain ⟨s1, n, a1, b1, e1⟩ := run_draw hs (many + 1) (by omega) (by omega)
    have sm : smallI n = true := smallI_of (by omega) (by omega)
    simp [_law_suretiesF, _law_suretiesB, W_fn, e1, sm, _law_sureties_l1]
    refine W_forL (α := Int) (fun p q ρ => ∃ (s : St) (rs : List R) (y3 y4 y5 : Slot), s.ok ∧ rs.map R.nm = (List.range p.length).map nmK ∧ (∀ r ∈ rs, ROk r) ∧ y3.loc = true ∧ y4.loc = true ∧ y5.loc = true ∧ ρ = [.ref s.enc, .val (.int many), .val (.lst true (rs.map R.enc)), y3, y4, y5]) ⟨s1, [], .un, .un, .un, a1, rfl, (fun _ h => nomatch h), rfl, rfl, rfl, rfl⟩ (fun p k q ρ e ⟨s, rs, y3, y4, y5, g1, g2, g3, l3, l4, l5, hr⟩ => ?_) fun ρ ⟨s, rs, y3, y4, y5, g1, g2, g3, l3, l4, l5, hr⟩ => ?_
    · subst hr
      obtain ⟨hk, hk2⟩ := irng_at e
      have hk3 : p.length < 12 := by omega
      have rl : rs.length = p.length := by have := congrArg List.length g2; simpa using this
      obtain ⟨s1, v1, a1, b1, e1⟩ := run_draw g1 100 (by omega) (by omega)
      obtain ⟨s2, v2, a2, b2, e2⟩ := run_draw a1 1000000001 (by omega) (by omega)
      obtain ⟨s3, v3, a3, b3, e3⟩ := run_draw a2 6 (by omega) (by omega)
      obtain ⟨j, hj, f1⟩ := litI [0, 1, 2, 2, 2, 3] b3.1 b3.2
      have hj : 0 ≤ j ∧ j < 4 := by simp at hj; omega
      obtain ⟨lim, hlim, f2⟩ := litI [0, 1, v1, v2] hj.1 hj.2
      have hlim : 0 ≤ lim ∧ lim ≤ 1000000000 := by simp at hlim; omega
      obtain ⟨s4, v4, a4, b4, e4⟩ := run_draw a3 100 (by omega) (by omega)
      obtain ⟨s5, v5, a5, b5, e5⟩ := run_draw a4 4 (by omega) (by omega)
      obtain ⟨mea, hmea, f3⟩ := litI [lim, 0, v4, 1000000000] b5.1 b5.2
      have hmea : 0 ≤ mea ∧ mea ≤ 1000000000 := by simp at hmea; omega
      obtain ⟨s6, v6, a6, b6, e6⟩ := run_draw a5 3 (by omega) (by omega)
      obtain ⟨m, hm, f4⟩ := litI [1, 3, 13] b6.1 b6.2
      have hm : 0 < m ∧ m ≤ 13 := by simp at hm; omega
      obtain ⟨s7, v7, a7, b7, e7⟩ := run_draw a6 m hm.1 (by omega)
      simp only [List.map_cons, List.map_nil] at f1 f2 f3 f4
      have gl := get_letter p.length hk3
      have al := add_letter p.length hk3
      subst hk
      simp [_law_sureties_l1b, l3, l4, l5, e1, e2, e3, f1, f2, e4, e5, f3, e6, f4, e7, gl, al]
      refine An.mk (by omega) ?_
      simp
      refine ⟨s7, a7, rs ++ [⟨nmK p.length, v7, lim, mea⟩], ?_, fun r hr => ?_, _, rfl, _, rfl, _, rfl, rfl, ?_, rfl, rfl, rfl⟩
      · rw [List.map_append, g2, List.range_succ, List.map_append]
        rfl
      · rcases List.mem_append.mp hr with q | q
        · exact g3 r q
        · have : r = ⟨nmK p.length, v7, lim, mea⟩ := by simpa using q
          rw [this]
          exact ⟨b7.1, by simp only; omega, hlim.1, hlim.2, hmea.1, hmea.2⟩
      · rw [List.map_append]
        rfl
    · subst hr
      have rl : rs.length ≤ 12 := by have := congrArg List.length g2; simp at this; omega
      have all : AllOk rs := ⟨⟨rl, g3⟩, by
        unfold Nms
        rw [g2]
        exact List.Pairwise.map (S := fun a b : Str => a ≠ b) nmK (fun a b hab e => hab (nmK_inj e)) List.nodup_range, fun r hr => by
        have : r.nm ∈ rs.map R.nm := List.mem_map.mpr ⟨r, hr, rfl⟩
        rw [g2] at this
        obtain ⟨i, hi, e⟩ := List.mem_map.mp this
        rw [← e]
        have hi := List.mem_range.mp hi
        simp at hi
        exact name_ok i (by omega)⟩
      simp
      exact hQ s rs g1 all fun r hr => by
        have : r.nm ∈ rs.map R.nm := List.mem_map.mpr ⟨r, hr, rfl⟩
        rw [g2] at this
        obtain ⟨i, hi, e⟩ := List.mem_map.mp this
        rw [← e]
        have hi := List.mem_range.mp hi
        simp at hi
        exact nmK_str i (by omega)
  obtain ⟨a, e, s, v, h1, h2, h2b, h3⟩ := h (fun r => ∃ (s : St) (v : List R), s.ok ∧ AllOk v ∧ NmS v ∧ r = (.tup (v.map R.enc), [.ref s.enc, .un])) fun s v h h' h2 => ⟨s, v, h, h', h2, rfl⟩
  exact ⟨s, v, h1, h2, h2b, by rw [e, h3]⟩
end Xk44

set_option maxHeartbeats 2000000
namespace Xk44
open PySem PySem.Spec PyProof.Rows L2 GX
structure Ys where
  (a2 a3 a4 a5 a6 a7 a8 a9 a10 a11 a12 a13 a14 a15 : Slot)
structure Ys.ok (y : Ys) : Prop where
  h2 : y.a2.loc = true
  h3 : y.a3.loc = true
  h4 : y.a4.loc = true
  h5 : y.a5.loc = true
  h6 : y.a6.loc = true
  h7 : y.a7.loc = true
  h8 : y.a8.loc = true
  h9 : y.a9.loc = true
  h10 : y.a10.loc = true
  h11 : y.a11.loc = true
  h12 : y.a12.loc = true
  h13 : y.a13.loc = true
  h14 : y.a14.loc = true
  h15 : y.a15.loc = true
def rho (ns : List Int) (s : St) (y : Ys) : Rho := [.val (.zls (ns.map .int)), .val s.enc, y.a2, y.a3, y.a4, y.a5, y.a6, y.a7, y.a8, y.a9, y.a10, y.a11, y.a12, y.a13, y.a14, y.a15, .un, .un]
theorem shL_ints : ∀ (xs : List Int), (∀ x ∈ xs, -1000000000000 ≤ x ∧ x ≤ 1000000000000) → ∃ n ds, ShL 0 n (xs.map PV.int) ds ∧ n ≤ 150 * xs.length + 10
  | [], _ => ⟨0, [], shL_nil, by omega⟩
  | x :: xs, h => by
    have hx := h x (List.mem_cons_self ..)
    obtain ⟨n, ds, h1, h2⟩ := shL_ints xs fun y hy => h y (List.mem_cons_of_mem _ hy)
    exact ⟨_, _, shL_cons (sh_int x (by omega)) h1, by simp only [List.length_cons]; omega⟩
theorem alike_ints {xs : List Int} (h : ∀ x ∈ xs, -1000000000000 ≤ x ∧ x ≤ 1000000000000) (hl : xs.length ≤ 100) : Alike (.tup (xs.map PV.int)) (.tup (xs.map PV.int)) := by
  obtain ⟨n, ds, h1, h2⟩ := shL_ints xs h
  exact alike_self (sh_tup h1) (by omega) (by omega)
theorem rng_filter {E : Rs} {rs : List R} (h : rws E = rs) {p : Int → Bool} {f : Int → PV} (P : R × Int → Bool) (F : R × Int → PV)
    (hp : ∀ (i : Nat) (x : R × Int), E[i]? = some x → p i = P x ∧ f i = F x) : ((irng 0 rs.length).filter p).map f = (E.filter P).map F := by
  have e : irng 0 rs.length = E.zipIdx.map fun p => ((p.2 : Nat) : Int) := by
    subst h
    apply List.ext_getElem?
    intro i
    simp only [irng, List.getElem?_map, List.getElem?_zipIdx, rws]
    by_cases q : i < E.length
    · simp [q]
    · simp [q]
  have e2 : E.zipIdx.map (·.1) = E := by simp
  rw [e, List.filter_map, List.map_map]
  conv => rhs; rw [← e2, List.filter_map, List.map_map]
  have e3 : E.zipIdx.filter (p ∘ fun p => ((p.2 : Nat) : Int)) = E.zipIdx.filter (P ∘ fun p => p.1) := by
    refine List.filter_congr fun q hq => ?_
    exact (hp q.2 q.1 (List.mem_zipIdx_iff_getElem?.mp hq)).1
  rw [e3]
  refine List.map_congr_left fun q hq => ?_
  exact (hp q.2 q.1 (List.mem_zipIdx_iff_getElem?.mp (List.mem_filter.mp hq).1)).2
theorem eqv_i (a b : Int) : PyData.eqv (.int a) (.int b) = decide (a = b) := by
  simp only [PyData.eqv]
  try rfl
theorem first_find (m : Int) : ∀ (E : Rs) (o : Nat), (∃ x ∈ E, x.2 = m) → ∃ i x, firstAt (.int m) ((pds E).map PyData.int) o = some (o + i) ∧ E[i]? = some x ∧ E.find? (fun x => decide (x.2 = m)) = some x ∧ x.2 = m
  | [], _, h => by obtain ⟨x, hx, _⟩ := h; cases hx
  | y :: E, o, h => by
    by_cases e : y.2 = m
    · refine ⟨0, y, ?_, rfl, by rw [List.find?_cons]; simp [e], e⟩
      simp only [pds, List.map_cons, firstAt, eqv_i, e, decide_true, if_true, Nat.add_zero]
    · obtain ⟨i, x, h1, h2, h3, h4⟩ := first_find m E (o + 1) (by
        obtain ⟨x, hx, ex⟩ := h
        rcases List.mem_cons.mp hx with rfl | hx
        · exact absurd ex e
        · exact ⟨x, hx, ex⟩)
      refine ⟨i + 1, x, ?_, by simpa using h2, by rw [List.find?_cons]; simp [e, h3], h4⟩
      simp only [pds, List.map_cons] at h1 ⊢
      rw [firstAt, eqv_i, if_neg (by simp [e]), h1]
      congr 1
      omega
theorem toDs_ints (xs : List Int) : toDs (xs.map PV.int) = some (xs.map PyData.int) := toDs_map (fun _ => rfl) xs
theorem index_E {E : Rs} (h : E ≠ []) (o : Bool) : ∃ (i : Nat) (x : R × Int), pindex (.lst o ((pds E).map .int)) (.int (maxI (pds E))) = some (.int i) ∧ E[i]? = some x ∧ best E = some (x.1.nm, x.2) := by
  obtain ⟨y, hy, e1, e2⟩ := best_some h
  obtain ⟨i, x, h1, h2, h3, h4⟩ := first_find (maxI (pds E)) E 0 ⟨y, hy, e1⟩
  refine ⟨i, x, ?_, h2, by simp [best, h3]⟩
  show (toDs _).bind _ = _
  rw [toDs_ints]
  simp only [Option.bind_some]
  show guard _ _ = _
  have sh : SeqAt.shaped (.int (maxI (pds E))) = true := rfl
  rw [guard_pos ⟨shaped_lstI _, sh⟩, h1]
  simp
def encM (E : Rs) : PV := if E.filter (fun x => decide (0 < x.2)) = [] then .non else .int (maxI ((E.filter fun x => decide (0 < x.2)).map fun x => x.1.lev))
theorem pay_if (z0 z1 z2 z3 z4 z5 z6 z7 z8 z9 z10 z12 z13 z14 z15 z16 z17 : Slot) (E : Rs) : cIf (mTru (oSl 11)) (cCall pmax (oCons (oSl 11) oNil)) (cC .non) [z0, z1, z2, z3, z4, z5, z6, z7, z8, z9, z10, .val (.lst true ((E.filter fun x => decide (0 < x.2)).map fun x => PV.int x.1.lev)), z12, z13, z14, z15, z16, z17] = some (encM E, [z0, z1, z2, z3, z4, z5, z6, z7, z8, z9, z10, .val (.lst true ((E.filter fun x => decide (0 < x.2)).map fun x => PV.int x.1.lev)), z12, z13, z14, z15, z16, z17]) := by
  apply eq_W
  have pm : ∀ (o : Bool), ¬ (E.filter fun x => decide (0 < x.2)) = [] → pmax [.lst o ((E.filter fun x => decide (0 < x.2)).map fun x => .int x.1.lev)] = some (.int (maxI ((E.filter fun x => decide (0 < x.2)).map fun x => x.1.lev))) := fun o hn => by
    show (intsOf _).bind _ = _
    rw [intsOf_map]
    simp only [Option.bind_some]
    exact guard_pos (by simpa using hn)
  simp
  refine Br.mk (fun q => ?_) fun q => ?_
  · have hne : ¬ (E.filter fun x => decide (0 < x.2)) = [] := fun hn => by
      obtain ⟨x, v, hx, h0⟩ := q
      have : (x, v) ∈ E.filter fun x => decide (0 < x.2) := List.mem_filter.mpr ⟨hx, by simpa using h0⟩
      rw [hn] at this
      cases this
    unfold encM
    rw [if_neg hne]
    simp [pm _ hne]
  · have he : (E.filter fun x => decide (0 < x.2)) = [] := by
      rw [List.filter_eq_nil_iff]
      intro x hx h0
      exact q ⟨x.1, x.2, hx, by simpa using h0⟩
    unfold encM
    rw [if_pos he]
    simp
def encI (E : Rs) (v : PV) : Prop := (E = [] ∧ v = .non) ∨ ∃ (i : Nat) (x : R × Int), v = .int i ∧ E[i]? = some x ∧ best E = some (x.1.nm, x.2)
theorem first_if (z0 z1 z2 z3 z4 z5 z6 z7 z8 z10 z11 z12 z13 z14 z15 z16 z17 : Slot) (E : Rs) : ∃ v, encI E v ∧ cIf (mTru (oSl 9)) (cIdx (oSl 9) (oTm (cCall pmax (oCons (oSl 9) oNil)))) (cC .non) [z0, z1, z2, z3, z4, z5, z6, z7, z8, .val (.lst false ((pds E).map .int)), z10, z11, z12, z13, z14, z15, z16, z17] = some (v, [z0, z1, z2, z3, z4, z5, z6, z7, z8, .val (.lst false ((pds E).map .int)), z10, z11, z12, z13, z14, z15, z16, z17]) := by
  by_cases h : E = []
  · refine ⟨.non, .inl ⟨h, rfl⟩, ?_⟩
    apply eq_W
    subst h
    simp [pds]
  · obtain ⟨i, x, h1, h2, h3⟩ := index_E h false
    refine ⟨.int i, .inr ⟨i, x, rfl, h2, h3⟩, ?_⟩
    apply eq_W
    have hP : pds E ≠ [] := fun e => by cases E with | nil => exact h rfl | cons x E => simp [pds] at e
    have pm : ∀ o : Bool, pmax [.lst o ((pds E).map .int)] = some (.int (maxI (pds E))) := fun o => by
      show (intsOf _).bind _ = _
      rw [intsOf_int]
      simp only [Option.bind_some]
      exact guard_pos hP
    simp [hP, pm, h1]
theorem tup_if {rs : List R} {E : Rs} (hr : rws E = rs) {v : PV} (hv : encI E v) (z0 z1 z2 z3 z4 z5 z7 z8 z10 z11 z13 z14 z15 z16 z17 : Slot) : cIf (mVal (cBin pisN (oSl 12) (oTm (cC .non)))) (cC .non) (cTup (oCons (oTm (cSub (oSub (oSl 6) (oSl 12)) (oTm (cC (.int 0))))) (oCons (oTm (cSub (oSl 9) (oSl 12))) oNil))) [z0, z1, z2, z3, z4, z5, .val (.tup (rs.map R.enc)), z7, z8, .val (.lst false ((pds E).map .int)), z10, z11, .val v, z13, z14, z15, z16, z17] = some (encB (best E), [z0, z1, z2, z3, z4, z5, .val (.tup (rs.map R.enc)), z7, z8, .val (.lst false ((pds E).map .int)), z10, z11, .val v, z13, z14, z15, z16, z17]) := by
  apply eq_W
  rcases hv with ⟨e, rfl⟩ | ⟨i, x, rfl, h2, h3⟩
  · subst e
    simp [best, encB]
  · have hi : i < E.length := (List.getElem?_eq_some_iff.mp h2).1
    have le : E.length = rs.length := by rw [← hr]; simp [rws]
    have h4 : atI rs (i : Int) = some x.1 := by
      rw [atI_pos (by omega) (by omega)]
      subst hr
      have := (List.getElem?_eq_some_iff.mp h2).2
      simp [rws, this]
    have h5 : atI (pds E) (i : Int) = some x.2 := by
      rw [ati (by omega) (by simp [pds]; omega)]
      simp [nth, pds, h2]
    simp [h3, encB, h4, h5]
theorem alikeM (rs : List R) (E : Rs) (h : ∀ x ∈ E, 0 ≤ x.1.lev ∧ x.1.lev ≤ 12) : Alike (encM E) (encM E) := by
  unfold encM
  by_cases hn : (E.filter fun x => decide (0 < x.2)) = []
  · rw [if_pos hn]
    exact alike_self sh_non (by omega) (by omega)
  · rw [if_neg hn]
    have hm := (maxI_spec (ns := ((E.filter fun x => decide (0 < x.2)).map fun x => x.1.lev)) (by simpa using hn)).1
    obtain ⟨x, hx, e⟩ := List.mem_map.mp hm
    have := h x (List.mem_filter.mp hx).1
    exact alike_self (sh_int _ (by omega)) (by omega) (by omega)
theorem sh_pay {s : Str} {v : Int} (hs : PyData.strOk s = true ∧ s.cps.size = 2) (hv : 0 ≤ v ∧ v ≤ 1000000000) : Sh 1 200 (.tup [.str s, .int v]) (.tuple [.str s, .int v]) := by
  have := sh_tup (shL_cons (sh_str s hs.1) (shL_cons (sh_int v (by omega)) shL_nil))
  exact this.mono (by omega) (by rw [hs.2]; omega)
theorem alikeB {E : Rs} (h : ∀ x ∈ E, (PyData.strOk x.1.nm = true ∧ x.1.nm.cps.size = 2) ∧ 0 ≤ x.2 ∧ x.2 ≤ 1000000000) : Alike (encB (best E)) (encB (best E)) := by
  unfold best
  cases e : E.find? (fun x => decide (x.2 = maxI (pds E))) with
  | none => exact alike_self sh_non (by omega) (by omega)
  | some x =>
    have := h x (List.mem_of_find?_eq_some e)
    exact alike_self (sh_pay this.1 this.2) (by omega) (by omega)
theorem alikeD {F : Rs} (hl : F.length ≤ 12) (h : ∀ x ∈ F, (PyData.strOk x.1.nm = true ∧ x.1.nm.cps.size = 2) ∧ 0 ≤ x.2 ∧ x.2 ≤ 1000000000) : Alike (.tup (F.map fun x => .tup [.str x.1.nm, .int x.2])) (.tup (F.map fun x => .tup [.str x.1.nm, .int x.2])) := by
  have := sh_tup (shL_map (k := 1) (n := 200) (f := fun x : R × Int => PV.tup [.str x.1.nm, .int x.2]) (g := fun x : R × Int => .tuple [.str x.1.nm, .int x.2]) (xs := F) fun x hx => sh_pay (h x hx).1 (h x hx).2)
  exact alike_self this (by omega) (by omega)
theorem body_walk {ns : List Int} {s : St} {y : Ys} (hs : s.ok) (hy : y.ok) (Q : Out → Prop)
   (hQ : ∀ (s : St) (y : Ys), s.ok → y.ok → Q (.nx (rho ns s y))) : W (law_l1b (rho ns s y)) (Q := ⟨Q⟩) := by
  have hQ' : ∀ (s : St) (b2 b3 b4 b5 b6 b7 b8 b9 b10 b11 b12 b13 b14 b15 : Slot), s.ok → b2.loc = true → b3.loc = true → b4.loc = true → b5.loc = true → b6.loc = true → b7.loc = true → b8.loc = true → b9.loc = true → b10.loc = true → b11.loc = true → b12.loc = true → b13.loc = true → b14.loc = true → b15.loc = true → Q (.nx [.val (.zls (ns.map .int)), .val s.enc, b2, b3, b4, b5, b6, b7, b8, b9, b10, b11, b12, b13, b14, b15, .un, .un]) :=
    fun s b2 b3 b4 b5 b6 b7 b8 b9 b10 b11 b12 b13 b14 b15 hs hb2 hb3 hb4 hb5 hb6 hb7 hb8 hb9 hb10 hb11 hb12 hb13 hb14 hb15 => hQ s ⟨b2, b3, b4, b5, b6, b7, b8, b9, b10, b11, b12, b13, b14, b15⟩ hs ⟨hb2, hb3, hb4, hb5, hb6, hb7, hb8, hb9, hb10, hb11, hb12, hb13, hb14, hb15⟩
  obtain ⟨s1, n, a1, b1, e1⟩ := run_draw hs 13 (by omega) (by omega)
  have sm : smallI n = true := smallI_of (by omega) (by omega)
  simp [rho, law_l1b, hy.h3, law_c1, e1, sm]
  refine An.mk (by omega) (W_compI (α := Int) (fun p ys ρ => ∃ (s : St) (ws : List Int), s.ok ∧ (∀ x ∈ ws, 0 ≤ x ∧ x ≤ 1000000000) ∧ ws.length = p.length ∧ ys = ws.map .int ∧ ρ = rho ns s y) ⟨s1, [], a1, by simp, rfl, rfl, rfl⟩ (fun p x q ys ρ e ⟨s, ws, h1, h2, h3, h4, h5⟩ => ?_) fun ys ρ ⟨s2, ws, h1, h2, h3, h4, h5⟩ => ?_)
  · subst h5 h4
    obtain ⟨s1, v1, a1, b1, e1⟩ := run_draw h1 20 (by omega) (by omega)
    obtain ⟨s2, v2, a2, b2, e2⟩ := run_draw a1 1000000001 (by omega) (by omega)
    obtain ⟨s3, v3, a3, b3, e3⟩ := run_draw a2 4 (by omega) (by omega)
    obtain ⟨m, hm, f1⟩ := litI [0, 1, v1, v2] b3.1 b3.2
    have hm : 0 ≤ m ∧ m ≤ 1000000000 := by simp at hm; omega
    simp only [List.map_cons, List.map_nil] at f1
    simp [rho, e1, e2, e3, f1]
    refine ⟨s3, a3, ws ++ [m], fun x hx => ?_, by simp [h3], by simp, rfl⟩
    rcases List.mem_append.mp hx with q | q
    · exact h2 x q
    · have : x = m := by simpa using q
      omega
  subst h5 h4
  have hw : WsOk ws := ⟨by have := h3; simp at this; omega, h2⟩
  obtain ⟨s3, v1, a3, b3, e3⟩ := run_draw h1 50 (by omega) (by omega)
  obtain ⟨s4, v2, a4, b4, e4⟩ := run_draw a3 1000000001 (by omega) (by omega)
  obtain ⟨s5, v3, a5, b5, e5⟩ := run_draw a4 4 (by omega) (by omega)
  obtain ⟨amt, hamt, f1⟩ := litI [0, 1, v1, v2] b5.1 b5.2
  have hamt : 0 ≤ amt ∧ amt ≤ 1000000000 := by simp at hamt; omega
  have ham : AmOk amt := ⟨hamt.1, hamt.2⟩
  simp only [List.map_cons, List.map_nil] at f1
  have p1 : ∀ x ∈ prt ws amt, -1000000000000 ≤ x ∧ x ≤ 1000000000000 := fun x hx => by
    have nn := prt_nn (ws := ws) (amt := amt) ham.lo fun w hw' => (hw.rg w hw').1
    have := nn x hx
    by_cases hz : ws.sum = 0
    · unfold prt at hx
      rw [if_pos hz] at hx
      have := List.eq_of_mem_replicate hx
      omega
    · have h1 := mem_le_sum nn hx
      have := hw.sum
      rw [prt_sum (by omega)] at h1
      omega
  have al1 := alike_ints p1 (by rw [prt_len]; have := hw.len; omega)
  simp [rho, hy.h3, hy.h4, hy.h5, e3, e4, e5, f1, run_law_parts _ (.inl rfl) hw ham, run_parts hw ham]
  rw [run_same rfl rfl al1]
  simp [run_accept_parts hw ham]
  obtain ⟨s6, v4, a6, b6, e6⟩ := run_draw a5 2 (by omega) (by omega)
  obtain ⟨many, hmany, f2⟩ := litI [3, 12] b6.1 b6.2
  have hmany : 0 ≤ many ∧ many ≤ 12 := by simp at hmany; omega
  simp only [List.map_cons, List.map_nil] at f2
  obtain ⟨s7, rs, a7, all, nms, e7⟩ := run_law_sureties a6 many hmany.1 hmany.2
  have l1 := all.ok.1
  have rm : ∀ v ∈ rs.map R.room, 0 ≤ v ∧ v ≤ 1000000000 := fun v hv => by
    obtain ⟨r, hr, rfl⟩ := List.mem_map.mp hv
    have k := all.ok.2 r hr
    have := k.m0
    have := k.m1
    have := k.n0
    have := k.n1
    unfold R.room
    omega
  have top0 := sum_le rm
  simp only [List.length_map] at top0
  simp [hy.h6, hy.h7, e6, f2, e7, law_c2]
  refine An.mk (by omega) ?_
  refine W_compM (α := R) (fun r => .int r.room) (fun r hr => ?_) ?_
  · simp [R.room]
  have etop : rs.map (fun r => PV.int r.room) = (rs.map R.room).map .int := by simp
  have g1 : (rs.map R.room).length ≤ 1000000 := by simp; omega
  have g2 : ∀ i ∈ rs.map R.room, -1000000000000 ≤ i ∧ i ≤ 1000000000000 := fun i hi => by have := rm i hi; omega
  obtain ⟨s8, v5, a8, b8, e8⟩ := run_draw a7 300 (by omega) (by omega)
  obtain ⟨s9, v6, a9, b9, e9⟩ := run_draw a8 6 (by omega) (by omega)
  have ps := psum_map true R.room rs
  generalize htop : (rs.map R.room).sum = top at *
  obtain ⟨m, hm, f3⟩ := litI [0, 1, top, max 0 (top - 1), top + 1, v5] b9.1 b9.2
  have hm : 0 ≤ m := by simp at hm; omega
  have hc : AmOk (min 1000000000 m) := ⟨by omega, by omega⟩
  simp only [List.map_cons, List.map_nil] at f3
  simp [-psum_lst, -psum_map, ps, hy.h8, hy.h7, e8, e9, f3]
  have k := all_ok all hc
  have r1 := run_law_shares all hc
  have r2 := run_shares all hc
  have r3 := run_unpaid all hc
  have r4 := run_most all
  have r5 := run_accept_shares all hc
  have r6 := run_least all hc
  have r7 := run_greatest all hc
  rw [htop] at r4
  generalize min 1000000000 m = c at *
  generalize (allS rs c).1 = E at *
  generalize (allS rs c).2 = left at *
  generalize fnd E (levels rs) = T at *
  have hr := k.inv.rw
  have le : E.length = rs.length := by rw [← hr]; simp [rws]
  have lp := pds_len hr
  have pb : ∀ v ∈ pds E, 0 ≤ v ∧ v ≤ 1000000000 := fun v hv => by
    have nn : ∀ v ∈ pds E, 0 ≤ v := fun v hv => by
      obtain ⟨x, hx, rfl⟩ := List.mem_map.mp hv
      exact (k.inv.fit x hx).1
    have := mem_le_sum nn hv
    have := nn v hv
    have := k.inv.cons
    have := k.inv.am.lo
    have := hc.hi
    omega
  have al2 := alike_ints (xs := pds E) (fun x hx => by have := pb x hx; omega) (by omega)
  have al3 : Alike (.lst true [.int left, .int top]) (.lst true [.int left, .int top]) := by
    have := k.inv.am.lo
    have := k.inv.am.hi
    exact alike_self (sh_lst (shL_cons (sh_int left (by omega)) (shL_cons (sh_int top (by omega)) shL_nil))) (by omega) (by omega)
  simp [r1, hy.h9, hy.h10, r2]
  rw [run_same rfl rfl al2]
  simp [r3, r4]
  rw [run_same rfl rfl al3]
  simp [r5]
  have smr : smallI rs.length = true := smallI_of (by omega) (by omega)
  have c3 : ((irng 0 rs.length).filter fun k => decide (0 < nth (pds E) k.toNat)).map (fun k => PV.int (nth (rs.map R.lev) k.toNat)) = (E.filter fun x => decide (0 < x.2)).map fun x => PV.int x.1.lev := by
    refine rng_filter hr _ _ fun i x hx => ⟨?_, ?_⟩
    · have : nth (pds E) i = x.2 := by simp [nth, pds, hx]
      simp [this]
    · have : nth (rs.map R.lev) i = x.1.lev := by rw [← hr]; simp [nth, rws, hx]
      simp [this]
  simp [law_c3, smr]
  refine An.mk (by omega) ?_
  refine W_compB (α := Int) (fun k => decide (0 < nth (pds E) k.toNat)) (fun k => .int (nth (rs.map R.lev) k.toNat)) (fun j hj => ?_) ?_
  · have hj := irng_mem.mp hj
    obtain ⟨r, q1, q2, q3, q4, q5⟩ := atR (rs := rs) hj.1 hj.2
    have h1 := ati (l := pds E) (i := j) hj.1 (by omega)
    simp [h1]
    refine Br.mk (fun q => ?_) fun q => ?_
    · simp [q, q1, q4]
    · simp [q]
  rw [c3]
  have fl : (E.filter fun x => decide (0 < x.2)).length ≤ 12 := by have := List.length_filter_le (fun x : R × Int => decide (0 < x.2)) E; omega
  have r6 : least_levelF [.val (.tup (rs.map R.enc)), .val (.int c)] = some (encM E, [.un, .un]) := r6
  have hE : ∀ x ∈ E, x.1 ∈ rs := fun x hx => by rw [← hr]; exact List.mem_map.mpr ⟨x, hx, rfl⟩
  have al4 := alikeM rs E fun x hx => ⟨(all.ok.2 _ (hE x hx)).l0, (all.ok.2 _ (hE x hx)).l1⟩
  have al5 := alikeB (E := E) fun x hx => ⟨nms _ (hE x hx), pb _ (List.mem_map.mpr ⟨x, hx, rfl⟩)⟩
  simp [hy.h11, r6, -W_cIf, pay_if]
  rw [run_same rfl rfl al4]
  obtain ⟨v, hv, ef⟩ := first_if (.val (.zls (ns.map .int))) (.val s9.enc) y.a2 (.val (.tup (ws.map .int))) (.val (.int amt)) (.val (.tup ((prt ws amt).map .int))) (.val (.tup (rs.map R.enc))) (.val (.int top)) (.val (.int c)) (.val (.int left)) (.val (.lst true ((E.filter fun x : R × Int => decide (0 < x.2)).map fun x : R × Int => PV.int x.1.lev))) y.a12 y.a13 y.a14 y.a15 .un .un E
  simp [-W_cIf, ef, hy.h12, r7, tup_if hr hv]
  rw [run_same rfl rfl al5]
  simp
  refine Br.mk (fun hz => ?_) fun hz => ?_
  · have hz' : rs ≠ [] := by simpa using hz
    have l0 : 0 < rs.length := List.length_pos_iff.mpr hz'
    obtain ⟨s10, vp, a10, b10, e10⟩ := run_draw a9 (rs.length : Int) (by omega) (by omega)
    obtain ⟨r, q1, q2, q3, q4, q5⟩ := atR b10.1 b10.2
    have r8 := run_law_level r.lev all.ok hc
    have r9 := run_even all hc q2
    obtain ⟨f1', f2', f3', f4'⟩ := fin_ok (sel := at_ r.lev) all.ok hc
    obtain ⟨t1, t2, t3⟩ := fin_sub (at_ r.lev) rs c
    rw [← t1] at r9
    have gfit := f1'.fit
    clear f1' f2' f4' t2
    generalize (fin (at_ r.lev) rs c).2 = gl at *
    generalize (fin (at_ r.lev) rs c).1 = G at *
    have lg : G.length = rs.length := by rw [← f3']; simp [rws]
    have lpg := pds_len f3'
    have gb : ∀ x ∈ G, x.1 ∈ rs ∧ 0 ≤ x.2 ∧ x.2 ≤ 1000000000 := fun x hx => by
      have hxr : x.1 ∈ rs := by rw [← f3']; exact List.mem_map.mpr ⟨x, hx, rfl⟩
      have hf := gfit x hx
      have k := all.ok.2 _ hxr
      have := k.m1
      have h2 : x.1.room ≤ x.1.lim := by unfold R.room; omega
      exact ⟨hxr, hf.1, by omega⟩
    have c4 : ((irng 0 rs.length).filter fun k => decide (nth (rs.map R.lev) k.toNat = r.lev) && !decide ((rs[k.toNat]?.map R.nm) = some r.nm)).map (fun k => PV.tup [.str ((rs[k.toNat]?.map R.nm).getD ""), .int (nth (pds G) k.toNat)]) = ((sub (at_ r.lev) G).filter fun x => !decide (x.1.nm = r.nm)).map fun x => PV.tup [.str x.1.nm, .int x.2] := by
      unfold sub
      rw [List.filter_filter]
      refine rng_filter f3' (fun x => !decide (x.1.nm = r.nm) && at_ r.lev x.1) _ fun i x hx => ⟨?_, ?_⟩
      · have e1 : nth (rs.map R.lev) i = x.1.lev := by rw [← f3']; simp [nth, rws, hx]
        have e2 : rs[i]?.map R.nm = some x.1.nm := by rw [← f3']; simp [rws, hx]
        simp only [Int.toNat_natCast, e1, e2, Option.some.injEq, at_]
        exact Bool.and_comm _ _
      · have e1 : nth (pds G) i = x.2 := by simp [nth, pds, hx]
        have e2 : rs[i]?.map R.nm = some x.1.nm := by rw [← f3']; simp [rws, hx]
        simp only [Int.toNat_natCast, e1, e2, Option.getD_some]
    have al6 := alikeD (F := (sub (at_ r.lev) G).filter fun x => !decide (x.1.nm = r.nm)) (by
      have h1 := List.length_filter_le (fun x : R × Int => !decide (x.1.nm = r.nm)) (sub (at_ r.lev) G)
      have h2 : (sub (at_ r.lev) G).length ≤ G.length := List.length_filter_le ..
      omega) fun x hx => by
      have hx2 := (sub_mem.mp (List.mem_filter.mp hx).1).1
      have := gb x hx2
      exact ⟨nms _ this.1, this.2⟩
    simp [hy.h13, hy.h14, hy.h15, e10, q1, r8, law_c4, smr]
    refine An.mk (by omega) ?_
    refine W_compB (α := Int) (fun k => decide (nth (rs.map R.lev) k.toNat = r.lev) && !decide ((rs[k.toNat]?.map R.nm) = some r.nm)) (fun k => .tup [.str ((rs[k.toNat]?.map R.nm).getD ""), .int (nth (pds G) k.toNat)]) (fun j hj => ?_) ?_
    · have hj := irng_mem.mp hj
      obtain ⟨r', p1, p2, p3, p4, p5⟩ := atR (rs := rs) hj.1 hj.2
      have h1 := ati (l := pds G) (i := j) hj.1 (by omega)
      have h2 : rs[j.toNat]? = some r' := by
        have hlt : j.toNat < rs.length := by omega
        rw [atI_pos hj.1 hj.2] at p1
        have := Option.some.inj p1
        simp [hlt, this]
      simp [p1, h1]
      refine Br.mk (fun g => ?_) fun g => ?_
      · simp [p1]
        refine Br.mk (fun g2 => ?_) fun g2 => ?_
        · simp [g, g2, p1, h1, h2, p4]
        · simp at g2
          simp [g, g2, h2, p4]
      · simp [g, p4]
    rw [c4]
    simp [r9, hy.h15]
    rw [run_same rfl rfl al6]
    simp
    exact hQ' s10 _ _ _ _ _ _ _ _ _ _ _ _ _ _ a10 hy.h2 rfl rfl rfl rfl rfl rfl rfl rfl rfl rfl rfl rfl rfl
  · simp
    exact hQ' s9 _ _ _ _ _ _ _ _ _ _ _ _ _ _ a9 hy.h2 rfl rfl rfl rfl rfl rfl rfl rfl rfl rfl hy.h13 hy.h14 hy.h15
theorem law_run (ns : List Int) (hn : ns.length ≤ 63) : ∃ ts, lawF [.val (.zls (ns.map .int))] = some (.bl true, ts) := by
  have h : W (lawF [.val (.zls (ns.map .int))]) (Q := ⟨fun r => r.1 = .bl true⟩) := by
    obtain ⟨s0, a0, e0⟩ := run_start ns
    have sm4 : smallI 4 = true := by decide
    simp [lawF, lawB, W_fn, e0, law_l1, sm4]
    refine W_forL (α := Int) (fun p q ρ => ∃ (s : St) (y : Ys), s.ok ∧ y.ok ∧ ρ = rho ns s y) ⟨s0, ⟨.un, .un, .un, .un, .un, .un, .un, .un, .un, .un, .un, .un, .un, .un⟩, a0, ⟨rfl, rfl, rfl, rfl, rfl, rfl, rfl, rfl, rfl, rfl, rfl, rfl, rfl, rfl⟩, rfl⟩ (fun p x q ρ e ⟨s, y, hs, hy, hr⟩ => ?_) fun ρ ⟨s, y, hs, hy, hr⟩ => ?_
    · subst hr
      have hy2 : ({y with a2 := .val (.int x)} : Ys).ok := ⟨rfl, hy.h3, hy.h4, hy.h5, hy.h6, hy.h7, hy.h8, hy.h9, hy.h10, hy.h11, hy.h12, hy.h13, hy.h14, hy.h15⟩
      simp [rho, hy.h2]
      exact body_walk (ns := ns) (y := {y with a2 := .val (.int x)}) hs hy2 _ fun s y hs hy => ⟨s, y, hs, hy, rfl⟩
    · subst hr
      simp [rho]
  obtain ⟨⟨v, ts⟩, e, h1⟩ := h
  simp only at h1
  subst h1
  exact ⟨ts, e⟩
end Xk44

open PySem PySem.W PyProof.Rows
set_option maxHeartbeats 0 in
theorem PySem.Challenge.cw_owedthen_k44_whole_sureties_holds : PySem.Challenge.rw_owedthen_k44_whole_sureties.Holds := by
  w_on; o_law; k_head; (case hw => w_witness2)
  k_fill
  refine GX.walk_go (l := PySem.Challenge.rw_owedthen_k44_whole_sureties) (n := 63) (k := 5) (x := "script") rfl (by decide) rfl ⟨rfl, by decide, by decide⟩ (fun w h Y => PySem.W.kIn_of Y) ?F
  case F =>
    intro w mg fa h KX G hmg
    have t0 : ∃ f fd, GX.Fk (L2.KOf KX) mg "_law_start" Xk44.s__law_start ["script"] f fd := by
      refine' ⟨_, _, GX.fk_mk KX G ?a ?l ?c ?k ?b⟩
      (case a => k_is); (case l => k_is); (case c => k_is); (case k => k_is)
      (case b => exact fun _ _ _ _ _ _ us hl => match us, hl with | [_], _ => rfl)
    have t1 : ∃ f fd, GX.Fk (L2.KOf KX) mg "_law_draw" Xk44.s__law_draw ["state", "many"] f fd := by
      refine' ⟨_, _, GX.fk_mk KX G ?a ?l ?c ?k ?b⟩
      (case a => k_is); (case l => k_is); (case c => k_is); (case k => k_is)
      (case b => exact fun _ _ _ _ _ _ us hl => match us, hl with | [_, _], _ => rfl)
    have t2 : ∃ f fd, GX.Fk (L2.KOf KX) mg "_law_sureties" Xk44.s__law_sureties ["state", "many"] f fd := by
      refine' ⟨_, _, GX.fk_mk KX G ?a ?l ?c ?k ?b⟩
      (case a => k_is); (case l => k_is); (case c => k_is); (case k => k_is)
      (case b => exact fun _ _ _ _ _ _ us hl => match us, hl with | [_, _], _ => rfl)
    have t3 : ∃ f fd, GX.Fk (L2.KOf KX) mg "_law_parts" Xk44.s__law_parts ["weights", "amount"] f fd := by
      refine' ⟨_, _, GX.fk_mk KX G ?a ?l ?c ?k ?b⟩
      (case a => k_is); (case l => k_is); (case c => k_is); (case k => k_is)
      (case b => exact fun _ _ _ _ _ _ us hl => match us, hl with | [_, _], _ => rfl)
    have t4 : ∃ f fd, GX.Fk (L2.KOf KX) mg "_law_level" Xk44.s__law_level ["sureties", "level", "claim"] f fd := by
      refine' ⟨_, _, GX.fk_mk KX G ?a ?l ?c ?k ?b⟩
      (case a => k_is); (case l => k_is); (case c => k_is); (case k => k_is)
      (case b => exact fun _ _ _ _ _ _ us hl => match us, hl with | [_, _, _], _ => rfl)
    have t5 : ∃ f fd, GX.Fk (L2.KOf KX) mg "_law_shares" Xk44.s__law_shares ["sureties", "claim"] f fd := by
      refine' ⟨_, _, GX.fk_mk KX G ?a ?l ?c ?k ?b⟩
      (case a => k_is); (case l => k_is); (case c => k_is); (case k => k_is)
      (case b => exact fun _ _ _ _ _ _ us hl => match us, hl with | [_, _], _ => rfl)
    have t6 : ∃ f fd, GX.Fk (L2.KOf KX) mg "is_name" Xk44.s_is_name ["value"] f fd := by
      refine' ⟨_, _, GX.fk_mk KX G ?a ?l ?c ?k ?b⟩
      (case a => k_is); (case l => k_is); (case c => k_is); (case k => k_is)
      (case b => exact fun _ _ _ _ _ _ us hl => match us, hl with | [_], _ => rfl)
    have t7 : ∃ f fd, GX.Fk (L2.KOf KX) mg "is_integer" Xk44.s_is_integer ["value"] f fd := by
      refine' ⟨_, _, GX.fk_mk KX G ?a ?l ?c ?k ?b⟩
      (case a => k_is); (case l => k_is); (case c => k_is); (case k => k_is)
      (case b => exact fun _ _ _ _ _ _ us hl => match us, hl with | [_], _ => rfl)
    have t8 : ∃ f fd, GX.Fk (L2.KOf KX) mg "check_sureties" Xk44.s_check_sureties ["sureties"] f fd := by
      refine' ⟨_, _, GX.fk_mk KX G ?a ?l ?c ?k ?b⟩
      (case a => k_is); (case l => k_is); (case c => k_is); (case k => k_is)
      (case b => exact fun _ _ _ _ _ _ us hl => match us, hl with | [_], _ => rfl)
    have t9 : ∃ f fd, GX.Fk (L2.KOf KX) mg "check_claim" Xk44.s_check_claim ["claim"] f fd := by
      refine' ⟨_, _, GX.fk_mk KX G ?a ?l ?c ?k ?b⟩
      (case a => k_is); (case l => k_is); (case c => k_is); (case k => k_is)
      (case b => exact fun _ _ _ _ _ _ us hl => match us, hl with | [_], _ => rfl)
    have t10 : ∃ f fd, GX.Fk (L2.KOf KX) mg "room_of" Xk44.s_room_of ["row"] f fd := by
      refine' ⟨_, _, GX.fk_mk KX G ?a ?l ?c ?k ?b⟩
      (case a => k_is); (case l => k_is); (case c => k_is); (case k => k_is)
      (case b => exact fun _ _ _ _ _ _ us hl => match us, hl with | [_], _ => rfl)
    have t11 : ∃ f fd, GX.Fk (L2.KOf KX) mg "accept_shares" Xk44.s_accept_shares ["sureties", "claim", "rows"] f fd := by
      refine' ⟨_, _, GX.fk_mk KX G ?a ?l ?c ?k ?b⟩
      (case a => k_is); (case l => k_is); (case c => k_is); (case k => k_is)
      (case b => exact fun _ _ _ _ _ _ us hl => match us, hl with | [_, _, _], _ => rfl)
    have t12 : ∃ f fd, GX.Fk (L2.KOf KX) mg "_law_same_as" Xk44.s__law_same_as ["first", "second"] f fd := by
      refine' ⟨_, _, GX.fk_mk KX G ?a ?l ?c ?k ?b⟩
      (case a => k_is); (case l => k_is); (case c => k_is); (case k => k_is)
      (case b => exact fun _ _ _ _ _ _ us hl => match us, hl with | [_, _], _ => rfl)
    have t13 : ∃ f fd, GX.Fk (L2.KOf KX) mg "parts_by" Xk44.s_parts_by ["weights", "amount"] f fd := by
      refine' ⟨_, _, GX.fk_mk KX G ?a ?l ?c ?k ?b⟩
      (case a => k_is); (case l => k_is); (case c => k_is); (case k => k_is)
      (case b => exact fun _ _ _ _ _ _ us hl => match us, hl with | [_, _], _ => rfl)
    have t14 : ∃ f fd, GX.Fk (L2.KOf KX) mg "parts" Xk44.s_parts ["weights", "amount"] f fd := by
      refine' ⟨_, _, GX.fk_mk KX G ?a ?l ?c ?k ?b⟩
      (case a => k_is); (case l => k_is); (case c => k_is); (case k => k_is)
      (case b => exact fun _ _ _ _ _ _ us hl => match us, hl with | [_, _], _ => rfl)
    have t15 : ∃ f fd, GX.Fk (L2.KOf KX) mg "accept_parts" Xk44.s_accept_parts ["weights", "amount", "rows"] f fd := by
      refine' ⟨_, _, GX.fk_mk KX G ?a ?l ?c ?k ?b⟩
      (case a => k_is); (case l => k_is); (case c => k_is); (case k => k_is)
      (case b => exact fun _ _ _ _ _ _ us hl => match us, hl with | [_, _, _], _ => rfl)
    have t16 : ∃ f fd, GX.Fk (L2.KOf KX) mg "levels_of" Xk44.s_levels_of ["sureties"] f fd := by
      refine' ⟨_, _, GX.fk_mk KX G ?a ?l ?c ?k ?b⟩
      (case a => k_is); (case l => k_is); (case c => k_is); (case k => k_is)
      (case b => exact fun _ _ _ _ _ _ us hl => match us, hl with | [_], _ => rfl)
    have t17 : ∃ f fd, GX.Fk (L2.KOf KX) mg "shares_in" Xk44.s_shares_in ["rows", "amount"] f fd := by
      refine' ⟨_, _, GX.fk_mk KX G ?a ?l ?c ?k ?b⟩
      (case a => k_is); (case l => k_is); (case c => k_is); (case k => k_is)
      (case b => exact fun _ _ _ _ _ _ us hl => match us, hl with | [_, _], _ => rfl)
    have t18 : ∃ f fd, GX.Fk (L2.KOf KX) mg "shares_of" Xk44.s_shares_of ["sureties", "claim"] f fd := by
      refine' ⟨_, _, GX.fk_mk KX G ?a ?l ?c ?k ?b⟩
      (case a => k_is); (case l => k_is); (case c => k_is); (case k => k_is)
      (case b => exact fun _ _ _ _ _ _ us hl => match us, hl with | [_, _], _ => rfl)
    have t19 : ∃ f fd, GX.Fk (L2.KOf KX) mg "least_level" Xk44.s_least_level ["sureties", "claim"] f fd := by
      refine' ⟨_, _, GX.fk_mk KX G ?a ?l ?c ?k ?b⟩
      (case a => k_is); (case l => k_is); (case c => k_is); (case k => k_is)
      (case b => exact fun _ _ _ _ _ _ us hl => match us, hl with | [_, _], _ => rfl)
    have t20 : ∃ f fd, GX.Fk (L2.KOf KX) mg "greatest_share" Xk44.s_greatest_share ["sureties", "claim"] f fd := by
      refine' ⟨_, _, GX.fk_mk KX G ?a ?l ?c ?k ?b⟩
      (case a => k_is); (case l => k_is); (case c => k_is); (case k => k_is)
      (case b => exact fun _ _ _ _ _ _ us hl => match us, hl with | [_, _], _ => rfl)
    have t21 : ∃ f fd, GX.Fk (L2.KOf KX) mg "shares" Xk44.s_shares ["sureties", "claim"] f fd := by
      refine' ⟨_, _, GX.fk_mk KX G ?a ?l ?c ?k ?b⟩
      (case a => k_is); (case l => k_is); (case c => k_is); (case k => k_is)
      (case b => exact fun _ _ _ _ _ _ us hl => match us, hl with | [_, _], _ => rfl)
    have t22 : ∃ f fd, GX.Fk (L2.KOf KX) mg "even_shares" Xk44.s_even_shares ["sureties", "claim", "payer"] f fd := by
      refine' ⟨_, _, GX.fk_mk KX G ?a ?l ?c ?k ?b⟩
      (case a => k_is); (case l => k_is); (case c => k_is); (case k => k_is)
      (case b => exact fun _ _ _ _ _ _ us hl => match us, hl with | [_, _, _], _ => rfl)
    have t23 : ∃ f fd, GX.Fk (L2.KOf KX) mg "unpaid" Xk44.s_unpaid ["sureties", "claim"] f fd := by
      refine' ⟨_, _, GX.fk_mk KX G ?a ?l ?c ?k ?b⟩
      (case a => k_is); (case l => k_is); (case c => k_is); (case k => k_is)
      (case b => exact fun _ _ _ _ _ _ us hl => match us, hl with | [_, _], _ => rfl)
    have t24 : ∃ f fd, GX.Fk (L2.KOf KX) mg "most" Xk44.s_most ["sureties"] f fd := by
      refine' ⟨_, _, GX.fk_mk KX G ?a ?l ?c ?k ?b⟩
      (case a => k_is); (case l => k_is); (case c => k_is); (case k => k_is)
      (case b => exact fun _ _ _ _ _ _ us hl => match us, hl with | [_], _ => rfl)
    have t25 : ∃ f fd, GX.Fk (L2.KOf KX) mg "law" Xk44.s_law ["script"] f fd := by
      refine' ⟨_, _, GX.fk_mk KX G ?a ?l ?c ?k ?b⟩
      (case a => k_is); (case l => k_is); (case c => k_is); (case k => k_is)
      (case b => exact fun _ _ _ _ _ _ us hl => match us, hl with | [_], _ => rfl)
    have c_LETTERS : GX.Ck (L2.KOf KX) mg "LETTERS" Xk44.k_LETTERS := by
      refine' GX.ck_str KX G ?a; (case a => k_is)
    have c_MAX_PARTIES : GX.Ck (L2.KOf KX) mg "MAX_PARTIES" Xk44.k_MAX_PARTIES := by
      refine' GX.ck_int KX G ?a; (case a => k_is)
    have c_MAX_SUM : GX.Ck (L2.KOf KX) mg "MAX_SUM" Xk44.k_MAX_SUM := by
      refine' GX.ck_int KX G ?a; (case a => k_is)
    have n_int : mg "int" = none := by
      refine' PySem.W.mg_none_of KX G ?a; (case a => k_is)
    have n_list : mg "list" = none := by
      refine' PySem.W.mg_none_of KX G ?a; (case a => k_is)
    have n_len : mg "len" = none := by
      refine' PySem.W.mg_none_of KX G ?a; (case a => k_is)
    have n_abs : mg "abs" = none := by
      refine' PySem.W.mg_none_of KX G ?a; (case a => k_is)
    have n_range : mg "range" = none := by
      refine' PySem.W.mg_none_of KX G ?a; (case a => k_is)
    have n_tuple : mg "tuple" = none := by
      refine' PySem.W.mg_none_of KX G ?a; (case a => k_is)
    have n_sum : mg "sum" = none := by
      refine' PySem.W.mg_none_of KX G ?a; (case a => k_is)
    have n_sorted : mg "sorted" = none := by
      refine' PySem.W.mg_none_of KX G ?a; (case a => k_is)
    have n_min : mg "min" = none := by
      refine' PySem.W.mg_none_of KX G ?a; (case a => k_is)
    have n_dict : mg "dict" = none := by
      refine' PySem.W.mg_none_of KX G ?a; (case a => k_is)
    have n_isinstance : mg "isinstance" = none := by
      refine' PySem.W.mg_none_of KX G ?a; (case a => k_is)
    have n_str : mg "str" = none := by
      refine' PySem.W.mg_none_of KX G ?a; (case a => k_is)
    have n_all : mg "all" = none := by
      refine' PySem.W.mg_none_of KX G ?a; (case a => k_is)
    have n_bool : mg "bool" = none := by
      refine' PySem.W.mg_none_of KX G ?a; (case a => k_is)
    have n_zip : mg "zip" = none := by
      refine' PySem.W.mg_none_of KX G ?a; (case a => k_is)
    have n_any : mg "any" = none := by
      refine' PySem.W.mg_none_of KX G ?a; (case a => k_is)
    have n_enumerate : mg "enumerate" = none := by
      refine' PySem.W.mg_none_of KX G ?a; (case a => k_is)
    have n_repr : mg "repr" = none := by
      refine' PySem.W.mg_none_of KX G ?a; (case a => k_is)
    have n_max : mg "max" = none := by
      refine' PySem.W.mg_none_of KX G ?a; (case a => k_is)
    obtain ⟨a0, d0, t0⟩ := t0
    obtain ⟨a1, d1, t1⟩ := t1
    obtain ⟨a2, d2, t2⟩ := t2
    obtain ⟨a3, d3, t3⟩ := t3
    obtain ⟨a4, d4, t4⟩ := t4
    obtain ⟨a5, d5, t5⟩ := t5
    obtain ⟨a6, d6, t6⟩ := t6
    obtain ⟨a7, d7, t7⟩ := t7
    obtain ⟨a8, d8, t8⟩ := t8
    obtain ⟨a9, d9, t9⟩ := t9
    obtain ⟨a10, d10, t10⟩ := t10
    obtain ⟨a11, d11, t11⟩ := t11
    obtain ⟨a12, d12, t12⟩ := t12
    obtain ⟨a13, d13, t13⟩ := t13
    obtain ⟨a14, d14, t14⟩ := t14
    obtain ⟨a15, d15, t15⟩ := t15
    obtain ⟨a16, d16, t16⟩ := t16
    obtain ⟨a17, d17, t17⟩ := t17
    obtain ⟨a18, d18, t18⟩ := t18
    obtain ⟨a19, d19, t19⟩ := t19
    obtain ⟨a20, d20, t20⟩ := t20
    obtain ⟨a21, d21, t21⟩ := t21
    obtain ⟨a22, d22, t22⟩ := t22
    obtain ⟨a23, d23, t23⟩ := t23
    obtain ⟨a24, d24, t24⟩ := t24
    obtain ⟨a25, d25, t25⟩ := t25
    have T : Xk44.Tab (L2.KOf KX) mg (fun i => [a0, a1, a2, a3, a4, a5, a6, a7, a8, a9, a10, a11, a12, a13, a14, a15, a16, a17, a18, a19, a20, a21, a22, a23, a24, a25].getD i 0) (fun i => [d0, d1, d2, d3, d4, d5, d6, d7, d8, d9, d10, d11, d12, d13, d14, d15, d16, d17, d18, d19, d20, d21, d22, d23, d24, d25].getD i d0) := ⟨t0, t1, t2, t3, t4, t5, t6, t7, t8, t9, t10, t11, t12, t13, t14, t15, t16, t17, t18, t19, t20, t21, t22, t23, t24, t25, c_LETTERS, c_MAX_PARTIES, c_MAX_SUM, n_int, n_list, n_len, n_abs, n_range, n_tuple, n_sum, n_sorted, n_min, n_dict, n_isinstance, n_str, n_all, n_bool, n_zip, n_any, n_enumerate, n_repr, n_max⟩
    exact GX.fin_go (lf := Xk44.lawF) T.f_law hmg (fun base => Xk44.ok_law T) Xk44.law_run
