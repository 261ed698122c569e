import PyProof.Rows.All
import Wide.All
import OpenK.AllK
import Wide.FinOn
import HandS.ForMost
import HandS.Exc
import HandS.TryOnly
import HandS.WordsExc
import HandS.CallSlots
import HandS.Walk
import HandS.Wide
import HandS.HeadHook1
import HandS.Lambda
import KE.DataEq
import PyProof.StrCalls6
import HandS.TupAny
import HandS.IsInst
import HandS.Deep
import HandS.ExcOwn
import HandS.Small
import HandS.Dict
import HandS.WordsDict
import HandS.More
import HandS.ExcCtx
import HandS.Defaults
import HandS.Hot
import HandS.HotCalls
import HandS.SuiteRaise
import HandS.ExcInitHot
import HandS.SetFor
import HandS.Strs
import HandS.TupSets
import PyProof.Rows.SortShellAny
import HandS.Style
import HandS.ExcInit
import HandS.ExcIs
import HandS.ExcField
import KE.KExcIs
import KE.KStateDown
import HandS.Words
import HandS.Head0
import HandS.Head1
import HandS.Head2
import HandS.HeadEnd
import HandS.HeadHook2
import HandS.HeadHook4
import HandS.EndTab
import PySem.Challenge.RW_pasteward_k28_sheets_refused
section
set_option Elab.async false
set_option linter.all false
set_option maxRecDepth 100000
set_option maxHeartbeats 4000000
/-! PXA: data, owned data, what stands for them in the abstract heap. -/
namespace PW
open PySem PySem.Spec PyProof.Rows L2

/-- plain data -/
inductive D where
  | non | bl (b : Bool) | int (i : Int) | str (x : Str) | tup (l : List D) | lst (l : List D) | scr (l : List Int)
  | dct (ks : List Str) (l : List D) | ins (c : Str) (fs : List Str) (l : List D) | fct (ks : List Str) (l : List D)
/-- owned data: shared leaves, or containers that nobody else holds -/
inductive O where
  | sh (d : D) | rw (v : V) | pin (v : V) (d : D) | un | lst (l : List O) | tup (l : List O) | dct (ks : List Str) (l : List O) | ins (p : Addr) (c : Str) (fs : List Str) (l : List O) | tab (p : Addr) (q : Str)
/-- a class of the text by its name -/
def clA (K : PySem.W.Frag) (c : Str) : Addr := He.ga K c

mutual
inductive Rep (K : PySem.W.Frag) (G : Hp) : V → D → Prop
  | non : Rep K G .non .non
  | bl (b : Bool) : Rep K G (.bl b) (.bl b)
  | int (i : Int) : Rep K G (.int i) (.int i)
  | str (x : Str) : Rep K G (.str x) (.str x)
  | tup {a : Addr} {vs : List V} {ds : List D} : SqT K G a vs → RepAll K G vs ds → Rep K G (.ref a) (.tup ds)
  | lst {a : Addr} {vs : List V} {ds : List D} : G a = some (.lst vs) → RepAll K G vs ds → Rep K G (.ref a) (.lst ds)
  | scr {a : Addr} {ns : List Int} : SqL K G a (ns.map V.int) → Rep K G (.ref a) (.scr ns)
  | dct {a : Addr} {kvs : List (Key × V)} {ks : List Str} {ds : List D} : Rd G a (.dK kvs) → kvs.map (·.1) = ks.map Sum.inr → RepAll K G (kvs.map (·.2)) ds → Rep K G (.ref a) (.dct ks ds)
  | ins {a dx : Addr} {fvs : List (Str × V)} {c : Str} {fs : List Str} {ds : List D} : G a = some (.ins (clA K c) dx fvs) → fvs.map (·.1) = fs → RepAll K G (fvs.map (·.2)) ds → Rep K G (.ref a) (.ins c fs ds)
  | fct {a : Addr} {od : Obj} {kvs : List (Key × V)} {ks : List Str} {ds : List D} : G a = some (.frz od (.dK kvs)) → kvs.map (·.1) = ks.map Sum.inr → RepAll K G (kvs.map (·.2)) ds → Rep K G (.ref a) (.fct ks ds)
inductive RepAll (K : PySem.W.Frag) (G : Hp) : List V → List D → Prop
  | nil : RepAll K G [] []
  | cons {v : V} {vs : List V} {d : D} {ds : List D} : Rep K G v d → RepAll K G vs ds → RepAll K G (v :: vs) (d :: ds)
end

mutual
inductive ORep (K : PySem.W.Frag) (G H : Hp) : V → O → List Addr → Prop
  | sh {v : V} {d : D} : Rep K G v d → ORep K G H v (.sh d) []
  | rw {v : V} : ORep K G H v (.rw v) []
  | pin {v : V} {d : D} : Rep K G v d → ORep K G H v (.pin v d) []
  | un {v : V} : ORep K G H v .un []
  | lst {p : Addr} {vs : List V} {os : List O} {S : List Addr} : G p = none → H p = some (.lst vs) → ORepAll K G H vs os S → p ∉ S → ORep K G H (.ref p) (.lst os) (p :: S)
  | tup {p : Addr} {vs : List V} {os : List O} {S : List Addr} : SqT K G p vs → ORepAll K G H vs os S → ORep K G H (.ref p) (.tup os) S
  | dct {p : Addr} {kvs : List (Key × V)} {ks : List Str} {os : List O} {S : List Addr} : G p = none → H p = some (.dK kvs) → kvs.map (·.1) = ks.map Sum.inr → ORepAll K G H (kvs.map (·.2)) os S → p ∉ S → ORep K G H (.ref p) (.dct ks os) (p :: S)
  | ins {p dx : Addr} {fvs : List (Str × V)} {c : Str} {fs : List Str} {os : List O} {S : List Addr} : G p = none → H p = some (.ins (clA K c) dx fvs) → fvs.map (·.1) = fs → ORepAll K G H (fvs.map (·.2)) os S → p ∉ S → ORep K G H (.ref p) (.ins p c fs os) (p :: S)
  | tab {p : Addr} {ps : Array Value} {cs : List Addr} {q : Str} : G p = none → H p = some (.tbl ps) → TriplesOk ps.toList → (∀ (pos : Pos) (cv : Value), codeAmong pos ps.toList = some cv → ∃ c, cv = .ref c ∧ c ∈ cs) → (∀ c, c ∈ cs → G c = none ∧ H c = some (LamX.CodeO c q)) → ORep K G H (.ref p) (.tab p q) (p :: cs)
inductive ORepAll (K : PySem.W.Frag) (G H : Hp) : List V → List O → List Addr → Prop
  | nil : ORepAll K G H [] [] []
  | cons {v : V} {vs : List V} {o : O} {os : List O} {S1 S2 : List Addr} : ORep K G H v o S1 → ORepAll K G H vs os S2 → (∀ p, p ∈ S1 → p ∉ S2) → ORepAll K G H (v :: vs) (o :: os) (S1 ++ S2)
end

section
variable {K : PySem.W.Frag} {G G' H H' : Hp}
theorem same_rd {a : Addr} {u : HO} (e : Same G G') (h : Rd G a u) : Rd G' a u := by
  rcases h with h | ⟨o, h⟩
  · exact Or.inl (e a _ h)
  · exact Or.inr ⟨o, e a _ h⟩
theorem same_t {a : Addr} {xs : List V} (e : Same G G') (h : SqT K G a xs) : SqT K G' a xs := by
  rcases h with h | h
  · exact Or.inl (same_rd e h)
  · exact Or.inr h
theorem same_l {a : Addr} {xs : List V} (e : Same G G') (h : SqL K G a xs) : SqL K G' a xs := e.seq h
mutual
theorem Rep.mono (e : Same G G') : ∀ {v : V} {d : D}, Rep K G v d → Rep K G' v d
  | _, _, .non => .non
  | _, _, .bl b => .bl b
  | _, _, .int i => .int i
  | _, _, .str x => .str x
  | _, _, .tup h r => .tup (same_t e h) (RepAll.mono e r)
  | _, _, .lst h r => .lst (e _ _ h) (RepAll.mono e r)
  | _, _, .scr h => .scr (same_l e h)
  | _, _, .dct h k r => .dct (same_rd e h) k (RepAll.mono e r)
  | _, _, .ins h k r => .ins (e _ _ h) k (RepAll.mono e r)
  | _, _, .fct h k r => .fct (e _ _ h) k (RepAll.mono e r)
theorem RepAll.mono (e : Same G G') : ∀ {vs : List V} {ds : List D}, RepAll K G vs ds → RepAll K G' vs ds
  | _, _, .nil => .nil
  | _, _, .cons h r => .cons (Rep.mono e h) (RepAll.mono e r)
end
theorem RepAll.len : ∀ {vs : List V} {ds : List D}, RepAll K G vs ds → vs.length = ds.length
  | _, _, .nil => rfl
  | _, _, .cons _ r => by simp [RepAll.len r]
theorem RepAll.get : ∀ {vs : List V} {ds : List D} {i : Nat} {d : D}, RepAll K G vs ds → ds[i]? = some d → ∃ v, vs[i]? = some v ∧ Rep K G v d
  | _, _, _, _, .nil, h => by simp at h
  | _, _, 0, _, .cons h _, e => by simp at e; subst e; exact ⟨_, rfl, h⟩
  | _, _, i + 1, d, .cons _ r, e => by
    obtain ⟨v, h1, h2⟩ := RepAll.get (i := i) r (by simpa using e)
    exact ⟨v, by simpa using h1, h2⟩
theorem RepAll.getv : ∀ {vs : List V} {ds : List D} {i : Nat} {v : V}, RepAll K G vs ds → vs[i]? = some v → ∃ d, ds[i]? = some d ∧ Rep K G v d
  | _, _, _, _, .nil, h => by simp at h
  | _, _, 0, _, .cons h _, e => by simp at e; subst e; exact ⟨_, rfl, h⟩
  | _, _, i + 1, d, .cons _ r, e => by
    obtain ⟨v, h1, h2⟩ := RepAll.getv (i := i) r (by simpa using e)
    exact ⟨v, by simpa using h1, h2⟩
theorem RepAll.append : ∀ {vs ws : List V} {ds es : List D}, RepAll K G vs ds → RepAll K G ws es → RepAll K G (vs ++ ws) (ds ++ es)
  | _, _, _, _, .nil, s => s
  | _, _, _, _, .cons h r, s => .cons h (RepAll.append r s)
theorem RepAll.take : ∀ {vs : List V} {ds : List D} (n : Nat), RepAll K G vs ds → RepAll K G (vs.take n) (ds.take n)
  | _, _, 0, _ => .nil
  | _, _, _ + 1, .nil => .nil
  | _, _, n + 1, .cons h r => .cons h (RepAll.take n r)
theorem RepAll.drop : ∀ {vs : List V} {ds : List D} (n : Nat), RepAll K G vs ds → RepAll K G (vs.drop n) (ds.drop n)
  | _, _, 0, r => r
  | _, _, _ + 1, .nil => .nil
  | _, _, n + 1, .cons _ r => RepAll.drop n r
theorem RepAll.rep {vs : List V} {ds : List D} (h : RepAll K G vs ds) : ∀ k : Nat, RepAll K G (List.replicate k vs).flatten (List.replicate k ds).flatten
  | 0 => .nil
  | k + 1 => by
    rw [List.replicate_succ, List.replicate_succ, List.flatten_cons, List.flatten_cons]
    exact RepAll.append h (RepAll.rep h k)
theorem RepAll.of_ints : ∀ (ns : List Int), RepAll K G (ns.map V.int) (ns.map D.int)
  | [] => .nil
  | n :: r => .cons (.int n) (RepAll.of_ints r)
theorem RepAll.of_strs : ∀ (ns : List Str), RepAll K G (ns.map V.str) (ns.map D.str)
  | [] => .nil
  | n :: r => .cons (.str n) (RepAll.of_strs r)
theorem RepAll.ints : ∀ {vs : List V} {ns : List Int}, RepAll K G vs (ns.map D.int) → vs = ns.map V.int
  | _, [], .nil => rfl
  | _, n :: r, .cons (.int _) h => by rw [RepAll.ints h]; rfl
theorem RepAll.strs : ∀ {vs : List V} {ns : List Str}, RepAll K G vs (ns.map D.str) → vs = ns.map V.str
  | _, [], .nil => rfl
  | _, n :: r, .cons (.str _) h => by rw [RepAll.strs h]; rfl
theorem RepAll.bls : ∀ {vs : List V} {ns : List Bool}, RepAll K G vs (ns.map D.bl) → vs = ns.map V.bl
  | _, [], .nil => rfl
  | _, n :: r, .cons (.bl _) h => by rw [RepAll.bls h]; rfl

/-! ### owned data -/
mutual
theorem ORep.foot : ∀ {v : V} {o : O} {S : List Addr}, ORep K G H v o S → ∀ p, p ∈ S → G p = none ∧ H p ≠ none
  | _, _, _, .tup _ r, p, h => ORepAll.foot r p h
  | _, _, _, .sh _, p, h => nomatch h
  | _, _, _, .rw, p, h => nomatch h
  | _, _, _, .pin _, p, h => nomatch h
  | _, _, _, .un, p, h => nomatch h
  | _, _, _, .lst hg hh r _, p, h => by
    rcases List.mem_cons.mp h with rfl | h
    · exact ⟨hg, by rw [hh]; exact fun z => nomatch z⟩
    · exact ORepAll.foot r p h
  | _, _, _, .dct hg hh _ r _, p, h => by
    rcases List.mem_cons.mp h with rfl | h
    · exact ⟨hg, by rw [hh]; exact fun z => nomatch z⟩
    · exact ORepAll.foot r p h
  | _, _, _, .ins hg hh _ r _, p, h => by
    rcases List.mem_cons.mp h with rfl | h
    · exact ⟨hg, by rw [hh]; exact fun z => nomatch z⟩
    · exact ORepAll.foot r p h
  | _, _, _, .tab hg hh _ _ r, p, h => by
    rcases List.mem_cons.mp h with rfl | h
    · exact ⟨hg, by rw [hh]; exact fun z => nomatch z⟩
    · exact ⟨(r p h).1, by rw [(r p h).2]; exact fun z => nomatch z⟩
theorem ORepAll.foot : ∀ {vs : List V} {os : List O} {S : List Addr}, ORepAll K G H vs os S → ∀ p, p ∈ S → G p = none ∧ H p ≠ none
  | _, _, _, .nil, p, h => nomatch h
  | _, _, _, .cons a r _, p, h => by
    rcases List.mem_append.mp h with h | h
    · exact ORep.foot a p h
    · exact ORepAll.foot r p h
end
mutual
theorem ORep.ntup : ∀ {v : V} {o : O} {S : List Addr}, ORep K G H v o S → ∀ p, p ∈ S → ∃ u, H p = some u ∧ (∀ xs, u ≠ .tup xs) ∧ ∀ ob xs, u ≠ .frz ob xs
  | _, _, _, .tup _ r, p, h => ORepAll.ntup r p h
  | _, _, _, .sh _, p, h => nomatch h
  | _, _, _, .rw, p, h => nomatch h
  | _, _, _, .pin _, p, h => nomatch h
  | _, _, _, .un, p, h => nomatch h
  | _, _, _, .lst hg hh r _, p, h => by
    rcases List.mem_cons.mp h with rfl | h
    · exact ⟨_, hh, fun xs z => (nomatch z), fun ob xs z => (nomatch z)⟩
    · exact ORepAll.ntup r p h
  | _, _, _, .dct hg hh _ r _, p, h => by
    rcases List.mem_cons.mp h with rfl | h
    · exact ⟨_, hh, fun xs z => (nomatch z), fun ob xs z => (nomatch z)⟩
    · exact ORepAll.ntup r p h
  | _, _, _, .ins hg hh _ r _, p, h => by
    rcases List.mem_cons.mp h with rfl | h
    · exact ⟨_, hh, fun xs z => (nomatch z), fun ob xs z => (nomatch z)⟩
    · exact ORepAll.ntup r p h
  | _, _, _, .tab hg hh _ _ r, p, h => by
    rcases List.mem_cons.mp h with rfl | h
    · exact ⟨_, hh, fun xs z => (nomatch z), fun ob xs z => (nomatch z)⟩
    · exact ⟨_, (r p h).2, fun xs z => (nomatch z), fun ob xs z => (nomatch z)⟩
theorem ORepAll.ntup : ∀ {vs : List V} {os : List O} {S : List Addr}, ORepAll K G H vs os S → ∀ p, p ∈ S → ∃ u, H p = some u ∧ (∀ xs, u ≠ .tup xs) ∧ ∀ ob xs, u ≠ .frz ob xs
  | _, _, _, .nil, p, h => nomatch h
  | _, _, _, .cons a r _, p, h => by
    rcases List.mem_append.mp h with h | h
    · exact ORep.ntup a p h
    · exact ORepAll.ntup r p h
end
mutual
/-- it stands as it stood, where its own objects are kept -/
theorem ORep.keep (e : Same G G') : ∀ {v : V} {o : O} {S : List Addr}, ORep K G H v o S → (∀ p, p ∈ S → G' p = none) → (∀ p u, p ∈ S → H p = some u → H' p = some u) → ORep K G' H' v o S
  | _, _, _, .sh h, _, _ => .sh (h.mono e)
  | _, _, _, .rw, _, _ => .rw
  | _, _, _, .pin h, _, _ => .pin (h.mono e)
  | _, _, _, .un, _, _ => .un
  | _, _, _, .lst hg hh r n, a, b => .lst (a _ List.mem_cons_self) (b _ _ List.mem_cons_self hh) (ORepAll.keep e r (fun p h => a p (List.mem_cons_of_mem _ h)) fun p u h => b p u (List.mem_cons_of_mem _ h)) n
  | _, _, _, .tup h r, a, b => .tup (same_t e h) (ORepAll.keep e r a b)
  | _, _, _, .dct hg hh k r n, a, b => .dct (a _ List.mem_cons_self) (b _ _ List.mem_cons_self hh) k (ORepAll.keep e r (fun p h => a p (List.mem_cons_of_mem _ h)) fun p u h => b p u (List.mem_cons_of_mem _ h)) n
  | _, _, _, .ins hg hh k r n, a, b => .ins (a _ List.mem_cons_self) (b _ _ List.mem_cons_self hh) k (ORepAll.keep e r (fun p h => a p (List.mem_cons_of_mem _ h)) fun p u h => b p u (List.mem_cons_of_mem _ h)) n
  | _, _, _, .tab hg hh t m r, a, b => .tab (a _ List.mem_cons_self) (b _ _ List.mem_cons_self hh) t m fun c hc => ⟨a c (List.mem_cons_of_mem _ hc), b c _ (List.mem_cons_of_mem _ hc) (r c hc).2⟩
theorem ORepAll.keep (e : Same G G') : ∀ {vs : List V} {os : List O} {S : List Addr}, ORepAll K G H vs os S → (∀ p, p ∈ S → G' p = none) → (∀ p u, p ∈ S → H p = some u → H' p = some u) → ORepAll K G' H' vs os S
  | _, _, _, .nil, _, _ => .nil
  | _, _, _, .cons h r n, a, b => .cons (ORep.keep e h (fun p q => a p (List.mem_append_left _ q)) fun p u q => b p u (List.mem_append_left _ q)) (ORepAll.keep e r (fun p q => a p (List.mem_append_right _ q)) fun p u q => b p u (List.mem_append_right _ q)) n
end
mutual
/-- owned data as plain data -/
def asD : O → Option D
  | .sh d => some d
  | .pin _ d => some d
  | .lst l => (asDs l).map .lst
  | .tup l => (asDs l).map .tup
  | .dct ks l => (asDs l).map (.dct ks)
  | .ins _ c fs l => (asDs l).map (.ins c fs)
  | _ => none
def asDs : List O → Option (List D)
  | [] => some []
  | o :: r => match asD o, asDs r with
    | some d, some ds => some (d :: ds)
    | _, _ => none
end
theorem asDs_cons {o : O} {r : List O} {ds : List D} (h : asDs (o :: r) = some ds) : ∃ d es, ds = d :: es ∧ asD o = some d ∧ asDs r = some es := by
  unfold asDs at h
  cases e1 : asD o with
  | none => rw [e1] at h; simp at h
  | some d =>
    cases e2 : asDs r with
    | none => rw [e1, e2] at h; simp at h
    | some es => rw [e1, e2] at h; simp at h; exact ⟨d, es, h.symm, rfl, rfl⟩
theorem asDs_sh : ∀ ds : List D, asDs (ds.map O.sh) = some ds
  | [] => by simp [asDs]
  | d :: r => by simp [asDs, asD, asDs_sh r]
theorem asD_sh (d : D) : asD (.sh d) = some d := by simp [asD]
theorem asD_lst (ds : List D) : asD (.lst (ds.map O.sh)) = some (.lst ds) := by simp [asD, asDs_sh]
mutual
theorem ORep.pub (e : Same G G') : ∀ {v : V} {o : O} {S : List Addr} {d : D}, ORep K G H v o S → asD o = some d → (∀ p, p ∈ S → G' p = H p) → Rep K G' v d
  | _, _, _, _, .sh h, q, _ => by simp [asD] at q; subst q; exact h.mono e
  | _, _, _, _, .rw, q, _ => by simp [asD] at q
  | _, _, _, _, .pin h, q, _ => by simp [asD] at q; subst q; exact h.mono e
  | _, _, _, _, .un, q, _ => by simp [asD] at q
  | _, _, _, _, .lst hg hh r n, q, a => by
    simp only [asD, Option.map_eq_some_iff] at q
    obtain ⟨ds, q, rfl⟩ := q
    exact .lst (by rw [a _ List.mem_cons_self, hh]) (ORepAll.pub e r q fun p h => a p (List.mem_cons_of_mem _ h))
  | _, _, _, _, .tup h r, q, a => by
    simp only [asD, Option.map_eq_some_iff] at q
    obtain ⟨ds, q, rfl⟩ := q
    exact .tup (same_t e h) (ORepAll.pub e r q a)
  | _, _, _, _, .dct hg hh k r n, q, a => by
    simp only [asD, Option.map_eq_some_iff] at q
    obtain ⟨ds, q, rfl⟩ := q
    exact .dct (.inl (by rw [a _ List.mem_cons_self, hh])) k (ORepAll.pub e r q fun p h => a p (List.mem_cons_of_mem _ h))
  | _, _, _, _, .ins hg hh k r n, q, a => by
    simp only [asD, Option.map_eq_some_iff] at q
    obtain ⟨ds, q, rfl⟩ := q
    exact .ins (by rw [a _ List.mem_cons_self, hh]) k (ORepAll.pub e r q fun p h => a p (List.mem_cons_of_mem _ h))
  | _, _, _, _, .tab _ _ _ _ _, q, _ => by simp [asD] at q
theorem ORepAll.pub (e : Same G G') : ∀ {vs : List V} {os : List O} {S : List Addr} {ds : List D}, ORepAll K G H vs os S → asDs os = some ds → (∀ p, p ∈ S → G' p = H p) → RepAll K G' vs ds
  | _, _, _, _, .nil, q, _ => by simp [asDs] at q; subst q; exact .nil
  | _, _, _, _, .cons h r n, q, a => by
    obtain ⟨d, es, rfl, q1, q2⟩ := asDs_cons q
    exact .cons (ORep.pub e h q1 fun p z => a p (List.mem_append_left _ z)) (ORepAll.pub e r q2 fun p z => a p (List.mem_append_right _ z))
end
/-- a list of shared things -/
theorem ORepAll.of_sh : ∀ {vs : List V} {ds : List D}, RepAll K G vs ds → ORepAll K G H vs (ds.map O.sh) []
  | _, _, .nil => .nil
  | _, _, .cons h r => ORepAll.cons (S1 := []) (S2 := []) (.sh h) (ORepAll.of_sh r) fun _ z => nomatch z
theorem ORepAll.to_sh : ∀ {vs : List V} {ds : List D} {S : List Addr}, ORepAll K G H vs (ds.map O.sh) S → RepAll K G vs ds ∧ S = []
  | _, [], _, .nil => ⟨.nil, rfl⟩
  | _, d :: r, _, .cons (.sh h) q _ => by
    obtain ⟨q1, q2⟩ := ORepAll.to_sh q
    exact ⟨.cons h q1, by rw [q2] <;> rfl⟩
theorem ORepAll.len : ∀ {vs : List V} {os : List O} {S : List Addr}, ORepAll K G H vs os S → vs.length = os.length
  | _, _, _, .nil => rfl
  | _, _, _, .cons _ r _ => by simp [ORepAll.len r]

/-! ### publishing -/
def pubG (G H : Hp) (S : List Addr) : Hp := fun a => if a ∈ S then H a else G a
theorem pubG_in {S : List Addr} {a : Addr} (h : a ∈ S) : pubG G H S a = H a := by unfold pubG; rw [if_pos h]
theorem pubG_out {S : List Addr} {a : Addr} (h : a ∉ S) : pubG G H S a = G a := by unfold pubG; rw [if_neg h]
theorem pubG_same {S : List Addr} (h : ∀ p, p ∈ S → G p = none) : Same G (pubG G H S) := fun a o e => by
  by_cases q : a ∈ S
  · rw [h a q] at e; cases e
  · rw [pubG_out q]; exact e
theorem pubG_sub {S : List Addr} (h : Same G H) : Same (pubG G H S) H := fun a o e => by
  by_cases q : a ∈ S
  · rw [pubG_in q] at e; exact e
  · rw [pubG_out q] at e; exact h a o e
end

/-! ### the slots -/
structure EnvR (K : PySem.W.Frag) (G H : Hp) (σ : L2.St) (Γ : List O) (F : Nat → List Addr) : Prop where
  len : σ.length = Γ.length
  ent : ∀ i o, Γ[i]? = some o → o = .un ∨ ∃ v, σ[i]? = some (some v) ∧ ORep K G H v o (F i)
  own : ∀ i p, p ∈ F i → G p = none ∧ H p ≠ none
  dis : ∀ i j p, p ∈ F i → p ∈ F j → i = j
structure Sta (K : PySem.W.Frag) (σ : L2.St) (Γ : List O) (G H : Hp) (F : Nat → List Addr) : Prop where
  env : EnvR K G H σ Γ F
  gh : Same G H
/-- what may have come of it -/
structure Stp (G H : Hp) (F : Nat → List Addr) (G' H' : Hp) (F' : Nat → List Addr) : Prop where
  gg : Same G G'
  hh : ∀ a o, (∀ i, a ∉ F i) → H a = some o → H' a = some o
  gn : ∀ p, H p ≠ none → G p = none → (∀ i, p ∉ F i) → G' p = none
  ff : ∀ i p, p ∈ F' i → (∃ j, p ∈ F j) ∨ H p = none
section
variable {K : PySem.W.Frag} {σ : L2.St} {Γ : List O} {G H G1 H1 G2 H2 : Hp} {F F1 F2 : Nat → List Addr}
theorem Stp.refl : Stp G H F G H F := ⟨Same.refl G, fun _ _ _ e => e, fun _ _ e _ => e, fun i p h => .inl ⟨i, h⟩⟩
theorem Stp.out (a : Stp G H F G1 H1 F1) {p : Addr} (h1 : H p ≠ none) (h2 : ∀ i, p ∉ F i) : ∀ i, p ∉ F1 i := fun i h => by
  rcases a.ff i p h with ⟨j, z⟩ | z
  · exact h2 j z
  · exact h1 z
theorem Stp.trans (a : Stp G H F G1 H1 F1) (b : Stp G1 H1 F1 G2 H2 F2) : Stp G H F G2 H2 F2 where
  gg := a.gg.trans b.gg
  hh := fun p o h e => b.hh p o (a.out (by rw [e]; exact fun z => nomatch z) h) (a.hh p o h e)
  gn := fun p h1 h2 h3 => b.gn p (by
    cases e : H p with
    | none => exact absurd e h1
    | some o => rw [a.hh p o h3 e]; exact fun z => nomatch z) (a.gn p h1 h2 h3) (a.out h1 h3)
  ff := fun i p h => by
    rcases b.ff i p h with ⟨j, z⟩ | z
    · exact a.ff j p z
    · by_cases q : ∃ j, p ∈ F j
      · exact .inl q
      · right
        cases e : H p with
        | none => rfl
        | some o =>
          rw [a.hh p o (fun i hi => q ⟨i, hi⟩) e] at z
          cases z
/-- the heap has grown, nothing else -/
theorem Sta.grow (s : Sta K σ Γ G H F) (hh : Same H H1) : Sta K σ Γ G H1 F ∧ Stp G H F G H1 F := by
  refine ⟨⟨⟨s.env.len, fun i o e => ?_, fun i p h => ?_, s.env.dis⟩, s.gh.trans hh⟩, ⟨Same.refl G, fun a o _ e => hh a o e, fun _ _ e _ => e, fun i p h => .inl ⟨i, h⟩⟩⟩
  · rcases s.env.ent i o e with z | ⟨v, h1, h2⟩
    · exact .inl z
    · exact .inr ⟨v, h1, h2.keep (Same.refl G) (fun p h => (s.env.own i p h).1) fun p u _ q => hh p u q⟩
  · obtain ⟨h1, h2⟩ := s.env.own i p h
    refine ⟨h1, ?_⟩
    cases e : H p with
    | none => exact absurd e h2
    | some o => rw [hh p o e]; exact fun z => nomatch z
/-- .. and the stable part with it -/
theorem Sta.growG (s : Sta K σ Γ G H F) (hg : Same G G1) (hgh : Same G1 H1) (hh : Same H H1) (hn : ∀ p, H p ≠ none → G p = none → G1 p = none) : Sta K σ Γ G1 H1 F ∧ Stp G H F G1 H1 F := by
  refine ⟨⟨⟨s.env.len, fun i o e => ?_, fun i p h => ?_, s.env.dis⟩, hgh⟩, ⟨hg, fun a o _ e => hh a o e, fun p h1 h2 _ => hn p h1 h2, fun i p h => .inl ⟨i, h⟩⟩⟩
  · rcases s.env.ent i o e with z | ⟨v, h1, h2⟩
    · exact .inl z
    · exact .inr ⟨v, h1, h2.keep hg (fun p h => hn p (s.env.own i p h).2 (s.env.own i p h).1) fun p u _ q => hh p u q⟩
  · obtain ⟨h1, h2⟩ := s.env.own i p h
    refine ⟨hn p h2 h1, ?_⟩
    cases e : H p with
    | none => exact absurd e h2
    | some o => rw [hh p o e]; exact fun z => nomatch z
/-- what is owned beside the slots is published -/
theorem Sta.pub (s : Sta K σ Γ G H F) {S : List Addr} (hS : ∀ p, p ∈ S → ∀ i, p ∉ F i) (hg : ∀ p, p ∈ S → G p = none) : Sta K σ Γ (pubG G H S) H F := by
  refine ⟨⟨s.env.len, fun i o e => ?_, fun i p h => ?_, s.env.dis⟩, pubG_sub s.gh⟩
  · rcases s.env.ent i o e with z | ⟨v, h1, h2⟩
    · exact .inl z
    · exact .inr ⟨v, h1, h2.keep (pubG_same hg) (fun p h => by rw [pubG_out fun z => hS p z i h]; exact (s.env.own i p h).1) fun p u _ q => q⟩
  · rw [pubG_out fun z => hS p z i h]; exact s.env.own i p h
def setF (F : Nat → List Addr) (i : Nat) (S : List Addr) : Nat → List Addr := fun j => if j = i then S else F j
theorem setF_same {i : Nat} {S : List Addr} : setF F i S i = S := by unfold setF; rw [if_pos rfl]
theorem setF_ne {i j : Nat} {S : List Addr} (h : j ≠ i) : setF F i S j = F j := by unfold setF; rw [if_neg h]
/-- a slot is set -/
theorem Sta.set (s : Sta K σ Γ G H F) {i : Nat} {v : V} {o : O} {S : List Addr} (hi : i < Γ.length) (r : ORep K G H v o S) (hS : ∀ p, p ∈ S → ∀ j, j ≠ i → p ∉ F j) : Sta K (σ.set i (some v)) (Γ.set i o) G H (setF F i S) := by
  have hi' : i < σ.length := by rw [s.env.len]; exact hi
  refine ⟨⟨by simp [s.env.len], fun j o' e => ?_, fun j p h => ?_, fun j k p h1 h2 => ?_⟩, s.gh⟩
  · by_cases q : j = i
    · subst q
      rw [List.getElem?_set_self hi] at e
      cases e
      exact .inr ⟨v, List.getElem?_set_self hi', by rw [setF_same]; exact r⟩
    · rw [List.getElem?_set_ne (Ne.symm q)] at e
      rw [List.getElem?_set_ne (Ne.symm q), setF_ne q]
      exact s.env.ent j o' e
  · by_cases q : j = i
    · subst q; rw [setF_same] at h; exact r.foot p h
    · rw [setF_ne q] at h; exact s.env.own j p h
  · by_cases q1 : j = i
    · subst q1
      rw [setF_same] at h1
      by_cases q2 : k = j
      · exact q2.symm
      · rw [setF_ne q2] at h2; exact absurd h2 (hS p h1 k q2)
    · rw [setF_ne q1] at h1
      by_cases q2 : k = i
      · subst q2; rw [setF_same] at h2; exact absurd h1 (hS p h2 j q1)
      · rw [setF_ne q2] at h2; exact s.env.dis j k p h1 h2
/-- a slot is given up -/
theorem Sta.unset (s : Sta K σ Γ G H F) (i : Nat) : Sta K σ (Γ.set i .un) G H (setF F i []) := by
  refine ⟨⟨by simp [s.env.len], fun j o' e => ?_, fun j p h => ?_, fun j k p h1 h2 => ?_⟩, s.gh⟩
  · by_cases q : j = i
    · subst q
      left
      rw [List.getElem?_set] at e
      simp at e
      exact e.2.symm
    · rw [List.getElem?_set_ne (Ne.symm q)] at e
      rw [setF_ne q]
      exact s.env.ent j o' e
  · by_cases q : j = i
    · subst q; rw [setF_same] at h; exact nomatch h
    · rw [setF_ne q] at h; exact s.env.own j p h
  · by_cases q1 : j = i
    · subst q1; rw [setF_same] at h1; exact nomatch h1
    · by_cases q2 : k = i
      · subst q2; rw [setF_same] at h2; exact nomatch h2
      · rw [setF_ne q1] at h1; rw [setF_ne q2] at h2; exact s.env.dis j k p h1 h2
end
end PW

end
section
set_option Elab.async false
set_option linter.all false
set_option maxRecDepth 100000
set_option maxHeartbeats 4000000
/-! PXB: the small language and what it means over data. -/
namespace PW
open PySem PySem.Spec PyProof.Rows L2

inductive EC where
  | BadToken | BadRow | Again | BadCall | BadPaste | BadIf | TooMany
  deriving DecidableEq
inductive Bop where
  | add | sub | mul | mod | fdiv | pow | shl
inductive Prm where
  | len | int1 | str1 | list1 | tuple1 | max2 | min2 | sum1 | all1 | any1 | sorted1 | lenset | sortset | ord1 | dict1
inductive Mth where
  | join | index | replace | split
inductive Tgt where
  | nm (i : Nat) | tp (is : List Nat)
inductive PEx where
  | c (d : D) | var (i : Nat) | mov (i : Nat) | glb (k : Nat)
  | bin (op : Bop) (a b : PEx) | cmp (op : CmpOp) (a b : PEx)
  | and (a b : PEx) | or (a b : PEx) | not (a : PEx) | neg (a : PEx) | ifx (t a b : PEx)
  | tup (es : List PEx) | lst (es : List PEx) | lst1 (e : PEx)
  | sub (a b : PEx) | slc (a : PEx) (lo hi : Option PEx)
  | cal (f : Nat) (es : List PEx) | prm (f : Prm) (es : List PEx) | mth (m : Mth) (o : PEx) (es : List PEx)
  | isi (e : PEx) (t : String)
  | app (i : Nat) (e : PEx) | appL (i j : Nat) | ext (i : Nat) (e : PEx)
  | peek (e : PEx)
  | rng1 (e : PEx) | rng2 (a b : PEx) | itL (e : PEx) | itT (e : PEx) | itS (e : PEx) | itD (i : Nat) | enm (e : PEx) | zip (a b : PEx)
  | lc (elt : PEx) (tg : Tgt) (it : PEx) (t : Option PEx)
  | fld (cn : Str) (e : PEx) (f : Str) | fldv (cn : Str) (i : Nat) (f : Str)
  | mcl (k : Nat) (cn m : Str) (e : PEx) (es : List PEx) | mcv (k : Nat) (cn m : Str) (i : Nat) (es : List PEx)
  | new (k : Nat) (cn : Str) (es : List PEx) | mct (k : Nat) (cn m : Str) (e : PEx) (es : List PEx) | mctP (k : Nat) (cn m f : Str) (e : PEx) (es : List PEx)
  | lenset (e : PEx) | sortset (e : PEx) | dnew | tup2 (a b : PEx) | dgetv (i : Nat) (k : PEx) | lend (j : Nat) (e : PEx) | pinD (i : Nat) (e : PEx) | dpopF (cn : Str) (i : Nat) (f : Str) (j : Nat) | pop (i : Nat) | dget2 (d k e : PEx) | dpop (i : Nat) (k : PEx) | orL (a b : PEx) | appT (e : PEx) | rpl (o : PEx) (y z : Str) | frz (e : PEx) | lapp (cn : Str) (i : Nat) (f : Str) (e : PEx) | lext (cn : Str) (i : Nat) (f : Str) (e : PEx) | lpop (cn : Str) (i : Nat) (f : Str) | cmp2 (op op2 : CmpOp) (a b d : PEx) | told (i : Nat) (q : Str) (e : PEx) | jnk
inductive PSt where
  | asg (i : Nat) (pub : Bool) (e : PEx) | asgT (is : List Nat) (e : PEx)
  | exp (e : PEx) | ret (e : PEx) | ite (t : PEx) (a b : List PSt) | whl (t : PEx) (b : List PSt) | for_ (tg : Tgt) (it : PEx) (b : List PSt)
  | rse (C : EC) (e : PEx) | tryR (b : List PSt) (i : Nat) | tryA (b : List PSt) (i j : Nat)
  | pas | brk | cnt | seti (i : Nat) (k : Int) (e : PEx)
  | setf (cn : Str) (i : Nat) (f : Str) (e : PEx) | dput (i : Nat) (k e : PEx) | dputF (cn : Str) (i : Nat) (f : Str) (j : Nat) (e : PEx) | tryN (b : List PSt) | par2 (i j : Nat) (a b : PEx) | par3 (i j l : Nat) (a b d : PEx) | tryU (b : List PSt) (C : EC) (i : Nat) (k : Int) | jnk

/-! ### data as the library has it -/
/-- for what has no such data: deeper than anything that is compared -/
def junkP : Nat → PyData
  | 0 => .none
  | n + 1 => .list [junkP n]
/-- by name -/
def lookF {α : Type} : List Str → List α → Str → Option α
  | k :: ks, a :: as, x => if k = x then some a else lookF ks as x
  | _, _, _ => none
/-- in its place, or at the end -/
def putO {α : Type} : List Str → List α → Str → α → List Str × List α
  | k :: ks, a :: as, x, b => if k = x then (k :: ks, b :: as) else (k :: (putO ks as x b).1, a :: (putO ks as x b).2)
  | _, _, x, b => ([x], [b])
/-- a dict's: all of that key -/
def repO {α : Type} : List Str → List α → Str → α → List α
  | k :: ks, a :: as, x, b => (if k = x then b else a) :: repO ks as x b
  | _, _, _, _ => []
def putD {α : Type} (ks : List Str) (as : List α) (x : Str) (b : α) : List Str × List α := if x ∈ ks then (ks, repO ks as x b) else (ks ++ [x], as ++ [b])
def dropO {α : Type} : List Str → List α → Str → List Str × List α
  | k :: ks, a :: as, x => if k = x then dropO ks as x else (k :: (dropO ks as x).1, a :: (dropO ks as x).2)
  | _, _, _ => ([], [])
/-- a field is pinned -/
def pinF : List Str → List O → Str → V → D → List O
  | k :: ks, a :: as, x, v, d => if k = x then .pin v d :: as else a :: pinF ks as x v d
  | _, as, _, _, _ => as
/-- shared things, pinned -/
def pins : List V → List D → List O
  | v :: vs, d :: ds => .pin v d :: pins vs ds
  | _, _ => []
/-- texts in order -/
def ltS (x y : Str) : Bool := ltCps x.cps.toList y.cps.toList
def insS (x : Str) : List Str → List Str
  | [] => [x]
  | y :: r => if ltS y x = true then y :: insS x r else x :: y :: r
def srtS : List Str → List Str
  | [] => []
  | x :: r => insS x (srtS r)
def ddS : List Str → List Str
  | [] => []
  | x :: r => if x ∈ r then ddS r else x :: ddS r
/-- a text so many times -/
def repS (x : Str) (n : Nat) : Str := ⟨(List.replicate n x.cps.toList).flatten.toArray⟩
mutual
def toPy : D → PyData
  | .non => .none
  | .bl b => .bool b
  | .int i => .int i
  | .str x => .str x
  | .tup l => .tuple (toPys l)
  | .lst l => .list (toPys l)
  | .scr l => .list (l.map .int)
  | .dct _ _ => junkP 60
  | .ins _ _ _ => junkP 60
  | .fct _ _ => junkP 60
def toPys : List D → List PyData
  | [] => []
  | d :: r => toPy d :: toPys r
end
/-- == -/
def eqD (x y : D) : Bool := PyData.eqv (toPy x) (toPy y)
def dep (x : D) : Nat := (toPy x).depth

/-- a list's slice -/
def cutL {α : Type} (xs : List α) (lo hi : Option Int) : List α := (xs.drop (HT.sIx xs.length 0 lo)).take (HT.sIx xs.length xs.length hi - HT.sIx xs.length 0 lo)

mutual
/-- nothing in it but texts, numbers and tuples of such -/
def cleanD : D → Bool
  | .non => true
  | .bl _ => true
  | .int _ => true
  | .str _ => true
  | .tup l => cleanDs l
  | _ => false
def cleanDs : List D → Bool
  | [] => true
  | d :: r => cleanD d && cleanDs r
end
mutual
def cleanO : O → Bool
  | .sh d => cleanD d
  | .pin _ _ => false
  | .rw _ => true
  | .un => true
  | .lst l => cleanOs l
  | .tup l => cleanOs l
  | .dct _ l => cleanOs l
  | .ins _ _ _ l => cleanOs l
  | .tab _ _ => true
def cleanOs : List O → Bool
  | [] => true
  | o :: r => cleanO o && cleanOs r
end
/-- the slots behind a lending, but slot j: as they were, or clean; a thing's pinned fields as they were -/
def OkF : List O → List O → Prop
  | a :: Γ, b :: Γ1 => ((∃ v d, a = .pin v d ∧ b = .pin v d) ∨ cleanO b = true) ∧ OkF Γ Γ1
  | [], [] => True
  | _, _ => False
def OkS (a b : O) : Prop := (∃ d, a = .sh d ∧ b = .sh d) ∨ cleanO b = true ∨ (∃ p c fs l l', a = .ins p c fs l ∧ b = .ins p c fs l' ∧ OkF l l') ∨ ∃ ks l l', a = .dct ks l ∧ b = .dct ks l' ∧ OkF l l'
def LendAll : List O → List O → Prop
  | a :: Γ, b :: Γ1 => OkS a b ∧ LendAll Γ Γ1
  | [], [] => True
  | _, _ => False
def LendOk : Nat → List O → List O → Prop
  | 0, _ :: Γ, _ :: Γ1 => LendAll Γ Γ1
  | j + 1, a :: Γ, b :: Γ1 => OkS a b ∧ LendOk j Γ Γ1
  | _, _, _ => False
/-- what an own def is worth: what it asks of its arguments, what comes of it -/
structure FSpec where
  np : Nat
  pre : List D → Prop
  out : List D → Except (EC × Int) O
/-- of a method of a thing that is lent: what it asks of it and of its arguments, what comes of them -/
structure MSpec where
  np : Nat
  pre : O → List D → Prop
  out : O → List D → Except (EC × Int) O × O
structure Fns where
  f : Nat → Option FSpec
  m : Nat → Option MSpec := fun _ => none
  tb : Addr := 0
instance : CoeFun Fns (fun _ => Nat → Option FSpec) := ⟨Fns.f⟩
abbrev EXC := EC → Int → List O → Prop

def mulOk (a b : Int) : Prop := ((-(2 ^ 64) < a ∧ a < 2 ^ 64) ∨ (-(2 ^ 64) < b ∧ b < 2 ^ 64)) ∨ a.natAbs.log2 + b.natAbs.log2 < 1000000
def semBin : Bop → D → D → (O → Prop) → Prop
  | .add, .int a, .int b, R => R (.sh (.int (a + b)))
  | .add, .str a, .str b, R => a.length + b.length ≤ 16777216 ∧ R (.sh (.str (a ++ b)))
  | .add, .lst a, .lst b, R => a.length + b.length ≤ 16777216 ∧ R (.lst ((a ++ b).map .sh))
  | .add, .tup a, .tup b, R => a.length + b.length ≤ 16777216 ∧ R (.sh (.tup (a ++ b)))
  | .sub, .int a, .int b, R => R (.sh (.int (a - b)))
  | .mul, .int a, .int b, R => mulOk a b ∧ R (.sh (.int (a * b)))
  | .mul, .lst a, .int k, R => (-(2 ^ 63) ≤ k ∧ k < 2 ^ 63 ∧ a.length * k.toNat ≤ 16777216) ∧ R (.lst ((List.replicate k.toNat a).flatten.map .sh))
  | .mul, .str a, .int k, R => (0 ≤ k ∧ k ≤ 1000 ∧ a.length ≤ 1000) ∧ R (.sh (.str (repS a k.toNat)))
  | .mod, .int a, .int b, R => 0 < b ∧ R (.sh (.int (a % b)))
  | .fdiv, .int a, .int b, R => (0 < b ∧ b.natAbs.log2 < 9000) ∧ R (.sh (.int (a / b)))
  | .pow, .int a, .int b, R => (0 ≤ b ∧ b ≤ 1000000 ∧ a.natAbs < 2 ^ 64) ∧ R (.sh (.int (a ^ b.toNat)))
  | .shl, .int a, .int b, R => (0 ≤ b ∧ b ≤ 1000000 ∧ a.natAbs < 2 ^ 64) ∧ R (.sh (.int (a * 2 ^ b.toNat)))
  | _, _, _, _ => False
def isNon : D → Bool
  | .non => true
  | _ => false
def semCmp : CmpOp → D → D → (Bool → Prop) → Prop
  | .Eq, x, y, R => (dep x ≤ 50 ∧ dep y ≤ 50) ∧ R (eqD x y)
  | .NotEq, x, y, R => (dep x ≤ 50 ∧ dep y ≤ 50) ∧ R (!eqD x y)
  | .Lt, .int a, .int b, R => R (decide (a < b))
  | .LtE, .int a, .int b, R => R (decide (a ≤ b))
  | .LtE, .str a, .str b, R => R (!decide (b.cps.toList < a.cps.toList))
  | .Gt, .int a, .int b, R => R (decide (b < a))
  | .GtE, .int a, .int b, R => R (decide (b ≤ a))
  | .Is, x, .non, R => R (isNon x)
  | .IsNot, x, .non, R => R (!isNon x)
  | .Is, .bl a, .bl b, R => R (decide (a = b))
  | .IsNot, .bl a, .bl b, R => R (!decide (a = b))
  | .In, .str a, .str b, R => ∃ c, a = ⟨#[c]⟩ ∧ R (decide (c ∈ b.cps.toList))
  | .NotIn, .str a, .str b, R => ∃ c, a = ⟨#[c]⟩ ∧ R (!decide (c ∈ b.cps.toList))
  | .In, .str a, .dct ks _, R => R (decide (a ∈ ks))
  | .NotIn, .str a, .dct ks _, R => R (!decide (a ∈ ks))
  | .In, x, .lst l, R => (dep x ≤ 50 ∧ dep (.lst l) ≤ 50) ∧ R (l.any fun y => eqD y x)
  | .NotIn, x, .lst l, R => (dep x ≤ 50 ∧ dep (.lst l) ≤ 50) ∧ R (!l.any fun y => eqD y x)
  | .In, x, .tup l, R => (dep x ≤ 50 ∧ dep (.tup l) ≤ 50) ∧ R (l.any fun y => eqD y x)
  | .NotIn, x, .tup l, R => (dep x ≤ 50 ∧ dep (.tup l) ≤ 50) ∧ R (!l.any fun y => eqD y x)
  | _, _, _, _ => False
def semSub : D → D → (O → Prop) → Prop
  | .lst l, .int i, R => ∃ d, atI l i = some d ∧ R (.sh d)
  | .tup l, .int i, R => ∃ d, atI l i = some d ∧ R (.sh d)
  | .str s, .int i, R => s.length ≤ 16777216 ∧ ∃ c, atI s.cps.toList i = some c ∧ R (.sh (.str ⟨#[c]⟩))
  | .scr ns, .int i, R => ∃ n, atI ns i = some n ∧ R (.sh (.int n))
  | .dct ks l, .str x, R => ∃ d, lookF ks l x = some d ∧ R (.sh d)
  | .fct ks l, .str x, R => ∃ d, lookF ks l x = some d ∧ R (.sh d)
  | _, _, _ => False
def semSlc : D → Option Int → Option Int → (O → Prop) → Prop
  | .lst l, lo, hi, R => R (.lst ((cutL l lo hi).map .sh))
  | .tup l, lo, hi, R => R (.sh (.tup (cutL l lo hi)))
  | .str s, lo, hi, R => s.length ≤ 16777216 ∧ R (.sh (.str (cutS s lo hi)))
  | _, _, _, _ => False
def semPrm : Prm → List D → (O → Prop) → Prop
  | .len, [.lst l], R => R (.sh (.int l.length))
  | .len, [.tup l], R => R (.sh (.int l.length))
  | .len, [.scr l], R => R (.sh (.int l.length))
  | .len, [.dct ks _], R => R (.sh (.int ks.length))
  | .sorted1, [.dct ks _], R => ks.length < 64 ∧ R (.lst ((srtS ks).map fun k => .sh (.str k)))
  | .sorted1, [.lst l], R => ∃ xs : List Str, l = xs.map .str ∧ xs.length < 64 ∧ R (.lst ((srtS xs).map fun k => .sh (.str k)))
  | .list1, [.dct ks _], R => R (.lst (ks.map fun k => .sh (.str k)))
  | .list1, [.fct ks _], R => R (.lst (ks.map fun k => .sh (.str k)))
  | .len, [.str s], R => s.length ≤ 16777216 ∧ R (.sh (.int s.length))
  | .int1, [.int i], R => R (.sh (.int i))
  | .int1, [.bl b], R => R (.sh (.int (if b then 1 else 0)))
  | .ord1, [.str x], R => ∃ c, x = ⟨#[c]⟩ ∧ R (.sh (.int (c : Nat)))
  | .str1, [.int i], R => i.natAbs.log2 < 1920 ∧ R (.sh (.str (toString i)))
  | .list1, [.lst l], R => R (.lst (l.map .sh))
  | .list1, [.tup l], R => R (.lst (l.map .sh))
  | .tuple1, [.lst l], R => R (.sh (.tup l))
  | .tuple1, [.tup l], R => R (.sh (.tup l))
  | .max2, [.int i, .int j], R => R (.sh (.int (if j > i then j else i)))
  | .min2, [.int i, .int j], R => R (.sh (.int (if j < i then j else i)))
  | .sum1, [.lst l], R => ∃ ns : List Int, l = ns.map .int ∧ R (.sh (.int ns.sum))
  | .all1, [.lst l], R => ∃ bs : List Bool, l = bs.map .bl ∧ R (.sh (.bl (bs.all id)))
  | .any1, [.lst l], R => ∃ bs : List Bool, l = bs.map .bl ∧ R (.sh (.bl (bs.any id)))
  | .dict1, [.lst l], R => ∃ prs : List (Str × D), l = prs.map (fun p => .tup [.str p.1, p.2]) ∧ (prs.map (·.1)).Nodup ∧ R (.sh (.dct (prs.map (·.1)) (prs.map (·.2))))
  | _, _, _ => False
def flatD : D → Bool
  | .non | .bl _ | .int _ | .str _ => true
  | _ => false
def semMth : Mth → D → List D → (O → Prop) → Prop
  | .join, .str a, [.lst l], R => ∃ ys : List Str, l = ys.map .str ∧ (ys.map (·.length)).sum + ys.length * a.length ≤ 16777216 ∧ R (.sh (.str (Txt.join a ys)))
  | .split, .str a, [.str b], R => ((b.length == 0) = false ∧ a.length + 2 ≤ 16777216) ∧ R (.lst (((Txt.split a b).map D.str).map .sh))
  | .index, .lst l, [x], R => (dep x ≤ 50 ∧ dep (.lst l) ≤ 50) ∧ ∃ (j : Nat) (z : D), l[j]? = some z ∧ eqD z x = true ∧ (∀ (m : Nat) (z' : D), m < j → l[m]? = some z' → eqD z' x = false) ∧ R (.sh (.int j))
  | _, _, _, _ => False
/-- the receiver's kind -/
def mthRc : Mth → D → Bool
  | .join, .str _ => true
  | .index, .lst _ => true
  | .replace, .str _ => true
  | .split, .str _ => true
  | _, _ => false
def isiD : D → String → Option Bool
  | .int _, "int" => some true
  | .bl _, "int" => some true
  | .str _, "int" => some false
  | .tup _, "int" => some false
  | .lst _, "int" => some false
  | .non, "int" => some false
  | .bl _, "bool" => some true
  | .int _, "bool" => some false
  | .str _, "bool" => some false
  | .tup _, "bool" => some false
  | .lst _, "bool" => some false
  | .non, "bool" => some false
  | .str _, "str" => some true
  | .int _, "str" => some false
  | .bl _, "str" => some false
  | .tup _, "str" => some false
  | .lst _, "str" => some false
  | .non, "str" => some false
  | .lst _, "list" => some true
  | .tup _, "list" => some false
  | .int _, "list" => some false
  | .bl _, "list" => some false
  | .str _, "list" => some false
  | .non, "list" => some false
  | .tup _, "tuple" => some true
  | .lst _, "tuple" => some false
  | .int _, "tuple" => some false
  | .bl _, "tuple" => some false
  | .str _, "tuple" => some false
  | .non, "tuple" => some false
  | _, _ => none
/-- every owned thing that is plain, as shared -/
def share (Γ : List O) : List O := Γ.map fun o => match asD o with
  | some d => .sh d
  | none => (match o with
    | .rw v => .rw v
    | _ => .un)
def scalD : D → Bool
  | .non | .bl _ | .int _ | .str _ => true
  | _ => false
/-- a target is set: items by slot -/
def setT : Tgt → D → List O → Option (List O)
  | .nm i, d, Γ => if i < Γ.length then some (Γ.set i (.sh d)) else none
  | .tp is, .tup ds, Γ => if is.length = ds.length ∧ is.all (fun i => decide (i < Γ.length)) = true then some ((is.zip ds).foldl (fun Γ p => Γ.set p.1 (.sh p.2)) Γ) else none
  | _, _, _ => none
def tgtSlots : Tgt → List Nat
  | .nm i => [i]
  | .tp is => is
/-- the block's own slots forgotten -/
def wipeO (Γ : List O) : List Nat → List O
  | [] => Γ
  | i :: is => (wipeO Γ is).set i .un
/-- enumerate -/
def enumD : Nat → List D → List D
  | _, [] => []
  | k, d :: r => .tup [.int (k : Nat), d] :: enumD (k + 1) r
def noX : EXC := fun _ _ _ => False

/-- the word of a refusal -/
def ecW : EC → Str
  | .BadToken => "BadToken" | .BadRow => "BadRow" | .Again => "Again" | .BadCall => "BadCall" | .BadPaste => "BadPaste" | .BadIf => "BadIf" | .TooMany => "TooMany"
def ecD (C : EC) (n : Int) : D := .tup [.str (ecW C), .int n]
section
variable (gl : List D) (Φ : Fns)
mutual
def sem : PEx → List O → (O → List O → Prop) → EXC → Prop
  | .c d, Γ, R, _ => R (.sh d) Γ
  | .glb k, Γ, R, _ => ∃ d, gl[k]? = some d ∧ R (.sh d) Γ
  | .var i, Γ, R, _ => (match Γ[i]? with
    | some (.sh d) => R (.sh d) Γ
    | some (.rw v) => R (.rw v) Γ
    | some o => ∃ d, asD o = some d ∧ R (.sh d) (Γ.set i (.sh d))
    | none => False)
  | .mov i, Γ, R, _ => (match Γ[i]? with
    | some .un => False
    | some o => R o (Γ.set i .un)
    | none => False)
  | .bin op a b, Γ, R, E => sem a Γ (fun o Γ1 => ∃ x, asD o = some x ∧ sem b Γ1 (fun o2 Γ2 => ∃ y, asD o2 = some y ∧ semBin op x y fun z => R z Γ2) E) E
  | .cmp op a b, Γ, R, E => sem a Γ (fun o Γ1 => ∃ x, asD o = some x ∧ sem b Γ1 (fun o2 Γ2 => ∃ y, asD o2 = some y ∧ semCmp op x y fun z => R (.sh (.bl z)) Γ2) E) E
  | .and a b, Γ, R, E => sem a Γ (fun o Γ1 => ∃ x, o = .sh (.bl x) ∧ (if x = true then sem b Γ1 R E else R (.sh (.bl false)) Γ1)) E
  | .or a b, Γ, R, E => sem a Γ (fun o Γ1 => ∃ x, o = .sh (.bl x) ∧ (if x = true then R (.sh (.bl true)) Γ1 else sem b Γ1 R E)) E
  | .not a, Γ, R, E => sem a Γ (fun o Γ1 => ∃ x, o = .sh (.bl x) ∧ R (.sh (.bl (!x))) Γ1) E
  | .neg a, Γ, R, E => sem a Γ (fun o Γ1 => ∃ x, o = .sh (.int x) ∧ R (.sh (.int (-x))) Γ1) E
  | .ifx t a b, Γ, R, E => sem t Γ (fun o Γ1 => ∃ x, o = .sh (.bl x) ∧ (if x = true then sem a Γ1 R E else sem b Γ1 R E)) E
  | .tup es, Γ, R, E => semA es Γ (fun ds Γ1 => ds.length ≤ 16777216 ∧ R (.sh (.tup ds)) Γ1) E
  | .lst es, Γ, R, E => semA es Γ (fun ds Γ1 => ds.length ≤ 16777216 ∧ R (.lst (ds.map .sh)) Γ1) E
  | .lst1 e, Γ, R, E => sem e Γ (fun o Γ1 => R (.lst [o]) Γ1) E
  | .sub a b, Γ, R, E => sem a Γ (fun o Γ1 => ∃ x, asD o = some x ∧ sem b Γ1 (fun o2 Γ2 => ∃ y, asD o2 = some y ∧ semSub x y fun z => R z Γ2) E) E
  | .slc a lo hi, Γ, R, E => sem a Γ (fun o Γ1 => ∃ x, asD o = some x ∧ semO lo Γ1 (fun l Γ2 => semO hi Γ2 (fun h Γ3 => semSlc x l h fun z => R z Γ3) E) E) E
  | .cal f es, Γ, R, E => semA es Γ (fun ds Γ1 => ∃ s, Φ f = some s ∧ ds.length = s.np ∧ s.pre ds ∧ (match s.out ds with
    | .ok o => R o Γ1
    | .error (C, n) => E C n Γ1)) E
  | .prm f es, Γ, R, E => semA es Γ (fun ds Γ1 => semPrm f ds fun z => R z Γ1) E
  | .mth m o es, Γ, R, E => sem o Γ (fun o1 Γ1 => ∃ x, asD o1 = some x ∧ mthRc m x = true ∧ semA es Γ1 (fun ds Γ2 => semMth m x ds fun z => R z Γ2) E) E
  | .isi e t, Γ, R, E => sem e Γ (fun o Γ1 => ∃ x b, asD o = some x ∧ isiD x t = some b ∧ R (.sh (.bl b)) Γ1) E
  | .app i e, Γ, R, E => (∃ os, Γ[i]? = some (.lst os)) ∧ sem e Γ (fun o Γ1 => ∃ os, Γ1[i]? = some (.lst os) ∧ os.length < 16777216 ∧ R (.sh .non) (Γ1.set i (.lst (os ++ [o])))) E
  | .appL i j, Γ, R, _ => ∃ os ps d, Γ[i]? = some (.lst (os ++ [.lst ps])) ∧ Γ[j]? = some (.sh d) ∧ ps.length < 16777216 ∧ R (.sh .non) (Γ.set i (.lst (os ++ [.lst (ps ++ [.sh d])])))
  | .ext i e, Γ, R, E => (∃ os, Γ[i]? = some (.lst os)) ∧ sem e Γ (fun o Γ1 => ∃ ds os, asD o = some (.lst ds) ∧ Γ1[i]? = some (.lst os) ∧ os.length + ds.length ≤ 16777216 ∧ R (.sh .non) (Γ1.set i (.lst (os ++ ds.map .sh)))) E
  | .peek e, Γ, R, _ => sem e (share Γ) (fun o Γ1 => Γ1 = share Γ ∧ ∃ d, o = .sh d ∧ scalD d = true ∧ R (.sh d) Γ) noX
  | .lc elt tg it t, Γ, R, E => semI it Γ (fun ds Γ1 => ds.length ≤ 16777216 ∧ ∃ f : D → Option D,
      (∀ d, d ∈ ds → ∃ Γ2, setT tg d (wipeO Γ1 (tgtSlots tg)) = some Γ2 ∧ semTo t Γ2 (fun b => if b = true then sem elt Γ2 (fun o Γ4 => Γ4 = Γ2 ∧ ∃ y, asD o = some y ∧ f d = some y) noX else f d = none)) ∧
      R (.lst ((ds.filterMap f).map .sh)) Γ1) E
  | .fld cn e f, Γ, R, E => sem e Γ (fun o Γ1 => ∃ fs ds d, asD o = some (.ins cn fs ds) ∧ lookF fs ds f = some d ∧ R (.sh d) Γ1) E
  | .fldv cn i f, Γ, R, _ => ∃ p fs os o d, Γ[i]? = some (.ins p cn fs os) ∧ lookF fs os f = some o ∧ (o = .sh d ∨ ∃ v, o = .pin v d) ∧ R (.sh d) Γ
  | .mcl k cn m e es, Γ, R, E => sem e Γ (fun o Γ1 => ∃ fs ds, asD o = some (.ins cn fs ds) ∧ fs.contains m = false ∧ semA es Γ1 (fun as Γ2 => ∃ s, Φ k = some s ∧ as.length + 1 = s.np ∧ s.pre (.ins cn fs ds :: as) ∧ (match s.out (.ins cn fs ds :: as) with
    | .ok o => R o Γ2
    | .error (C, n) => E C n Γ2)) E) E
  | .mcv k cn m i es, Γ, R, E => (∃ p fs os, Γ[i]? = some (.ins p cn fs os) ∧ fs.contains m = false) ∧ semA es Γ (fun as Γ1 => ∃ p fs os s, Γ1[i]? = some (.ins p cn fs os) ∧ Φ.m k = some s ∧ as.length = s.np ∧ s.pre (.ins p cn fs os) as ∧ (match s.out (.ins p cn fs os) as with
    | (.ok r, o) => R r (Γ1.set i o)
    | (.error (C, n), o) => E C n (Γ1.set i o))) E
  | .new k cn es, Γ, R, E => semA es Γ (fun as Γ1 => ∃ s, Φ.m k = some s ∧ as.length = s.np ∧ ∀ p, s.pre (.ins p cn [] []) as ∧ (match s.out (.ins p cn [] []) as with
    | (.ok r, o) => r = .sh .non ∧ R o Γ1
    | (.error _, _) => False)) E
  | .mct k cn m e es, Γ, R, E => sem e Γ (fun o Γ1 => ∃ p fs os, o = .ins p cn fs os ∧ fs.contains m = false ∧ semA es Γ1 (fun as Γ2 => ∃ s, Φ.m k = some s ∧ as.length = s.np ∧ s.pre (.ins p cn fs os) as ∧ (match s.out (.ins p cn fs os) as with
    | (.ok r, _) => R r Γ2
    | (.error (C, n), _) => E C n Γ2)) E) E
  | .mctP k cn m f e es, Γ, R, E => sem e Γ (fun o Γ1 => ∃ p fs os M, o = .ins p cn fs os ∧ lookF fs os f = some (.sh M) ∧ fs.contains m = false ∧ ∀ v, semA es Γ1 (fun as Γ2 => ∃ s, Φ.m k = some s ∧ as.length = s.np ∧ s.pre (.ins p cn fs (pinF fs os f v M)) as ∧ (match s.out (.ins p cn fs (pinF fs os f v M)) as with
    | (.ok r, _) => R r Γ2
    | (.error (C, n), _) => E C n Γ2)) E) E
  | .lenset e, Γ, R, E => sem e Γ (fun o Γ1 => ∃ xs : List Str, asD o = some (.lst (xs.map .str)) ∧ xs.length ≤ 1000 ∧ R (.sh (.int (ddS xs).length)) Γ1) E
  | .sortset e, Γ, R, E => sem e Γ (fun o Γ1 => ∃ xs : List Str, asD o = some (.lst (xs.map .str)) ∧ xs.length ≤ 1000 ∧ R (.lst ((srtS (ddS xs)).map fun k => .sh (.str k))) Γ1) E
  | .dnew, Γ, R, _ => R (.dct [] []) Γ
  | .tup2 a b, Γ, R, E => sem a Γ (fun o Γ1 => sem b Γ1 (fun o2 Γ2 => R (.tup [o, o2]) Γ2) E) E
  | .dgetv i k, Γ, R, E => (∃ ks os, Γ[i]? = some (.dct ks os)) ∧ sem k Γ (fun o Γ1 => ∃ x ks os d, o = .sh (.str x) ∧ Γ1[i]? = some (.dct ks os) ∧ lookF ks os x = some (.sh d) ∧ R (.sh d) Γ1) E
  | .lend j e, Γ, R, E => ∃ o d, Γ[j]? = some o ∧ asD o = some d ∧ sem e (Γ.set j (.sh d)) (fun r Γ1 => Γ1[j]? = some (.sh d) ∧ cleanO r = true ∧ LendOk j Γ Γ1 ∧ R r (Γ1.set j o)) (fun C n Γ1 => Γ1[j]? = some (.sh d) ∧ LendOk j Γ Γ1 ∧ E C n (Γ1.set j o))
  | .pinD i e, Γ, R, E => ∃ (ks : List Str) (ds : List D), Γ[i]? = some (.dct ks (ds.map .sh)) ∧ ∀ vs : List V, vs.length = ds.length → sem e (Γ.set i (.dct ks (pins vs ds))) (fun r Γ1 => Γ1[i]? = some (.dct ks (pins vs ds)) ∧ R r (Γ1.set i (.dct ks (ds.map .sh)))) (fun C n Γ1 => Γ1[i]? = some (.dct ks (pins vs ds)) ∧ E C n (Γ1.set i (.dct ks (ds.map .sh))))
  | .dpopF cn i f j, Γ, R, _ => ∃ x p fs os ks vs, Γ[j]? = some (.sh (.str x)) ∧ Γ[i]? = some (.ins p cn fs os) ∧ lookF fs os f = some (.dct ks vs) ∧ R .un (Γ.set i (.ins p cn (putO fs os f (.dct (dropO ks vs x).1 (dropO ks vs x).2)).1 (putO fs os f (.dct (dropO ks vs x).1 (dropO ks vs x).2)).2))
  | .pop i, Γ, R, _ => ∃ ds d, Γ[i]? = some (.lst ((ds ++ [d]).map .sh)) ∧ R (.sh d) (Γ.set i (.lst (ds.map .sh)))
  | .dget2 d k e, Γ, R, E => sem d Γ (fun o Γ1 => ∃ ks ds, asD o = some (.dct ks ds) ∧ sem k Γ1 (fun o2 Γ2 => ∃ x, o2 = .sh (.str x) ∧ sem e Γ2 (fun o3 Γ3 => ∃ d3, asD o3 = some d3 ∧ R (.sh ((lookF ks ds x).getD d3)) Γ3) E) E) E
  | .dpop i k, Γ, R, E => (∃ ks vs, Γ[i]? = some (.dct ks vs)) ∧ sem k Γ (fun o Γ1 => ∃ x ks vs, o = .sh (.str x) ∧ Γ1[i]? = some (.dct ks vs) ∧ x ∈ ks ∧ R .un (Γ1.set i (.dct (dropO ks vs x).1 (dropO ks vs x).2))) E
  | .orL a b, Γ, R, E => sem a Γ (fun o Γ1 => ∃ d, asD o = some d ∧ (match d with
    | .lst [] => sem b Γ1 R E
    | .lst (_ :: _) => R (.sh d) Γ1
    | .non => sem b Γ1 R E
    | _ => False)) E
  | .rpl e y z, Γ, R, E => sem e Γ (fun o Γ1 => ∃ x, o = .sh (.str x) ∧ x.length + (x.length + 1) * z.length ≤ 16777216 ∧ R (.sh (.str (Txt.replace x y z))) Γ1) E
  | .told i q e, Γ, R, E => Γ[i]? = some (.tab Φ.tb q) ∧ sem e Γ R (fun C n Γ1 => R (.sh (ecD C n)) Γ1)
  | .cmp2 op op2 a b d, Γ, R, E => sem a Γ (fun o Γ1 => ∃ x, asD o = some x ∧ sem b Γ1 (fun o2 Γ2 => ∃ y, asD o2 = some y ∧ semCmp op x y fun z => if z = true then sem d Γ2 (fun o3 Γ3 => ∃ w, asD o3 = some w ∧ semCmp op2 y w fun z2 => R (.sh (.bl z2)) Γ3) E else R (.sh (.bl false)) Γ2) E) E
  | .lapp cn i f e, Γ, R, E => ∃ p fs os d, Γ[i]? = some (.ins p cn fs os) ∧ asD (.ins p cn fs os) = some d ∧ (∃ ls, lookF fs os f = some (.lst ls)) ∧ sem e (Γ.set i (.sh d))
      (fun r Γ1 => Γ1[i]? = some (.sh d) ∧ cleanO r = true ∧ LendOk i Γ Γ1 ∧ ∃ ls, lookF fs os f = some (.lst ls) ∧ ls.length < 16777216 ∧ R (.sh .non) (Γ1.set i (.ins p cn (putO fs os f (.lst (ls ++ [r]))).1 (putO fs os f (.lst (ls ++ [r]))).2)))
      (fun C n Γ1 => Γ1[i]? = some (.sh d) ∧ LendOk i Γ Γ1 ∧ E C n (Γ1.set i (.ins p cn fs os)))
  | .lext cn i f e, Γ, R, E => ∃ p fs os d, Γ[i]? = some (.ins p cn fs os) ∧ asD (.ins p cn fs os) = some d ∧ (∃ ls, lookF fs os f = some (.lst ls)) ∧ sem e (Γ.set i (.sh d))
      (fun r Γ1 => ∃ dr, asD r = some dr ∧ ∃ ds ls, dr = .lst ds ∧ Γ1[i]? = some (.sh d) ∧ cleanDs ds = true ∧ LendOk i Γ Γ1 ∧ lookF fs os f = some (.lst ls) ∧ ls.length + ds.length ≤ 16777216 ∧ R (.sh .non) (Γ1.set i (.ins p cn (putO fs os f (.lst (ls ++ ds.map .sh))).1 (putO fs os f (.lst (ls ++ ds.map .sh))).2)))
      (fun C n Γ1 => Γ1[i]? = some (.sh d) ∧ LendOk i Γ Γ1 ∧ E C n (Γ1.set i (.ins p cn fs os)))
  | .lpop cn i f, Γ, R, _ => ∃ p fs os ls d, Γ[i]? = some (.ins p cn fs os) ∧ lookF fs os f = some (.lst (ls ++ [.sh d])) ∧ R (.sh d) (Γ.set i (.ins p cn (putO fs os f (.lst ls)).1 (putO fs os f (.lst ls)).2))
  | .frz e, Γ, R, E => sem e Γ (fun o Γ1 => ∃ (ks : List Str) (ds : List D), o = .dct ks (ds.map .sh) ∧ R (.sh (.fct ks ds)) Γ1) E
  | .appT e, Γ, R, E => sem e Γ (fun o Γ1 => ∃ os, o = .lst os ∧ os.length < 16777216 ∧ R (.sh .non) Γ1) E
  | _, _, _, _ => False
/-- arguments, as data -/
def semA : List PEx → List O → (List D → List O → Prop) → EXC → Prop
  | [], Γ, R, _ => R [] Γ
  | e :: es, Γ, R, E => sem e Γ (fun o Γ1 => ∃ d, asD o = some d ∧ semA es Γ1 (fun ds Γ2 => R (d :: ds) Γ2) E) E
/-- a slice's part -/
def semO : Option PEx → List O → (Option Int → List O → Prop) → EXC → Prop
  | none, Γ, R, _ => R none Γ
  | some e, Γ, R, E => sem e Γ (fun o Γ1 => ∃ i, o = .sh (.int i) ∧ R (some i) Γ1) E
/-- a comprehension's test: nothing is changed by it -/
def semTo : Option PEx → List O → (Bool → Prop) → Prop
  | none, _, R => R true
  | some t, Γ, R => sem t Γ (fun o Γ1 => Γ1 = Γ ∧ ∃ b, o = .sh (.bl b) ∧ R b) noX
/-- what is walked: its items -/
def semI : PEx → List O → (List D → List O → Prop) → EXC → Prop
  | .rng1 e, Γ, R, E => sem e Γ (fun o Γ1 => ∃ n : Int, o = .sh (.int n) ∧ (-(2 ^ 62) ≤ n ∧ n < 2 ^ 62) ∧ R ((List.range n.toNat).map fun i => .int (i : Nat)) Γ1) E
  | .rng2 a b, Γ, R, E => sem a Γ (fun o Γ1 => ∃ m : Int, o = .sh (.int m) ∧ sem b Γ1 (fun o2 Γ2 => ∃ n : Int, o2 = .sh (.int n) ∧ (-(2 ^ 62) ≤ m ∧ m < 2 ^ 62 ∧ -(2 ^ 62) ≤ n ∧ n < 2 ^ 62) ∧ R ((List.range (n - m).toNat).map fun i => .int (m + (i : Nat))) Γ2) E) E
  | .itL e, Γ, R, E => sem e Γ (fun o Γ1 => ∃ l, asD o = some (.lst l) ∧ R l Γ1) E
  | .itT e, Γ, R, E => sem e Γ (fun o Γ1 => ∃ l, asD o = some (.tup l) ∧ R l Γ1) E
  | .itS e, Γ, R, E => sem e Γ (fun o Γ1 => ∃ s : Str, o = .sh (.str s) ∧ R (s.cps.toList.map fun c => .str ⟨#[c]⟩) Γ1) E
  | .itD i, Γ, R, _ => ∃ (ks : List Str) (ds : List D), (Γ[i]? = some (.dct ks (ds.map .sh)) ∧ R (ks.map .str) (Γ.set i (.sh (.dct ks ds)))) ∨ (Γ[i]? = some (.sh (.fct ks ds)) ∧ R (ks.map .str) Γ)
  | .enm e, Γ, R, E => sem e Γ (fun o Γ1 => ∃ l, asD o = some (.lst l) ∧ R (enumD 0 l) Γ1) E
  | .zip a b, Γ, R, E => sem a Γ (fun o Γ1 => ∃ l, asD o = some (.lst l) ∧ sem b Γ1 (fun o2 Γ2 => ∃ m, asD o2 = some (.lst m) ∧ R ((l.zip m).map fun p => .tup [p.1, p.2]) Γ2) E) E
  | _, _, _, _ => False
end
/-- a test -/
def semT (t : PEx) (Γ : List O) (R : Bool → List O → Prop) (E : EXC) : Prop := sem gl Φ t Γ (fun o Γ1 => ∃ b, o = .sh (.bl b) ∧ R b Γ1) E

/-- what is wanted behind a statement -/
structure Pst where
  nx : List O → Prop
  rt : O → List O → Prop
  bk : List O → Prop := fun _ => False
  ct : List O → Prop := fun _ => False
  ex : EXC
mutual
def semS : PSt → List O → Pst → Prop
  | .asg i p e, Γ, P => sem gl Φ e Γ (fun o Γ1 => i < Γ1.length ∧ if p = true then ∃ d, asD o = some d ∧ P.nx (Γ1.set i (.sh d)) else P.nx (Γ1.set i o)) P.ex
  | .asgT is e, Γ, P => sem gl Φ e Γ (fun o Γ1 => ∃ d Γ2, asD o = some d ∧ setT (.tp is) d Γ1 = some Γ2 ∧ P.nx Γ2) P.ex
  | .exp e, Γ, P => sem gl Φ e Γ (fun _ Γ1 => P.nx Γ1) P.ex
  | .ret e, Γ, P => sem gl Φ e Γ P.rt P.ex
  | .ite t a b, Γ, P => semT gl Φ t Γ (fun x Γ1 => if x = true then semB a Γ1 P else semB b Γ1 P) P.ex
  | .whl t b, Γ, P => ∃ W : Nat → List O → Prop, (∃ m, W m Γ) ∧ ∀ m Γ1, W m Γ1 → semT gl Φ t Γ1 (fun x Γ2 => if x = true then
      semB b Γ2 { P with nx := fun Γ3 => ∃ m', m' < m ∧ W m' Γ3, ct := fun Γ3 => ∃ m', m' < m ∧ W m' Γ3, bk := P.nx } else P.nx Γ2) P.ex
  | .for_ tg it b, Γ, P => semI gl Φ it Γ (fun ds Γ1 => ∃ W : Nat → List O → Prop, W 0 Γ1 ∧ (∀ i d Γ2, ds[i]? = some d → W i Γ2 → ∃ Γ3, setT tg d Γ2 = some Γ3 ∧
      semB b Γ3 { P with nx := W (i + 1), ct := W (i + 1), bk := P.nx }) ∧ ∀ Γ2, W ds.length Γ2 → P.nx Γ2) P.ex
  | .rse C e, Γ, P => sem gl Φ e Γ (fun o Γ1 => ∃ n, o = .sh (.int n) ∧ P.ex C n Γ1) P.ex
  | .tryR b i, Γ, P => semB b Γ { P with ex := fun C n Γ1 => P.rt (.sh (ecD C n)) Γ1 }
  | .tryA b i j, Γ, P => semB b Γ { P with ex := fun C n Γ1 => j < Γ1.length ∧ P.nx ((Γ1.set j (.sh (ecD C n))).set i .un) }
  | .pas, Γ, P => P.nx Γ
  | .brk, Γ, P => P.bk Γ
  | .cnt, Γ, P => P.ct Γ
  | .seti i k e, Γ, P => sem gl Φ e Γ (fun o Γ1 => ∃ os j, Γ1[i]? = some (.lst os) ∧ ixN os.length k = some j ∧ P.nx (Γ1.set i (.lst (os.set j o)))) P.ex
  | .setf cn i f e, Γ, P => sem gl Φ e Γ (fun o Γ1 => ∃ p fs os, Γ1[i]? = some (.ins p cn fs os) ∧ fs.length < 1000 ∧ P.nx (Γ1.set i (.ins p cn (putO fs os f o).1 (putO fs os f o).2))) P.ex
  | .dput i k e, Γ, P => sem gl Φ e Γ (fun o Γ1 => ∃ d, asD o = some d ∧ (∃ ks vs, Γ1[i]? = some (.dct ks vs)) ∧ sem gl Φ k Γ1 (fun o2 Γ2 => ∃ x ks vs, o2 = .sh (.str x) ∧ Γ2[i]? = some (.dct ks vs) ∧ ks.length < 1000000 ∧ P.nx (Γ2.set i (.dct (putD ks vs x (.sh d)).1 (putD ks vs x (.sh d)).2))) P.ex) P.ex
  | .dputF cn i f j e, Γ, P => sem gl Φ e Γ (fun o Γ1 => ∃ x p fs os ks vs, Γ1[j]? = some (.sh (.str x)) ∧ Γ1[i]? = some (.ins p cn fs os) ∧ lookF fs os f = some (.dct ks vs) ∧ ks.length < 1000000 ∧ (x ∈ ks → ∃ d, o = .sh d) ∧
      P.nx (Γ1.set i (.ins p cn (putO fs os f (.dct (putD ks vs x o).1 (putD ks vs x o).2)).1 (putO fs os f (.dct (putD ks vs x o).1 (putD ks vs x o).2)).2))) P.ex
  | .tryN b, Γ, P => semB b Γ { P with ex := fun _ _ _ => False }
  | .par2 i j a b, Γ, P => sem gl Φ a Γ (fun o Γ1 => sem gl Φ b Γ1 (fun o2 Γ2 => i < Γ2.length ∧ j < Γ2.length ∧ P.nx ((Γ2.set i o).set j o2)) P.ex) P.ex
  | .par3 i j l a b d, Γ, P => sem gl Φ a Γ (fun o Γ1 => sem gl Φ b Γ1 (fun o2 Γ2 => sem gl Φ d Γ2 (fun o3 Γ3 => i < Γ3.length ∧ j < Γ3.length ∧ l < Γ3.length ∧ P.nx (((Γ3.set i o).set j o2).set l o3)) P.ex) P.ex) P.ex
  | .tryU b C i k, Γ, P => semB b Γ { P with ex := fun C0 n Γ1 => if C0 = C then (∃ ds n', Γ1[i]? = some (.sh (.tup ds)) ∧ atI ds k = some (.int n') ∧ P.ex C n' Γ1) else P.ex C0 n Γ1 }
  | .jnk, _, _ => False
def semB : List PSt → List O → Pst → Prop
  | [], Γ, P => P.nx Γ
  | s :: r, Γ, P => semS s Γ { P with nx := fun Γ1 => semB r Γ1 P }
end
end
end PW

end
section
set_option Elab.async false
set_option linter.all false
set_option maxRecDepth 100000
set_option maxHeartbeats 4000000
/-! PXC: weakest readings, what follows an expression, the operations. -/
namespace PW
open PySem PySem.Spec PyProof.Rows L2

/-! ### weakest readings -/
def wE (X : Cx) (e : Expr) : TE := fun σ H Q => ∀ pins s, Inv X pins σ H s → wpAny (model X.prog X.w) X.A (eval e X.env) (EP X pins σ Q) X.xe s
def wT (X : Cx) (e : Expr) : TT := fun σ H Q => ∀ pins s, Inv X pins σ H s → wpAny (model X.prog X.w) X.A (isTrue e X.env (eval e X.env)) (TP X pins σ Q) X.xe s
def wA (X : Cx) (es : List Expr) : TA := fun σ H Q => ∀ pos pins s, Inv X pins σ H s → wpAny (model X.prog X.w) X.A (spliced (backTo pos (starEach es X.env))) (AP X pins σ Q) X.xe s
def wO (X : Cx) (e : Option Expr) : TO := fun σ H Q => ∀ pins s, Inv X pins σ H s → wpAny (model X.prog X.w) X.A (evalPart e X.env) (fun u s' => ∃ o H', Inv X pins σ H' s' ∧ IsPart u o ∧ Q o H') X.xe s
def wOp (X : Cx) (f : Value → Value → Sem Value) : R2 := fun x y H Q => ∀ pins s σ v u, Inv X pins σ H s → RelV x v → RelV y u → wpAny (model X.prog X.w) X.A (f v u) (EP X pins σ Q) X.xe s
def wCall (X : Cx) (f : Value) : List V → Hp → VK → Prop := fun xs H Q => ∀ pins s σ us, Inv X pins σ H s → Vals xs us → wpAny (model X.prog X.w) X.A (call f us) (EP X pins σ Q) X.xe s
def wMt (X : Cx) (id : String) : V → List V → Hp → VK → Prop := fun x xs H Q => ∀ pins s σ v us, Inv X pins σ H s → RelV x v → Vals xs us → wpAny (model X.prog X.w) X.A (call (.builtin id) (v :: us)) (EP X pins σ Q) X.xe s
section
variable {X : Cx} {e : Expr} {es : List Expr} {σ : L2.St} {H : Hp} {Q : VK}
theorem pe_w : PE X e (wE X e) := ⟨fun pins s _ _ _ I h => h pins s I⟩
theorem pt_w : PT X e (wT X e) := ⟨fun pins s _ _ _ I h => h pins s I⟩
theorem pa_w : PA X es (wA X es) := ⟨fun pos pins s _ _ _ I h => h pos pins s I⟩
theorem po_w {o : Option Expr} : PO X o (wO X o) := ⟨fun pins s _ _ _ I h => h pins s I⟩
theorem op_w {f : Value → Value → Sem Value} : OpR X f (wOp X f) := fun pins s σ _ _ _ v u _ I r1 r2 h => h pins s σ v u I r1 r2
theorem call_w {f : Value} : CallR X f (wCall X f) := fun pins s σ _ _ us _ I r h => h pins s σ us I r
theorem mt_w {id : String} : MtR X id (wMt X id) := fun pins s σ _ _ _ v us _ I r1 r2 h => h pins s σ v us I r1 r2
theorem wE_of {t : TE} (h : PE X e t) (ht : t σ H Q) : wE X e σ H Q := fun pins s I => h.run pins s σ H Q I ht
theorem wT_of {t : TT} {Q : Bool → Hp → Prop} (h : PT X e t) (ht : t σ H Q) : wT X e σ H Q := fun pins s I => h.run pins s σ H Q I ht
theorem wA_of {t : TA} {Q : List V → Hp → Prop} (h : PA X es t) (ht : t σ H Q) : wA X es σ H Q := fun pos pins s I => h.run pos pins s σ H Q I ht
theorem wO_of {o : Option Expr} {t : TO} {Q : Option Int → Hp → Prop} (h : PO X o t) (ht : t σ H Q) : wO X o σ H Q := fun pins s I => h.run pins s σ H Q I ht
theorem wOp_of {f : Value → Value → Sem Value} {r : R2} {x y : V} (h : OpR X f r) (ht : r x y H Q) : wOp X f x y H Q := fun pins s σ v u I r1 r2 => h pins s σ H x y v u Q I r1 r2 ht
theorem wCall_of {f : Value} {r : List V → Hp → VK → Prop} {xs : List V} (h : CallR X f r) (ht : r xs H Q) : wCall X f xs H Q := fun pins s σ us I r1 => h pins s σ H xs us Q I r1 ht
theorem wMt_of {id : String} {r : V → List V → Hp → VK → Prop} {x : V} {xs : List V} (h : MtR X id r) (ht : r x xs H Q) : wMt X id x xs H Q := fun pins s σ v us I r1 r2 => h pins s σ H x xs v us Q I r1 r2 ht
end

/-! ### what follows -/
def Kon (K : PySem.W.Frag) (σ : L2.St) (G H : Hp) (F : Nat → List Addr) (R : O → List O → Prop) (Q : VK) : Prop :=
  ∀ v o S Γ' G' H' F', Sta K σ Γ' G' H' F' → Stp G H F G' H' F' → ORep K G' H' v o S → (∀ p, p ∈ S → ∀ i, p ∉ F' i) → (∀ p, p ∈ S → (∃ j, p ∈ F j) ∨ H p = none) → R o Γ' → Q v H'
def Kox (K : PySem.W.Frag) (ca : EC → Addr) (σ : L2.St) (G H : Hp) (F : Nat → List Addr) (E : EXC) (W : WX) : Prop :=
  ∀ C n Γ' G' H' F' dd, Sta K σ Γ' G' H' F' → Stp G H F G' H' F' → H' dd = some (.xd [(("line" : Str), .int n)]) → E C n Γ' → W (.ref (ca C)) (some dd) σ H'
def Kop (K : PySem.W.Frag) (G H : Hp) (R : O → Prop) (Q : VK) : Prop :=
  ∀ v o S G' H', Same G G' → Same G' H' → Same H H' → (∀ p, H p ≠ none → G p = none → G' p = none) → ORep K G' H' v o S → (∀ p, p ∈ S → H p = none) → R o → Q v H'
section
variable {K : PySem.W.Frag} {ca : EC → Addr} {σ : L2.St} {Γ : List O} {G H G1 H1 : Hp} {F F1 : Nat → List Addr} {R : O → List O → Prop} {Q : VK} {E : EXC} {W : WX}
theorem Stp.back (a : Stp G H F G1 H1 F1) {p : Addr} (h : (∃ j, p ∈ F1 j) ∨ H1 p = none) : (∃ j, p ∈ F j) ∨ H p = none := by
  rcases h with ⟨j, z⟩ | z
  · exact a.ff j p z
  · by_cases q : ∃ j, p ∈ F j
    · exact .inl q
    · right
      cases e : H p with
      | none => rfl
      | some o =>
        rw [a.hh p o (fun i hi => q ⟨i, hi⟩) e] at z
        cases z
theorem Kon.step (k : Kon K σ G H F R Q) (a : Stp G H F G1 H1 F1) : Kon K σ G1 H1 F1 R Q := fun v o S Γ' G' H' F' st sp r d1 d2 h => k v o S Γ' G' H' F' st (a.trans sp) r d1 (fun p hp => a.back (d2 p hp)) h
theorem Kox.step (k : Kox K ca σ G H F E W) (a : Stp G H F G1 H1 F1) : Kox K ca σ G1 H1 F1 E W := fun C n Γ' G' H' F' dd st sp x h => k C n Γ' G' H' F' dd st (a.trans sp) x h
theorem Kox.mono {E' : EXC} (k : Kox K ca σ G H F E W) (h : ∀ C n Γ, E' C n Γ → E C n Γ) : Kox K ca σ G H F E' W := fun C n Γ' G' H' F' dd st sp x q => k C n Γ' G' H' F' dd st sp x (h C n Γ' q)
theorem kox_no : Kox K ca σ G H F noX W := fun _ _ _ _ _ _ _ _ _ _ h => h.elim
/-- as data: what is owned is published -/
theorem kon_D {R' : D → List O → Prop} (k : ∀ v d Γ' G' H' F', Sta K σ Γ' G' H' F' → Stp G H F G' H' F' → Rep K G' v d → R' d Γ' → Q v H') :
    Kon K σ G H F (fun o Γ1 => ∃ d, asD o = some d ∧ R' d Γ1) Q := fun v o S Γ' G' H' F' st sp r d1 d2 ⟨d, e, h⟩ => by
  have hg : ∀ p, p ∈ S → G' p = none := fun p hp => (r.foot p hp).1
  refine k v d Γ' (pubG G' H' S) H' F' (st.pub d1 hg) ⟨sp.gg.trans (pubG_same hg), sp.hh, fun p h1 h2 h3 => ?_, sp.ff⟩ (r.pub (pubG_same hg) e fun p hp => pubG_in hp) h
  rw [pubG_out fun z => ?_]
  · exact sp.gn p h1 h2 h3
  · rcases d2 p z with ⟨j, q⟩ | q
    · exact h3 j q
    · exact h1 q
/-- a value that is shared -/
theorem Kon.val (k : Kon K σ G H F R Q) (st : Sta K σ Γ G H F) {v : V} {d : D} (r : Rep K G v d) (h : R (.sh d) Γ) : Q v H :=
  k v (.sh d) [] Γ G H F st Stp.refl (.sh r) (fun _ z => nomatch z) (fun _ z => nomatch z) h
theorem kop_of (st : Sta K σ Γ G H F) (k : Kon K σ G H F R Q) : Kop K G H (fun o => R o Γ) Q := fun v o S G' H' e1 e2 e3 e4 r hs h => by
  obtain ⟨st', sp⟩ := st.growG e1 e2 e3 e4
  exact k v o S Γ G' H' F st' sp r (fun p hp i hi => (st.env.own i p hi).2 (hs p hp)) (fun p hp => .inr (hs p hp)) h
end
section
variable {K : PySem.W.Frag} {G H : Hp} {R : O → Prop} {Q : VK}
theorem Kop.val (k : Kop K G H R Q) (gh : Same G H) {v : V} {d : D} (r : Rep K G v d) (h : R (.sh d)) : Q v H := k v (.sh d) [] G H (Same.refl G) gh (Same.refl H) (fun _ _ e => e) (.sh r) (fun _ z => nomatch z) h
theorem same_upd {p : Addr} {o : HO} (h : H p = none) : Same H (upd H p o) := fun a u e => by rw [upd_ne (ne_of_none e h)]; exact e
theorem same_upd2 {p : Addr} {o : HO} (gh : Same G H) : Same (upd G p o) (upd H p o) := fun a u e => by
  by_cases q : a = p
  · subst q; rw [upd_same] at e ⊢; exact e
  · rw [upd_ne q] at e ⊢; exact gh a u e
theorem same_gu {p : Addr} {o : HO} (gh : Same G H) (h : H p = none) : Same G (upd H p o) := gh.trans (same_upd h)
theorem Kop.lst (k : Kop K G H R Q) (gh : Same G H) {p : Addr} (hp : H p = none) {vs : List V} {ds : List D} (r : RepAll K G vs ds) (h : R (.lst (ds.map .sh))) : Q (.ref p) (upd H p (.lst vs)) :=
  k (.ref p) (.lst (ds.map .sh)) [p] G (upd H p (.lst vs)) (Same.refl G) (same_gu gh hp) (same_upd hp) (fun _ _ e => e) (.lst (gh.free hp) upd_same (ORepAll.of_sh r) (fun z => nomatch z)) (fun q hq => by
    rcases List.mem_cons.mp hq with rfl | z
    · exact hp
    · exact nomatch z) h
theorem Kop.dct (k : Kop K G H R Q) (gh : Same G H) {p : Addr} (hp : H p = none) {kvs : List (Key × V)} {ks : List Str} {ds : List D} (e : kvs.map (·.1) = ks.map Sum.inr) (r : RepAll K G (kvs.map (·.2)) ds) (h : R (.sh (.dct ks ds))) : Q (.ref p) (upd H p (.dK kvs)) :=
  k (.ref p) (.sh (.dct ks ds)) [] (upd G p (.dK kvs)) (upd H p (.dK kvs)) (same_upd (gh.free hp)) (same_upd2 gh) (same_upd hp) (fun q h1 h2 => by
    by_cases z : q = p
    · subst z; exact absurd hp h1
    · rw [upd_ne z]; exact h2) (.sh (.dct (.inl upd_same) e (r.mono (same_upd (gh.free hp))))) (fun _ z => nomatch z) h
theorem Kop.tup (k : Kop K G H R Q) (gh : Same G H) {p : Addr} (hp : H p = none) {vs : List V} {ds : List D} (r : RepAll K G vs ds) (h : R (.sh (.tup ds))) : Q (.ref p) (upd H p (.tup vs)) :=
  k (.ref p) (.sh (.tup ds)) [] (upd G p (.tup vs)) (upd H p (.tup vs)) (same_upd (gh.free hp)) (same_upd2 gh) (same_upd hp) (fun q h1 h2 => by
    by_cases z : q = p
    · subst z; exact absurd hp h1
    · rw [upd_ne z]; exact h2) (.sh (.tup (SqT.of upd_same) (r.mono (same_upd (gh.free hp))))) (fun _ z => nomatch z) h
end

/-! ### data and the library's -/
theorem junk_plain : ∀ n, (junkP n).plain = true
  | 0 => rfl
  | n + 1 => by rw [junkP, PyData.plain, PyData.plainAll, junk_plain n] <;> rfl
theorem junk_depth : ∀ n, n ≤ (junkP n).depth
  | 0 => Nat.zero_le _
  | n + 1 => by
    have := junk_depth n
    simp only [junkP, PyData.depth, PyData.depthAll]
    omega
mutual
theorem toPy_plain : ∀ d : D, (toPy d).plain = true
  | .non => rfl
  | .bl _ => rfl
  | .int _ => rfl
  | .str _ => rfl
  | .tup l => by rw [toPy, PyData.plain]; exact toPys_plain l
  | .lst l => by rw [toPy, PyData.plain]; exact toPys_plain l
  | .scr l => by
    rw [toPy, PyData.plain]
    induction l with
    | nil => rfl
    | cons a r ih => rw [List.map_cons, PyData.plainAll, ih]; rfl
  | .dct _ _ => by rw [toPy]; exact junk_plain 60
  | .ins _ _ _ => by rw [toPy]; exact junk_plain 60
  | .fct _ _ => by rw [toPy]; exact junk_plain 60
theorem toPys_plain : ∀ l : List D, PyData.plainAll (toPys l) = true
  | [] => rfl
  | d :: r => by rw [toPys, PyData.plainAll, toPy_plain d, toPys_plain r]; rfl
end
section
variable {K : PySem.W.Frag} {G H : Hp}
theorem dpAll_ints : ∀ ns : List Int, DpAll K H (ns.map V.int) (ns.map PyData.int)
  | [] => .nil
  | n :: r => .cons (.int n) (dpAll_ints r)
mutual
theorem Rep.dp (gh : Same G H) : ∀ {v : V} {d : D}, (toPy d).depth ≤ 55 → Rep K G v d → Dp K H v (toPy d)
  | _, _, _, .non => .non
  | _, _, _, .bl b => .bl b
  | _, _, _, .int i => .int i
  | _, _, _, .str x => .str x
  | _, _, z, .tup h r => by
    rw [toPy] at z ⊢
    exact .tup (same_t gh h) (RepAll.dp gh (by simp only [PyData.depth] at z; omega) r)
  | _, _, z, .lst h r => by
    rw [toPy] at z ⊢
    exact .lst (SqL.of (gh _ _ h)) (RepAll.dp gh (by simp only [PyData.depth] at z; omega) r)
  | _, _, _, .scr h => by rw [toPy]; exact .lst (same_l gh h) (dpAll_ints _)
  | _, _, z, .dct _ _ _ => by
    rw [toPy] at z
    have := junk_depth 60
    omega
  | _, _, z, .ins _ _ _ => by
    rw [toPy] at z
    have := junk_depth 60
    omega
  | _, _, z, .fct _ _ _ => by
    rw [toPy] at z
    have := junk_depth 60
    omega
theorem RepAll.dp (gh : Same G H) : ∀ {vs : List V} {ds : List D}, PyData.depthAll (toPys ds) ≤ 55 → RepAll K G vs ds → DpAll K H vs (toPys ds)
  | _, _, _, .nil => .nil
  | _, _, z, .cons h r => by
    rw [toPys] at z ⊢
    simp only [PyData.depthAll] at z
    exact .cons (Rep.dp gh (by omega) h) (RepAll.dp gh (by omega) r)
end
end
theorem toPys_any (f : PyData → Bool) : ∀ l : List D, (toPys l).any f = l.any fun y => f (toPy y)
  | [] => rfl
  | d :: r => by rw [toPys, List.any_cons, List.any_cons, toPys_any f r]

/-! ### operations on values -/
section
variable {X : Cx} {G H : Hp} {vx vy : V} {x y : D} {Q : VK}
theorem eq_w (hu : X.A.units + 64 < cLine) (gh : Same G H) (rx : Rep X.K G vx x) (ry : Rep X.K G vy y) (hd : dep x ≤ 50 ∧ dep y ≤ 50) (h : Q (.bl (eqD x y)) H) : wOp X (compareOp .Eq) vx vy H Q := by
  intro pins s σ v u I r1 r2
  unfold dep at hd
  obtain ⟨as, q1⟩ := Dp.reads I _ _ _ (rx.dp gh (by omega)) r1
  obtain ⟨bs, q2⟩ := Dp.reads I _ _ _ (ry.dp gh (by omega)) r2
  refine SeqAt.eq_plain q1 q2 (toPy_plain x) (toPy_plain y) ?_ ⟨.bl (eqD x y), H, I, rfl, h⟩
  omega
theorem ne_w (hu : X.A.units + 64 < cLine) (gh : Same G H) (rx : Rep X.K G vx x) (ry : Rep X.K G vy y) (hd : dep x ≤ 50 ∧ dep y ≤ 50) (h : Q (.bl (!eqD x y)) H) : wOp X (compareOp .NotEq) vx vy H Q := by
  intro pins s σ v u I r1 r2
  unfold dep at hd
  obtain ⟨as, q1⟩ := Dp.reads I _ _ _ (rx.dp gh (by omega)) r1
  obtain ⟨bs, q2⟩ := Dp.reads I _ _ _ (ry.dp gh (by omega)) r2
  refine SeqAt.ne_plain q1 q2 (toPy_plain x) (toPy_plain y) ?_ ⟨.bl (!eqD x y), H, I, rfl, h⟩
  omega
theorem inL_w (hu : X.A.units + 64 < cLine) (gh : Same G H) {l : List D} (rx : Rep X.K G vx x) (ry : Rep X.K G vy (.lst l)) (hd : dep x ≤ 50 ∧ dep (.lst l) ≤ 50) (h : Q (.bl (l.any fun y => eqD y x)) H) : wOp X (compareOp .In) vx vy H Q := by
  intro pins s σ v u I r1 r2
  unfold dep at hd
  obtain ⟨as, q1⟩ := Dp.reads I _ _ _ (rx.dp gh (by omega)) r1
  obtain ⟨bs, q2⟩ := Dp.reads I _ _ _ (ry.dp gh (by omega)) r2
  rw [toPy] at q2
  refine SeqAt.in_list_data q2 q1 (toPys_plain l) (toPy_plain x) ?_ ⟨.bl (l.any fun y => eqD y x), H, I, by rw [toPys_any] <;> rfl, h⟩
  omega
theorem niL_w (hu : X.A.units + 64 < cLine) (gh : Same G H) {l : List D} (rx : Rep X.K G vx x) (ry : Rep X.K G vy (.lst l)) (hd : dep x ≤ 50 ∧ dep (.lst l) ≤ 50) (h : Q (.bl (!l.any fun y => eqD y x)) H) : wOp X (compareOp .NotIn) vx vy H Q := by
  intro pins s σ v u I r1 r2
  unfold dep at hd
  obtain ⟨as, q1⟩ := Dp.reads I _ _ _ (rx.dp gh (by omega)) r1
  obtain ⟨bs, q2⟩ := Dp.reads I _ _ _ (ry.dp gh (by omega)) r2
  rw [toPy] at q2
  refine SeqAt.notIn_list_data q2 q1 (toPys_plain l) (toPy_plain x) ?_ ⟨.bl (!l.any fun y => eqD y x), H, I, by rw [toPys_any] <;> rfl, h⟩
  omega
theorem inT_w (hu : X.A.units + 64 < cLine) (gh : Same G H) {l : List D} (rx : Rep X.K G vx x) (ry : Rep X.K G vy (.tup l)) (hd : dep x ≤ 50 ∧ dep (.tup l) ≤ 50) (h : Q (.bl (l.any fun y => eqD y x)) H) : wOp X (compareOp .In) vx vy H Q := by
  intro pins s σ v u I r1 r2
  unfold dep at hd
  obtain ⟨as, q1⟩ := Dp.reads I _ _ _ (rx.dp gh (by omega)) r1
  obtain ⟨bs, q2⟩ := Dp.reads I _ _ _ (ry.dp gh (by omega)) r2
  rw [toPy] at q2
  refine SeqAt.in_tuple_data q2 q1 (toPys_plain l) (toPy_plain x) ?_ ⟨.bl (l.any fun y => eqD y x), H, I, by rw [toPys_any] <;> rfl, h⟩
  omega
theorem niT_w (hu : X.A.units + 64 < cLine) (gh : Same G H) {l : List D} (rx : Rep X.K G vx x) (ry : Rep X.K G vy (.tup l)) (hd : dep x ≤ 50 ∧ dep (.tup l) ≤ 50) (h : Q (.bl (!l.any fun y => eqD y x)) H) : wOp X (compareOp .NotIn) vx vy H Q := by
  intro pins s σ v u I r1 r2
  unfold dep at hd
  obtain ⟨as, q1⟩ := Dp.reads I _ _ _ (rx.dp gh (by omega)) r1
  obtain ⟨bs, q2⟩ := Dp.reads I _ _ _ (ry.dp gh (by omega)) r2
  rw [toPy] at q2
  refine SeqAt.notIn_tuple_data q2 q1 (toPys_plain l) (toPy_plain x) ?_ ⟨.bl (!l.any fun y => eqD y x), H, I, by rw [toPys_any] <;> rfl, h⟩
  omega
theorem look_val {kvs : List (Key × V)} : ∀ {ks : List Str}, kvs.map (·.1) = ks.map Sum.inr → ∀ x : Str, (valV kvs (Sum.inr x : Key)).isSome = decide (x ∈ ks) := by
  induction kvs with
  | nil =>
    intro ks h x
    cases ks with
    | nil => rfl
    | cons k ks => cases h
  | cons p r ih =>
    intro ks h x
    cases ks with
    | nil => cases h
    | cons k ks =>
      simp only [List.map_cons, List.cons.injEq] at h
      by_cases e : k = x
      · rw [valV_pos (by rw [h.1, e])]
        simp [e]
      · rw [valV_neg (by rw [h.1]; intro z; cases z; exact e rfl), ih h.2]
        have : ¬ x = k := fun z => e z.symm
        simp [this]
theorem look_get {kvs : List (Key × V)} {ds : List D} : ∀ {ks : List Str}, kvs.map (·.1) = ks.map Sum.inr → RepAll X.K G (kvs.map (·.2)) ds → ∀ {x : Str} {d : D}, lookF ks ds x = some d → ∃ v, valV kvs (Sum.inr x : Key) = some v ∧ Rep X.K G v d := by
  induction kvs generalizing ds with
  | nil =>
    intro ks h r x d e
    cases ks with
    | nil => cases e
    | cons k ks => cases h
  | cons p q ih =>
    intro ks h r x d e
    cases ks with
    | nil => cases h
    | cons k ks =>
      simp only [List.map_cons, List.cons.injEq] at h
      rw [List.map_cons] at r
      cases r with
      | cons r1 r2 =>
        unfold lookF at e
        by_cases z : k = x
        · rw [if_pos z] at e
          cases e
          exact ⟨_, valV_pos (by rw [h.1, z]), r1⟩
        · rw [if_neg z] at e
          obtain ⟨v, a, b⟩ := ih h.2 r2 e
          exact ⟨v, by rw [valV_neg (by rw [h.1]; intro y; cases y; exact z rfl)]; exact a, b⟩
/-- in, not in of a dict -/
theorem inD_w (hu : X.A.units + 64 < cLine) (gh : Same G H) {k : Str} {ks : List Str} {l : List D} (ry : Rep X.K G vy (.dct ks l)) (h : Q (.bl (decide (k ∈ ks))) H) : wOp X (compareOp .In) (.str k) vy H Q := by
  cases ry with
  | dct g e r =>
    rw [← look_val e] at h
    intro pins s σ v u I r1 r2
    obtain rfl : u = Value.ref _ := r2
    exact d_in (by omega) I (.inl ⟨_, Sum.inr k, same_rd gh g, rfl, rfl⟩) r1 fun s3 I3 => ⟨.bl _, H, I3, rfl, h⟩
theorem niD_w (hu : X.A.units + 64 < cLine) (gh : Same G H) {k : Str} {ks : List Str} {l : List D} (ry : Rep X.K G vy (.dct ks l)) (h : Q (.bl (!decide (k ∈ ks))) H) : wOp X (compareOp .NotIn) (.str k) vy H Q := by
  cases ry with
  | dct g e r =>
    rw [← look_val e] at h
    intro pins s σ v u I r1 r2
    obtain rfl : u = Value.ref _ := r2
    exact d_notIn (by omega) I (.inl ⟨_, Sum.inr k, same_rd gh g, rfl, rfl⟩) r1 fun s3 I3 => ⟨.bl _, H, I3, rfl, h⟩
theorem rep_isN (r : Rep X.K G vx x) : decide (vx = V.non) = isNon x := by
  cases r <;> rfl
theorem bl_beq (a b : Bool) : (Value.bool a == Value.bool b) = decide (a = b) := by
  cases a <;> cases b <;> rfl
theorem op_isBl : OpR X (compareOp .Is) (fun x y H Q => ∃ a b, x = .bl a ∧ y = .bl b ∧ Q (.bl (decide (a = b))) H) := by
  intro pins s σ H x y v u Q I rx ry h
  obtain ⟨a, b, rfl, rfl, q⟩ := h
  cases (show v = Value.bool a from rx)
  cases (show u = Value.bool b from ry)
  exact wpAny_is_plain rfl (fin_bl I q (bl_beq a b).symm)
theorem op_isnBl : OpR X (compareOp .IsNot) (fun x y H Q => ∃ a b, x = .bl a ∧ y = .bl b ∧ Q (.bl (!decide (a = b))) H) := by
  intro pins s σ H x y v u Q I rx ry h
  obtain ⟨a, b, rfl, rfl, q⟩ := h
  cases (show v = Value.bool a from rx)
  cases (show u = Value.bool b from ry)
  exact wpAny_isNot_plain rfl (fin_bl I q (congrArg not (bl_beq a b).symm))
theorem cmp_ok (hu : X.A.units + 64 < cLine) {op : CmpOp} {R : Bool → Prop} (gh : Same G H) (rx : Rep X.K G vx x) (ry : Rep X.K G vy y) (h : semCmp op x y R) (k : ∀ b, R b → Q (.bl b) H) : wOp X (compareOp op) vx vy H Q := by
  unfold semCmp at h
  split at h
  · exact eq_w hu gh rx ry h.1 (k _ h.2)
  · exact ne_w hu gh rx ry h.1 (k _ h.2)
  · cases rx; cases ry; exact wOp_of op_lt ⟨_, _, rfl, rfl, k _ h⟩
  · cases rx; cases ry; exact wOp_of op_le ⟨_, _, rfl, rfl, k _ h⟩
  · cases rx; cases ry; exact wOp_of op_le_str ⟨_, _, rfl, rfl, k _ h⟩
  · cases rx; cases ry; exact wOp_of op_gt ⟨_, _, rfl, rfl, k _ h⟩
  · cases rx; cases ry; exact wOp_of op_ge ⟨_, _, rfl, rfl, k _ h⟩
  · cases ry; refine wOp_of op_isN ⟨rfl, ?_⟩; rw [rep_isN rx]; exact k _ h
  · cases ry; refine wOp_of op_notN ⟨rfl, ?_⟩; rw [rep_isN rx]; exact k _ h
  · cases rx; cases ry; exact wOp_of op_isBl ⟨_, _, rfl, rfl, k _ h⟩
  · cases rx; cases ry; exact wOp_of op_isnBl ⟨_, _, rfl, rfl, k _ h⟩
  · cases rx; cases ry; obtain ⟨c, rfl, h⟩ := h; exact wOp_of op_in_sign ⟨c, _, rfl, rfl, k _ h⟩
  · cases rx; cases ry; obtain ⟨c, rfl, h⟩ := h; exact wOp_of op_notIn_sign ⟨c, _, rfl, rfl, k _ h⟩
  · cases rx; exact inD_w hu gh ry (k _ h)
  · cases rx; exact niD_w hu gh ry (k _ h)
  · exact inL_w hu gh rx ry h.1 (k _ h.2)
  · exact niL_w hu gh rx ry h.1 (k _ h.2)
  · exact inT_w hu gh rx ry h.1 (k _ h.2)
  · exact niT_w hu gh rx ry h.1 (k _ h.2)
  · exact h.elim
def bopOp : Bop → Operator
  | .add => .Add | .sub => .Sub | .mul => .Mult | .mod => .Mod | .fdiv => .FloorDiv | .pow => .Pow | .shl => .LShift
theorem sizeLine_le {n : Nat} (h : n ≤ 16777216) : n ≤ sizeLine := by rw [sizeLine_eq]; exact h
theorem sizeLine_lt {n : Nat} (h : n < 16777216) : n < sizeLine := by rw [sizeLine_eq]; exact h
theorem foldl_app (x : Array Nat) : ∀ (n : Nat) (a : Array Nat), ((List.replicate n x).foldl (· ++ ·) a).toList = a.toList ++ (List.replicate n x.toList).flatten
  | 0, a => by simp
  | n + 1, a => by rw [List.replicate_succ, List.foldl_cons, foldl_app x n, List.replicate_succ, List.flatten_cons, Array.toList_append, List.append_assoc]
theorem mul_rep {a : Str} {k : Int} (h0 : 0 ≤ k) : Txt.mul a k = repS a k.toNat := by
  unfold Txt.mul repS
  by_cases h1 : k < 1
  · have : k = 0 := by omega
    subst this
    rw [if_pos h1]
    rfl
  · rw [if_neg h1]
    by_cases h2 : k = 1
    · subst h2
      simp
    · by_cases h3 : a.length = 0
      · have e : a.cps = #[] := Array.size_eq_zero_iff.mp h3
        have : a = ⟨#[]⟩ := by cases a; simp only at e; rw [e]
        rw [if_pos (by simp [h3]), this]
        simp
      · rw [if_neg (by simp [h2, h3])]
        congr 1
        apply Array.toList_inj.mp
        rw [foldl_app]
        simp
theorem mulS_w {a : Str} {i : Int} (h0 : 0 ≤ i) (h1 : i ≤ 1000) (h2 : a.length ≤ 1000) (h : Q (.str (repS a i.toNat)) H) : wOp X (binaryOp .Mult) (.str a) (.int i) H Q := by
  intro pins s σ v u I r1 r2
  obtain ⟨t, rfl⟩ := r1
  obtain ⟨t2, rfl⟩ := r2
  rw [← mul_rep h0] at h
  refine SB.mul ⟨?_, fun _ _ => ?_, fun _ _ => ?_⟩ fun t' k' => ⟨.str _, H, I.tok k', ⟨t', rfl⟩, h⟩
  · rw [decide_eq_false (by omega), decide_eq_false (by omega)] <;> rfl
  · have : (2 ^ 63 - 1 : Int) / 1000 ≤ (2 ^ 63 - 1) / i := by
      by_cases z : i = 0
      · omega
      · have z2 : 0 < i := by omega
        rw [Int.le_ediv_iff_mul_le z2]
        have : (2 ^ 63 - 1 : Int) / 1000 * i ≤ (2 ^ 63 - 1) / 1000 * 1000 := Int.mul_le_mul_of_nonneg_left h1 (by decide)
        omega
    omega
  · unfold Builtin.Str.tooLong
    rw [sizeLine_eq]
    have : a.length * i.toNat ≤ 1000 * 1000 := Nat.mul_le_mul h2 (by omega)
    exact decide_eq_false (by omega)
theorem bin_ok {op : Bop} {R : O → Prop} (gh : Same G H) (rx : Rep X.K G vx x) (ry : Rep X.K G vy y) (h : semBin op x y R) (k : Kop X.K G H R Q) : wOp X (binaryOp (bopOp op)) vx vy H Q := by
  unfold semBin at h
  split at h
  · cases rx; cases ry; exact wOp_of op_add ⟨_, _, rfl, rfl, k.val gh (.int _) h⟩
  · cases rx; cases ry; exact wOp_of op_add_str ⟨_, _, rfl, rfl, sizeLine_le h.1, k.val gh (.str _) h.2⟩
  · cases rx with
    | lst g1 q1 => cases ry with
      | lst g2 q2 => exact wOp_of op_cat ⟨_, _, _, _, rfl, rfl, gh _ _ g1, gh _ _ g2, sizeLine_le (by rw [q1.len, q2.len]; exact h.1), fun p hp => k.lst gh hp (q1.append q2) h.2⟩
  · cases rx with
    | tup g1 q1 => cases ry with
      | tup g2 q2 =>
        rename_i a vs b ws
        refine wOp_of op_catA ⟨a, b, vs, ws, rfl, rfl, same_t gh g1, same_t gh g2, sizeLine_le (by rw [q1.len, q2.len]; exact h.1), fun e => ?_, fun _ e => ?_, fun _ _ p hp => k.tup gh hp (q1.append q2) h.2⟩
        · subst e
          cases q1
          exact k.val gh (.tup g2 q2) h.2
        · subst e
          cases q2
          have h2 := h.2
          rw [List.append_nil] at h2
          exact k.val gh (.tup g1 q1) h2
  · cases rx; cases ry; exact wOp_of op_sub ⟨_, _, rfl, rfl, k.val gh (.int _) h⟩
  · cases rx; cases ry
    obtain ⟨hm, h⟩ := h
    rcases hm with hm | hm
    · exact wOp_of op_mul ⟨_, _, rfl, rfl, hm, k.val gh (.int _) h⟩
    · exact wOp_of op_mulW ⟨_, _, rfl, rfl, hm, k.val gh (.int _) h⟩
  · cases rx with
    | lst g1 q1 => cases ry; exact wOp_of op_rep ⟨_, _, _, rfl, rfl, gh _ _ g1, h.1.1, h.1.2.1, sizeLine_le (by rw [q1.len]; exact h.1.2.2), fun p hp => k.lst gh hp (q1.rep _) h.2⟩
  · cases rx; cases ry; exact mulS_w h.1.1 h.1.2.1 h.1.2.2 (k.val gh (.str _) h.2)
  · cases rx; cases ry; exact wOp_of op_mod ⟨_, _, rfl, rfl, h.1, k.val gh (.int _) h.2⟩
  · cases rx; cases ry; exact wOp_of op_fdivW ⟨_, _, rfl, rfl, h.1, k.val gh (.int _) h.2⟩
  · cases rx; cases ry; exact wOp_of op_pow ⟨_, _, rfl, rfl, h.1, k.val gh (.int _) h.2⟩
  · cases rx; cases ry; exact wOp_of op_shl ⟨_, _, rfl, rfl, h.1, k.val gh (.int _) h.2⟩
  · exact h.elim
end
end PW

end
section
set_option Elab.async false
set_option linter.all false
set_option maxRecDepth 100000
set_option maxHeartbeats 4000000
/-! PXD: subscripts, slices, calls of what is built in; the expressions' soundness, construct by construct. -/
namespace PW
open PySem PySem.Spec PyProof.Rows L2

/-! ### subscripts, slices -/
def wIx (X : Cx) : R2 := fun x y H Q => ∀ value slice pins s σ v u, Inv X pins σ H s → RelV x v → RelV y u → subscripted slice false v u = operate [v, u] (getItem v u) → wpAny (model X.prog X.w) X.A (subscriptTail value slice v u) (EP X pins σ Q) X.xe s
def wSl (X : Cx) : V → Option Int → Option Int → Hp → VK → Prop := fun x lo hi H Q => ∀ pins s σ v vl vu sl, Inv X pins σ H s → RelV x v → s.heap.IsSliceOf sl vl vu .none → IsPart vl lo → IsPart vu hi →
    ∃ T id, typeLookup (.type T) "__getitem__" = pure (some (.builtin id)) ∧ s.TypeIs v T ∧ wpAny (model X.prog X.w) X.A (getItem v (.ref sl)) (EP X pins σ Q) X.xe s
section
variable {X : Cx} {K : PySem.W.Frag} {G H : Hp} {vx vy : V} {x y : D} {Q : VK} {R : O → Prop}
theorem ix_w : IxR X (wIx X) := fun value slice pins s σ _ _ _ v u _ I r1 r2 h e => h value slice pins s σ v u I r1 r2 e
theorem wIx_of {r : R2} (h : IxR X r) (ht : r vx vy H Q) : wIx X vx vy H Q := fun value slice pins s σ v u I r1 r2 e => h value slice pins s σ H vx vy v u Q I r1 r2 ht e
theorem sl_w : SlR X (wSl X) := fun pins s σ _ _ v vl vu _ _ sl _ I r hs p1 p2 h => h pins s σ v vl vu sl I r hs p1 p2
theorem wSl_of {r : V → Option Int → Option Int → Hp → VK → Prop} {lo hi : Option Int} (h : SlR X r) (ht : r vx lo hi H Q) : wSl X vx lo hi H Q := fun pins s σ v vl vu sl I r1 hs p1 p2 => h pins s σ H vx v vl vu lo hi sl Q I r1 hs p1 p2 ht
theorem repAll_at {vs : List V} {ds : List D} {i : Int} {d : D} (r : RepAll K G vs ds) (h : atI ds i = some d) : ∃ v, atI vs i = some v ∧ Rep K G v d := by
  unfold atI at h ⊢
  rw [r.len]
  cases e : ixN ds.length i with
  | none => rw [e] at h; simp at h
  | some j =>
    rw [e] at h
    obtain ⟨v, h1, h2⟩ := r.get (show ds[j]? = some d from h)
    exact ⟨v, h1, h2⟩
theorem ints_at {ns : List Int} {i n : Int} (h : atI ns i = some n) : atI (ns.map V.int) i = some (.int n) := by
  unfold atI at h ⊢
  rw [List.length_map]
  cases e : ixN ns.length i with
  | none => rw [e] at h; simp at h
  | some j =>
    rw [e] at h
    show (ns.map V.int)[j]? = some (.int n)
    rw [List.getElem?_map, show ns[j]? = some n from h]
    rfl
theorem dix_w (hu : X.A.units + 64 < cLine) {a : Addr} {kvs : List (Key × V)} {x : Str} {v : V} (g : Rd H a (.dK kvs)) (e : valV kvs (Sum.inr x : Key) = some v) (q : Q v H) : wIx X (.ref a) (.str x) H Q := by
  intro value slice pins s σ w u I r1 r2 es
  obtain rfl : w = Value.ref a := r1
  have dg : DGet H a (V.str x) (some v) := by
    exact .inl ⟨kvs, Sum.inr x, g, rfl, e.symm⟩
  exact tail_any (dict_typeIs I dg) PySem.F.slot_dict_getitem.lookup (d_getItem (by omega) I dg r2 fun w' s3 I3 rw' => ⟨v, H, I3, rw', q⟩) es
theorem sub_ok (hu : X.A.units + 64 < cLine) (gh : Same G H) (rx : Rep X.K G vx x) (ry : Rep X.K G vy y) (h : semSub x y R) (k : Kop X.K G H R Q) : wIx X vx vy H Q := by
  unfold semSub at h
  split at h
  · obtain ⟨d, h1, h2⟩ := h
    cases rx with
    | lst g r =>
      cases ry
      obtain ⟨v, h3, h4⟩ := repAll_at r h1
      exact wIx_of ix_list ⟨_, _, _, v, rfl, rfl, SqL.of (gh _ _ g), h3, k.val gh h4 h2⟩
  · obtain ⟨d, h1, h2⟩ := h
    cases rx with
    | tup g r =>
      cases ry
      obtain ⟨v, h3, h4⟩ := repAll_at r h1
      exact wIx_of ix_tup ⟨_, _, _, v, rfl, rfl, same_t gh g, h3, k.val gh h4 h2⟩
  · obtain ⟨hz, c, h1, h2⟩ := h
    cases rx; cases ry
    exact wIx_of ix_str ⟨_, _, c, rfl, rfl, sizeLine_le hz, h1, k.val gh (.str _) h2⟩
  · obtain ⟨n, h1, h2⟩ := h
    cases rx with
    | scr g =>
      cases ry
      exact wIx_of ix_list ⟨_, _, _, _, rfl, rfl, same_l gh g, ints_at h1, k.val gh (.int n) h2⟩
  · obtain ⟨d, h1, h2⟩ := h
    cases rx with
    | dct g e r =>
      cases ry
      obtain ⟨v, h3, h4⟩ := look_get e r h1
      exact dix_w hu (same_rd gh g) h3 (k.val gh h4 h2)
  · obtain ⟨d, h1, h2⟩ := h
    cases rx with
    | fct g e r =>
      cases ry
      obtain ⟨v, h3, h4⟩ := look_get e r h1
      exact dix_w hu (.inr ⟨_, gh _ _ g⟩) h3 (k.val gh h4 h2)
  · exact h.elim
theorem repAll_cut {vs : List V} {ds : List D} (r : RepAll K G vs ds) (lo hi : Option Int) : RepAll K G (cutV vs lo hi) (cutL ds lo hi) := by
  unfold cutV cutL
  rw [r.len]
  exact (r.drop _).take _
theorem cut_whole {ds : List D} {lo hi : Option Int} (h : HT.sIx ds.length 0 lo = 0 ∧ HT.sIx ds.length ds.length hi = ds.length) : cutL ds lo hi = ds := by
  unfold cutL
  rw [h.1, h.2]
  simp
theorem slc_ok {lo hi : Option Int} (gh : Same G H) (rx : Rep X.K G vx x) (h : semSlc x lo hi R) (k : Kop X.K G H R Q) : wSl X vx lo hi H Q := by
  unfold semSlc at h
  split at h
  · cases rx with
    | lst g r => exact wSl_of sl_list ⟨_, _, rfl, SqL.of (gh _ _ g), fun p hp => k.lst gh hp (repAll_cut r lo hi) h⟩
  · cases rx with
    | tup g r =>
      refine wSl_of sl_tupA ⟨_, _, rfl, same_t gh g, fun hw => ?_, fun _ p hp => k.tup gh hp (repAll_cut r lo hi) h⟩
      rw [r.len] at hw
      rw [cut_whole hw] at h
      exact k.val gh (.tup g r) h
  · cases rx; exact wSl_of sl_str ⟨_, rfl, sizeLine_le h.1, k.val gh (.str _) h.2⟩
  · exact h.elim

/-! ### what is built in -/
def prmName : Prm → Str
  | .len => "len" | .int1 => "int" | .str1 => "str" | .list1 => "list" | .tuple1 => "tuple" | .max2 => "max" | .min2 => "min" | .sum1 => "sum" | .all1 => "all" | .any1 => "any" | .sorted1 => "sorted" | .ord1 => "ord" | .lenset => "len" | .sortset => "sorted" | .dict1 => "dict"
def prmV : Prm → Value
  | .len => .builtin "len" | .int1 => .type "int" | .str1 => .type "str" | .list1 => .type "list" | .tuple1 => .type "tuple" | .max2 => .builtin "max" | .min2 => .builtin "min" | .sum1 => .builtin "sum" | .all1 => .builtin "all" | .any1 => .builtin "any" | .sorted1 => .builtin "sorted" | .ord1 => .builtin "ord" | .lenset => .builtin "len" | .sortset => .builtin "sorted" | .dict1 => .type "dict"
theorem prm_boot : ∀ f : Prm, bootBuiltins (prmName f) = some (prmV f) := by
  intro f
  cases f <;> decide +kernel
theorem prm_nm : ∀ f : Prm, prmName f ≠ "__name__" := by
  intro f
  cases f <;> decide +kernel
theorem prm_db : ∀ f : Prm, (prmName f == ("__debug__" : Str)) = false := by
  intro f
  cases f <;> decide +kernel
theorem ltS_iff (x y : Str) : ltS x y = true ↔ x.cps.toList < y.cps.toList := by
  unfold ltS
  rw [PyProof.Rows.ltCps_eq]
  exact decide_eq_true_iff
theorem ltS_no (x y : Str) : ltS x y = false ↔ y.cps.toList ≤ x.cps.toList := by
  rw [Bool.eq_false_iff, Ne, ltS_iff]
  exact List.not_lt
theorem strx {s u : Str} (h : s.cps.toList = u.cps.toList) : s = u := by
  cases s with
  | mk a =>
    cases u with
    | mk b =>
      have : a = b := Array.toList_inj.mp h
      rw [this]
theorem ltS_anti {x y : Str} (h1 : ltS x y = false) (h2 : ltS y x = false) : x = y := strx (List.le_antisymm ((ltS_no y x).mp h2) ((ltS_no x y).mp h1))
theorem ltS_asym {x y : Str} (h1 : ltS x y = true) : ltS y x = false := by
  rw [ltS_no]
  exact List.le_of_lt ((ltS_iff x y).mp h1)
theorem ltS_mix {x z y : Str} (h1 : ltS z x = false) (h2 : ltS z y = true) : ltS x y = true := by
  rw [ltS_iff]
  exact List.lt_of_le_of_lt ((ltS_no z x).mp h1) ((ltS_iff z y).mp h2)
theorem ins_comm (x y : Str) : ∀ l : List Str, insS x (insS y l) = insS y (insS x l)
  | [] => by
    simp only [insS]
    cases h1 : ltS y x with
    | true =>
      rw [if_pos rfl, ltS_asym h1]
      simp
    | false =>
      cases h2 : ltS x y with
      | true => simp
      | false =>
        have := ltS_anti h1 h2
        subst this
        rfl
  | z :: r => by
    cases h1 : ltS z y with
    | true =>
      cases h2 : ltS z x with
      | true =>
        simp only [insS, h1, h2, if_true]
        rw [ins_comm x y r]
      | false => simp [insS, h1, h2, ltS_mix h2 h1]
    | false =>
      cases h2 : ltS z x with
      | true => simp [insS, h1, h2, ltS_mix h1 h2]
      | false =>
        cases h3 : ltS y x with
        | true => simp [insS, h1, h2, h3, ltS_asym h3]
        | false =>
          cases h4 : ltS x y with
          | true => simp [insS, h1, h2, h3, h4]
          | false =>
            have := ltS_anti h3 h4
            subst this
            rfl
theorem srt_perm {xs ys : List Str} (h : xs.Perm ys) : srtS xs = srtS ys := by
  induction h with
  | nil => rfl
  | cons x _ ih => simp only [srtS, ih]
  | swap x y l => simp only [srtS]; exact ins_comm _ _ _
  | trans _ _ a b => rw [a, b]
theorem srt_sorted : ∀ {l : List Str}, sortedS l = true → srtS l = l
  | [], _ => rfl
  | [x], _ => rfl
  | x :: y :: r, h => by
    have h' : (!ltCps y.cps.toList x.cps.toList && risingS y r) = true := h
    rw [Bool.and_eq_true] at h'
    have e := srt_sorted (l := y :: r) h'.2
    rw [srtS, e]
    have z : ltS y x = false := by
      unfold ltS
      simpa using h'.1
    simp [insS, z]
theorem srt_uniq {ys xs : List Str} (h : ys.Perm xs) (s : sortedS ys = true) : ys = srtS xs := by rw [← srt_perm h, srt_sorted s]
theorem ins_perm (x : Str) : ∀ l : List Str, (insS x l).Perm (x :: l)
  | [] => .refl _
  | y :: r => by
    unfold insS
    split
    · exact ((ins_perm x r).cons y).trans (.swap x y r)
    · exact .refl _
theorem srtS_perm : ∀ l : List Str, (srtS l).Perm l
  | [] => .refl _
  | x :: r => (ins_perm x (srtS r)).trans ((srtS_perm r).cons x)
theorem strs_sh (l : List Str) : (l.map fun k => O.sh (D.str k)) = (l.map D.str).map O.sh := by rw [List.map_map] <;> rfl
theorem pairs_inv {K : PySem.W.Frag} {G H : Hp} (gh : Same G H) : ∀ {prs : List (Str × D)} {vs : List V}, RepAll K G vs (prs.map fun p => .tup [.str p.1, p.2]) → ∃ (ps : List Addr) (kvs : List (Key × V)), vs = ps.map V.ref ∧ Paired (fun p kv => SqT K H p [kV kv.1, kv.2]) ps kvs ∧ kvs.map (·.1) = (prs.map (·.1)).map Sum.inr ∧ RepAll K G (kvs.map (·.2)) (prs.map (·.2))
  | [], _, .nil => ⟨[], [], rfl, .nil, rfl, .nil⟩
  | pr :: prs, _, .cons h r => by
    obtain ⟨ps, kvs, e1, e2, e3, e4⟩ := pairs_inv gh r
    cases h with | @tup a ws _ hs hr =>
    cases hr with | cons h1 hr =>
    cases hr with | @cons v2 _ _ _ h2 hr =>
    cases hr
    cases h1
    exact ⟨a :: ps, (Sum.inr pr.1, v2) :: kvs, by rw [e1]; rfl, .cons (same_t gh hs) e2, by rw [List.map_cons, List.map_cons, List.map_cons, e3], .cons h2 e4⟩
theorem merge_app : ∀ (more kvs : List (Key × V)), ((kvs ++ more).map (·.1)).Nodup → mergeK kvs more = kvs ++ more
  | [], kvs, _ => by rw [List.append_nil]; rfl
  | kv :: more, kvs, h => by
    have e : putK kvs kv.1 kv.2 = kvs ++ [kv] := by
      unfold putK
      rw [if_neg]
      intro z
      obtain ⟨q, hq, e⟩ := List.any_eq_true.mp z
      rw [List.map_append, List.map_cons, List.nodup_append] at h
      exact h.2.2 q.1 (List.mem_map_of_mem hq) kv.1 List.mem_cons_self (of_decide_eq_true e)
    show mergeK (putK kvs kv.1 kv.2) more = _
    rw [e, merge_app more (kvs ++ [kv]) (by rw [List.append_assoc]; exact h), List.append_assoc]
    rfl
theorem merge_id {kvs : List (Key × V)} (h : (kvs.map (·.1)).Nodup) : mergeK [] kvs = kvs := merge_app kvs [] h
theorem call_lenR : CallR X (.builtin "len") (fun xs H Q => ∃ a kvs, xs = [V.ref a] ∧ Rd H a (.dK kvs) ∧ Q (.int kvs.length) H) := by
  intro pins s σ H xs us Q I r h
  obtain ⟨a, kvs, rfl, ha, q⟩ := h
  obtain ⟨u, rfl, ru⟩ := vals1 r
  cases ru
  exact d_len I ha fun t s' I' => ⟨.int kvs.length, H, I', ⟨t, rfl⟩, q⟩
theorem prm_ok (hc : X.calm = true) {f : Prm} {vs : List V} {ds : List D} (gh : Same G H) (r : RepAll X.K G vs ds) (h : semPrm f ds R) (k : Kop X.K G H R Q) : wCall X (prmV f) vs H Q := by
  unfold semPrm at h
  split at h
  · cases r with | cons r1 r2 => cases r2; cases r1 with | lst g q => exact wCall_of call_len_seq ⟨_, _, rfl, .inl (SqL.of (gh _ _ g)), by rw [q.len]; exact k.val gh (.int _) h⟩
  · cases r with | cons r1 r2 => cases r2; cases r1 with | tup g q => exact wCall_of call_len_seq ⟨_, _, rfl, .inr (same_t gh g), by rw [q.len]; exact k.val gh (.int _) h⟩
  · cases r with | cons r1 r2 => cases r2; cases r1 with | scr g => exact wCall_of call_len_seq ⟨_, _, rfl, .inl (same_l gh g), by rw [List.length_map]; exact k.val gh (.int _) h⟩
  · cases r with | cons r1 r2 => cases r2; cases r1 with | dct g e q => exact wCall_of call_lenR ⟨_, _, rfl, same_rd gh g, by have := congrArg List.length e; rw [List.length_map, List.length_map] at this; rw [this]; exact k.val gh (.int _) h⟩
  · cases r with | cons r1 r2 => cases r2; cases r1 with | dct g e q => exact wCall_of (call_sortedD hc) ⟨_, _, _, rfl, same_rd gh g, e, h.1, fun ys p hy hs hp => by
      have z := srt_uniq hy hs
      subst z
      have h2 := h.2
      rw [strs_sh] at h2
      exact k.lst gh hp (RepAll.of_strs _) h2⟩
  · obtain ⟨xs, rfl, h64, h2⟩ := h
    cases r with | cons r1 r2 => cases r2; cases r1 with | lst g q => exact wCall_of cr_sortedS ⟨_, xs, rfl, SqL.of (gh _ _ (by rw [q.strs] at g; exact g)), h64, fun ys p hy hs hp => by
      have z := srt_uniq hy hs
      subst z
      rw [strs_sh] at h2
      exact k.lst gh hp (RepAll.of_strs _) h2⟩
  · cases r with | cons r1 r2 => cases r2; cases r1 with | dct g e q => exact wCall_of (call_listD hc) ⟨_, _, rfl, same_rd gh g, fun p hp => by
      have z : ∀ (kvs : List (Key × V)) (ks : List Str), kvs.map (·.1) = ks.map Sum.inr → (kvs.map fun kv => kV kv.1) = ks.map V.str := by
        intro kvs
        induction kvs with
        | nil => intro ks h; cases ks with | nil => rfl | cons _ _ => cases h
        | cons a r ih =>
          intro ks h
          cases ks with
          | nil => cases h
          | cons k ks =>
            simp only [List.map_cons, List.cons.injEq] at h
            rw [List.map_cons, List.map_cons, ih ks h.2, h.1] <;> rfl
      rw [z _ _ e]
      rw [strs_sh] at h
      exact k.lst gh hp (RepAll.of_strs _) h⟩
  · cases r with | cons r1 r2 => cases r2; cases r1 with | fct g e q => exact wCall_of (call_listD hc) ⟨_, _, rfl, (.inr ⟨_, gh _ _ g⟩), fun p hp => by
      have z : ∀ (kvs : List (Key × V)) (ks : List Str), kvs.map (·.1) = ks.map Sum.inr → (kvs.map fun kv => kV kv.1) = ks.map V.str := by
        intro kvs
        induction kvs with
        | nil => intro ks h; cases ks with | nil => rfl | cons _ _ => cases h
        | cons a r ih =>
          intro ks h
          cases ks with
          | nil => cases h
          | cons k ks =>
            simp only [List.map_cons, List.cons.injEq] at h
            rw [List.map_cons, List.map_cons, ih ks h.2, h.1] <;> rfl
      rw [z _ _ e]
      rw [strs_sh] at h
      exact k.lst gh hp (RepAll.of_strs _) h⟩
  · cases r with | cons r1 r2 => cases r2; cases r1; exact wCall_of call_len_str ⟨_, rfl, sizeLine_le h.1, k.val gh (.int _) h.2⟩
  · cases r with | cons r1 r2 => cases r2; cases r1; exact wCall_of call_int1 (.inl ⟨_, rfl, k.val gh (.int _) h⟩)
  · cases r with | cons r1 r2 => cases r2; cases r1; exact wCall_of call_int1 (.inr ⟨_, rfl, k.val gh (.int _) h⟩)
  · obtain ⟨c, rfl, h⟩ := h
    cases r with | cons r1 r2 => cases r2; cases r1; exact wCall_of call_ord ⟨_, rfl, rfl, k.val gh (.int _) h⟩
  · cases r with | cons r1 r2 => cases r2; cases r1; exact wCall_of call_str_int ⟨_, rfl, h.1, k.val gh (.str _) h.2⟩
  · cases r with | cons r1 r2 => cases r2; cases r1 with | lst g q => exact wCall_of call_list_of ⟨_, _, rfl, .inl (SqL.of (gh _ _ g)), fun p hp => k.lst gh hp q h⟩
  · cases r with | cons r1 r2 => cases r2; cases r1 with | tup g q => exact wCall_of call_list_of ⟨_, _, rfl, .inr (same_t gh g), fun p hp => k.lst gh hp q h⟩
  · cases r with | cons r1 r2 => cases r2; cases r1 with | lst g q => exact wCall_of call_tuple_of ⟨_, _, rfl, .inl ⟨SqL.of (gh _ _ g), fun p hp => k.tup gh hp q h⟩⟩
  · cases r with | cons r1 r2 => cases r2; cases r1 with | tup g q => exact wCall_of call_tuple_of ⟨_, _, rfl, .inr ⟨same_t gh g, k.val gh (.tup g q) h⟩⟩
  · cases r with | cons r1 r2 => cases r2 with | cons r2 r3 => cases r3; cases r1; cases r2; exact wCall_of (call_max2 hc) ⟨_, _, rfl, k.val gh (.int _) h⟩
  · cases r with | cons r1 r2 => cases r2 with | cons r2 r3 => cases r3; cases r1; cases r2; exact wCall_of (call_min2 hc) ⟨_, _, rfl, k.val gh (.int _) h⟩
  · obtain ⟨ns, rfl, h⟩ := h
    cases r with | cons r1 r2 => cases r2; cases r1 with | lst g q =>
      have e := q.ints; subst e
      exact wCall_of (cr_sum hc) ⟨_, ns, rfl, SqL.of (gh _ _ g), k.val gh (.int _) h⟩
  · obtain ⟨ns, rfl, h⟩ := h
    cases r with | cons r1 r2 => cases r2; cases r1 with | lst g q =>
      have e := q.bls; subst e
      exact wCall_of (cr_all hc) ⟨_, ns, rfl, SqL.of (gh _ _ g), k.val gh (.bl _) h⟩
  · obtain ⟨ns, rfl, h⟩ := h
    cases r with | cons r1 r2 => cases r2; cases r1 with | lst g q =>
      have e := q.bls; subst e
      exact wCall_of (cr_any hc) ⟨_, ns, rfl, SqL.of (gh _ _ g), k.val gh (.bl _) h⟩
  · obtain ⟨prs, rfl, nd, h⟩ := h
    cases r with | cons r1 r2 => cases r2; cases r1 with | lst g q =>
      obtain ⟨ps, kvs, rfl, e2, e3, e4⟩ := pairs_inv gh q
      refine wCall_of (call_dictP hc) ⟨_, ps, kvs, rfl, SqL.of (gh _ _ g), e2, fun p hp => ?_⟩
      rw [merge_id (by rw [e3]; exact List.Pairwise.map _ (fun _ _ z q => z (Sum.inr.inj q)) nd)]
      exact k.dct gh hp e3 e4 h
  · exact h.elim
theorem flat_rep {v : V} {d : D} (r : Rep K G v d) (f : flatD d = true) : flatV v = true := by
  cases r <;> first | rfl | (simp [flatD] at f)
theorem flat_all {vs : List V} {ds : List D} (r : RepAll K G vs ds) (f : ds.all flatD = true) : vs.all flatV = true := by
  induction vs generalizing ds with
  | nil => rfl
  | cons v vs ih =>
    cases r with
    | cons r1 r2 =>
      simp only [List.all_cons, Bool.and_eq_true] at f ⊢
      exact ⟨flat_rep r1 f.1, ih r2 f.2⟩
theorem flat_eq {v u : V} {d e : D} (r : Rep K G v d) (q : Rep K G u e) (f : flatD d = true) (g : flatD e = true) : eqV v u = eqD d e := by
  cases r <;> cases q <;> first | (simp [flatD] at f; done) | (simp [flatD] at g; done) | (unfold eqD; simp only [toPy, PyData.eqv, eqV])
def mthName : Mth → Str
  | .join => "join" | .index => "index" | .replace => "replace" | .split => "split"
def mthTy : Mth → String
  | .join => "str" | .index => "list" | .replace => "str" | .split => "str"
def mthId : Mth → String
  | .join => "str.join" | .index => "list.index" | .replace => "str.replace" | .split => "str.split"
theorem mth_attrs : ∀ m : Mth, PlainAttrs (mthTy m)
  | .join => F.plainAttrs_str | .index => F.plainAttrs_list | .replace => F.plainAttrs_str | .split => F.plainAttrs_str
theorem mth_slot : ∀ m : Mth, Slot (mthTy m) (mthName m) (mthId m)
  | .join => F.slot_str_join | .index => F.slot_list_index | .replace => F.slot_str_replace | .split => F.slot_str_split
theorem mth_type : ∀ m : Mth, typeOf (.builtin (mthId m)) = pure (.type "method_descriptor")
  | .join => F.type_str_join | .index => F.type_list_index | .replace => F.type_str_replace | .split => F.type_str_split
theorem mth_ty {m : Mth} {ds : List D} (gh : Same G H) (rx : Rep X.K G vx x) (h : semMth m x ds R) : tyV X.K (mthTy m) vx H := by
  unfold semMth at h
  split at h
  · cases rx; rfl
  · cases rx; rfl
  · cases rx with | lst g q => exact .inl ⟨rfl, _, SqL.of (gh _ _ g)⟩
  · exact h.elim
theorem mth_rc {m : Mth} (gh : Same G H) (rx : Rep X.K G vx x) (h : mthRc m x = true) : tyV X.K (mthTy m) vx H := by
  unfold mthRc at h
  split at h
  · cases rx; rfl
  · cases rx with | lst g q => exact .inl ⟨rfl, _, SqL.of (gh _ _ g)⟩
  · cases rx; rfl
  · cases rx; rfl
  · exact nomatch h
theorem toPys_get : ∀ (l : List D) (j : Nat), (toPys l)[j]? = (l[j]?).map toPy
  | [], _ => by rw [toPys]; rfl
  | d :: r, 0 => by rw [toPys]; rfl
  | d :: r, j + 1 => by rw [toPys, List.getElem?_cons_succ, List.getElem?_cons_succ, toPys_get r j]
theorem index_w (hu : X.A.units + 64 < cLine) (gh : Same G H) {vy : V} {l : List D} {y z : D} {j : Nat} (rx : Rep X.K G vx (.lst l)) (ry : Rep X.K G vy y) (hd : dep y ≤ 50 ∧ dep (.lst l) ≤ 50) (hj : l[j]? = some z) (hz : eqD z y = true)
    (hm : ∀ (m : Nat) (z' : D), m < j → l[m]? = some z' → eqD z' y = false) (q : Q (.int (j : Nat)) H) : wMt X "list.index" vx [vy] H Q := by
  intro pins s σ v us I r1 r2
  unfold dep at hd
  have hl := rx.dp gh (by omega)
  have hy := ry.dp gh (by omega)
  rw [toPy] at hl hd
  cases rx with | lst g qq =>
  cases r1
  cases r2 with
  | cons ryy rt =>
    rename_i uy ut
    cases rt
    obtain ⟨bs, r3⟩ := Dp.reads I _ _ uy hy ryy
    have hxs := toPys_plain l
    have hroom : X.A.units + 1 + min (PyData.depthAll (toPys l)) (toPy y).depth < cLine := by omega
    cases hl with
    | lst hs ha =>
      obtain ⟨its, rv, ⟨⟨cls, dd, data, sls⟩, n, ho, hc, hdn, hdt⟩, hlen⟩ := I.list hs
      simp only at hc hdt
      subst hc hdt
      obtain ⟨as, h4⟩ := Dp.readsAll I _ _ its ha rv
      have hn : its.length = (toPys l).length := SeqAt.ReadsAll.length _ its as h4
      have hmap : its.map (SeqAt.readOf s.heap) = toPys l := SeqAt.readsAll_map_plain _ its as hxs h4
      have hvl := rv.length
      have hsl := sizeLine_eq
      have hz2 : (toPys l)[j]? = some (toPy z) := by rw [toPys_get, hj]; rfl
      obtain ⟨hjd, _⟩ := List.getElem?_eq_some_iff.mp hz2
      have hjl : j < its.length := by omega
      have hj2 : j < its.toArray.size := by simpa using hjl
      have at_ : ∀ (m : Nat) (hm : m < its.toArray.size) (z' : PyData), (toPys l)[m]? = some z' → SeqAt.readOf s.heap its.toArray[m] = z' := by
        intro m hm z' hz'
        have hml : m < its.length := by simpa using hm
        rw [← hmap, List.getElem?_map, List.getElem?_eq_getElem hml] at hz'
        have e1 : SeqAt.readOf s.heap its[m] = z' := Option.some.inj (show some (SeqAt.readOf s.heap its[m]) = some z' from hz')
        simpa using e1
      refine call_meets PySem.F.slot_list_index ⟨_, ho, rfl⟩ PySem.F.entry_list_index (PySem.F.args_list_index_2 _ _)
        (SeqAt.list_indexAt _ its.toArray n dd sls uy (fun u => PyData.eqv (SeqAt.readOf s.heap u) (toPy y)) j hj2 (by omega) ?_ ?_) ⟨ho, SeqAt.items_plain (vs := its.toArray) (show ReadsAll s.heap its.toArray.toList _ as from h4) r3 hxs (toPy_plain y) hroom, ?_⟩
      · show PyData.eqv (SeqAt.readOf s.heap its.toArray[j]) (toPy y) = true
        rw [at_ j hj2 _ hz2]
        exact hz
      · intro m hm2 hmj
        have hmd : m < (toPys l).length := by omega
        have hz' : (toPys l)[m]? = some (toPys l)[m] := List.getElem?_eq_getElem hmd
        show PyData.eqv (SeqAt.readOf s.heap its.toArray[m]) (toPy y) = false
        rw [at_ m hm2 _ hz']
        rw [toPys_get] at hz'
        cases e : l[m]? with
        | none => rw [e] at hz'; cases hz'
        | some z' =>
          rw [e] at hz'
          have := hm m z' hmj e
          rw [← Option.some.inj hz']
          exact this
      · exact ⟨.int (j : Nat), H, I.tok _, ⟨_, rfl⟩, q⟩
theorem mth_ok {m : Mth} {vs : List V} {ds : List D} (hu : X.A.units + 64 < cLine) (gh : Same G H) (rx : Rep X.K G vx x) (r : RepAll X.K G vs ds) (h : semMth m x ds R) (k : Kop X.K G H R Q) : wMt X (mthId m) vx vs H Q := by
  unfold semMth at h
  split at h
  · obtain ⟨ys, rfl, hz, h⟩ := h
    cases rx
    cases r with | cons r1 r2 => cases r2; cases r1 with | lst g q =>
      have e := q.strs; subst e
      exact wMt_of mt_join ⟨_, _, ys, rfl, rfl, .inl (SqL.of (gh _ _ g)), hz, k.val gh (.str _) h⟩
  · obtain ⟨⟨hb, hz⟩, h⟩ := h
    cases rx
    cases r with | cons r1 r2 =>
      cases r2
      cases r1
      refine wMt_of mt_split ⟨_, _, rfl, rfl, hb, sizeLine_le hz, fun p hp => ?_⟩
      exact k.lst gh hp (RepAll.of_strs _) h
  · obtain ⟨hd, j, z, hj, hz, hm, h⟩ := h
    cases r with | cons r1 r2 =>
      cases r2
      exact index_w hu gh rx r1 hd hj hz hm (k.val gh (.int _) h)
  · exact h.elim
def tyN : D → String
  | .non => "NoneType" | .bl _ => "bool" | .int _ => "int" | .str _ => "str" | .tup _ => "tuple" | .lst _ => "list" | .scr _ => "list" | .dct _ _ => "dict" | .ins _ _ _ => "object" | .fct _ _ => "dict"
theorem rep_ty (gh : Same G H) (r : Rep X.K G vx x) (h : (∀ l, x ≠ .scr l) ∧ (∀ k l, x ≠ .dct k l) ∧ (∀ c f l, x ≠ .ins c f l) ∧ ∀ k l, x ≠ .fct k l) : TyX X.K H vx (.type (tyN x)) := by
  cases r with
  | non => exact .base .non
  | bl b => exact .base (.bl b)
  | int i => exact .base (.int i)
  | str z => exact .base (.str z)
  | tup g q =>
    rcases same_t gh g with (g | ⟨o, g⟩) | ⟨o, its, n, h1, h2, _⟩
    · exact .base (.tup g)
    · exact .fTuple g
    · exact .kTuple h1 h2
  | lst g q => exact .base (.lst (gh _ _ g))
  | scr g => exact absurd rfl (h.1 _)
  | dct _ _ _ => exact absurd rfl (h.2.1 _ _)
  | ins _ _ _ => exact absurd rfl (h.2.2.1 _ _ _)
  | fct _ _ _ => exact absurd rfl (h.2.2.2 _ _)
theorem isi_kit {d : D} {t : String} {b : Bool} (h : isiD d t = some b) : kitB (tyN d) t = some b ∧ (∀ l, d ≠ .scr l) ∧ (∀ k l, d ≠ .dct k l) ∧ (∀ c f l, d ≠ .ins c f l) ∧ ∀ k l, d ≠ .fct k l := by
  unfold isiD at h
  split at h
  all_goals first | (cases h; done) | skip
  all_goals cases h
  all_goals refine ⟨?_, ?_, ?_, ?_, ?_⟩
  all_goals first | (intro l z; cases z; done) | (intro k l z; cases z; done) | (intro c f l z; cases z; done) | skip
  all_goals simp only [tyN]
  all_goals decide +kernel
end
end PW

end
section
set_option Elab.async false
set_option linter.all false
set_option maxRecDepth 100000
set_option maxHeartbeats 4000000
/-! PXE: the expressions' soundness, construct by construct. -/
namespace PW
open PySem PySem.Spec PyProof.Rows L2

/-! ### states -/
section
variable {K : PySem.W.Frag} {σ : L2.St} {Γ : List O} {G H G1 H1 : Hp} {F F1 : Nat → List Addr}
theorem ORep.sh_inv {v : V} {d : D} {S : List Addr} (h : ORep K G H v (.sh d) S) : Rep K G v d ∧ S = [] := by
  cases h with | sh r => exact ⟨r, rfl⟩
theorem ORep.rw_inv {v w : V} {S : List Addr} (h : ORep K G H v (.rw w) S) : v = w ∧ S = [] := by
  cases h with | rw => exact ⟨rfl, rfl⟩
theorem ORep.lst_inv {v : V} {os : List O} {S : List Addr} (h : ORep K G H v (.lst os) S) : ∃ p vs S', v = .ref p ∧ S = p :: S' ∧ G p = none ∧ H p = some (.lst vs) ∧ ORepAll K G H vs os S' ∧ p ∉ S' := by
  cases h with | lst a b c d => exact ⟨_, _, _, rfl, rfl, a, b, c, d⟩
/-- a slot's own thing is published -/
theorem Sta.pubAt (st : Sta K σ Γ G H F) {i : Nat} {v : V} {o : O} {d : D} (hi : Γ[i]? = some o) (hv : σ[i]? = some (some v)) (r : ORep K G H v o (F i)) (e : asD o = some d) :
    Sta K σ (Γ.set i (.sh d)) (pubG G H (F i)) H (setF F i []) ∧ Stp G H F (pubG G H (F i)) H (setF F i []) ∧ Rep K (pubG G H (F i)) v d := by
  have hg : ∀ p, p ∈ F i → G p = none := fun p hp => (st.env.own i p hp).1
  have rp : Rep K (pubG G H (F i)) v d := r.pub (pubG_same hg) e fun p hp => pubG_in hp
  have hl : i < Γ.length := by
    rcases Nat.lt_or_ge i Γ.length with z | z
    · exact z
    · rw [List.getElem?_eq_none_iff.mpr z] at hi; cases hi
  refine ⟨⟨⟨by simp [st.env.len], fun j o' ej => ?_, fun j p hp => ?_, fun j k p h1 h2 => ?_⟩, pubG_sub st.gh⟩, ⟨pubG_same hg, fun _ _ _ q => q, fun p _ h2 h3 => by rw [pubG_out (h3 i)]; exact h2, fun j p hp => ?_⟩, rp⟩
  · by_cases q : j = i
    · subst q
      rw [List.getElem?_set_self hl] at ej
      cases ej
      exact .inr ⟨v, hv, by rw [setF_same]; exact .sh rp⟩
    · rw [List.getElem?_set_ne (Ne.symm q)] at ej
      rw [setF_ne q]
      rcases st.env.ent j o' ej with z | ⟨u, h1, h2⟩
      · exact .inl z
      · exact .inr ⟨u, h1, h2.keep (pubG_same hg) (fun p hp => by rw [pubG_out fun z => q (st.env.dis j i p hp z)]; exact (st.env.own j p hp).1) fun _ _ _ z => z⟩
  · by_cases q : j = i
    · subst q; rw [setF_same] at hp; exact nomatch hp
    · rw [setF_ne q] at hp
      rw [pubG_out fun z => q (st.env.dis j i p hp z)]
      exact st.env.own j p hp
  · by_cases q1 : j = i
    · subst q1; rw [setF_same] at h1; exact nomatch h1
    · by_cases q2 : k = i
      · subst q2; rw [setF_same] at h2; exact nomatch h2
      · rw [setF_ne q1] at h1; rw [setF_ne q2] at h2; exact st.env.dis j k p h1 h2
  · by_cases q : j = i
    · subst q; rw [setF_same] at hp; exact nomatch hp
    · rw [setF_ne q] at hp; exact .inl ⟨j, hp⟩
theorem Stp.unset {i : Nat} (sp : Stp G H F G1 H1 F1) : Stp G H F G1 H1 (setF F1 i []) := ⟨sp.gg, sp.hh, sp.gn, fun j p hp => by
  by_cases q : j = i
  · subst q; rw [setF_same] at hp; exact nomatch hp
  · rw [setF_ne q] at hp; exact sp.ff j p hp⟩
/-- an object of slot i is changed -/
theorem Sta.mut (st : Sta K σ Γ G H F) {i : Nat} {p : Addr} {u : HO} {v : V} {o : O} {S : List Addr} (hp : p ∈ F i) (hi : i < Γ.length) (hv : σ[i]? = some (some v)) (r : ORep K G (upd H p u) v o S)
    (hS : ∀ q, q ∈ S → q ∈ F i ∨ ∀ j, q ∉ F j) : Sta K σ (Γ.set i o) G (upd H p u) (setF F i S) := by
  have hg := (st.env.own i p hp).1
  refine ⟨⟨by simp [st.env.len], fun j o' ej => ?_, fun j q hq => ?_, fun j k q h1 h2 => ?_⟩, fun a w e => ?_⟩
  · by_cases z : j = i
    · subst z
      rw [List.getElem?_set_self hi] at ej
      cases ej
      exact .inr ⟨v, hv, by rw [setF_same]; exact r⟩
    · rw [List.getElem?_set_ne (Ne.symm z)] at ej
      rw [setF_ne z]
      rcases st.env.ent j o' ej with y | ⟨w, h1, h2⟩
      · exact .inl y
      · refine .inr ⟨w, h1, h2.keep (Same.refl G) (fun q hq => (st.env.own j q hq).1) fun q w' hq e => ?_⟩
        rw [upd_ne fun (y : q = p) => z (st.env.dis j i q hq (by rw [y]; exact hp))]
        exact e
  · by_cases z : j = i
    · subst z; rw [setF_same] at hq; exact r.foot q hq
    · rw [setF_ne z] at hq
      refine ⟨(st.env.own j q hq).1, ?_⟩
      rw [upd_ne fun (y : q = p) => z (st.env.dis j i q hq (by rw [y]; exact hp))]
      exact (st.env.own j q hq).2
  · by_cases z1 : j = i
    · subst z1
      rw [setF_same] at h1
      by_cases z2 : k = j
      · exact z2.symm
      · rw [setF_ne z2] at h2
        rcases hS q h1 with y | y
        · exact st.env.dis j k q y h2
        · exact absurd h2 (y k)
    · rw [setF_ne z1] at h1
      by_cases z2 : k = i
      · subst z2
        rw [setF_same] at h2
        rcases hS q h2 with y | y
        · exact st.env.dis j k q h1 y
        · exact absurd h1 (y j)
      · rw [setF_ne z2] at h2; exact st.env.dis j k q h1 h2
  · rw [upd_ne fun y => ?_]
    · exact st.gh a w e
    · subst y; rw [hg] at e; cases e
theorem Stp.mut (sp : Stp G H F G1 H1 F1) {i : Nat} {p : Addr} {u : HO} {S : List Addr} (hp : p ∈ F1 i) (hS : ∀ q, q ∈ S → (∃ j, q ∈ F j) ∨ H q = none) : Stp G H F G1 (upd H1 p u) (setF F1 i S) := by
  refine ⟨sp.gg, fun a o h e => ?_, sp.gn, fun j q hq => ?_⟩
  · rw [upd_ne fun y => ?_]
    · exact sp.hh a o h e
    · subst y
      exact sp.out (by rw [e]; exact fun z => nomatch z) h i hp
  · by_cases z : j = i
    · subst z; rw [setF_same] at hq; exact hS q hq
    · rw [setF_ne z] at hq; exact sp.ff j q hq
theorem ORepAll.append : ∀ {vs ws : List V} {os ps : List O} {S T : List Addr}, ORepAll K G H vs os S → ORepAll K G H ws ps T → (∀ p, p ∈ S → p ∉ T) → ORepAll K G H (vs ++ ws) (os ++ ps) (S ++ T)
  | _, _, _, _, _, _, .nil, s, _ => s
  | _, _, _, _, _, T, .cons (S1 := S1) (S2 := S2) h r n, s, d => by
    have q := ORepAll.append r s fun p hp => d p (List.mem_append_right _ hp)
    rw [List.append_assoc]
    exact .cons h q fun p hp hq => by
      rcases List.mem_append.mp hq with z | z
      · exact n p hp z
      · exact d p (List.mem_append_left _ hp) z
theorem ORepAll.one {v : V} {o : O} {S : List Addr} (r : ORep K G H v o S) : ORepAll K G H [v] [o] S := by
  have q := ORepAll.cons r (ORepAll.nil (K := K) (G := G) (H := H)) fun _ _ z => nomatch z
  rw [List.append_nil] at q
  exact q
open Classical in
/-- all that is plain, as shared, over the heap as it stands -/
theorem Sta.shared (st : Sta K σ Γ G H F) : ∃ G2, Same G G2 ∧ Sta K σ (share Γ) G2 H (fun _ => []) := by
  let P : Addr → Prop := fun a => ∃ i, a ∈ F i
  let G2 : Hp := fun a => if P a then H a else G a
  have e1 : Same G G2 := fun a o e => by
    show (if P a then H a else G a) = some o
    rw [if_neg]
    · exact e
    · rintro ⟨i, hi⟩
      rw [(st.env.own i a hi).1] at e; cases e
  have e2 : Same G2 H := fun a o e => by
    have e' : (if P a then H a else G a) = some o := e
    by_cases z : P a
    · rw [if_pos z] at e'; exact e'
    · rw [if_neg z] at e'; exact st.gh a o e'
  refine ⟨G2, e1, ⟨⟨by simp [share, st.env.len], fun i o e => ?_, fun _ _ z => (nomatch z), fun _ _ _ z => (nomatch z)⟩, e2⟩⟩
  unfold share at e
  rw [List.getElem?_map] at e
  cases q : Γ[i]? with
  | none => rw [q] at e; simp at e
  | some o' =>
    rw [q] at e
    simp only [Option.map_some, Option.some.injEq] at e
    cases w : asD o' with
    | some d =>
      rw [w] at e
      subst e
      rcases st.env.ent i o' q with z | ⟨v, h1, h2⟩
      · subst z; simp [asD] at w
      · refine .inr ⟨v, h1, .sh (h2.pub e1 w fun p hp => ?_)⟩
        show (if P p then H p else G p) = H p
        rw [if_pos ⟨i, hp⟩]
    | none =>
      rw [w] at e
      simp only at e
      split at e
      · subst e
        rcases st.env.ent i _ q with z | ⟨v, h1, h2⟩
        · cases z
        · obtain ⟨e1, e2⟩ := h2.rw_inv
          subst e1
          exact .inr ⟨_, h1, .rw⟩
      · exact .inl e.symm
theorem scal_rep {v : V} {d : D} (r : Rep K G v d) (h : scalD d = true) : Rep K G1 v d := by
  cases r with
  | non => exact .non
  | bl b => exact .bl b
  | int i => exact .int i
  | str x => exact .str x
  | tup _ _ => simp [scalD] at h
  | lst _ _ => simp [scalD] at h
  | scr _ => simp [scalD] at h
  | dct _ _ _ => simp [scalD] at h
  | fct _ _ _ => simp [scalD] at h
  | ins _ _ _ => simp [scalD] at h
end

/-! ### what an own def promises -/
def spOf (K : PySem.W.Frag) (ca : EC → Addr) (s : FSpec) : Sp := fun vs H Q E => ∃ G ds, Same G H ∧ RepAll K G vs ds ∧ ds.length = s.np ∧ s.pre ds ∧
  (∀ o, s.out ds = .ok o → Kop K G H (fun o' => o' = o) Q) ∧
  (∀ C n, s.out ds = .error (C, n) → ∀ dd G' H', Same G G' → Same G' H' → Same H H' → (∀ p, H p ≠ none → G p = none → G' p = none) → H' dd = some (.xd [(("line" : Str), .int n)]) → E (.ref (ca C)) (some dd) H')
def CallOk (CX : CXT) (ca : EC → Addr) (X : Cx) (x : Str) (s : FSpec) : Prop :=
  ∃ (fa : Addr) (fd : FuncData) (ps : List Str) (k : Nat), FnOk X.prog X.w X.K X.mg X.base CX k fa fd ps (spOf X.K ca s) ∧ Room k X.A ∧ X.mg x = some (.ref fa) ∧ PySem.W.keepIn X.K (.ref fa) = true ∧ Binds X.K fd ps []

section
variable (gl : List D) (Φ : Fns) (ca : EC → Addr) (X : Cx) (W : WX)
def Snd (e : Expr) (p : PEx) : Prop := ∀ Γ R E, sem gl Φ p Γ R E → ∀ σ G H F, Sta X.K σ Γ G H F → ∀ Q, Kon X.K σ G H F R Q → Kox X.K ca σ G H F E W → wE X e σ H Q
def SndT (e : Expr) (p : PEx) : Prop := ∀ Γ R E, semT gl Φ p Γ R E → ∀ σ G H F, Sta X.K σ Γ G H F → ∀ Q : Bool → Hp → Prop, (∀ b Γ' G' H' F', Sta X.K σ Γ' G' H' F' → Stp G H F G' H' F' → R b Γ' → Q b H') → Kox X.K ca σ G H F E W → wT X e σ H Q
def SndA (es : List Expr) (ps : List PEx) : Prop := ∀ Γ R E, semA gl Φ ps Γ R E → ∀ σ G H F, Sta X.K σ Γ G H F → ∀ Q : List V → Hp → Prop, (∀ vs ds Γ' G' H' F', Sta X.K σ Γ' G' H' F' → Stp G H F G' H' F' → RepAll X.K G' vs ds → R ds Γ' → Q vs H') → Kox X.K ca σ G H F E W → wA X es σ H Q
def SndO (e : Option Expr) (p : Option PEx) : Prop := ∀ Γ R E, semO gl Φ p Γ R E → ∀ σ G H F, Sta X.K σ Γ G H F → ∀ Q : Option Int → Hp → Prop, (∀ o Γ' G' H' F', Sta X.K σ Γ' G' H' F' → Stp G H F G' H' F' → R o Γ' → Q o H') → Kox X.K ca σ G H F E W → wO X e σ H Q
end
section
variable {gl : List D} {Φ : Fns} {ca : EC → Addr} {X : Cx} {W : WX} {a b e t : Expr} {es : List Expr} {p q r : PEx} {ps : List PEx} {pos : Pos}
/-! ### constants, names -/
def constB : D → Const → Bool
  | .non, .none => true
  | .bl b, .bool c => b == c
  | .int i, .int j => decide (i = j)
  | .str x, .str y => decide (x = y)
  | _, _ => false
theorem snd_c {d : D} {k : Const} {j : Nat} (h : constB d k = true) : Snd gl Φ ca X W (.Constant k j pos) (.c d) := by
  intro Γ R E hs σ G H F st Q kn kx
  unfold sem at hs
  unfold constB at h
  split at h
  · exact wE_of pe_non (kn.val st .non hs)
  · rename_i b c
    have z : b = c := by simpa using h
    subst z
    exact wE_of pe_bl (kn.val st (.bl b) hs)
  · rename_i i j
    have z : i = j := of_decide_eq_true h
    subst z
    exact wE_of pe_int (kn.val st (.int i) hs)
  · rename_i i j
    have z : i = j := of_decide_eq_true h
    subst z
    exact wE_of pe_str (kn.val st (.str i) hs)
  · cases h
theorem snd_var {i : Nat} {x : Str} (hN : X.N[i]? = some x) (hv : Vis X.env.scope x) (hd : (x == ("__debug__" : Str)) = false) (hcd : (x == ("__classdict__" : Str)) = false) : Snd gl Φ ca X W (.Name x pos) (.var i) := by
  intro Γ R E hs σ G H F st Q kn kx
  refine wE_of (pe_var hN hv hd hcd) ?_
  unfold sem at hs
  split at hs
  · rename_i d e
    rcases st.env.ent i _ e with z | ⟨v, h1, h2⟩
    · cases z
    · exact ⟨v, h1, kn.val st h2.sh_inv.1 hs⟩
  · rename_i w e
    rcases st.env.ent i _ e with z | ⟨v, h1, h2⟩
    · cases z
    · obtain ⟨e1, _⟩ := h2.rw_inv
      subst e1
      exact ⟨v, h1, kn v (.rw v) [] Γ G H F st Stp.refl .rw (fun _ z => nomatch z) (fun _ z => nomatch z) hs⟩
  · rename_i o _ _ e
    obtain ⟨d, hd, hs⟩ := hs
    rcases st.env.ent i _ e with z | ⟨v, h1, h2⟩
    · subst z; simp [asD] at hd
    · obtain ⟨st', sp, rp⟩ := st.pubAt e h1 h2 hd
      exact ⟨v, h1, (kn.step sp).val st' rp hs⟩
  · exact hs.elim
theorem snd_mov {i : Nat} {x : Str} (hN : X.N[i]? = some x) (hv : Vis X.env.scope x) (hd : (x == ("__debug__" : Str)) = false) (hcd : (x == ("__classdict__" : Str)) = false) : Snd gl Φ ca X W (.Name x pos) (.mov i) := by
  intro Γ R E hs σ G H F st Q kn kx
  refine wE_of (pe_var hN hv hd hcd) ?_
  unfold sem at hs
  split at hs
  · exact hs.elim
  · rename_i o ne e
    rcases st.env.ent i _ e with z | ⟨v, h1, h2⟩
    · exact absurd z ne
    · refine ⟨v, h1, kn v o (F i) (Γ.set i .un) G H (setF F i []) (st.unset i) Stp.refl.unset h2 (fun q hq j hj => ?_) (fun q hq => .inl ⟨i, hq⟩) hs⟩
      by_cases z : j = i
      · subst z; rw [setF_same] at hj; exact nomatch hj
      · rw [setF_ne z] at hj; exact z (st.env.dis j i q hj hq)
  · exact hs.elim
theorem snd_glb {k : Nat} {x : Str} {v : V} {u : Value} (hg : Gl X x) (hm : X.mg x = some u) (rv : RelV v u) (hk : ∀ d, gl[k]? = some d → ∀ G, Rep X.K G v d) (hd : (x == ("__debug__" : Str)) = false) : Snd gl Φ ca X W (.Name x pos) (.glb k) := by
  intro Γ R E hs σ G H F st Q kn kx
  unfold sem at hs
  obtain ⟨d, e, hs⟩ := hs
  exact wE_of (pe_glob hg hm rv hd) (kn.val st (hk d e G) hs)
/-! ### operators -/
theorem snd_bin {op : Bop} (ha : Snd gl Φ ca X W a p) (hb : Snd gl Φ ca X W b q) : Snd gl Φ ca X W (.BinOp a (bopOp op) b pos) (.bin op p q) := by
  intro Γ R E hs σ G H F st Q kn kx
  unfold sem at hs
  refine wE_of (pe_op op_w pe_w pe_w) ?_
  refine ha Γ _ E hs σ G H F st _ (kon_D fun v d Γ1 G1 H1 F1 st1 sp1 r1 hs1 => ?_) kx
  refine hb Γ1 _ E hs1 σ G1 H1 F1 st1 _ (kon_D fun v2 d2 Γ2 G2 H2 F2 st2 sp2 r2 hs2 => ?_) (kx.step sp1)
  exact bin_ok st2.gh (r1.mono sp2.gg) r2 hs2 (kop_of st2 (kn.step (sp1.trans sp2)))
theorem snd_cmp (hu : X.A.units + 64 < cLine) {op : CmpOp} (hm : behindInMarks op b = false) (ha : Snd gl Φ ca X W a p) (hb : Snd gl Φ ca X W b q) : Snd gl Φ ca X W (.Compare a [op] [b] pos) (.cmp op p q) := by
  intro Γ R E hs σ G H F st Q kn kx
  unfold sem at hs
  refine wE_of (pe_cmpR op_w pe_w pe_w hm) ?_
  refine ha Γ _ E hs σ G H F st _ (kon_D fun v d Γ1 G1 H1 F1 st1 sp1 r1 hs1 => ?_) kx
  refine hb Γ1 _ E hs1 σ G1 H1 F1 st1 _ (kon_D fun v2 d2 Γ2 G2 H2 F2 st2 sp2 r2 hs2 => ?_) (kx.step sp1)
  exact cmp_ok hu st2.gh (r1.mono sp2.gg) r2 hs2 fun z hz => (kn.step (sp1.trans sp2)).val st2 (.bl z) hz
/-- a value that is known -/
theorem kon_is {K : PySem.W.Frag} {σ : L2.St} {G H : Hp} {F : Nat → List Addr} {Q : VK} {f : Nat → Prop} {R' : Bool → List O → Prop} (k : ∀ x Γ' G' H' F', Sta K σ Γ' G' H' F' → Stp G H F G' H' F' → R' x Γ' → Q (.bl x) H') :
    Kon K σ G H F (fun o Γ1 => ∃ x, o = .sh (.bl x) ∧ R' x Γ1) Q := fun v o S Γ' G' H' F' st sp r _ _ ⟨x, e, h⟩ => by
  subst e
  obtain ⟨r, _⟩ := r.sh_inv
  cases r
  exact k x Γ' G' H' F' st sp h
theorem kon_int {K : PySem.W.Frag} {σ : L2.St} {G H : Hp} {F : Nat → List Addr} {Q : VK} {R' : Int → List O → Prop} (k : ∀ x Γ' G' H' F', Sta K σ Γ' G' H' F' → Stp G H F G' H' F' → R' x Γ' → Q (.int x) H') :
    Kon K σ G H F (fun o Γ1 => ∃ x, o = .sh (.int x) ∧ R' x Γ1) Q := fun v o S Γ' G' H' F' st sp r _ _ ⟨x, e, h⟩ => by
  subst e
  obtain ⟨r, _⟩ := r.sh_inv
  cases r
  exact k x Γ' G' H' F' st sp h
theorem snd_and {rest : List Expr} (ha : Snd gl Φ ca X W a p) (hb : Snd gl Φ ca X W (.BoolOp .And (b :: rest) pos) q) : Snd gl Φ ca X W (.BoolOp .And (a :: b :: rest) pos) (.and p q) := by
  intro Γ R E hs σ G H F st Q kn kx
  unfold sem at hs
  refine wE_of (pe_and pe_w pe_w) ?_
  refine ha Γ _ E hs σ G H F st _ (kon_is (f := fun _ => True) fun x Γ1 G1 H1 F1 st1 sp1 hs1 => ⟨x, rfl, ?_⟩) kx
  cases x with
  | true => exact iteT (hb Γ1 R E hs1 σ G1 H1 F1 st1 Q (kn.step sp1) (kx.step sp1))
  | false => exact iteF ((kn.step sp1).val st1 (.bl false) hs1)
theorem snd_or {rest : List Expr} (ha : Snd gl Φ ca X W a p) (hb : Snd gl Φ ca X W (.BoolOp .Or (b :: rest) pos) q) : Snd gl Φ ca X W (.BoolOp .Or (a :: b :: rest) pos) (.or p q) := by
  intro Γ R E hs σ G H F st Q kn kx
  unfold sem at hs
  refine wE_of (pe_or pe_w pe_w) ?_
  refine ha Γ _ E hs σ G H F st _ (kon_is (f := fun _ => True) fun x Γ1 G1 H1 F1 st1 sp1 hs1 => ⟨x, rfl, ?_⟩) kx
  cases x with
  | true => exact iteT ((kn.step sp1).val st1 (.bl true) hs1)
  | false => exact iteF (hb Γ1 R E hs1 σ G1 H1 F1 st1 Q (kn.step sp1) (kx.step sp1))
theorem snd_one {op : BoolOp} (ha : Snd gl Φ ca X W a p) : Snd gl Φ ca X W (.BoolOp op [a] pos) p := fun Γ R E hs σ G H F st Q kn kx => wE_of (pe_one pe_w) (ha Γ R E hs σ G H F st Q kn kx)
theorem snd_not (ha : Snd gl Φ ca X W a p) : Snd gl Φ ca X W (.UnaryOp .Not a pos) (.not p) := by
  intro Γ R E hs σ G H F st Q kn kx
  unfold sem at hs
  refine wE_of (pe_not pe_w) ?_
  exact ha Γ _ E hs σ G H F st _ (kon_is (f := fun _ => True) fun x Γ1 G1 H1 F1 st1 sp1 hs1 => ⟨x, rfl, (kn.step sp1).val st1 (.bl _) hs1⟩) kx
theorem snd_neg (ha : Snd gl Φ ca X W a p) : Snd gl Φ ca X W (.UnaryOp .USub a pos) (.neg p) := by
  intro Γ R E hs σ G H F st Q kn kx
  unfold sem at hs
  refine wE_of (pe_un un_neg pe_w) ?_
  exact ha Γ _ E hs σ G H F st _ (kon_int fun x Γ1 G1 H1 F1 st1 sp1 hs1 => ⟨x, rfl, (kn.step sp1).val st1 (.int _) hs1⟩) kx
theorem snd_ifx (ht : SndT gl Φ ca X W t p) (ha : Snd gl Φ ca X W a q) (hb : Snd gl Φ ca X W b r) : Snd gl Φ ca X W (.IfExp t a b pos) (.ifx p q r) := by
  intro Γ R E hs σ G H F st Q kn kx
  unfold sem at hs
  refine wE_of (pe_ifExp pt_w pe_w pe_w) ?_
  refine ht Γ (fun x Γ1 => if x = true then sem gl Φ q Γ1 R E else sem gl Φ r Γ1 R E) E hs σ G H F st _ (fun x Γ1 G1 H1 F1 st1 sp1 hs1 => ?_) kx
  cases x with
  | true => exact iteT (ha Γ1 R E hs1 σ G1 H1 F1 st1 Q (kn.step sp1) (kx.step sp1))
  | false => exact iteF (hb Γ1 R E hs1 σ G1 H1 F1 st1 Q (kn.step sp1) (kx.step sp1))
/-! ### arguments, displays -/
theorem snda_nil : SndA gl Φ ca X W [] [] := by
  intro Γ R E hs σ G H F st Q kn kx
  unfold semA at hs
  exact wA_of pa_nil (kn [] [] Γ G H F st Stp.refl .nil hs)
def notStar : Expr → Bool
  | .Starred _ _ => false
  | _ => true
theorem star_ok {env : Env} (h : notStar e = true) : starEach (e :: es) env = (false, eval e env) :: starEach es env := by
  cases e <;> first | (simp [notStar] at h; done) | rfl
theorem noStar_any {env : Env} : ∀ {es : List Expr}, es.all notStar = true → (backTo pos (starEach es env)).any (·.1) = false
  | [], _ => rfl
  | e :: es, h => by
    simp only [List.all_cons, Bool.and_eq_true] at h
    rw [star_ok h.1]
    show (false || (backTo pos (starEach es env)).any (·.1)) = false
    rw [noStar_any h.2]
    rfl
theorem noStar_all {env : Env} : ∀ {es : List Expr}, es.all notStar = true → (backTo pos (starEach es env)).all (fun x => !x.1) = true
  | [], _ => rfl
  | e :: es, h => by
    simp only [List.all_cons, Bool.and_eq_true] at h
    rw [star_ok h.1]
    show (true && (backTo pos (starEach es env)).all (fun x => !x.1)) = true
    rw [noStar_all h.2]
    rfl
theorem snda_cons (hn : notStar e = true) (ha : Snd gl Φ ca X W e p) (hr : SndA gl Φ ca X W es ps) : SndA gl Φ ca X W (e :: es) (p :: ps) := by
  intro Γ R E hs σ G H F st Q kn kx
  unfold semA at hs
  refine wA_of (pa_cons pe_w pa_w (star_ok hn)) ?_
  refine ha Γ _ E hs σ G H F st _ (kon_D fun v d Γ1 G1 H1 F1 st1 sp1 r1 hs1 => ?_) kx
  exact hr Γ1 _ E hs1 σ G1 H1 F1 st1 _ (fun vs ds Γ2 G2 H2 F2 st2 sp2 r2 hs2 => kn (v :: vs) (d :: ds) Γ2 G2 H2 F2 st2 (sp1.trans sp2) (.cons (r1.mono sp2.gg) r2) hs2) (kx.step sp1)
theorem snd_tup {k : Nat} (hr : SndA gl Φ ca X W es ps) : Snd gl Φ ca X W (.Tuple es k pos) (.tup ps) := by
  intro Γ R E hs σ G H F st Q kn kx
  unfold sem at hs
  refine wE_of (pe_tup pa_w) ?_
  exact hr Γ _ E hs σ G H F st _ (fun vs ds Γ1 G1 H1 F1 st1 sp1 r1 hs1 => ⟨sizeLine_le (by rw [r1.len]; exact hs1.1), fun p hp => (kop_of st1 (kn.step sp1)).tup st1.gh hp r1 hs1.2⟩) kx
theorem snd_lst (hr : SndA gl Φ ca X W es ps) : Snd gl Φ ca X W (.List es pos) (.lst ps) := by
  intro Γ R E hs σ G H F st Q kn kx
  unfold sem at hs
  refine wE_of (pe_lst pa_w) ?_
  exact hr Γ _ E hs σ G H F st _ (fun vs ds Γ1 G1 H1 F1 st1 sp1 r1 hs1 => ⟨sizeLine_le (by rw [r1.len]; exact hs1.1), fun p hp => (kop_of st1 (kn.step sp1)).lst st1.gh hp r1 hs1.2⟩) kx
theorem snd_lst1 (hn : notStar e = true) (ha : Snd gl Φ ca X W e p) : Snd gl Φ ca X W (.List [e] pos) (.lst1 p) := by
  intro Γ R E hs σ G H F st Q kn kx
  unfold sem at hs
  refine wE_of (pe_lst (pa_cons pe_w pa_nil (star_ok hn))) ?_
  refine ha Γ _ E hs σ G H F st _ (fun v o S Γ1 G1 H1 F1 st1 sp1 r1 d1 d2 hs1 => ⟨by show 1 ≤ sizeLine; decide, fun q hq => ?_⟩) kx
  have nS : q ∉ S := fun z => (r1.foot q z).2 hq
  obtain ⟨st2, sp2⟩ := st1.grow (same_upd (o := .lst [v]) hq)
  refine kn (.ref q) (.lst [o]) (q :: S) Γ1 G1 _ F1 st2 (sp1.trans sp2) (.lst (st1.gh.free hq) upd_same (ORepAll.one (r1.keep (Same.refl G1) (fun p hp => (r1.foot p hp).1) fun p u hp e => same_upd hq p u e)) nS) (fun p hp i hi => ?_) (fun p hp => ?_) hs1
  · rcases List.mem_cons.mp hp with rfl | z
    · exact (st1.env.own i p hi).2 hq
    · exact d1 p z i hi
  · rcases List.mem_cons.mp hp with rfl | z
    · exact sp1.back (.inr hq)
    · exact d2 p z
/-! ### subscripts, slices -/
def plainIxB : Expr → Bool
  | .Slice _ _ none _ => false
  | _ => true
theorem plainIx_ok (h : plainIxB b = true) : PlainIx b := by
  intro o i
  cases b <;> first | rfl | skip
  rename_i l u s p
  cases s with
  | none => simp [plainIxB] at h
  | some _ => rfl
theorem snd_sub (hu : X.A.units + 64 < cLine) (hx : plainIxB b = true) (ha : Snd gl Φ ca X W a p) (hb : Snd gl Φ ca X W b q) : Snd gl Φ ca X W (.Subscript a b pos) (.sub p q) := by
  intro Γ R E hs σ G H F st Q kn kx
  unfold sem at hs
  refine wE_of (pe_ix ix_w pe_w pe_w (plainIx_ok hx)) ?_
  refine ha Γ _ E hs σ G H F st _ (kon_D fun v d Γ1 G1 H1 F1 st1 sp1 r1 hs1 => ?_) kx
  refine hb Γ1 _ E hs1 σ G1 H1 F1 st1 _ (kon_D fun v2 d2 Γ2 G2 H2 F2 st2 sp2 r2 hs2 => ?_) (kx.step sp1)
  exact sub_ok hu st2.gh (r1.mono sp2.gg) r2 hs2 (kop_of st2 (kn.step (sp1.trans sp2)))
theorem sndo_none : SndO gl Φ ca X W none none := by
  intro Γ R E hs σ G H F st Q kn kx
  unfold semO at hs
  exact wO_of po_none (kn none Γ G H F st Stp.refl hs)
theorem sndo_some (ha : Snd gl Φ ca X W e p) : SndO gl Φ ca X W (some e) (some p) := by
  intro Γ R E hs σ G H F st Q kn kx
  unfold semO at hs
  refine wO_of (po_some pe_w) ?_
  exact ha Γ _ E hs σ G H F st _ (kon_int fun x Γ1 G1 H1 F1 st1 sp1 hs1 => ⟨x, rfl, kn (some x) Γ1 G1 H1 F1 st1 sp1 hs1⟩) kx
theorem snd_slc {lo hi : Option Expr} {pl ph : Option PEx} {p2 : Pos} (ha : Snd gl Φ ca X W a p) (hl : SndO gl Φ ca X W lo pl) (hh : SndO gl Φ ca X W hi ph) : Snd gl Φ ca X W (.Subscript a (.Slice lo hi none p2) pos) (.slc p pl ph) := by
  intro Γ R E hs σ G H F st Q kn kx
  unfold sem at hs
  refine wE_of (pe_slice sl_w pe_w po_w po_w) ?_
  refine ha Γ _ E hs σ G H F st _ (kon_D fun v d Γ1 G1 H1 F1 st1 sp1 r1 hs1 => ?_) kx
  refine hl Γ1 _ E hs1 σ G1 H1 F1 st1 _ (fun l Γ2 G2 H2 F2 st2 sp2 hs2 => ?_) (kx.step sp1)
  refine hh Γ2 _ E hs2 σ G2 H2 F2 st2 _ (fun u Γ3 G3 H3 F3 st3 sp3 hs3 => ?_) (kx.step (sp1.trans sp2))
  exact slc_ok st3.gh (r1.mono (sp2.gg.trans sp3.gg)) hs3 (kop_of st3 (kn.step ((sp1.trans sp2).trans sp3)))
/-! ### calls -/
theorem snd_cal {CX : CXT} {f : Nat} {x : Str} {pc : Pos} (hc : ∃ s : FSpec, Φ f = some s ∧ CallOk CX ca X x s) (hg : Gl X x) (hd : (x == ("__debug__" : Str)) = false) (hW : ∀ σ, PassesAt CX X σ (WE W σ)) (hn : (e :: es).all notStar = true)
    (hr : SndA gl Φ ca X W (e :: es) ps) : Snd gl Φ ca X W (.Call (.Name x pc) (e :: es) [] pos) (.cal f ps) := by
  intro Γ R E hs σ G H F st Q kn kx
  unfold sem at hs
  have hn2 := hn
  simp only [List.all_cons, Bool.and_eq_true] at hn2
  obtain ⟨s, ef, fa, fd, nps, k, FO, hr', hm, hk, hb⟩ := hc
  refine wE_of (pe_callS (E := WE W) FO hr' hg hm hk hb hW pa_w hd (star_ok hn2.1) (noStar_any hn2.2)) ?_
  refine hr Γ _ E hs σ G H F st _ (fun vs ds Γ1 G1 H1 F1 st1 sp1 r1 hs1 => ?_) kx
  obtain ⟨s', ef', hl, hp, hs1⟩ := hs1
  rw [ef] at ef'
  cases ef'
  refine ⟨G1, ds, st1.gh, r1, hl, hp, fun o eo => ?_, fun C n ee dd G' H' e1 e2 e3 e4 hx => ?_⟩
  · rw [eo] at hs1
    exact fun v o' S G' H' e1 e2 e3 e4 r hS eo' => (kop_of st1 (kn.step sp1)) v o' S G' H' e1 e2 e3 e4 r hS (by rw [eo']; exact hs1)
  · rw [ee] at hs1
    obtain ⟨st2, sp2⟩ := st1.growG e1 e2 e3 e4
    exact kx C n Γ1 G' H' F1 dd st2 (sp1.trans sp2) hx hs1
theorem snd_prm (hc : X.calm = true) {f : Prm} {x : Str} {pc : Pos} (hx : x = prmName f) (hg : Gl X x) (hm : X.mg x = none) (hn : (e :: es).all notStar = true) (hr : SndA gl Φ ca X W (e :: es) ps) :
    Snd gl Φ ca X W (.Call (.Name x pc) (e :: es) [] pos) (.prm f ps) := by
  intro Γ R E hs σ G H F st Q kn kx
  unfold sem at hs
  subst hx
  have hn2 := hn
  simp only [List.all_cons, Bool.and_eq_true] at hn2
  have key : tCB (wCall X (prmV f)) (wA X (e :: es)) σ H Q := hr Γ _ E hs σ G H F st _ (fun vs ds Γ1 G1 H1 F1 st1 sp1 r1 hs1 => prm_ok hc st1.gh r1 hs1 (kop_of st1 (kn.step sp1))) kx
  have hb := prm_boot f
  cases f <;> first
    | exact wE_of (pe_callB call_w hg hm hb pa_w (prm_nm _) (prm_db _) (star_ok hn2.1) (noStar_any hn2.2)) key
    | exact wE_of (pe_callTy call_w hg hm hb pa_w (prm_nm _) (prm_db _) (star_ok hn2.1) (noStar_any hn2.2)) key
/-- no call of super() -/
def plainBase : Expr → Bool
  | .Call (.Name _ _) [] [] _ => false
  | _ => true
theorem base_ok {env : Env} {n : Str} {w : Sem Value} (h : plainBase e = true) : attributeBase e n env w = w := by
  unfold attributeBase
  split
  · simp [plainBase] at h
  · rfl
theorem few_ok {env : Env} (hn : (e :: es).all notStar = true) (hl : decide ((e :: es).length < 30) = true) : ((backTo pos (starEach (e :: es) env)).all (fun x => !x.1) && (backToKw pos (keywordEach [] env)).all (fun x => x.1.isSome)
      && decide ((e :: es).length + ([] : List Keyword).length + (if ([] : List Keyword).isEmpty then 0 else 1) < 30)) = true := by
  rw [noStar_all hn]
  show (true && true && decide ((e :: es).length + 0 + 0 < 30)) = true
  simpa using hl
theorem snd_mth {m : Mth} {n : Str} {apos : Pos} (hu : X.A.units + 64 < cLine) (hx : n = mthName m) (hb : plainBase a = true) (hl : (apos.endLine == pos.line) = true) (h30 : decide ((e :: es).length < 30) = true) (hn : (e :: es).all notStar = true)
    (ha : Snd gl Φ ca X W a p) (hr : SndA gl Φ ca X W (e :: es) ps) : Snd gl Φ ca X W (.Call (.Attribute a n apos) (e :: es) [] pos) (.mth m p ps) := by
  intro Γ R E hs σ G H F st Q kn kx
  unfold sem at hs
  subst hx
  have hn2 := hn
  simp only [List.all_cons, Bool.and_eq_true] at hn2
  refine wE_of (pe_bm (mth_attrs m) (mth_slot m) (mth_type m) mt_w pe_w pa_w (base_ok hb) (few_ok hn h30) hl (star_ok hn2.1) (noStar_any hn2.2)) ?_
  refine ha Γ _ E hs σ G H F st _ (kon_D fun v d Γ1 G1 H1 F1 st1 sp1 r1 hs1 => ⟨mth_rc st1.gh r1 hs1.1, ?_⟩) kx
  exact hr Γ1 _ E hs1.2 σ G1 H1 F1 st1 _ (fun vs ds Γ2 G2 H2 F2 st2 sp2 r2 hs2 => mth_ok hu st2.gh (r1.mono sp2.gg) r2 hs2 (kop_of st2 (kn.step (sp1.trans sp2)))) (kx.step sp1)
theorem isi_boot : ∀ t : String, (t = "int" ∨ t = "bool" ∨ t = "str" ∨ t = "list" ∨ t = "tuple") → bootBuiltins (PySem.Str.ofString t) = some (.type t) ∧ PySem.Str.ofString t ≠ "__name__" ∧ ((PySem.Str.ofString t) == ("__debug__" : Str)) = false := by
  rintro t (rfl | rfl | rfl | rfl | rfl) <;> exact ⟨by decide +kernel, by decide +kernel, by decide +kernel⟩
def isiT (t : String) : Bool := decide (t = "int" ∨ t = "bool" ∨ t = "str" ∨ t = "list" ∨ t = "tuple")
theorem snd_isi {T : String} {y : Str} {pc py : Pos} (hT : isiT T = true) (hy : y = PySem.Str.ofString T) (hg : Gl X "isinstance") (hm : X.mg "isinstance" = none) (hgy : Gl X y) (hmy : X.mg y = none) (hn : notStar e = true) (ha : Snd gl Φ ca X W e p) :
    Snd gl Φ ca X W (.Call (.Name "isinstance" pc) [e, .Name y py] [] pos) (.isi p T) := by
  intro Γ R E hs σ G H F st Q kn kx
  unfold sem at hs
  subst hy
  obtain ⟨b1, b2, b3⟩ := isi_boot T (of_decide_eq_true hT)
  refine wE_of (pe_callB call_isi hg hm (by decide +kernel) (pa_cons pe_w (pa_cons (pe_bltn (v := .ty T) hgy hmy b1 rfl b2 b3) pa_nil) (star_ok hn)) (he := star_ok hn)) ?_
  refine ha Γ _ E hs σ G H F st _ (fun v o S Γ1 G1 H1 F1 st1 sp1 r1 d1 d2 hs1 => ?_) kx
  obtain ⟨x, b, e1, e2, hs1⟩ := hs1
  obtain ⟨k1, k2⟩ := isi_kit e2
  have hg1 : ∀ p, p ∈ S → G1 p = none := fun p hp => (r1.foot p hp).1
  have rp : Rep X.K (pubG G1 H1 S) v x := r1.pub (pubG_same hg1) e1 fun p hp => pubG_in hp
  exact ⟨v, .ty T, .type (tyN x), .type T, b, rfl, .ty T, rep_ty (pubG_sub st1.gh) rp k2, kit_ty k1, (kn.step sp1).val st1 (.bl b) hs1⟩
/-! ### lists that grow -/
theorem snd_app {i : Nat} {x : Str} {px apos : Pos} (hN : X.N[i]? = some x) (hv : Vis X.env.scope x) (hd : (x == ("__debug__" : Str)) = false) (hcd : (x == ("__classdict__" : Str)) = false) (hl : (apos.endLine == pos.line) = true) (hn : notStar e = true)
    (ha : Snd gl Φ ca X W e p) : Snd gl Φ ca X W (.Call (.Attribute (.Name x px) "append" apos) [e] [] pos) (.app i p) := by
  intro Γ R E hs σ G H F st Q kn kx
  unfold sem at hs
  obtain ⟨⟨os, e0⟩, hs⟩ := hs
  refine wE_of (pe_bm PySem.F.plainAttrs_list PySem.F.slot_list_append PySem.F.type_list_append mt_append (pe_var hN hv hd hcd) (pa_cons pe_w pa_nil (star_ok hn)) (base_ok rfl) (few_ok (by simp [hn]) rfl) hl (star_ok hn) rfl) ?_
  rcases st.env.ent i _ e0 with z | ⟨v, h1, h2⟩
  · cases z
  obtain ⟨l, vs, S', rfl, eS, hg, hh, ra, nl⟩ := h2.lst_inv
  refine ⟨.ref l, h1, .inl ⟨rfl, vs, SqL.of hh⟩, ?_⟩
  refine ha Γ _ E hs σ G H F st _ (fun y o S Γ1 G1 H1 F1 st1 sp1 r1 d1 d2 hs1 => ?_) kx
  obtain ⟨os1, e1, hz, hs1⟩ := hs1
  rcases st1.env.ent i _ e1 with z | ⟨v', h3, h4⟩
  · cases z
  rw [h1] at h3
  cases h3
  obtain ⟨l', vs1, S1, el, eS1, hg1, hh1, ra1, nl1⟩ := h4.lst_inv
  cases el
  have hlen : i < Γ1.length := by
    rcases Nat.lt_or_ge i Γ1.length with z | z
    · exact z
    · rw [List.getElem?_eq_none_iff.mpr z] at e1; cases e1
  have hlF : l ∈ F1 i := by rw [eS1]; exact List.mem_cons_self
  have nlS : l ∉ S := fun z => d1 l z i hlF
  have dis : ∀ q, q ∈ S1 → q ∉ S := fun q hq z => d1 q z i (by rw [eS1]; exact List.mem_cons_of_mem _ hq)
  refine ⟨l, vs1, y, rfl, rfl, hh1, sizeLine_lt (by rw [ra1.len]; exact hz), ?_⟩
  have up : ∀ q u, q ≠ l → H1 q = some u → upd H1 l (.lst (vs1 ++ [y])) q = some u := fun q u hq e => by rw [upd_ne hq]; exact e
  have rn : ORep X.K G1 (upd H1 l (.lst (vs1 ++ [y]))) (.ref l) (.lst (os1 ++ [o])) (l :: (S1 ++ S)) := .lst hg1 upd_same
    (ORepAll.append (ra1.keep (Same.refl _) (fun q hq => (ra1.foot q hq).1) fun q u hq e => up q u (fun z => nl1 (z ▸ hq)) e)
      (ORepAll.one (r1.keep (Same.refl _) (fun q hq => (r1.foot q hq).1) fun q u hq e => up q u (fun z => nlS (z ▸ hq)) e)) dis)
    (fun z => (List.mem_append.mp z).elim nl1 nlS)
  have hS : ∀ q, q ∈ l :: (S1 ++ S) → q ∈ F1 i ∨ q ∈ S := fun q hq => by
    rw [eS1]
    rcases List.mem_cons.mp hq with rfl | z
    · exact .inl List.mem_cons_self
    · rcases List.mem_append.mp z with z | z
      · exact .inl (List.mem_cons_of_mem _ z)
      · exact .inr z
  exact kn .non (.sh .non) [] _ G1 _ _ (st1.mut hlF hlen h1 rn fun q hq => (hS q hq).imp id fun z j => d1 q z j) (sp1.mut hlF fun q hq => (hS q hq).elim (fun z => sp1.ff i q z) fun z => d2 q z) (.sh .non) (fun _ z => nomatch z) (fun _ z => nomatch z) hs1
theorem snd_ext {i : Nat} {x : Str} {px apos : Pos} (hN : X.N[i]? = some x) (hv : Vis X.env.scope x) (hd : (x == ("__debug__" : Str)) = false) (hcd : (x == ("__classdict__" : Str)) = false) (hl : (apos.endLine == pos.line) = true) (hn : notStar e = true)
    (ha : Snd gl Φ ca X W e p) : Snd gl Φ ca X W (.Call (.Attribute (.Name x px) "extend" apos) [e] [] pos) (.ext i p) := by
  intro Γ R E hs σ G H F st Q kn kx
  unfold sem at hs
  obtain ⟨⟨os, e0⟩, hs⟩ := hs
  refine wE_of (pe_bm PySem.F.plainAttrs_list PySem.F.slot_list_extend PySem.F.type_list_extend mt_extend (pe_var hN hv hd hcd) (pa_cons pe_w pa_nil (star_ok hn)) (base_ok rfl) (few_ok (by simp [hn]) rfl) hl (star_ok hn) rfl) ?_
  rcases st.env.ent i _ e0 with z | ⟨v, h1, h2⟩
  · cases z
  obtain ⟨l, vs, S', rfl, eS, hg, hh, ra, nl⟩ := h2.lst_inv
  refine ⟨.ref l, h1, .inl ⟨rfl, vs, SqL.of hh⟩, ?_⟩
  have hs' : sem gl Φ p Γ (fun o Γ1 => ∃ d, asD o = some d ∧ ∃ ds os, d = .lst ds ∧ Γ1[i]? = some (.lst os) ∧ os.length + ds.length ≤ 16777216 ∧ R (.sh .non) (Γ1.set i (.lst (os ++ ds.map .sh)))) E := by
    have e : (fun (o : O) (Γ1 : List O) => ∃ ds os, asD o = some (.lst ds) ∧ Γ1[i]? = some (.lst os) ∧ os.length + ds.length ≤ 16777216 ∧ R (.sh .non) (Γ1.set i (.lst (os ++ ds.map .sh)))) = (fun (o : O) (Γ1 : List O) => ∃ d, asD o = some d ∧ ∃ ds os, d = .lst ds ∧ Γ1[i]? = some (.lst os) ∧ os.length + ds.length ≤ 16777216 ∧ R (.sh .non) (Γ1.set i (.lst (os ++ ds.map .sh)))) := by
      funext o Γ1
      apply propext
      constructor
      · rintro ⟨ds, os, a1, a2, a3, a4⟩
        exact ⟨_, a1, ds, os, rfl, a2, a3, a4⟩
      · rintro ⟨d, a1, ds, os, rfl, a2, a3, a4⟩
        exact ⟨ds, os, a1, a2, a3, a4⟩
    rw [← e]
    exact hs
  refine ha Γ _ E hs' σ G H F st _ (kon_D fun y d Γ1 G1 H1 F1 st1 sp1 r1 hs1 => ?_) kx
  obtain ⟨ds, os1, rfl, e1, hz, hs1⟩ := hs1
  rcases st1.env.ent i _ e1 with z | ⟨v', h3, h4⟩
  · cases z
  rw [h1] at h3
  cases h3
  obtain ⟨l', vs1, S1, el, eS1, hg1, hh1, ra1, nl1⟩ := h4.lst_inv
  cases el
  have hlen : i < Γ1.length := by
    rcases Nat.lt_or_ge i Γ1.length with z | z
    · exact z
    · rw [List.getElem?_eq_none_iff.mpr z] at e1; cases e1
  have hlF : l ∈ F1 i := by rw [eS1]; exact List.mem_cons_self
  cases r1 with | lst g1 q1 =>
  rename_i b ws
  refine ⟨l, b, vs1, ws, rfl, rfl, hh1, st1.gh _ _ g1, sizeLine_le (by rw [ra1.len, q1.len]; exact hz), ?_⟩
  have up : ∀ q u, q ≠ l → H1 q = some u → upd H1 l (.lst (vs1 ++ ws)) q = some u := fun q u hq e => by rw [upd_ne hq]; exact e
  have rn : ORep X.K G1 (upd H1 l (.lst (vs1 ++ ws))) (.ref l) (.lst (os1 ++ ds.map .sh)) (l :: (S1 ++ [])) := .lst hg1 upd_same
    (ORepAll.append (ra1.keep (Same.refl _) (fun q hq => (ra1.foot q hq).1) fun q u hq e => up q u (fun z => nl1 (z ▸ hq)) e)
      (ORepAll.of_sh q1) fun _ _ z => nomatch z)
    (by rw [List.append_nil]; exact nl1)
  rw [List.append_nil] at rn
  exact kn .non (.sh .non) [] _ G1 _ _ (st1.mut hlF hlen h1 rn fun q hq => .inl (by rw [eS1]; exact hq)) (sp1.mut hlF fun q hq => sp1.ff i q (by rw [eS1]; exact hq)) (.sh .non) (fun _ z => nomatch z) (fun _ z => nomatch z) hs1
theorem orepAll_last {K : PySem.W.Frag} {G H : Hp} : ∀ {vs : List V} {os : List O} {o : O} {S : List Addr}, ORepAll K G H vs (os ++ [o]) S → ∃ ws v S1 S2, vs = ws ++ [v] ∧ S = S1 ++ S2 ∧ ORepAll K G H ws os S1 ∧ ORep K G H v o S2 ∧ ∀ p, p ∈ S1 → p ∉ S2
  | _, [], o, _, .cons (S1 := S1) (S2 := S2) h r n => by
    cases r
    exact ⟨[], _, [], S1, rfl, by simp, .nil, h, fun _ z => nomatch z⟩
  | _, o' :: os, o, _, .cons (S1 := S1) (S2 := S2) h r n => by
    obtain ⟨ws, v, T1, T2, rfl, rfl, h1, h2, h3⟩ := orepAll_last r
    refine ⟨_ :: ws, v, S1 ++ T1, T2, rfl, by rw [List.append_assoc], .cons h h1 fun p hp hq => n p hp (List.mem_append_left _ hq), h2, fun p hp => ?_⟩
    rcases List.mem_append.mp hp with z | z
    · exact fun q => n p z (List.mem_append_right _ q)
    · exact h3 p z
theorem snd_appL {i j : Nat} {x y : Str} {px py p1 p2 p3 apos : Pos} {k : Nat} (hN : X.N[i]? = some x) (hv : Vis X.env.scope x) (hd : (x == ("__debug__" : Str)) = false) (hcd : (x == ("__classdict__" : Str)) = false) (hN' : X.N[j]? = some y) (hv' : Vis X.env.scope y) (hd' : (y == ("__debug__" : Str)) = false) (hcd' : (y == ("__classdict__" : Str)) = false)
    (hl : (apos.endLine == pos.line) = true) : Snd gl Φ ca X W (.Call (.Attribute (.Subscript (.Name x px) (.UnaryOp .USub (.Constant (.int 1) k p1) p2) p3) "append" apos) [.Name y py] [] pos) (.appL i j) := by
  intro Γ R E hs σ G H F st Q kn kx
  unfold sem at hs
  obtain ⟨os, ps', d, e0, ej, hz, hs⟩ := hs
  refine wE_of (pe_bm PySem.F.plainAttrs_list PySem.F.slot_list_append PySem.F.type_list_append mt_append (pe_ix ix_list (pe_var hN hv hd hcd) (pe_un un_neg pe_int) (plainIx_ok rfl)) (pa_cons (pe_var hN' hv' hd' hcd') pa_nil) (base_ok rfl) (few_ok rfl rfl) hl rfl rfl) ?_
  rcases st.env.ent i _ e0 with z | ⟨v, h1, h2⟩
  · cases z
  rcases st.env.ent j _ ej with z | ⟨w, h3, h4⟩
  · cases z
  obtain ⟨rw', _⟩ := h4.sh_inv
  obtain ⟨l, vs, S', rfl, eS, hg, hh, ra, nl⟩ := h2.lst_inv
  obtain ⟨us, u, S1, S2, rfl, rfl, ra1, ra2, dS⟩ := orepAll_last ra
  obtain ⟨m, ms, S3, rfl, rfl, hgm, hhm, ram, nm⟩ := ra2.lst_inv
  have hlen : i < Γ.length := by
    rcases Nat.lt_or_ge i Γ.length with z | z
    · exact z
    · rw [List.getElem?_eq_none_iff.mpr z] at e0; cases e0
  have hmF : m ∈ F i := by rw [eS]; exact List.mem_cons_of_mem _ (List.mem_append_right _ List.mem_cons_self)
  have nml : l ≠ m := fun z => nl (by rw [z]; exact List.mem_append_right _ List.mem_cons_self)
  refine ⟨.ref l, h1, 1, rfl, l, _, -1, .ref m, rfl, rfl, SqL.of hh, atI_last _ _, .inl ⟨rfl, ms, SqL.of hhm⟩, w, h3, m, ms, w, rfl, rfl, hhm, sizeLine_lt (by rw [ram.len]; exact hz), ?_⟩
  have up : ∀ q u, q ≠ m → H q = some u → upd H m (.lst (ms ++ [w])) q = some u := fun q u hq e => by rw [upd_ne hq]; exact e
  have rm : ORep X.K G (upd H m (.lst (ms ++ [w]))) (.ref m) (.lst (ps' ++ [.sh d])) (m :: (S3 ++ [])) := .lst hgm upd_same
    (ORepAll.append (ram.keep (Same.refl _) (fun q hq => (ram.foot q hq).1) fun q u hq e => up q u (fun z => nm (z ▸ hq)) e) (ORepAll.one (.sh rw')) fun _ _ z => nomatch z) (by rw [List.append_nil]; exact nm)
  rw [List.append_nil] at rm
  have rn : ORep X.K G (upd H m (.lst (ms ++ [w]))) (.ref l) (.lst (os ++ [.lst (ps' ++ [.sh d])])) (l :: (S1 ++ (m :: S3))) := .lst hg (up l _ nml hh)
    (ORepAll.append (ra1.keep (Same.refl _) (fun q hq => (ra1.foot q hq).1) fun q u hq e => up q u (fun z => dS q hq (by rw [z]; exact List.mem_cons_self)) e) (ORepAll.one rm) dS) nl
  exact kn .non (.sh .non) [] _ G _ _ (st.mut hmF hlen h1 rn fun q hq => .inl (by rw [eS]; exact hq)) (Stp.refl.mut hmF fun q hq => .inl ⟨i, by rw [eS]; exact hq⟩) (.sh .non) (fun _ z => nomatch z) (fun _ z => nomatch z) hs
/-! ### a look at what is owned -/
theorem snd_peek (ha : Snd gl Φ ca X W e p) : Snd gl Φ ca X W e (.peek p) := by
  intro Γ R E hs σ G H F st Q kn kx
  unfold sem at hs
  obtain ⟨G2, e1, st2⟩ := st.shared
  refine ha (share Γ) _ noX hs σ G2 H _ st2 Q (fun v o S Γ' G' H' F' st' sp r _ _ h => ?_) kox_no
  obtain ⟨_, d, rfl, hd, h⟩ := h
  obtain ⟨st3, sp3⟩ := st.grow (H1 := H') fun a o e => sp.hh a o (fun _ z => nomatch z) e
  exact (kn.step sp3).val st3 (scal_rep r.sh_inv.1 hd) h
/-! ### tests -/
theorem sndT_val (he : ∀ whole, isTrue e X.env whole = (do let v ← whole; standAt e.pos; holding [v] (truthy v))) (ha : Snd gl Φ ca X W e p) : SndT gl Φ ca X W e p := by
  intro Γ R E hs σ G H F st Q kn kx
  refine wT_of (pt_val pe_w he) ?_
  exact ha Γ _ E hs σ G H F st _ (kon_is (f := fun _ => True) fun x Γ1 G1 H1 F1 st1 sp1 hs1 => ⟨x, rfl, kn x Γ1 G1 H1 F1 st1 sp1 hs1⟩) kx
theorem sndT_not (ha : SndT gl Φ ca X W a p) : SndT gl Φ ca X W (.UnaryOp .Not a pos) (.not p) := by
  intro Γ R E hs σ G H F st Q kn kx
  unfold semT sem at hs
  refine wT_of (pt_not pt_w) ?_
  refine ha Γ (fun x Γ1 => R (!x) Γ1) E ?_ σ G H F st _ (fun x Γ1 G1 H1 F1 st1 sp1 hs1 => kn (!x) Γ1 G1 H1 F1 st1 sp1 hs1) kx
  unfold semT
  have e : (fun (o : O) (Γ1 : List O) => ∃ x, o = O.sh (D.bl x) ∧ ∃ b, O.sh (D.bl (!x)) = O.sh (D.bl b) ∧ R b Γ1) = (fun (o : O) (Γ1 : List O) => ∃ b, o = O.sh (D.bl b) ∧ R (!b) Γ1) := by
    funext o Γ1
    apply propext
    constructor
    · rintro ⟨x, rfl, b, h1, h2⟩
      simp only [O.sh.injEq, D.bl.injEq] at h1
      subst h1
      exact ⟨x, rfl, h2⟩
    · rintro ⟨x, rfl, h⟩
      exact ⟨x, rfl, _, rfl, h⟩
  rw [← e]
  exact hs
theorem semT_and {Γ : List O} {R : Bool → List O → Prop} {E : EXC} (h : semT gl Φ (.and p q) Γ R E) : semT gl Φ p Γ (fun x Γ1 => if x = true then semT gl Φ q Γ1 R E else R false Γ1) E := by
  unfold semT sem at h
  unfold semT
  have e : (fun (o : O) (Γ1 : List O) => ∃ x, o = O.sh (D.bl x) ∧ if x = true then sem gl Φ q Γ1 (fun o Γ1 => ∃ b, o = O.sh (D.bl b) ∧ R b Γ1) E else ∃ b, O.sh (D.bl false) = O.sh (D.bl b) ∧ R b Γ1) = (fun (o : O) (Γ1 : List O) => ∃ b, o = O.sh (D.bl b) ∧ if b = true then sem gl Φ q Γ1 (fun o Γ1 => ∃ b, o = O.sh (D.bl b) ∧ R b Γ1) E else R false Γ1) := by
    funext o Γ1
    apply propext
    constructor
    · rintro ⟨x, rfl, h⟩
      refine ⟨x, rfl, ?_⟩
      cases x with
      | true => exact h
      | false =>
        obtain ⟨b, h1, h2⟩ := h
        simp only [O.sh.injEq, D.bl.injEq] at h1
        subst h1
        exact h2
    · rintro ⟨x, rfl, h⟩
      refine ⟨x, rfl, ?_⟩
      cases x with
      | true => exact h
      | false => exact ⟨false, rfl, h⟩
  rw [← e]
  exact h
theorem semT_or {Γ : List O} {R : Bool → List O → Prop} {E : EXC} (h : semT gl Φ (.or p q) Γ R E) : semT gl Φ p Γ (fun x Γ1 => if x = true then R true Γ1 else semT gl Φ q Γ1 R E) E := by
  unfold semT sem at h
  unfold semT
  have e : (fun (o : O) (Γ1 : List O) => ∃ x, o = O.sh (D.bl x) ∧ if x = true then ∃ b, O.sh (D.bl true) = O.sh (D.bl b) ∧ R b Γ1 else sem gl Φ q Γ1 (fun o Γ1 => ∃ b, o = O.sh (D.bl b) ∧ R b Γ1) E) = (fun (o : O) (Γ1 : List O) => ∃ b, o = O.sh (D.bl b) ∧ if b = true then R true Γ1 else sem gl Φ q Γ1 (fun o Γ1 => ∃ b, o = O.sh (D.bl b) ∧ R b Γ1) E) := by
    funext o Γ1
    apply propext
    constructor
    · rintro ⟨x, rfl, h⟩
      refine ⟨x, rfl, ?_⟩
      cases x with
      | false => exact h
      | true =>
        obtain ⟨b, h1, h2⟩ := h
        simp only [O.sh.injEq, D.bl.injEq] at h1
        subst h1
        exact h2
    · rintro ⟨x, rfl, h⟩
      refine ⟨x, rfl, ?_⟩
      cases x with
      | false => exact h
      | true => exact ⟨true, rfl, h⟩
  rw [← e]
  exact h
/-- of a chain of and, or: whatever its 'whole' is -/
theorem pw_bool {op : BoolOp} {vs : List Expr} {tt : TT} (h : PT X (.BoolOp op vs pos) tt) : PW X (.BoolOp op vs pos) tt := ⟨fun whole pins s σ H Q I ht => h.run pins s σ H Q I ht⟩
theorem sndT_and {rest : List Expr} (ha : SndT gl Φ ca X W a p) (hb : SndT gl Φ ca X W (.BoolOp .And (b :: rest) pos) q) : SndT gl Φ ca X W (.BoolOp .And (a :: b :: rest) pos) (.and p q) := by
  intro Γ R E hs σ G H F st Q kn kx
  refine wT_of (PW.pt (pw_and pt_w (pw_bool pt_w))) ?_
  refine ha Γ _ E (semT_and hs) σ G H F st _ (fun x Γ1 G1 H1 F1 st1 sp1 hs1 => ?_) kx
  cases x with
  | true => exact iteT (hb Γ1 R E hs1 σ G1 H1 F1 st1 Q (fun b Γ' G' H' F' st' sp' h' => kn b Γ' G' H' F' st' (sp1.trans sp') h') (kx.step sp1))
  | false => exact iteF (kn false Γ1 G1 H1 F1 st1 sp1 hs1)
theorem sndT_or {rest : List Expr} (ha : SndT gl Φ ca X W a p) (hb : SndT gl Φ ca X W (.BoolOp .Or (b :: rest) pos) q) : SndT gl Φ ca X W (.BoolOp .Or (a :: b :: rest) pos) (.or p q) := by
  intro Γ R E hs σ G H F st Q kn kx
  refine wT_of (PW.pt (pw_or pt_w (pw_bool pt_w))) ?_
  refine ha Γ _ E (semT_or hs) σ G H F st _ (fun x Γ1 G1 H1 F1 st1 sp1 hs1 => ?_) kx
  cases x with
  | true => exact iteT (kn true Γ1 G1 H1 F1 st1 sp1 hs1)
  | false => exact iteF (hb Γ1 R E hs1 σ G1 H1 F1 st1 Q (fun b Γ' G' H' F' st' sp' h' => kn b Γ' G' H' F' st' (sp1.trans sp') h') (kx.step sp1))
theorem sndT_one {op : BoolOp} (ha : SndT gl Φ ca X W a p) : SndT gl Φ ca X W (.BoolOp op [a] pos) p := by
  intro Γ R E hs σ G H F st Q kn kx
  cases op with
  | And => exact wT_of (PW.pt (pw_and1 pt_w)) (ha Γ R E hs σ G H F st Q kn kx)
  | Or => exact wT_of (PW.pt (pw_or1 pt_w)) (ha Γ R E hs σ G H F st Q kn kx)
theorem sndT_cmp (hu : X.A.units + 64 < cLine) {op : CmpOp} (hm : behindInMarks op b = false) (ha : Snd gl Φ ca X W a p) (hb : Snd gl Φ ca X W b q) : SndT gl Φ ca X W (.Compare a [op] [b] pos) (.cmp op p q) := by
  intro Γ R E hs σ G H F st Q kn kx
  unfold semT sem at hs
  refine wT_of (pt_cmpR op_w pe_w pe_w hm) ?_
  refine ha Γ _ E hs σ G H F st _ (kon_D fun v d Γ1 G1 H1 F1 st1 sp1 r1 hs1 => ?_) kx
  refine hb Γ1 _ E hs1 σ G1 H1 F1 st1 _ (kon_D fun v2 d2 Γ2 G2 H2 F2 st2 sp2 r2 hs2 => ?_) (kx.step sp1)
  refine cmp_ok hu st2.gh (r1.mono sp2.gg) r2 hs2 fun z hz => ⟨z, rfl, ?_⟩
  obtain ⟨b', e', h'⟩ := hz
  simp only [O.sh.injEq, D.bl.injEq] at e'
  subst e'
  exact kn z Γ2 G2 H2 F2 st2 (sp1.trans sp2) h'
theorem sndT_peek (ha : SndT gl Φ ca X W e p) : SndT gl Φ ca X W e (.peek p) := by
  intro Γ R E hs σ G H F st Q kn kx
  unfold semT sem at hs
  obtain ⟨G2, e1, st2⟩ := st.shared
  have hs' : semT gl Φ p (share Γ) (fun b Γ1 => Γ1 = share Γ ∧ R b Γ) noX := by
    unfold semT
    have e : (fun (o : O) (Γ1 : List O) => Γ1 = share Γ ∧ ∃ d, o = O.sh d ∧ scalD d = true ∧ ∃ b, O.sh d = O.sh (D.bl b) ∧ R b Γ) = (fun (o : O) (Γ1 : List O) => ∃ b, o = O.sh (D.bl b) ∧ (Γ1 = share Γ ∧ R b Γ)) := by
      funext o Γ1
      apply propext
      constructor
      · rintro ⟨h1, d, rfl, _, b, h2, h3⟩
        simp only [O.sh.injEq] at h2
        subst h2
        exact ⟨b, rfl, h1, h3⟩
      · rintro ⟨b, rfl, h1, h3⟩
        exact ⟨h1, _, rfl, rfl, b, rfl, h3⟩
    rw [← e]
    exact hs
  refine ha (share Γ) _ noX hs' σ G2 H _ st2 Q (fun b Γ' G' H' F' st' sp h => ?_) kox_no
  obtain ⟨st3, sp3⟩ := st.grow (H1 := H') fun a o e => sp.hh a o (fun _ z => nomatch z) e
  exact kn b Γ G H' F st3 sp3 h.2
end
end PW

end
section
set_option Elab.async false
set_option linter.all false
set_option maxRecDepth 100000
set_option maxHeartbeats 4000000
/-! PXF: what is walked, comprehensions. -/
namespace PW
open PySem PySem.Spec PyProof.Rows L2

def wI (X : Cx) (tg iter : Expr) : TI := fun σ H R => ∀ pins s, Inv X pins σ H s → wpAny (model X.prog X.w) X.A (eval iter X.env) (fun v s1 => wpAny (model X.prog X.w) X.A (pyIter v) (PIE X pins σ tg R) X.xe s1) X.xe s
theorem pi_w {X : Cx} {tg iter : Expr} : PI X tg iter (wI X tg iter) := ⟨fun pins s _ _ _ I h => h pins s I⟩
theorem wI_of {X : Cx} {tg iter : Expr} {w : TI} {σ : L2.St} {H : Hp} {R : It → Hp → Prop} (h : PI X tg iter w) (ht : w σ H R) : wI X tg iter σ H R := fun pins s I => h.run pins s σ H R I ht
/-- what a turn gives: an item of ds -/
def YD (K : PySem.W.Frag) (G : Hp) (ds : List D) : Nat → Hp → V → Hp → Prop := fun i H v H' => ∃ d, ds[i]? = some d ∧ ((H' = H ∧ Rep K G v d) ∨ ∃ T x y dx dy, v = .ref T ∧ H T = none ∧ H' = upd H T (.tup [x, y]) ∧ Rep K G x dx ∧ Rep K G y dy ∧ d = .tup [dx, dy])
abbrev IterOk (K : PySem.W.Frag) (J : It) (ds : List D) (G : Hp) : Prop := Walk J ds.length (fun H => Same G H) (YD K G ds)
section
variable (gl : List D) (Φ : Fns) (ca : EC → Addr) (X : Cx) (W : WX)
def SndI (tg iter : Expr) (p : PEx) : Prop := ∀ Γ R E, semI gl Φ p Γ R E → ∀ σ G H F, Sta X.K σ Γ G H F → ∀ Q : It → Hp → Prop, (∀ J ds Γ' G' H' F', Sta X.K σ Γ' G' H' F' → Stp G H F G' H' F' → IterOk X.K J ds G' → R ds Γ' → Q J H') → Kox X.K ca σ G H F E W → wI X tg iter σ H Q
end
section
variable {gl : List D} {Φ : Fns} {ca : EC → Addr} {X : Cx} {W : WX} {a b e tg : Expr} {p q : PEx} {pos pc tpos : Pos} {elts : List Expr} {kk : Nat}
theorem getElem_range {n i : Nat} (h : i < n) : (List.range n)[i]? = some i := by simp [h]
theorem sndI_rng1 (hg : Gl X "range") (hm : X.mg "range" = none) (hn : notStar a = true) (ha : Snd gl Φ ca X W a p) : SndI gl Φ ca X W tg (.Call (.Name "range" pc) [a] [] pos) (.rng1 p) := by
  intro Γ R E hs σ G H F st Q kn kx
  unfold semI at hs
  refine wI_of (pi_range1 hg hm (pa_cons pe_w pa_nil (star_ok hn)) (star_ok hn)) ?_
  refine ha Γ _ E hs σ G H F st _ (kon_int fun n Γ1 G1 H1 F1 st1 sp1 hs1 => ⟨n, rfl, hs1.1.1, hs1.1.2, ?_⟩) kx
  refine kn (Itr 0 n.toNat) _ Γ1 G1 H1 F1 st1 sp1 ?_ hs1.2
  rw [IterOk, List.length_map, List.length_range]
  refine walk_range.mono (fun _ _ => trivial) fun i H x H' hi _ h => ?_
  obtain ⟨e1, e2⟩ := h
  exact ⟨.int (i : Nat), by rw [List.getElem?_map, getElem_range hi]; rfl, .inl ⟨e1, by rw [e2]; show Rep X.K G1 (.int (0 + (i : Nat))) (.int (i : Nat)); rw [Int.zero_add]; exact .int _⟩⟩
theorem sndI_rng2 (hg : Gl X "range") (hm : X.mg "range" = none) (hn : notStar a = true) (hn2 : notStar b = true) (ha : Snd gl Φ ca X W a p) (hb : Snd gl Φ ca X W b q) : SndI gl Φ ca X W tg (.Call (.Name "range" pc) [a, b] [] pos) (.rng2 p q) := by
  intro Γ R E hs σ G H F st Q kn kx
  unfold semI at hs
  refine wI_of (pi_range2 hg hm (pa_cons pe_w (pa_cons pe_w pa_nil (star_ok hn2)) (star_ok hn)) (by rw [star_ok hn, star_ok hn2] <;> rfl) (star_ok hn2)) ?_
  refine ha Γ _ E hs σ G H F st _ (kon_int fun m Γ1 G1 H1 F1 st1 sp1 hs1 => ?_) kx
  refine hb Γ1 _ E hs1 σ G1 H1 F1 st1 _ (kon_int fun n Γ2 G2 H2 F2 st2 sp2 hs2 => ⟨m, n, rfl, hs2.1, ?_⟩) (kx.step sp1)
  refine kn (Itr m (n - m).toNat) _ Γ2 G2 H2 F2 st2 (sp1.trans sp2) ?_ hs2.2
  rw [IterOk, List.length_map, List.length_range]
  refine walk_range.mono (fun _ _ => trivial) fun i H x H' hi _ h => ?_
  obtain ⟨e1, e2⟩ := h
  exact ⟨.int (m + (i : Nat)), by rw [List.getElem?_map, getElem_range hi]; rfl, .inl ⟨e1, by rw [e2]; exact .int _⟩⟩
/-- as a list that is shared -/
theorem kon_L {K : PySem.W.Frag} {σ : L2.St} {G H : Hp} {F : Nat → List Addr} {Q : VK} {R' : List D → List O → Prop}
    (k : ∀ a vs l Γ' G' H' F', Sta K σ Γ' G' H' F' → Stp G H F G' H' F' → G' a = some (.lst vs) → RepAll K G' vs l → R' l Γ' → Q (.ref a) H') :
    Kon K σ G H F (fun o Γ1 => ∃ l, asD o = some (.lst l) ∧ R' l Γ1) Q := fun v o S Γ' G' H' F' st sp r d1 d2 ⟨l, e, h⟩ =>
  kon_D (R' := fun d Γ1 => ∃ l, d = .lst l ∧ R' l Γ1) (fun v d Γ' G' H' F' st sp r ⟨l, e, h⟩ => by
    subst e
    cases r with | lst g q => exact k _ _ l Γ' G' H' F' st sp g q h) v o S Γ' G' H' F' st sp r d1 d2 ⟨_, e, l, rfl, h⟩
theorem kon_T {K : PySem.W.Frag} {σ : L2.St} {G H : Hp} {F : Nat → List Addr} {Q : VK} {R' : List D → List O → Prop}
    (k : ∀ a vs l Γ' G' H' F', Sta K σ Γ' G' H' F' → Stp G H F G' H' F' → SqT K G' a vs → RepAll K G' vs l → R' l Γ' → Q (.ref a) H') :
    Kon K σ G H F (fun o Γ1 => ∃ l, asD o = some (.tup l) ∧ R' l Γ1) Q := fun v o S Γ' G' H' F' st sp r d1 d2 ⟨l, e, h⟩ =>
  kon_D (R' := fun d Γ1 => ∃ l, d = .tup l ∧ R' l Γ1) (fun v d Γ' G' H' F' st sp r ⟨l, e, h⟩ => by
    subst e
    cases r with | tup g q => exact k _ _ l Γ' G' H' F' st sp g q h) v o S Γ' G' H' F' st sp r d1 d2 ⟨_, e, l, rfl, h⟩
theorem sndI_itL (ha : Snd gl Φ ca X W e p) : SndI gl Φ ca X W tg e (.itL p) := by
  intro Γ R E hs σ G H F st Q kn kx
  unfold semI at hs
  refine wI_of (pi_list pe_w) ?_
  refine ha Γ _ E hs σ G H F st _ (kon_L fun a vs l Γ1 G1 H1 F1 st1 sp1 g r hs1 => ⟨a, rfl, ⟨vs, SqL.of (st1.gh _ _ g)⟩, kn (Itl X.K a) l Γ1 G1 H1 F1 st1 sp1 ?_ hs1⟩) kx
  rw [IterOk, ← r.len]
  refine walk_list.mono (fun H h => SqL.of (h _ _ g)) fun i H x H' _ _ h => ?_
  obtain ⟨e1, e2⟩ := h
  obtain ⟨d, h1, h2⟩ := r.getv e2
  exact ⟨d, h1, .inl ⟨e1, h2⟩⟩
theorem sndI_itT (ha : Snd gl Φ ca X W e p) : SndI gl Φ ca X W tg e (.itT p) := by
  intro Γ R E hs σ G H F st Q kn kx
  unfold semI at hs
  refine wI_of (pi_tup pe_w) ?_
  refine ha Γ _ E hs σ G H F st _ (kon_T fun a vs l Γ1 G1 H1 F1 st1 sp1 g r hs1 => ⟨a, rfl, ⟨vs, same_t st1.gh g⟩, kn (Itt X.K a) l Γ1 G1 H1 F1 st1 sp1 ?_ hs1⟩) kx
  rw [IterOk, ← r.len]
  refine walk_tup.mono (fun H h => same_t h g) fun i H x H' _ _ h => ?_
  obtain ⟨e1, e2⟩ := h
  obtain ⟨d, h1, h2⟩ := r.getv e2
  exact ⟨d, h1, .inl ⟨e1, h2⟩⟩
theorem sndI_itS (ha : Snd gl Φ ca X W e p) : SndI gl Φ ca X W tg e (.itS p) := by
  intro Γ R E hs σ G H F st Q kn kx
  unfold semI at hs
  refine wI_of (pi_str pe_w) ?_
  refine ha Γ _ E hs σ G H F st _ (fun v o S Γ1 G1 H1 F1 st1 sp1 r _ _ hs1 => ?_) kx
  obtain ⟨z, rfl, hs1⟩ := hs1
  obtain ⟨r, _⟩ := r.sh_inv
  cases r
  refine ⟨z, rfl, kn (Its z) _ Γ1 G1 H1 F1 st1 sp1 ?_ hs1⟩
  rw [IterOk, List.length_map, Array.length_toList]
  refine walk_str.mono (fun _ _ => trivial) fun i H x H' hi _ h => ?_
  obtain ⟨e1, c, e2, e3⟩ := h
  exact ⟨.str ⟨#[c]⟩, by rw [List.getElem?_map, Array.getElem?_toList, e2]; rfl, .inl ⟨e1, by rw [e3]; exact .str _⟩⟩
theorem enum_get : ∀ {l : List D} {k i : Nat} {d : D}, l[i]? = some d → (enumD k l)[i]? = some (.tup [.int ((k + i : Nat) : Int), d])
  | [], _, _, _, h => by simp at h
  | a :: l, k, 0, d, h => by
    simp at h
    subst h
    rfl
  | a :: l, k, i + 1, d, h => by
    rw [enumD, List.getElem?_cons_succ, enum_get (l := l) (k := k + 1) (i := i) (by simpa using h)]
    have e : k + 1 + i = k + (i + 1) := by omega
    rw [e]
theorem enum_len : ∀ (k : Nat) (l : List D), (enumD k l).length = l.length
  | _, [] => rfl
  | k, a :: l => by rw [enumD, List.length_cons, enum_len (k + 1) l, List.length_cons]
theorem sndI_enm (hg : Gl X "enumerate") (hm : X.mg "enumerate" = none) (hn : notStar e = true) (ha : Snd gl Φ ca X W e p) : SndI gl Φ ca X W (.Tuple elts kk tpos) (.Call (.Name "enumerate" pc) [e] [] pos) (.enm p) := by
  intro Γ R E hs σ G H F st Q kn kx
  unfold semI at hs
  refine wI_of (pi_enum hg hm (pa_cons pe_w pa_nil (star_ok hn)) (star_ok hn)) ?_
  refine ha Γ _ E hs σ G H F st _ (kon_L fun a vs l Γ1 G1 H1 F1 st1 sp1 g r hs1 => ⟨a, vs, rfl, SqL.of (st1.gh _ _ g), kn (Ite X.K a) _ Γ1 G1 H1 F1 st1 sp1 ?_ hs1⟩) kx
  rw [IterOk, enum_len]
  have wk := walk_enum (K := X.K) (a := a) (xs := vs)
  rw [r.len] at wk
  refine wk.mono (fun H h => SqL.of (h _ _ g)) fun i H x H' _ _ h => ?_
  obtain ⟨T, x, y, e1, e2, e3, e4, e5⟩ := h
  cases e4
  obtain ⟨d, h1, h2⟩ := r.getv e5
  have z := enum_get (k := 0) h1
  rw [Nat.zero_add] at z
  exact ⟨_, z, .inr ⟨T, _, y, _, d, e1, e2, e3, .int _, h2, rfl⟩⟩
theorem sndI_zip (hg : Gl X "zip") (hm : X.mg "zip" = none) (hn : notStar a = true) (hn2 : notStar b = true) (ha : Snd gl Φ ca X W a p) (hb : Snd gl Φ ca X W b q) : SndI gl Φ ca X W (.Tuple elts kk tpos) (.Call (.Name "zip" pc) [a, b] [] pos) (.zip p q) := by
  intro Γ R E hs σ G H F st Q kn kx
  unfold semI at hs
  refine wI_of (pi_zip hg hm (pa_cons pe_w (pa_cons pe_w pa_nil (star_ok hn2)) (star_ok hn)) (star_ok hn) (noStar_any (by simp [hn2]))) ?_
  refine ha Γ _ E hs σ G H F st _ (kon_L fun a vs l Γ1 G1 H1 F1 st1 sp1 g r hs1 => ?_) kx
  refine hb Γ1 _ E hs1 σ G1 H1 F1 st1 _ (kon_L fun b ws m Γ2 G2 H2 F2 st2 sp2 g2 r2 hs2 => ⟨a, b, vs, ws, rfl, SqL.of (st2.gh _ _ (sp2.gg _ _ g)), SqL.of (st2.gh _ _ g2), kn (Itz X.K a b) _ Γ2 G2 H2 F2 st2 (sp1.trans sp2) ?_ hs2⟩) (kx.step sp1)
  rw [IterOk, List.length_map, List.length_zip, ← r.len, ← r2.len]
  refine (walk_zip rfl).mono (fun H h => ⟨SqL.of (h _ _ (sp2.gg _ _ g)), SqL.of (h _ _ g2)⟩) fun i H x H' _ _ h => ?_
  obtain ⟨T, x, y, e1, e2, e3, e4, e5⟩ := h
  obtain ⟨d, h1, h2⟩ := r.getv e4
  obtain ⟨d', h3, h4⟩ := r2.getv e5
  refine ⟨.tup [d, d'], ?_, .inr ⟨T, x, y, d, d', e1, e2, e3, h2.mono sp2.gg, h4, rfl⟩⟩
  have z : (l.zip m)[i]? = some (d, d') := List.getElem?_zip_eq_some.mpr ⟨h1, h3⟩
  rw [List.getElem?_map, z]
  rfl
end

/-! ### targets -/
def gNames : List Nat → TGs
  | [] => gNil
  | i :: is => gCons (gName i) (gNames is)
def gOf (K : PySem.W.Frag) : Tgt → TG
  | .nm i => gName i
  | .tp is => gTup K is.length (gNames is)
def setSs (σ : L2.St) : List (Nat × V) → L2.St
  | [] => σ
  | (i, v) :: r => setSs (σ.set i (some v)) r
section
variable {K : PySem.W.Frag} {G H : Hp}
theorem names_ok : ∀ {is : List Nat} {vs : List V} {ds : List D} {σ : L2.St} {Γ : List O} {F : Nat → List Addr} {k : L2.St → Hp → Prop}, is.length = ds.length → RepAll K G vs ds → Sta K σ Γ G H F → (∀ i, i ∈ is → i < Γ.length) →
    (∀ F', Sta K (setSs σ (is.zip vs)) ((is.zip ds).foldl (fun Γ p => Γ.set p.1 (.sh p.2)) Γ) G H F' → (∀ j p, p ∈ F' j → p ∈ F j) → k (setSs σ (is.zip vs)) H) → gNames is vs σ H k
  | [], _, [], σ, Γ, F, k, _, .nil, st, _, h => ⟨rfl, h F st fun _ _ z => z⟩
  | i :: is, _, d :: ds, σ, Γ, F, k, hl, .cons (v := v) (vs := vs) r rs, st, hi, h => by
    refine ⟨v, vs, rfl, ?_⟩
    have st' := st.set (i := i) (hi i List.mem_cons_self) (.sh r) fun _ z => nomatch z
    refine names_ok (is := is) (by simpa using hl) rs st' (fun j hj => by rw [List.length_set]; exact hi j (List.mem_cons_of_mem _ hj)) fun F' st2 hF => h F' st2 fun j p hp => ?_
    have z := hF j p hp
    by_cases q : j = i
    · subst q; rw [setF_same] at z; exact nomatch z
    · rw [setF_ne q] at z; exact z
/-- an item comes to a target -/
theorem tgt_ok {ds : List D} {i : Nat} {v : V} {H' G0 : Hp} {tg : Tgt} {σ : L2.St} {Γ Γ2 : List O} {F : Nat → List Addr} {d : D} {k : L2.St → Hp → Prop} (st : Sta K σ Γ G H F) (hg : Same G0 G) (hd : ds[i]? = some d) (y : YD K G0 ds i H v H') (hs : setT tg d Γ = some Γ2)
    (h : ∀ xs G' F', Sta K (setSs σ xs) Γ2 G' H' F' → Stp G H F G' H' F' → (∀ q, q ∈ xs → q.1 ∈ tgtSlots tg) → k (setSs σ xs) H') : gOf K tg v σ H' k := by
  obtain ⟨d', e, y⟩ := y
  rw [hd] at e
  cases e
  have key : ∃ G', Sta K σ Γ G' H' F ∧ Stp G H F G' H' F ∧ Rep K G' v d := by
    rcases y with ⟨e1, r⟩ | ⟨T, x, y, dx, dy, e1, e2, e3, r1, r2, e4⟩
    · subst e1
      exact ⟨G, st, Stp.refl, r.mono hg⟩
    · subst e1 e3 e4
      obtain ⟨a1, a2⟩ := st.growG (G1 := upd G T (.tup [x, y])) (H1 := upd H T (.tup [x, y])) (same_upd (st.gh.free e2)) (same_upd2 st.gh) (same_upd e2) (fun q h1 h2 => by
        by_cases z : q = T
        · subst z; exact absurd e2 h1
        · rw [upd_ne z]; exact h2)
      refine ⟨_, a1, a2, .tup (SqT.of upd_same) ?_⟩
      exact .cons (r1.mono (hg.trans (same_upd (st.gh.free e2)))) (.cons (r2.mono (hg.trans (same_upd (st.gh.free e2)))) .nil)
  obtain ⟨G', st', sp, r⟩ := key
  cases tg with
  | nm i =>
    simp only [setT] at hs
    split at hs
    case isFalse => cases hs
    rename_i hi
    simp only [Option.some.injEq] at hs
    subst hs
    have st2 := st'.set (i := i) hi (.sh r) fun _ z => nomatch z
    exact h [(i, v)] G' _ st2 sp.unset fun q hq => by
      simp only [List.mem_singleton] at hq
      subst hq
      exact List.mem_cons_self
  | tp is =>
    cases d with
    | tup ds' =>
      simp only [setT] at hs
      split at hs
      · rename_i hl
        obtain ⟨hl, ha⟩ := hl
        have hi : ∀ i, i ∈ is → i < Γ.length := fun i h => of_decide_eq_true (List.all_eq_true.mp ha i h)
        simp only [Option.some.injEq] at hs
        subst hs
        cases r with
        | tup g rs =>
          rename_i a vs
          refine ⟨a, vs, rfl, same_t st'.gh g, by rw [rs.len]; exact hl.symm, ?_⟩
          refine names_ok hl rs st' hi fun F' st2 hF => h _ G' F' st2 ⟨sp.gg, sp.hh, sp.gn, fun j p hp => sp.ff j p (hF j p hp)⟩ fun q hq => ?_
          exact (List.of_mem_zip (show (q.1, q.2) ∈ is.zip vs from hq)).1
      · cases hs
    | _ => simp [setT] at hs
theorem wipe_get {σ : L2.St} : ∀ {vs : List Nat} {i : Nat}, (wipe σ vs)[i]? = if i ∈ vs ∧ i < σ.length then some none else σ[i]?
  | [], i => by simp [wipe]
  | v :: vs, i => by
    rw [wipe, List.getElem?_set, wipe_length]
    by_cases q : v = i
    · subst q
      by_cases z : v < σ.length
      · simp [z]
      · simp [z, wipe_get]
    · rw [if_neg q, wipe_get]
      simp [Ne.symm q]
theorem wipe_set {σ : L2.St} {vs : List Nat} {i : Nat} {o : Option V} (h : i ∈ vs) : wipe (σ.set i o) vs = wipe σ vs := by
  apply List.ext_getElem?
  intro j
  rw [wipe_get, wipe_get, List.length_set]
  by_cases q : j ∈ vs ∧ j < σ.length
  · rw [if_pos q, if_pos q]
  · rw [if_neg q, if_neg q]
    by_cases z : i = j
    · subst z
      have : ¬ i < σ.length := fun y => q ⟨h, y⟩
      rw [List.getElem?_set]
      simp [this]
    · rw [List.getElem?_set_ne z]
theorem wipe_sets {vs : List Nat} : ∀ {xs : List (Nat × V)} {σ : L2.St}, (∀ q, q ∈ xs → q.1 ∈ vs) → wipe (setSs σ xs) vs = wipe σ vs
  | [], σ, _ => rfl
  | (i, v) :: r, σ, h => by
    rw [setSs, wipe_sets fun q hq => h q (List.mem_cons_of_mem _ hq), wipe_set (h (i, v) List.mem_cons_self)]
theorem wipe_wipe {σ : L2.St} {vs : List Nat} : wipe (wipe σ vs) vs = wipe σ vs := by
  apply List.ext_getElem?
  intro j
  rw [wipe_get, wipe_length, wipe_get]
  by_cases q : j ∈ vs ∧ j < σ.length
  · rw [if_pos q, if_pos q]
  · rw [if_neg q]
theorem setSs_get : ∀ {xs : List (Nat × V)} {σ : L2.St} {j : Nat}, (∀ q, q ∈ xs → q.1 ≠ j) → (setSs σ xs)[j]? = σ[j]?
  | [], σ, j, _ => rfl
  | (i, v) :: r, σ, j, h => by
    rw [setSs, setSs_get fun q hq => h q (List.mem_cons_of_mem _ hq), List.getElem?_set_ne (h (i, v) List.mem_cons_self)]
theorem wipeO_len (Γ : List O) : ∀ vs : List Nat, (wipeO Γ vs).length = Γ.length
  | [] => rfl
  | v :: vs => by rw [wipeO, List.length_set, wipeO_len Γ vs]
theorem wipeO_get {Γ : List O} : ∀ {vs : List Nat} {i : Nat}, (wipeO Γ vs)[i]? = if i ∈ vs ∧ i < Γ.length then some .un else Γ[i]?
  | [], i => by simp [wipeO]
  | v :: vs, i => by
    rw [wipeO, List.getElem?_set, wipeO_len]
    by_cases q : v = i
    · subst q
      by_cases z : v < Γ.length
      · simp [z]
      · simp [z, wipeO_get]
    · rw [if_neg q, wipeO_get]
      simp [Ne.symm q]
def wipeF (F : Nat → List Addr) (vs : List Nat) : Nat → List Addr := fun j => if j ∈ vs then [] else F j
theorem wipeF_in {F : Nat → List Addr} {vs : List Nat} {j : Nat} (h : j ∈ vs) : wipeF F vs j = [] := by unfold wipeF; rw [if_pos h]
theorem wipeF_out {F : Nat → List Addr} {vs : List Nat} {j : Nat} (h : j ∉ vs) : wipeF F vs j = F j := by unfold wipeF; rw [if_neg h]
/-- into a comprehension's block -/
theorem Sta.wipe {σ : L2.St} {Γ : List O} {F : Nat → List Addr} (st : Sta K σ Γ G H F) (vs : List Nat) : Sta K (L2.wipe σ vs) (wipeO Γ vs) G H (wipeF F vs) := by
  refine ⟨⟨by rw [wipe_length, wipeO_len, st.env.len], fun i o e => ?_, fun i p h => ?_, fun i j p h1 h2 => ?_⟩, st.gh⟩
  · rw [wipeO_get] at e
    by_cases q : i ∈ vs ∧ i < Γ.length
    · rw [if_pos q] at e; cases e; exact .inl rfl
    · rw [if_neg q] at e
      have hl : i < Γ.length := by
        rcases Nat.lt_or_ge i Γ.length with z | z
        · exact z
        · rw [List.getElem?_eq_none_iff.mpr z] at e; cases e
      have nv : i ∉ vs := fun z => q ⟨z, hl⟩
      rw [wipe_get, if_neg (fun z => nv z.1), wipeF_out nv]
      exact st.env.ent i o e
  · by_cases q : i ∈ vs
    · rw [wipeF_in q] at h; exact nomatch h
    · rw [wipeF_out q] at h; exact st.env.own i p h
  · by_cases q : i ∈ vs
    · rw [wipeF_in q] at h1; exact nomatch h1
    · rw [wipeF_out q] at h1
      by_cases z : j ∈ vs
      · rw [wipeF_in z] at h2; exact nomatch h2
      · rw [wipeF_out z] at h2; exact st.env.dis i j p h1 h2
def mixF (F F' : Nat → List Addr) (vs : List Nat) : Nat → List Addr := fun j => if j ∈ vs then F j else F' j
/-- out of it: the block's own slots as they were, the others as the block left them -/
theorem Sta.unwipe {σ σ2 : L2.St} {Γ Γ2 : List O} {G' H' : Hp} {F F' : Nat → List Addr} {vs : List Nat} (st : Sta K σ Γ G H F) (st2 : Sta K σ2 Γ2 G' H' F') (sp : Stp G H (wipeF F vs) G' H' F') (hσ : ∀ j, j ∉ vs → σ2[j]? = σ[j]?) (hΓ : ∀ j, j ∉ vs → Γ2[j]? = Γ[j]?) :
    Sta K σ Γ G' H' (mixF F F' vs) ∧ Stp G H F G' H' (mixF F F' vs) := by
  have out : ∀ j p, j ∈ vs → p ∈ F j → ∀ i, p ∉ wipeF F vs i := fun j p hj hp i hi => by
    by_cases z : i ∈ vs
    · rw [wipeF_in z] at hi; exact nomatch hi
    · rw [wipeF_out z] at hi
      exact z (by rw [st.env.dis i j p hi hp]; exact hj)
  have sub : ∀ p, (∀ i, p ∉ F i) → ∀ i, p ∉ wipeF F vs i := fun p h i hi => by
    by_cases z : i ∈ vs
    · rw [wipeF_in z] at hi; exact nomatch hi
    · rw [wipeF_out z] at hi; exact h i hi
  refine ⟨⟨⟨st.env.len, fun i o e => ?_, fun i p h => ?_, fun i j p h1 h2 => ?_⟩, st2.gh⟩, ⟨sp.gg, fun a o h e => sp.hh a o (sub a h) e, fun p h1 h2 h3 => sp.gn p h1 h2 (sub p h3), fun i p h => ?_⟩⟩
  · by_cases q : i ∈ vs
    · unfold mixF
      rw [if_pos q]
      rcases st.env.ent i o e with z | ⟨v, h1, h2⟩
      · exact .inl z
      · exact .inr ⟨v, h1, h2.keep sp.gg (fun p hp => sp.gn p (st.env.own i p hp).2 (st.env.own i p hp).1 (out i p q hp)) fun p u hp e => sp.hh p u (out i p q hp) e⟩
    · unfold mixF
      rw [if_neg q, ← hσ i q]
      rw [← hΓ i q] at e
      exact st2.env.ent i o e
  · unfold mixF at h
    by_cases q : i ∈ vs
    · rw [if_pos q] at h
      obtain ⟨a1, a2⟩ := st.env.own i p h
      refine ⟨sp.gn p a2 a1 (out i p q h), ?_⟩
      cases z : H p with
      | none => exact absurd z a2
      | some o => rw [sp.hh p o (out i p q h) z]; exact fun z => nomatch z
    · rw [if_neg q] at h; exact st2.env.own i p h
  · unfold mixF at h1 h2
    have mixed : ∀ i j, i ∈ vs → p ∈ F i → p ∈ F' j → False := fun i j hi h1 h2 => by
      rcases sp.ff j p h2 with ⟨k, z⟩ | z
      · exact out i p hi h1 k z
      · exact (st.env.own i p h1).2 z
    by_cases q : i ∈ vs
    · rw [if_pos q] at h1
      by_cases z : j ∈ vs
      · rw [if_pos z] at h2; exact st.env.dis i j p h1 h2
      · rw [if_neg z] at h2; exact (mixed i j q h1 h2).elim
    · rw [if_neg q] at h1
      by_cases z : j ∈ vs
      · rw [if_pos z] at h2; exact (mixed j i z h2 h1).elim
      · rw [if_neg z] at h2; exact st2.env.dis i j p h1 h2
  · unfold mixF at h
    by_cases q : i ∈ vs
    · rw [if_pos q] at h; exact .inl ⟨i, h⟩
    · rw [if_neg q] at h
      rcases sp.ff i p h with ⟨k, z⟩ | z
      · by_cases y : k ∈ vs
        · rw [wipeF_in y] at z; exact nomatch z
        · rw [wipeF_out y] at z; exact .inl ⟨k, z⟩
      · exact .inr z
/-- an object that no slot holds is changed -/
theorem Sta.updOut {σ : L2.St} {Γ : List O} {F : Nat → List Addr} (st : Sta K σ Γ G H F) {p : Addr} {u : HO} (hF : ∀ i, p ∉ F i) (hg : G p = none) : Sta K σ Γ G (upd H p u) F := by
  refine ⟨⟨st.env.len, fun i o e => ?_, fun i q h => ?_, st.env.dis⟩, fun a w e => ?_⟩
  · rcases st.env.ent i o e with z | ⟨v, h1, h2⟩
    · exact .inl z
    · exact .inr ⟨v, h1, h2.keep (Same.refl G) (fun q hq => (st.env.own i q hq).1) fun q w hq e => by rw [upd_ne fun (z : q = p) => hF i (z ▸ hq)]; exact e⟩
  · rw [upd_ne fun (z : q = p) => hF i (z ▸ h)]; exact st.env.own i q h
  · rw [upd_ne fun (z : a = p) => ?_]
    · exact st.gh a w e
    · subst z; rw [hg] at e; cases e
end
end PW

end
section
set_option Elab.async false
set_option linter.all false
set_option maxRecDepth 100000
set_option maxHeartbeats 4000000
/-! PXG: comprehensions, statements. -/
namespace PW
open PySem PySem.Spec PyProof.Rows L2

theorem kon_imp {K : PySem.W.Frag} {σ : L2.St} {G H : Hp} {F : Nat → List Addr} {R R' : O → List O → Prop} {Q : VK} (h : ∀ o Γ, R o Γ → R' o Γ) (k : Kon K σ G H F R' Q) : Kon K σ G H F R Q := fun v o S Γ' G' H' F' st sp r d1 d2 q => k v o S Γ' G' H' F' st sp r d1 d2 (h o Γ' q)
theorem foldl_set_get : ∀ {l : List (Nat × D)} {Γ : List O} {j : Nat}, (∀ q, q ∈ l → q.1 ≠ j) → (l.foldl (fun Γ p => Γ.set p.1 (.sh p.2)) Γ)[j]? = Γ[j]?
  | [], Γ, j, _ => rfl
  | (i, d) :: r, Γ, j, h => by
    rw [List.foldl_cons, foldl_set_get fun q hq => h q (List.mem_cons_of_mem _ hq), List.getElem?_set_ne (h (i, d) List.mem_cons_self)]
theorem setT_get {tg : Tgt} {d : D} {Γ Γ2 : List O} {j : Nat} (h : setT tg d Γ = some Γ2) (hj : j ∉ tgtSlots tg) : Γ2[j]? = Γ[j]? := by
  cases tg with
  | nm i =>
    simp only [setT] at h
    split at h
    case isFalse => cases h
    simp only [Option.some.injEq] at h
    subst h
    rw [List.getElem?_set_ne fun z => hj (by rw [← z]; exact List.mem_cons_self)]
  | tp is =>
    cases d with
    | tup ds =>
      simp only [setT] at h
      split at h
      · simp only [Option.some.injEq] at h
        subst h
        exact foldl_set_get fun q hq z => hj (by rw [← z]; exact (List.of_mem_zip (show (q.1, q.2) ∈ is.zip ds from hq)).1)
      · cases h
    | _ => simp [setT] at h
section
variable {gl : List D} {Φ : Fns} {ca : EC → Addr} {X : Cx} {W : WX}
/-- a comprehension's reading -/
theorem lc_read {iter tgE : Expr} {tg : Tgt} {it pe : PEx} {pt : Option PEx} {tt : TT} {te : TE} (hi : SndI gl Φ ca X W tgE iter it)
    (htt : ∀ Γ2 R2, semTo gl Φ pt Γ2 R2 → ∀ σ G H F, Sta X.K σ Γ2 G H F → ∀ Q : Bool → Hp → Prop, (∀ b G' H' F', Sta X.K σ Γ2 G' H' F' → Stp G H F G' H' F' → R2 b → Q b H') → tt σ H Q)
    (hte : ∀ Γ2 R2, sem gl Φ pe Γ2 R2 noX → ∀ σ G H F, Sta X.K σ Γ2 G H F → ∀ Q, Kon X.K σ G H F R2 Q → te σ H Q)
    {Γ : List O} {R : O → List O → Prop} {E : EXC} {σ : L2.St} {G H : Hp} {F : Nat → List Addr} {Q : VK} (hs : sem gl Φ (.lc pe tg it pt) Γ R E) (st : Sta X.K σ Γ G H F) (kn : Kon X.K σ G H F R Q) (kx : Kox X.K ca σ G H F E W) : tLc (wI X tgE iter) (gOf X.K tg) tt te (tgtSlots tg) σ H Q := by
  unfold sem at hs
  refine hi Γ _ E hs σ G H F st _ (fun J ds Γ1 G1 H1 F1 st1 sp1 wk hs1 => ?_) kx
  obtain ⟨hz, f, hf, hR⟩ := hs1
  intro Dl hD
  refine lc_it wk (fun i H2 => ∃ Gi Fi vs, Sta X.K σ Γ1 Gi H2 Fi ∧ Stp G1 H1 F1 Gi H2 Fi ∧ Gi Dl = none ∧ H2 Dl = some (.lst vs) ∧ RepAll X.K Gi vs ((ds.take i).filterMap f) ∧ ∀ j, Dl ∉ Fi j) ?_ ?_ ?_ ?_
  · obtain ⟨st2, sp2⟩ := st1.grow (same_upd (o := .lst []) hD)
    exact ⟨G1, F1, [], st2, sp2, st1.gh.free hD, upd_same, by rw [List.take_zero]; exact .nil, fun j hj => (st1.env.own j Dl hj).2 hD⟩
  · rintro i H2 _ ⟨Gi, Fi, vs, a1, a2, _⟩
    exact a2.gg.trans a1.gh
  · rintro i x H2 H3 hlt ⟨Gi, Fi, vs, sti, spi, g1, g2, g3, g4⟩ y
    obtain ⟨d, hd, _⟩ := id y
    obtain ⟨Γ2, e2, hsem⟩ := hf d (List.mem_of_getElem? hd)
    have stw := sti.wipe (tgtSlots tg)
    have take1 : ds.take (i + 1) = ds.take i ++ [d] := by
      rw [List.take_add_one, hd]
      rfl
    refine tgt_ok stw spi.gg hd y e2 fun xs G4 F4 st4 sp4 hxs => ⟨by rw [wipe_sets hxs, wipe_wipe], ?_⟩
    have hσ : ∀ j, j ∉ tgtSlots tg → (setSs (L2.wipe σ (tgtSlots tg)) xs)[j]? = σ[j]? := fun j hj => by
      rw [setSs_get fun q hq z => hj (by rw [← z]; exact hxs q hq), wipe_get, if_neg fun z => hj z.1]
    have hΓ : ∀ j, j ∉ tgtSlots tg → Γ2[j]? = Γ1[j]? := fun j hj => by
      rw [setT_get e2 hj, wipeO_get, if_neg fun z => hj z.1]
    have nD : ∀ j, Dl ∉ wipeF Fi (tgtSlots tg) j := fun j hj => by
      by_cases z : j ∈ tgtSlots tg
      · rw [wipeF_in z] at hj; exact nomatch hj
      · rw [wipeF_out z] at hj; exact g4 j hj
    -- back out of the block
    have back : ∀ G5 H5 F5, Sta X.K (setSs (L2.wipe σ (tgtSlots tg)) xs) Γ2 G5 H5 F5 → Stp Gi H2 (wipeF Fi (tgtSlots tg)) G5 H5 F5 →
        Sta X.K σ Γ1 G5 H5 (mixF Fi F5 (tgtSlots tg)) ∧ Stp G1 H1 F1 G5 H5 (mixF Fi F5 (tgtSlots tg)) ∧ G5 Dl = none ∧ H5 Dl = some (.lst vs) ∧ RepAll X.K G5 vs ((ds.take i).filterMap f) ∧ ∀ j, Dl ∉ mixF Fi F5 (tgtSlots tg) j := fun G5 H5 F5 st5 sp5 => by
      obtain ⟨b1, b2⟩ := sti.unwipe st5 sp5 hσ hΓ
      have hne : H2 Dl ≠ none := by rw [g2]; exact fun z => nomatch z
      refine ⟨b1, spi.trans b2, sp5.gn Dl hne g1 nD, sp5.hh Dl _ nD g2, g3.mono sp5.gg, fun j hj => ?_⟩
      unfold mixF at hj
      by_cases z : j ∈ tgtSlots tg
      · rw [if_pos z] at hj; exact g4 j hj
      · rw [if_neg z] at hj; exact sp5.out hne nD j hj
    refine htt Γ2 _ hsem _ G4 H3 F4 st4 _ fun b G5 H5 F5 st5 sp5 hb => ?_
    cases b with
    | false =>
      refine iteF ?_
      obtain ⟨c1, c2, c3, c4, c5, c6⟩ := back G5 H5 F5 st5 (sp4.trans sp5)
      refine ⟨G5, _, vs, c1, c2, c3, c4, ?_, c6⟩
      have hb' : f d = none := hb
      rw [take1, List.filterMap_append]
      simp only [List.filterMap_cons, hb', List.filterMap_nil, List.append_nil]
      exact c5
    | true =>
      refine iteT ?_
      have hb' : sem gl Φ pe Γ2 (fun o Γ4 => Γ4 = Γ2 ∧ ∃ y, asD o = some y ∧ f d = some y) noX := hb
      refine hte Γ2 _ hb' _ G5 H5 F5 st5 _ (kon_imp (R' := fun o Γ4 => ∃ y, asD o = some y ∧ (Γ4 = Γ2 ∧ f d = some y)) (fun o Γ4 ⟨h1, y, h2, h3⟩ => ⟨y, h2, h1, h3⟩) (kon_D fun v yd Γ6 G6 H6 F6 st6 sp6 r6 hh => ?_))
      obtain ⟨rfl, ef⟩ := hh
      obtain ⟨c1, c2, c3, c4, c5, c6⟩ := back G6 H6 F6 st6 ((sp4.trans sp5).trans sp6)
      refine ⟨vs, c4, sizeLine_lt ?_, G6, _, vs ++ [v], c1.updOut c6 c3, ⟨c2.gg, fun a o h e => ?_, c2.gn, c2.ff⟩, c3, upd_same, ?_, c6⟩
      · have l1 := c5.len
        have l2 := List.length_filterMap_le f (ds.take i)
        rw [List.length_take] at l2
        omega
      · rw [upd_ne fun (z : a = Dl) => by subst z; rw [hD] at e; cases e]
        exact c2.hh a o h e
      · rw [take1, List.filterMap_append]
        simp only [List.filterMap_cons, ef, List.filterMap_nil]
        exact c5.append (.cons r6 .nil)
  · rintro H2 ⟨Gi, Fi, vs, sti, spi, g1, g2, g3, g4⟩
    rw [List.take_length] at g3
    refine kn (.ref Dl) (.lst ((ds.filterMap f).map .sh)) [Dl] Γ1 Gi H2 Fi sti (sp1.trans spi) (.lst g1 g2 (ORepAll.of_sh g3) fun z => nomatch z) (fun p hp j hj => ?_) (fun p hp => ?_) hR
    · rw [List.mem_singleton] at hp
      subst hp
      exact g4 j hj
    · rw [List.mem_singleton] at hp
      subst hp
      exact sp1.back (.inr hD)
end

/-! ### statements: weakest readings, what follows -/
def wS (X : Cx) (st : Stmt) : TS := fun D σ H => ∀ pins s, Inv X pins σ H s → wpAny (model X.prog X.w) X.A (exec st X.env) (SP X pins D) X.xe s
def wB (X : Cx) (st : List Stmt) : TS := fun D σ H => ∀ pins s, Inv X pins σ H s → wpAny (model X.prog X.w) X.A (execs st X.env) (SP X pins D) X.xe s
section
variable {X : Cx} {st : Stmt} {b : List Stmt} {D : Ends} {σ : L2.St} {H : Hp} {t : TS}
theorem ps_w : PS X st (wS X st) := ⟨fun pins s _ _ _ I h => h pins s I⟩
theorem pss_w : PSs X b (wB X b) := ⟨fun pins s _ _ _ I h => h pins s I⟩
theorem wS_of (h : PS X st t) (ht : t D σ H) : wS X st D σ H := fun pins s I => h.run pins s σ H D I ht
theorem wB_of (h : PSs X b t) (ht : t D σ H) : wB X b D σ H := fun pins s I => h.run pins s σ H D I ht
theorem wS_len (h : σ.length = X.N.length → wS X st D σ H) : wS X st D σ H := fun pins s I => h I.len pins s I
theorem wE_len {e : Expr} {Q : VK} (h : σ.length = X.N.length → wE X e σ H Q) : wE X e σ H Q := fun pins s I => h I.len pins s I
end
structure Kst (K : PySem.W.Frag) (ca : EC → Addr) (G H : Hp) (F : Nat → List Addr) (P : Pst) (D : Ends) (W : WX) : Prop where
  nx : ∀ σ' Γ' G' H' F', Sta K σ' Γ' G' H' F' → Stp G H F G' H' F' → P.nx Γ' → D.nx σ' H'
  rt : ∀ v o S σ' Γ' G' H' F', Sta K σ' Γ' G' H' F' → Stp G H F G' H' F' → ORep K G' H' v o S → (∀ p, p ∈ S → ∀ i, p ∉ F' i) → (∀ p, p ∈ S → (∃ j, p ∈ F j) ∨ H p = none) → P.rt o Γ' → D.rt v H'
  bk : ∀ σ' Γ' G' H' F', Sta K σ' Γ' G' H' F' → Stp G H F G' H' F' → P.bk Γ' → D.bk σ' H'
  ct : ∀ σ' Γ' G' H' F', Sta K σ' Γ' G' H' F' → Stp G H F G' H' F' → P.ct Γ' → D.ct σ' H'
  ex : ∀ C n σ' Γ' G' H' F' dd, Sta K σ' Γ' G' H' F' → Stp G H F G' H' F' → H' dd = some (.xd [(("line" : Str), .int n)]) → P.ex C n Γ' → W (.ref (ca C)) (some dd) σ' H'
section
variable {K : PySem.W.Frag} {ca : EC → Addr} {G H G1 H1 : Hp} {F F1 : Nat → List Addr} {P : Pst} {D : Ends} {W : WX}
theorem Kst.step (k : Kst K ca G H F P D W) (a : Stp G H F G1 H1 F1) : Kst K ca G1 H1 F1 P D W :=
  ⟨fun σ' Γ' G' H' F' st sp h => k.nx σ' Γ' G' H' F' st (a.trans sp) h, fun v o S σ' Γ' G' H' F' st sp r d1 d2 h => k.rt v o S σ' Γ' G' H' F' st (a.trans sp) r d1 (fun p hp => a.back (d2 p hp)) h,
    fun σ' Γ' G' H' F' st sp h => k.bk σ' Γ' G' H' F' st (a.trans sp) h, fun σ' Γ' G' H' F' st sp h => k.ct σ' Γ' G' H' F' st (a.trans sp) h, fun C n σ' Γ' G' H' F' dd st sp x h => k.ex C n σ' Γ' G' H' F' dd st (a.trans sp) x h⟩
theorem Kst.kox (k : Kst K ca G H F P D W) (σ : L2.St) : Kox K ca σ G H F P.ex W := fun C n Γ' G' H' F' dd st sp x h => k.ex C n σ Γ' G' H' F' dd st sp x h
end
section
variable (gl : List D) (Φ : Fns) (ca : EC → Addr) (X : Cx) (W : WX)
def SndS (s : Stmt) (p : PSt) : Prop := ∀ Γ P, semS gl Φ p Γ P → ∀ σ G H F, Sta X.K σ Γ G H F → ∀ D, Kst X.K ca G H F P D W → wS X s D σ H
def SndB (b : List Stmt) (p : List PSt) : Prop := ∀ Γ P, semB gl Φ p Γ P → ∀ σ G H F, Sta X.K σ Γ G H F → ∀ D, Kst X.K ca G H F P D W → wB X b D σ H
end
section
variable {gl : List D} {Φ : Fns} {ca : EC → Addr} {X : Cx} {W : WX} {s : Stmt} {b b' : List Stmt} {e t : Expr} {p : PSt} {ps ps' : List PSt} {pe pt : PEx} {pos px : Pos}
theorem sndB_nil : SndB gl Φ ca X W [] [] := by
  intro Γ P hs σ G H F st D k
  unfold semB at hs
  exact wB_of pss_nil (k.nx σ Γ G H F st Stp.refl hs)
theorem sndB_cons (h1 : SndS gl Φ ca X W s p) (h2 : SndB gl Φ ca X W b ps) : SndB gl Φ ca X W (s :: b) (p :: ps) := by
  intro Γ P hs σ G H F st D k
  unfold semB at hs
  refine wB_of (pss_cons ps_w pss_w) ?_
  refine h1 Γ _ hs σ G H F st _ ⟨fun σ' Γ' G' H' F' st' sp' h' => ?_, k.rt, k.bk, k.ct, k.ex⟩
  exact h2 Γ' P h' σ' G' H' F' st' D (k.step sp')
theorem sndS_pas : SndS gl Φ ca X W (.Pass pos) .pas := by
  intro Γ P hs σ G H F st D k
  unfold semS at hs
  exact wS_of ps_pass (k.nx σ Γ G H F st Stp.refl hs)
theorem sndS_brk : SndS gl Φ ca X W (.Break pos) .brk := by
  intro Γ P hs σ G H F st D k
  unfold semS at hs
  exact wS_of ps_break (k.bk σ Γ G H F st Stp.refl hs)
theorem sndS_cnt : SndS gl Φ ca X W (.Continue pos) .cnt := by
  intro Γ P hs σ G H F st D k
  unfold semS at hs
  exact wS_of ps_continue (k.ct σ Γ G H F st Stp.refl hs)
def isComp : Expr → Bool
  | .ListComp _ _ _ _ => true
  | .SetComp _ _ _ _ => true
  | .DictComp _ _ _ _ _ => true
  | _ => false
theorem swaps_no {tg : Option Expr} {l : Nat} {env : Env} (h : isComp e = false) : swapsWith e tg l env = pure false := by
  cases e <;> first | rfl | (simp [isComp] at h)
theorem sndS_exp (hc : isComp e = false) (ha : Snd gl Φ ca X W e pe) : SndS gl Φ ca X W (.Expr e pos) (.exp pe) := by
  intro Γ P hs σ G H F st D k
  unfold semS at hs
  refine wS_of (ps_expr pe_w (swaps_no hc)) ?_
  exact ha Γ _ P.ex hs σ G H F st _ (fun v o S Γ' G' H' F' st' sp' r d1 d2 h => k.nx σ Γ' G' H' F' st' sp' h) (k.kox σ)
theorem sndS_ret (ha : Snd gl Φ ca X W e pe) : SndS gl Φ ca X W (.Return (some e) pos) (.ret pe) := by
  intro Γ P hs σ G H F st D k
  unfold semS at hs
  refine wS_of (ps_ret pe_w) ?_
  exact ha Γ _ P.ex hs σ G H F st _ (fun v o S Γ' G' H' F' st' sp' r d1 d2 h => k.rt v o S σ Γ' G' H' F' st' sp' r d1 d2 h) (k.kox σ)
theorem sndS_ite (ht : SndT gl Φ ca X W t pt) (h1 : SndB gl Φ ca X W b ps) (h2 : SndB gl Φ ca X W b' ps') : SndS gl Φ ca X W (.If t b b' pos) (.ite pt ps ps') := by
  intro Γ P hs σ G H F st D k
  unfold semS at hs
  refine wS_of (ps_if pt_w pss_w pss_w) ?_
  refine ht Γ _ P.ex hs σ G H F st _ (fun x Γ1 G1 H1 F1 st1 sp1 hs1 => ?_) (k.kox σ)
  cases x with
  | true => exact iteT (h1 Γ1 P hs1 σ G1 H1 F1 st1 D (k.step sp1))
  | false => exact iteF (h2 Γ1 P hs1 σ G1 H1 F1 st1 D (k.step sp1))
theorem sndS_whl (hp : PassesOwn (model X.prog X.w) X.A X.env X.xe) (ht : SndT gl Φ ca X W t pt) (h1 : SndB gl Φ ca X W b ps) : SndS gl Φ ca X W (.While t b [] pos) (.whl pt ps) := by
  intro Γ P hs σ G H F st D k
  unfold semS at hs
  obtain ⟨Wd, ⟨m, hm⟩, hs⟩ := hs
  refine wS_of (ps_while hp pt_w pss_w) ?_
  refine ⟨fun m σ' H' => ∃ Γ' G' F', Wd m Γ' ∧ Sta X.K σ' Γ' G' H' F' ∧ Stp G H F G' H' F', ⟨m, Γ, G, F, hm, st, Stp.refl⟩, ?_⟩
  rintro m σ' H' ⟨Γ', G', F', hw, st', sp'⟩
  refine ht Γ' _ P.ex (hs m Γ' hw) σ' G' H' F' st' _ (fun x Γ1 G1 H1 F1 st1 sp1 hs1 => ?_) ((k.step sp').kox σ')
  cases x with
  | false => exact iteF ((k.step sp').nx σ' Γ1 G1 H1 F1 st1 sp1 hs1)
  | true =>
    refine iteT ⟨fun σ2 H2 => ∃ m', m' < m ∧ ∃ Γ' G' F', Wd m' Γ' ∧ Sta X.K σ2 Γ' G' H2 F' ∧ Stp G H F G' H2 F', fun _ _ z => z, ?_⟩
    have k1 := k.step (sp'.trans sp1)
    refine h1 Γ1 _ hs1 σ' G1 H1 F1 st1 _ ⟨?_, k1.rt, k1.nx, ?_, k1.ex⟩
    · rintro σ2 Γ2 G2 H2 F2 st2 sp2 ⟨m', hlt, hw'⟩
      exact ⟨m', hlt, Γ2, G2, F2, hw', st2, (sp'.trans sp1).trans sp2⟩
    · rintro σ2 Γ2 G2 H2 F2 st2 sp2 ⟨m', hlt, hw'⟩
      exact ⟨m', hlt, Γ2, G2, F2, hw', st2, (sp'.trans sp1).trans sp2⟩
def notSetE : Expr → Bool
  | .Set _ _ _ => false
  | _ => true
theorem folded_ok {env : Env} (h : notSetE e = true) (x : Value) : foldedSetIterable e env x = pure x := by
  cases e <;> first | rfl | (simp [notSetE] at h)
theorem sndS_for {tgE : Expr} {tg : Tgt} (hp : PassesOwn (model X.prog X.w) X.A X.env X.xe) (hc : X.calm = true) (hn : notSetE e = true) (hi : SndI gl Φ ca X W tgE e pe) (hg : PG X tgE (gOf X.K tg)) (h1 : SndB gl Φ ca X W b ps) :
    SndS gl Φ ca X W (.For tgE e b [] pos) (.for_ tg pe ps) := by
  intro Γ P hs σ G H F st D k
  unfold semS at hs
  refine wS_of (ps_for hp hc pi_w hg pss_w (folded_ok hn)) ?_
  refine hi Γ _ P.ex hs σ G H F st _ (fun J ds Γ1 G1 H1 F1 st1 sp1 wk hs1 => ?_) (k.kox σ)
  obtain ⟨Wd, w0, ws, wd⟩ := hs1
  refine for_it wk (fun i σ' H' => ∃ Γ' G' F', Wd i Γ' ∧ Sta X.K σ' Γ' G' H' F' ∧ Stp G1 H1 F1 G' H' F') ⟨Γ1, G1, F1, w0, st1, Stp.refl⟩ ?_ ?_ ?_
  · rintro i σ' H' _ ⟨Γ', G', F', _, a1, a2⟩
    exact a2.gg.trans a1.gh
  · rintro i x σ' H' H'' hlt ⟨Γ', G', F', hw, st', sp'⟩ y
    obtain ⟨d, hd, _⟩ := id y
    obtain ⟨Γ3, e3, hs3⟩ := ws i d Γ' hd hw
    refine tgt_ok st' sp'.gg hd y e3 fun xs G4 F4 st4 sp4 _ => ?_
    have k1 := k.step (sp1.trans (sp'.trans sp4))
    refine h1 Γ3 _ hs3 _ G4 H'' F4 st4 _ ⟨?_, k1.rt, k1.nx, ?_, k1.ex⟩
    · intro σ2 Γ2 G2 H2 F2 st2 sp2 hw'
      exact ⟨Γ2, G2, F2, hw', st2, (sp'.trans sp4).trans sp2⟩
    · intro σ2 Γ2 G2 H2 F2 st2 sp2 hw'
      exact ⟨Γ2, G2, F2, hw', st2, (sp'.trans sp4).trans sp2⟩
  · rintro σ' H' ⟨Γ', G', F', hw, st', sp'⟩
    exact (k.step sp1).nx σ' Γ' G' H' F' st' sp' (wd Γ' hw)
/-! ### stores -/
section
variable {Γ : List O} {P : Pst} {σ : L2.St} {G H : Hp} {F : Nat → List Addr} {D : Ends}
/-- a value comes to slot i -/
theorem kon_asg {i : Nat} {pub : Bool} (k : Kst X.K ca G H F P D W) : Kon X.K σ G H F (fun o Γ1 => i < Γ1.length ∧ if pub = true then ∃ d, asD o = some d ∧ P.nx (Γ1.set i (.sh d)) else P.nx (Γ1.set i o)) (fun x H1 => gName i x σ H1 D.nx) := by
  cases pub with
  | true =>
    refine kon_imp (R' := fun o Γ1 => ∃ d, asD o = some d ∧ (i < Γ1.length ∧ P.nx (Γ1.set i (.sh d)))) (fun o Γ1 h => ?_) (kon_D fun v d Γ' G' H' F' st' sp' r h => ?_)
    · obtain ⟨h1, d, h2, h3⟩ := h
      exact ⟨d, h2, h1, h3⟩
    · exact k.nx _ _ G' H' _ (st'.set (i := i) h.1 (.sh r) fun _ z => nomatch z) sp'.unset h.2
  | false =>
    intro v o S Γ' G' H' F' st' sp' r d1 d2 h
    refine k.nx _ _ G' H' _ (st'.set (i := i) h.1 r fun p hp j _ => d1 p hp j) ⟨sp'.gg, sp'.hh, sp'.gn, fun j p hp => ?_⟩ h.2
    by_cases z : j = i
    · subst z; rw [setF_same] at hp; exact d2 p hp
    · rw [setF_ne z] at hp; exact sp'.ff j p hp
end
theorem sndS_asg {i : Nat} {pub : Bool} {x : Str} (hN : X.N.Nodup) (hi : X.N[i]? = some x) (hx : Loc X.env.scope x) (hf : X.fn x = true ∨ X.env.scope.names.lookup x = some .local) (hs : ∀ l, swapsWith e (some (.Name x px)) l X.env = pure false) (ha : Snd gl Φ ca X W e pe) : SndS gl Φ ca X W (.Assign [.Name x px] e pos) (.asg i pub pe) := by
  intro Γ P hsm σ G H F st D k
  unfold semS at hsm
  refine wS_of (ps_set hN hi hx pe_w (hs _) hf) ?_
  exact ha Γ _ P.ex hsm σ G H F st _ (kon_asg k) (k.kox σ)
def isTupE : Expr → Bool
  | .Tuple _ _ _ => true
  | _ => false
theorem stores_no {es : List Expr} {kk : Nat} {env : Env} (h : isTupE e = false) : swappedStores [.Tuple es kk px] e env = pure none := by
  cases e <;> first | rfl | (simp [isTupE] at h)
theorem sndS_asgT {is : List Nat} {es : List Expr} {kk : Nat} (hg : PG X (.Tuple es kk px) (gOf X.K (.tp is))) (hc : isComp e = false) (ht : isTupE e = false) (ha : Snd gl Φ ca X W e pe) : SndS gl Φ ca X W (.Assign [.Tuple es kk px] e pos) (.asgT is pe) := by
  intro Γ P hsm σ G H F st D k
  unfold semS at hsm
  refine wS_of (ps_asg pe_w hg (by rw [swapsWithSole]; exact swaps_no hc) (stores_no ht) rfl) ?_
  refine ha Γ _ P.ex hsm σ G H F st _ (kon_imp (R' := fun o Γ1 => ∃ d, asD o = some d ∧ ∃ Γ2, setT (.tp is) d Γ1 = some Γ2 ∧ P.nx Γ2) (fun o Γ1 ⟨d, Γ2, h1, h2, h3⟩ => ⟨d, h1, Γ2, h2, h3⟩) (kon_D fun v d Γ' G' H' F' st' sp' r h => ?_)) (k.kox σ)
  obtain ⟨Γ2, e2, h⟩ := h
  refine tgt_ok (ds := [d]) (i := 0) (G0 := G') (d := d) st' (Same.refl G') rfl ⟨d, rfl, .inl ⟨rfl, r⟩⟩ e2 fun xs G4 F4 st4 sp4 _ => ?_
  exact k.nx _ Γ2 G4 H' F4 st4 (sp'.trans sp4) h
end
end PW

end
section
set_option Elab.async false
set_option linter.all false
set_option maxRecDepth 100000
set_option maxHeartbeats 4000000
/-! PM1: errors whose context is None or an error without a context (raised anew in an except suite). -/
namespace L2M
open PySem PySem.Spec PyProof.Rows L2
/-- the context that an error's object bears -/
def CtxIs (c : Value) (o : Obj) : Prop := ∀ vs : Array Value, o.data = .fields vs → vs[2]? = some c
theorem ctxIs_steady {c : Value} : PXN.Steady1 (CtxIs c) := fun o v h => by
  obtain ⟨k, dd, dt, sl⟩ := o
  cases dt with
  | fields v0 =>
    intro vs e
    have e2 : v0.setIfInBounds 1 v = vs := Data.fields.inj e
    rw [← e2, Array.getElem?_setIfInBounds_ne (by decide)]
    exact h v0 rfl
  | _ =>
    intro vs e
    cases e
def Zm (cls : Value) (d : Option Addr) (c : Value) (o : Obj) : Prop := o.cls = cls ∧ o.dict = d ∧ CtxIs c o
theorem Zm.steady {cls : Value} {d : Option Addr} {c : Value} : PXN.Steady1 (Zm cls d c) := fun o v h => ⟨PXN.steady_cls o v h.1, PXN.steady_dict o v h.2.1, ctxIs_steady o v h.2.2⟩
theorem Zm.zc {cls : Value} {d : Option Addr} {c : Value} {o : Obj} (h : Zm cls d c o) : Zc cls d o := ⟨h.1, h.2.1⟩
theorem Zm.of {cls : Value} {d : Option Addr} {o : Obj} (h : L2N.Zn cls d o) : Zm cls d .none o := ⟨h.1, h.2.1, h.2.2⟩
/-- an object without a context -/
def NoCtx (o : Obj) : Prop := ∃ vs : Array Value, o.data = .fields vs ∧ vs[2]? = some .none
/-- the context: None, or one that stands in the ground, without a context -/
def CtB (m : Bool) (B : Heap) (H : Hp) (c : Value) : Prop := c = .none ∨ (m = false ∧ ∃ (x : Addr) (o : Obj), c = .ref x ∧ B.get? x = some o ∧ NoCtx o ∧ H x = none)
/-- .. that is pinned -/
def CtP (pn : List (Addr × Obj)) (c : Value) : Prop := c = .none ∨ ∃ q, q ∈ pn ∧ c = .ref q.1 ∧ NoCtx q.2
structure Air (X : Cx) (a : Addr) (Z : Obj → Prop) (B : Heap) (H : Hp) (sI s' : Shared) : Prop where
  nb : ∀ b o, sI.heap.get? b = some o → b ∉ frs X.stack → B.get? b = some o
  up : sI.heap.UpToSlots s'.heap
  sky : Sky B X.stack a Z X.env.locals s'.heap
  na : H a = none
  os : s'.os = sI.os
  ag : AllBare s'.gens
/-- an error in the air of X -/
def XE (m : Bool) (X : Cx) (W : WX) (u : Value) (s' : Shared) : Prop :=
  ∃ (a : Addr) (B : Heap) (sI : Shared) (pins : List (Addr × Obj)) (σ : L2.St) (H : Hp) (cls : Value) (d : Option Addr) (c : Value), u = .ref a ∧ Inv X pins σ H sI ∧ Air X a (Zm cls d c) B H sI s' ∧ CtB m B H c ∧ W cls d σ H
def Takes (m : Bool) (X : Cx) (W : WX) : Prop := ∀ u s', XE m X W u s' → X.xe u s'
theorem Takes.imp {m : Bool} {X : Cx} {W W' : WX} (t : Takes m X W) (h : ∀ c d σ H, W' c d σ H → W c d σ H) : Takes m X W' := fun u s' ⟨a, B, sI, pins, σ, H, cls, d, c, e, I, r, q, w⟩ =>
  t u s' ⟨a, B, sI, pins, σ, H, cls, d, c, e, I, r, q, h _ _ _ _ w⟩
/-- behind a call that let an error out -/
def CX (m : Bool) (P : Program) (w : World) (outer : List Env) (H : Hp) (s : Shared) (E : XK) (u : Value) (s' : Shared) : Prop :=
  ∃ (a : Addr) (B : Heap) (H' : Hp) (cls : Value) (d : Option Addr) (c : Value), u = .ref a ∧ HandSPX.FlyingZ B outer a (Zm cls d c) s'.heap ∧ HOk P w H' B ∧ UB (frs outer) H H' s.heap B s'.heap ∧ H' a = none ∧ s'.os = s.os ∧ AllBare s'.gens ∧ CtB m B H' c ∧ E cls d H'
/-- a strict promise is a promise -/
theorem CX.weak {m : Bool} {P : Program} {w : World} {outer : List Env} {H : Hp} {s : Shared} {E : XK} {u : Value} {s' : Shared} (h : CX true P w outer H s E u s') : CX m P w outer H s E u s' := by
  obtain ⟨a, B, H', cls, d, c, r1, r2, r3, r4, r5, r6, r7, hc, r8⟩ := h
  refine ⟨a, B, H', cls, d, c, r1, r2, r3, r4, r5, r6, r7, ?_, r8⟩
  rcases hc with z | ⟨z, _⟩
  · exact .inl z
  · cases z
section
variable {m : Bool} {X : Cx} {pins : List (Addr × Obj)} {σ : L2.St} {H : Hp} {sI s s' : Shared} {B : Heap} {W : WX} {E : XK}
theorem XE.of_call (I : Inv X pins σ H s) (hW : ∀ cls d H', E cls d H' → W cls d σ H') {u : Value} (x : CX m X.prog X.w X.stack H s E u s') : XE m X W u s' := by
  obtain ⟨a, B, H', cls, d, c, rfl, fl, hok, ub, na, os, ag, hc, hE⟩ := x
  have st : B.StaysIn s'.heap := fl.1
  obtain ⟨G, g1, g2⟩ := restrict s'.heap fun b => (B.get? b).isSome || decide (b ∈ frs X.stack)
  have inB : ∀ b o, B.get? b = some o → G.get? b = some o := fun b o e => (g1 b (by simp [e])).trans (st b o e)
  have inF : ∀ b, b ∈ frs X.stack → G.get? b = s'.heap.get? b := fun b hb => g1 b (by simp [hb])
  have back : ∀ b o, G.get? b = some o → s'.heap.get? b = some o ∧ ((B.get? b).isSome = true ∨ b ∈ frs X.stack) := fun b o e => by
    by_cases q : ((B.get? b).isSome || decide (b ∈ frs X.stack)) = true
    · exact ⟨(g1 b q).symm.trans e, by simpa [Bool.or_eq_true] using q⟩
    · rw [g2 b (by simpa using q)] at e
      cases e
  have J : Inv X pins σ H' { s with heap := G, gens := s'.gens, drawn := s'.drawn, toks := s'.toks } := by
    refine I.call (ch := []) ⟨fun b o e n hb _ => inB b o (ub.keep b o e n hb), fun b o e n hb _ => ?_, fun b o e n _ => ub.free b o e n, fun b o e _ => ?_, ub.tups, ub.frzs, ub.tbls⟩ (hok.kept inB) ag (fun _ z => nomatch z)
    · obtain ⟨sl, q⟩ := ub.slot b o e hb
      exact ⟨sl, (inF b hb).trans q⟩
    · by_cases hb : b ∈ frs X.stack
      · obtain ⟨sl, q⟩ := ub.slot b o e hb
        exact ⟨_, (inF b hb).trans q⟩
      · obtain ⟨o', q⟩ := ub.there b o e hb
        exact ⟨o', inB b o' q⟩
  refine ⟨a, B, _, pins, σ, H', cls, d, c, rfl, J, ⟨fun b o e hb => ?_, Heap.UpToSlots.of_keeps fun b o e => (back b o e).1, .inr (.inl fl), na, os, ag⟩, hc, hW _ _ _ hE⟩
  obtain ⟨e', h⟩ := back b o e
  rcases h with h | h
  · obtain ⟨o', q⟩ := Option.isSome_iff_exists.mp h
    have z := (st b o' q).symm.trans e'
    cases z
    exact q
  · exact absurd h hb
/-- a new error -/
theorem XE.new {a : Addr} {oe : Obj} {vs : Array Value} {cls c : Value} {d : Option Addr} (I : Inv X pins σ H sI) (k : ∀ b o, sI.heap.get? b = some o → s'.heap.get? b = some o) (hne : sI.heap.get? a = none) (he : s'.heap.get? a = some oe)
    (hz : Zm cls d c oe) (hd : oe.data = .fields vs) (h1 : vs[1]? = some .none) (na : H a = none) (os : s'.os = sI.os) (ag : AllBare s'.gens) (hc : CtB m (PySem.W.hideAll sI.heap (frs X.stack)) H c) (w : W cls d σ H) : XE m X W (.ref a) s' := by
  refine ⟨a, PySem.W.hideAll sI.heap (frs X.stack), sI, pins, σ, H, cls, d, c, rfl, I, ⟨fun b o e hb => PySem.W.hideAll_get _ e hb, Heap.UpToSlots.of_keeps k, .inl ⟨fun b o e => k b o (PySem.W.of_hideAll _ e), ?_, ?_, oe, vs, he, hz, hd, h1⟩, na, os, ag⟩, hc, w⟩
  · cases q : (PySem.W.hideAll sI.heap (frs X.stack)).get? a with
    | none => rfl
    | some o =>
      have z := (PySem.W.of_hideAll _ q).symm.trans hne
      cases z
  · exact Heap.FunFrames.of_keeps (fun b o e _ => ⟨o, k b o e, rfl⟩) (funFrames_none I.stack fun b hb => PySem.W.hideAll_none _ hb)
/-- it leaves the def -/
theorem XE.leave (hs : X.stack = X.env :: X.outer) (hf : X.env.frame = some X.env.locals) (hex : X.ex = []) {E₁ : Value → Shared → Prop} (hW : ∀ cls d σ H, W cls d σ H → E cls d H) {u : Value} (x : XE m X W u s') :
    wpAny (model X.prog X.w) X.A (leaving X.env u) (fun _ s'' => CX m X.prog X.w X.outer X.H_0 X.s_0 E u s'') E₁ s' := by
  obtain ⟨a, B, sI, pins, σ, H, cls, d, c, rfl, I, r, hc, w⟩ := x
  have hfr : X.A.frames = some (X.env :: X.outer) := by rw [I.ok.frames, hs]
  have old : ∀ b o, X.s_0.heap.get? b = some o → b ∉ X.fs → b ∉ frs X.stack := fun b o e hb hm => by
    rcases List.mem_cons.mp (I.stkSub b hm) with z | z
    · have h1 := Nat.lt_of_lt_of_le (Heap.lt_size e) I.ok.above
      rw [z] at h1
      exact Nat.lt_irrefl _ h1
    · exact hb z
  have nex : ∀ b, b ∉ X.ex := fun b hb => by rw [hex] at hb; cases hb
  have hokB := I.inGround r.nb
  have fin : ∀ h', HandSPX.FlyingZ B X.outer a (Zm cls d c) h' → s'.heap.UpToSlots h' → CX m X.prog X.w X.outer X.H_0 X.s_0 E (.ref a) { s' with heap := h' } := fun h' fl up' => by
    refine ⟨a, B, H, cls, d, c, rfl, fl, hokB, ⟨fun b o e n hb => r.nb b o (I.base.keep b o e n hb (nex b)) (old b o e hb), fun b o e hb => ?_, fun b o e n => I.base.free b o e n (nex b), fun b o e hb => ?_, I.base.tups, I.base.frzs, I.base.tbls⟩,
      r.na, r.os.trans I.os, r.ag, hc, hW _ _ _ _ w⟩
    · obtain ⟨_, o₀, e₀, hnf⟩ := I.ok.funs.mem hb
      rw [e] at e₀
      cases e₀
      obtain ⟨sl, e1⟩ := I.base.slot b o e (I.ok.frf b hb) hb (nex b)
      obtain ⟨sl2, e2⟩ := r.up b _ e1 hnf
      obtain ⟨sl3, e3⟩ := up' b _ e2 hnf
      exact ⟨sl3, e3⟩
    · obtain ⟨o', e1⟩ := I.base.there b o e (nex b)
      exact ⟨o', r.nb b o' e1 (old b o e hb)⟩
  have sky := r.sky
  rw [hs] at sky
  rcases sky with ⟨hB, hn, hl, oe, vs, he, hz, hd, h1⟩ | fl | hd
  · exact PXN.leaving_firstZ Zm.steady hfr hl hf he hB hn hd h1 hz fin
  · exact PXN.leaves_onZ Zm.steady hfr hf fl fin
  · exact HandSPX.leaves_heldZ hf hd fin
theorem takes_of (hs : X.stack = X.env :: X.outer) (hf : X.env.frame = some X.env.locals) (hex : X.ex = []) {E₁ : Value → Shared → Prop}
    (hx : X.xe = fun e s' => wpAny (model X.prog X.w) X.A (leaving X.env e) (fun _ s'' => CX m X.prog X.w X.outer X.H_0 X.s_0 E e s'') E₁ s') : Takes m X (fun cls d _ H => E cls d H) := fun u s' x => by
  rw [hx]
  exact XE.leave (W := fun cls d _ H => E cls d H) (E := E) hs hf hex (fun _ _ _ _ h => h) x
end
theorem passAt {m : Bool} {X : Cx} {W : WX} (tk : Takes m X W) (σ : L2.St) : PassesAt (CX m X.prog X.w) X σ (WE W σ) := fun _ _ _ e s' I c => tk e s' (XE.of_call I (fun _ _ _ h => h) c)
abbrev PMk := @L2N.PMk
theorem ps_raise {m : Bool} {X : Cx} {W : WX} {e : Expr} {t : L2.St → Hp → XK → Prop} {pos : Pos} (hc : X.calm = true) (tk : Takes m X W) (he : L2N.PMk X e t) : PS X (.Raise (some e) none pos) (fun _ σ H => t σ H fun cls d H' => W cls d σ H') := by
  refine ⟨fun pins s σ H D I h => ?_⟩
  show wpAny _ _ (do standAt pos; raiseStmt X.env (some (do let v ← eval e X.env; standAt pos; pure v)) none) _ _ _
  refine wpAny_bind (wpAny_standAt (raise_made (I.ok.hd hc) (wpAny_bind (wpAny_mono (he pins s σ H _ I h) (fun u s1 hu => wpAny_bind (wpAny_standAt (wpAny_pure ?_))) fun _ _ x => x))))
  obtain ⟨a, oe, vs, sI, H', cls, d, rfl, J, k, hne, ha, hz, hd, h1, na, os, ag, r, q⟩ := hu
  obtain ⟨r1, r2⟩ := r (model X.prog X.w) s1.heap (J.kIn.keeps k)
  exact ⟨a, oe, vs, cls, rfl, ha, hz.1, hd, h1, r1, r2, tk _ _ (XE.new J k hne ha (.of hz) hd h1 na os ag (.inl rfl) q)⟩
/-- raise in an except suite: the handled error becomes the context -/
theorem ps_raiseH {X : Cx} {W : WX} {e : Expr} {t : L2.St → Hp → XK → Prop} {pos : Pos} (hc : L2H.HotC X) (tk : Takes false X W) (he : L2N.PMk X e t) : PS X (.Raise (some e) none pos) (fun _ σ H => t σ H fun cls d H' => W cls d σ H') := by
  refine ⟨fun pins s σ H D I h => ?_⟩
  obtain ⟨p, ⟨hh, v1, e1, c1⟩, hp⟩ := hc
  show wpAny _ _ (do standAt pos; raiseStmt X.env (some (do let v ← eval e X.env; standAt pos; pure v)) none) _ _ _
  refine wpAny_bind (wpAny_standAt (HotX.raise_made_hot (x1 := p.1) (wpAny_bind (wpAny_mono (he pins s σ H _ I h) (fun u s1 hu => wpAny_bind (wpAny_standAt (wpAny_pure ?_))) fun _ _ x => x))))
  obtain ⟨a, oe, vs, sI, H', cls, d, rfl, J, k, hne, ha, hz, hd, h1, na, os, ag, r, q⟩ := hu
  obtain ⟨r1, r2⟩ := r (model X.prog X.w) s1.heap (J.kIn.keeps k)
  obtain ⟨P1, P2, P3, P4, _⟩ := J.pin p (List.mem_append_left _ hp)
  have nap : p.1 ≠ a := fun z => by
    rw [z, hne] at P1
    cases P1
  have hi : 2 < vs.size := (Array.getElem?_eq_some_iff.mp (hz.2.2 vs hd)).1
  have nfr : p.1 ∉ frs X.stack := fun hm => by
    rcases List.mem_cons.mp (J.stkSub p.1 hm) with z | z
    · exact P3 z
    · exact P4 z
  refine ⟨a, oe, vs, cls, rfl, ha, hz.1, hd, h1, hi, nap, ⟨hh, p.2, v1, k _ _ P1, e1, c1⟩, r1, r2, tk _ _ (XE.new (c := .ref p.1) J (fun b u z => ?_) hne (Heap.get?_update_self _ ha (Obj.isFreed_of_fields (Obj.data_mapFields hd _))) ⟨(Obj.cls_mapFields ..).trans hz.1, (HandSPX.dict_mapFields ..).trans hz.2.1, ?_⟩ (Obj.data_mapFields hd _) ?_ na os ag
    (.inr ⟨rfl, p.1, p.2, rfl, PySem.W.hideAll_get _ P1 nfr, ⟨v1, e1, c1⟩, P2⟩) q)⟩
  · have nab : a ≠ b := fun y => by
      rw [← y, hne] at z
      cases z
    show (s1.heap.update a (Obj.mapFields (·.setIfInBounds 2 (.ref p.1)))).get? b = some u
    rw [Heap.get?_update_other _ _ nab]
    exact k b u z
  · intro vs' e'
    rw [Obj.data_mapFields hd] at e'
    cases e'
    simp [hi]
  · rw [Array.getElem?_setIfInBounds_ne (by decide)]
    exact h1

/-! ### try -/
section
variable {m : Bool} {X : Cx} {pins : List (Addr × Obj)} {σ : L2.St} {H : Hp} {sI s' : Shared} {B : Heap} {a : Addr} {cls c : Value} {d : Option Addr}
theorem fields_nofr {B h : Heap} {l : List Env} {a : Addr} {o : Obj} {vs : Array Value} (ff : h.FunFrames B l) (e : h.get? a = some o) (dd : o.data = .fields vs) : a ∉ frs l := fun hm => by
  obtain ⟨_, o', e', hnf⟩ := ff.mem hm
  rw [e] at e'
  cases e'
  exact hnf _ dd
/-- what is caught: the state, its pins -/
structure Got (X : Cx) (pins : List (Addr × Obj)) (σ : L2.St) (H : Hp) (a : Addr) (cls : Value) (d : Option Addr) (c : Value) (s : Shared) (oe : Obj) (pn : List (Addr × Obj)) : Prop where
  z : Zm cls d c oe
  f : ∃ vs, oe.data = .fields vs
  h : s.heap.get? a = some oe
  ct : CtP (X.pn ++ pn) c
  sub : ∀ p, p ∈ pins → p ∈ pn
  inv : Inv X pn σ H s
  nL : a ≠ X.env.locals
  nF : a ∉ X.fs
theorem got_of {h4 : Heap} (hs : X.stack = X.env :: X.outer) (hf : X.env.frame = some X.env.locals) (J : Inv X pins σ H sI) (r : Air X a (Zm cls d c) B H sI s') (hc : CtB m B H c) (fl : HandSPX.FlyingZ B (X.env :: X.outer) a (Zm cls d c) h4) (up : s'.heap.UpToSlots h4) :
    ∃ oe pn, Got X pins σ H a cls d c { s' with heap := h4 } oe pn := by
  have J4 : Inv X pins σ H { s' with heap := h4 } := J.landed r.nb fl.1 (r.up.trans up) r.os r.ag
  obtain ⟨oe, vs, he, hz, hd⟩ := fl.there
  have out : ∀ {b : Addr} {o : Obj} {vs : Array Value}, h4.get? b = some o → o.data = .fields vs → b ≠ X.env.locals ∧ b ∉ X.fs := fun {b o vs} e dd => by
    have nfr := fields_nofr fl.2.2.1 e dd
    refine ⟨fun z => nfr (List.mem_filterMap.mpr ⟨X.env, List.mem_cons_self, by rw [hf, z]⟩), fun hm => ?_⟩
    obtain ⟨e, he, q⟩ := List.mem_filterMap.mp hm
    exact nfr (List.mem_filterMap.mpr ⟨e, List.mem_cons_of_mem _ he, q⟩)
  rcases hc with hc | ⟨_, x, o, ec, hx, ⟨v2, d2, c2⟩, nx⟩
  · exact ⟨oe, pins, hz, ⟨vs, hd⟩, he, .inl hc, fun _ z => z, J4, (out he hd).1, (out he hd).2⟩
  · have hx4 := fl.1 x o hx
    refine ⟨oe, (x, o) :: pins, hz, ⟨vs, hd⟩, he, .inr ⟨(x, o), by simp, ec, v2, d2, c2⟩, fun _ z => List.mem_cons_of_mem _ z, J4.pins_of fun p hp => ?_, (out he hd).1, (out he hd).2⟩
    rcases List.mem_cons.mp hp with z | z
    · rw [z]
      exact ⟨hx4, nx, (out hx4 d2).1, (out hx4 d2).2, fun v y => by rw [show o.data = .fields v2 from d2] at y; cases y⟩
    · exact J4.pin p (List.mem_append_right _ z)
theorem Got.suite {s : Shared} {oe : Obj} {pn : List (Addr × Obj)} (g : Got X pins σ H a cls d c s oe pn) (na : H a = none) : Inv (X.suite a ((a, oe) :: (X.pn ++ pn))) [] σ H s := by
  obtain ⟨vs, hd⟩ := g.f
  exact g.inv.suite g.h hd na g.nL g.nF
theorem drop_pins {pn : List (Addr × Obj)} {s : Shared} (sub : ∀ p, p ∈ pins → p ∈ pn) (I : Inv X pn σ H s) : Inv X pins σ H s := I.pins_of fun p hp => I.pin p (List.mem_append_right _ (sub p hp))
/-- an error that no clause names flies on -/
theorem fly_on {W : WX} {D : Ends} {h3 : Heap} (hs : X.stack = X.env :: X.outer) (hf : X.env.frame = some X.env.locals) (tk : Takes m X W) (J : Inv X pins σ H sI) (r : Air X a (Zm cls d c) B H sI s') (hc : CtB m B H c)
    (fl : HandSPX.FlyingZ B (X.env :: X.outer) a (Zm cls d c) h3) (up : s'.heap.UpToSlots h3) (w : W cls d σ H) : wpAny (model X.prog X.w) X.A (handleBy (.ref a) X.env []) (SP X pins D) X.xe { s' with heap := h3 } := by
  refine wpAny_handleBy_nil ?_
  obtain ⟨k1, k2, k3, oe, vs, T, oT, ts', he, hz, hd, h1, hr⟩ := id fl
  unfold PySem.passOn
  refine wpAny_bind (wpAny_field he hd h1 ?_)
  rw [if_neg (show ¬ ((Value.ref T == Value.none) = true) from by simp)]
  have fin : wpAny (model X.prog X.w) X.A (setFlight (.ref a) X.env.frame) (fun _ s4 => wpAny (model X.prog X.w) X.A (throw (.ref a) : Sem Flow) (SP X pins D) X.xe s4) X.xe { s' with heap := h3 } := by
    rw [hf]
    refine HandSPX.setFlight_upZ fl fun h4 hh4 up4 => wpAny_throw (tk _ _ ?_)
    exact ⟨a, B, sI, pins, σ, H, cls, d, c, rfl, J, ⟨r.nb, (r.up.trans up).trans up4, .inr (.inr (by rw [hs]; exact hh4)), r.na, r.os, r.ag⟩, hc, w⟩
  first
    | exact wpAny_bind (wpAny_pure (wpAny_bind fin))
    | exact wpAny_bind fin
/-- the clause's name is looked up -/
theorem test_ok {x : Str} {cv : Value} {np : Pos} {s : Shared} {pn : List (Addr × Obj)} {Q : Value → Shared → Prop} {E : Value → Shared → Prop} (hn : Names X x cv) (S : Inv (X.suite a pn) [] σ H s) (q : Q cv s) : wpAny (model X.prog X.w) (X.A.mark (some (.ref a))) (eval (.Name x np) X.env) Q E s := by
  obtain ⟨hg, hdbg, hm | ⟨hm, hv, hnn⟩⟩ := hn
  · exact ld_glob (X := X.suite a pn) S hg hm q hdbg
  · exact ld_blt (X := X.suite a pn) S hg hm hv q hnn hdbg
end
section
variable {m : Bool} {X : Cx} {x n : Str} {c : Value} {i : Nat} {body suite : List Stmt} {b₀ : Stmt} {np pos pos' : Pos} {tb : WX → TS} {ts : Addr → Value → Option Addr → TS} {Wout : WX}
theorem end_try {pins : List (Addr × Obj)} {D : Ends} {xe : Value → Shared → Prop} {f : Flow} {s1 : Shared} (ok : X.Ok) (h : SP (X.tr (X.pn ++ pins) xe) [] D f s1) : SP X pins D f s1 := by
  cases f with
  | next => obtain ⟨σ', H', J', q⟩ := h; exact ⟨σ', H', J'.ofTry ok, q⟩
  | brk => obtain ⟨σ', H', J', q⟩ := h; exact ⟨σ', H', J'.ofTry ok, q⟩
  | cont => obtain ⟨σ', H', J', q⟩ := h; exact ⟨σ', H', J'.ofTry ok, q⟩
  | ret u => obtain ⟨v, σ', H', J', r, q⟩ := h; exact ⟨v, σ', H', J'.ofTry ok, r, q⟩
/-- try: .. except x as n: suite, from one state on -/
theorem try_as_core (hs : X.stack = X.env :: X.outer) (hf : X.env.frame = some X.env.locals) (hN : X.N.Nodup) (hi : X.N[i]? = some n) (hln : X.env.kindOf n = some .local) (hc : Names X x c) (tk : Takes m X Wout)
    (hsu : ∀ (a : Addr) (oe : Obj) (cls : Value) (d : Option Addr) (cx : Value) (pn : List (Addr × Obj)), Zm cls d cx oe → (∃ vs, oe.data = .fields vs) → CtP pn cx → PSs (X.suite a ((a, oe) :: pn)) (b₀ :: suite) (ts a cls d))
    {pins : List (Addr × Obj)} {s : Shared} {D : Ends} (ok : X.Ok)
    (hr : ∀ xe : Value → Shared → Prop, Takes m (X.tr (X.pn ++ pins) xe) (wAs X.K c i ts Wout D) → PassesOwn (model X.prog X.w) X.A X.env xe → wpAny (model X.prog X.w) X.A (execs body X.env) (SP (X.tr (X.pn ++ pins) xe) [] D) xe s) :
    wpAny (model X.prog X.w) X.A (exec (.Try body [.ExceptHandler (some (.Name x np)) (some n) (b₀ :: suite) pos'] [] [] pos) X.env) (SP X pins D) X.xe s := by
  have hfr : X.A.frames = some (X.env :: X.outer) := by rw [ok.frames, hs]
  refine wpAny_Try_except ?_
  refine wpAny_mono (hr (fun e s₁ => wpAny (model X.prog X.w) X.A (noteFrame e X.env) (fun _ s₂ => wpAny (model X.prog X.w) X.A (setFlight e none) (fun _ s₃ =>
    wpAny (model X.prog X.w) X.A (handleBy e X.env [.ExceptHandler (some (.Name x np)) (some n) (b₀ :: suite) pos']) (SP X pins D) X.xe s₃) X.xe s₂) X.xe s₁) (fun u s' xx => ?_) PassesOwn.looking) (fun f s1 hsp => ?_) (fun e s1 he => he)
  · obtain ⟨a, B, sI, pins', σ', H', cls, d, cx, rfl, J', r, hcx, b, hb1, hyes, hno⟩ := xx
    have J : Inv X pins σ' H' sI := J'.ofTry ok
    have r' : Air X a (Zm cls d cx) B H' sI s' := ⟨r.nb, r.up, r.sky, r.na, r.os, r.ag⟩
    have sky' : Sky B (X.env :: X.outer) a (Zm cls d cx) X.env.locals s'.heap := by rw [← hs]; exact r.sky
    show wpAny (model X.prog X.w) X.A (noteFrame (.ref a) X.env) _ _ _
    refine L2N.Sky.land Zm.steady hfr hf sky' fun h3 fl3 up3 => ?_
    obtain ⟨oe3, pn3, g3⟩ := got_of hs hf J r' hcx fl3 up3
    have S3 := g3.suite r.na
    refine wpAny_handleBy_cons (codeAny_handlers_test ?_) (by intro q; cases q)
    have LT : PySem.W.Looks (model X.prog X.w) h3 (typeOf (.ref a)) cls := fun A Q E s k q => wpAny_typeOf_ref (k _ _ g3.h) (by rw [g3.z.1]; exact q)
    have LM := PySem.W.exm_one (M := model X.prog X.w) (g3.inv.kIn) LT hb1
    refine test_ok hc S3 (LM.here ?_)
    cases b with
    | true =>
      refine codeAny_handlers_suite_as ?_
      refine HandSPX.lands_againZ fl3 fun h4 fl4 up4 => ?_
      obtain ⟨oe4, pn4, g4⟩ := got_of hs hf J r' hcx fl4 (up3.trans up4)
      have S4 := g4.suite r.na
      refine store_ok (X := X.suite a ((a, oe4) :: (X.pn ++ pn4))) (v := .ref a) S4 hN hi (.inl hln) rfl (fun s5 S5 => ?_) (.inr hln)
      refine wpAny_mono ((hsu a oe4 cls d cx (X.pn ++ pn4) g4.z g4.f g4.ct).run [] s5 _ H' _ S5 (hyes rfl a r.na)) (fun f s6 hsp => ?_) (fun _ _ z => False.elim z)
      have end_ : ∀ {σ6 : L2.St} {H6 : Hp} {Q : Shared → Prop}, Inv (X.suite a ((a, oe4) :: (X.pn ++ pn4))) [] σ6 H6 s6 → (∀ s7, Inv X pins (σ6.set i none) H6 s7 → Q s7) →
          wpAny (model X.prog X.w) X.A (do bindName X.env n .none; unbindBehindTheSuite X.env n pos') (fun _ s7 => Q s7) X.xe s6 := fun {σ6 H6 Q} S6 hq => gone_ok (drop_pins g4.sub (S6.unsuite ok)) hN hi hln hq
      cases f with
      | next =>
        obtain ⟨σ6, H6, S6, q6⟩ := hsp
        exact end_ S6 fun s7 J7 => ⟨_, _, J7, q6⟩
      | brk =>
        obtain ⟨σ6, H6, S6, q6⟩ := hsp
        exact end_ S6 fun s7 J7 => ⟨_, _, J7, q6⟩
      | cont =>
        obtain ⟨σ6, H6, S6, q6⟩ := hsp
        exact end_ S6 fun s7 J7 => ⟨_, _, J7, q6⟩
      | ret u =>
        obtain ⟨v6, σ6, H6, S6, r6, q6⟩ := hsp
        exact end_ S6 fun s7 J7 => ⟨_, _, _, J7, r6, q6⟩
    | false => exact fly_on hs hf tk J r' hcx fl3 up3 (hno rfl)
  · have z := end_try ok hsp
    cases f with
    | next => exact wpAny_execs_nil z
    | brk => exact z
    | cont => exact z
    | ret u => exact z
/-- try: .. except x as n: suite -/
theorem ps_try_as (hs : X.stack = X.env :: X.outer) (hf : X.env.frame = some X.env.locals) (hN : X.N.Nodup) (hi : X.N[i]? = some n) (hln : X.env.kindOf n = some .local) (hc : Names X x c) (tk : Takes m X Wout)
    (hb : ∀ (W : WX) (pn : List (Addr × Obj)) (xe : Value → Shared → Prop), Takes m (X.tr pn xe) W → PassesOwn (model X.prog X.w) X.A X.env xe → PSs (X.tr pn xe) body (tb W))
    (hsu : ∀ (a : Addr) (oe : Obj) (cls : Value) (d : Option Addr) (cx : Value) (pn : List (Addr × Obj)), Zm cls d cx oe → (∃ vs, oe.data = .fields vs) → CtP pn cx → PSs (X.suite a ((a, oe) :: pn)) (b₀ :: suite) (ts a cls d)) :
    PS X (.Try body [.ExceptHandler (some (.Name x np)) (some n) (b₀ :: suite) pos'] [] [] pos) (fun D σ H => tb (wAs X.K c i ts Wout D) D σ H) := by
  refine ⟨fun pins s σ H D I h => ?_⟩
  exact try_as_core hs hf hN hi hln hc tk hsu I.ok fun xe tk' po => (hb _ _ xe tk' po).run [] s σ H D (I.toTry _) h
/-- try: .. except x: suite, where the suite may raise, and what it catches bears no context -/
theorem ps_try_up (hs : X.stack = X.env :: X.outer) (hf : X.env.frame = some X.env.locals) (hc : Names X x c) (hpa : ∀ hd : Option Value, PassesOwnAt (model X.prog X.w) (X.A.mark hd) X.A X.env X.xe) (tk : Takes false X Wout)
    (hb : ∀ (W : WX) (pn : List (Addr × Obj)) (xe : Value → Shared → Prop), Takes true (X.tr pn xe) W → PassesOwn (model X.prog X.w) X.A X.env xe → PSs (X.tr pn xe) body (tb W))
    (hsu : ∀ (a : Addr) (oe : Obj) (cls : Value) (d : Option Addr) (pn : List (Addr × Obj)), (∃ vs, oe.data = .fields vs) → Takes false (L2H.suiteX X a ((a, oe) :: pn)) Wout → L2H.HotC (L2H.suiteX X a ((a, oe) :: pn)) → PSs (L2H.suiteX X a ((a, oe) :: pn)) (b₀ :: suite) (ts a cls d)) :
    PS X (.Try body [.ExceptHandler (some (.Name x np)) none (b₀ :: suite) pos'] [] [] pos) (fun D σ H => tb (L2.wOnly X.K c ts Wout D) D σ H) := by
  refine ⟨fun pins s σ H D I h => ?_⟩
  have ok := I.ok
  have hfr : X.A.frames = some (X.env :: X.outer) := by rw [ok.frames, hs]
  refine wpAny_Try_except ?_
  refine wpAny_mono ((hb (L2.wOnly X.K c ts Wout D) (X.pn ++ pins) (fun e s₁ => wpAny (model X.prog X.w) X.A (noteFrame e X.env) (fun _ s₂ => wpAny (model X.prog X.w) X.A (setFlight e none) (fun _ s₃ =>
    wpAny (model X.prog X.w) X.A (handleBy e X.env [.ExceptHandler (some (.Name x np)) none (b₀ :: suite) pos']) (SP X pins D) X.xe s₃) X.xe s₂) X.xe s₁) (fun u s' xx => ?_) PassesOwn.looking).run [] s σ H D (I.toTry _) h) (fun f s1 hsp => ?_) (fun e s1 he => he)
  · obtain ⟨a, B, sI, pins', σ', H', cls, d, cx, rfl, J', ⟨nb, up, sky, na, os, ag⟩, hcx, b, hb1, hyes, hno⟩ := xx
    have ecx : cx = .none := by
      rcases hcx with z | ⟨z, _⟩
      · exact z
      · cases z
    subst ecx
    have J : Inv X pins σ' H' sI := J'.ofTry ok
    have r' : Air X a (Zm cls d .none) B H' sI s' := ⟨nb, up, sky, na, os, ag⟩
    have sky' : Sky B (X.env :: X.outer) a (Zm cls d .none) X.env.locals s'.heap := by rw [← hs]; exact sky
    show wpAny (model X.prog X.w) X.A (noteFrame (.ref a) X.env) _ _ _
    refine L2N.Sky.land Zm.steady hfr hf sky' fun h3 fl3 up3 => ?_
    obtain ⟨oe3, pn3, g3⟩ := got_of (m := false) hs hf J r' (.inl rfl) fl3 up3
    have S3 := g3.suite na
    refine wpAny_handleBy_cons (codeAny_handlers_test ?_) (by intro q; cases q)
    have LT : PySem.W.Looks (model X.prog X.w) h3 (typeOf (.ref a)) cls := fun A Q E s k q => wpAny_typeOf_ref (k _ _ g3.h) (by rw [g3.z.1]; exact q)
    have LM := PySem.W.exm_one (M := model X.prog X.w) (g3.inv.kIn) LT hb1
    refine test_ok hc S3 (LM.here ?_)
    cases b with
    | true =>
      refine codeAny_handlers_suite ?_
      refine HandSPX.lands_againZ fl3 fun h4 fl4 up4 => ?_
      obtain ⟨oe4, pn4, g4⟩ := got_of (m := false) hs hf J r' (.inl rfl) fl4 (up3.trans up4)
      have S4 := g4.suite na
      obtain ⟨vs4, hd4⟩ := g4.f
      have tkS : Takes false (L2H.suiteX X a ((a, oe4) :: (X.pn ++ pn4))) Wout := fun u2 s2 x2 => by
        obtain ⟨a2, B2, sI2, pn2, σ2, H2, cls2, d2, c2, e2, I2, r2, hc2, w2⟩ := x2
        exact tk u2 s2 ⟨a2, B2, sI2, pins, σ2, H2, cls2, d2, c2, e2, drop_pins g4.sub (L2H.unsuiteX I2 ok), ⟨r2.nb, r2.up, r2.sky, r2.na, r2.os, r2.ag⟩, hc2, w2⟩
      have hot : L2H.HotC (L2H.suiteX X a ((a, oe4) :: (X.pn ++ pn4))) := ⟨(a, oe4), ⟨rfl, vs4, hd4, g4.z.2.2 vs4 hd4⟩, List.mem_cons_self⟩
      refine wpAny_mono ((hsu a oe4 cls d (X.pn ++ pn4) g4.f tkS hot).run [] _ _ H' _ (L2H.suiteX_of S4) (hyes rfl a na)) (fun f s6 hsp => ?_) (fun e6 s6 z => hpa (some (.ref a)) e6 s6 z)
      cases f with
      | next =>
        obtain ⟨σ6, H6, S6, q6⟩ := hsp
        exact ⟨_, _, drop_pins g4.sub (L2H.unsuiteX S6 ok), q6⟩
      | brk =>
        obtain ⟨σ6, H6, S6, q6⟩ := hsp
        exact ⟨_, _, drop_pins g4.sub (L2H.unsuiteX S6 ok), q6⟩
      | cont =>
        obtain ⟨σ6, H6, S6, q6⟩ := hsp
        exact ⟨_, _, drop_pins g4.sub (L2H.unsuiteX S6 ok), q6⟩
      | ret u =>
        obtain ⟨v6, σ6, H6, S6, r6, q6⟩ := hsp
        exact ⟨_, _, _, drop_pins g4.sub (L2H.unsuiteX S6 ok), r6, q6⟩
    | false => exact fly_on hs hf tk J r' (.inl rfl) fl3 up3 (hno rfl)
  · have z := end_try ok hsp
    cases f with
    | next => exact wpAny_execs_nil z
    | brk => exact z
    | cont => exact z
    | ret u => exact z
end
end L2M

end
section
set_option Elab.async false
set_option linter.all false
set_option maxRecDepth 100000
set_option maxHeartbeats 4000000
/-! PM2: raising while an error is handled whose context is an error without one. -/
namespace PW
open PySem PySem.Spec PyProof.Rows L2 HotX L2H L2M
/-- the error that is handled, and its context, if it has one -/
def HotA (A : Around) (x1 x2 : Addr) (h : Heap) : Prop := A.handled = some (.ref x1) ∧ ∃ (o : Obj) (vs : Array Value) (o2 : Obj), h.get? x1 = some o ∧ o.data = .fields vs ∧ h.get? x2 = some o2 ∧ NoCtx o2 ∧ (vs[2]? = some .none ∨ vs[2]? = some (.ref x2))
section
variable {prog : Program} {w : World} {A : Around} {E : Value → Shared → Prop} {s : Shared}
theorem ref_beq {a b : Addr} (h : a ≠ b) : (Value.ref a == Value.ref b) = false := by
  have z := ref_bne h
  rw [bne] at z
  simpa using z
theorem unchain2 {x1 x2 a : Addr} {o1 o2 : Obj} {vs1 : Array Value} {Q : Value → Shared → Prop} (h1 : s.heap.get? x1 = some o1) (d1 : o1.data = .fields vs1) (c1 : vs1[2]? = some (.ref x2)) (h2 : s.heap.get? x2 = some o2) (z2 : NoCtx o2) (hx : x2 ≠ a) (q : Q .none s) :
    wpAny (model prog w) A (holding [Value.ref a] (runValue (.builtin "proto.unchain" ⟨[.ref a, .ref x1, .ref x1, .bool false], []⟩))) Q E s := by
  obtain ⟨vs2, d2, c2⟩ := z2
  have h21 : x2 ≠ x1 := by
    rintro rfl
    rw [h1] at h2
    cases h2
    rw [d1] at d2
    cases d2
    rw [c1] at c2
    cases c2
  refine wpAny_holding (wpAny_runValue (codeAny_builtin HotX.entry_unchain ?_))
  show wpAny _ _ (field (.ref x1) 2 >>= _) _ _ s
  refine wpAny_bind (wpAny_field h1 d1 c1 ?_)
  rw [if_neg (show ¬ (Value.ref x2 == Value.none) = true from Bool.false_ne_true)]
  show wpAny _ _ (if (Value.ref x2 == Value.ref a) = true then _ else _) _ _ s
  rw [if_neg (by rw [ref_beq hx]; decide)]
  show wpAny _ _ (if (Value.ref x2 == Value.ref x1) = true then _ else _) _ _ s
  rw [if_neg (by rw [ref_beq h21]; decide)]
  refine wpAny_bind (wpAny_pure ?_)
  refine wpAny_pure ⟨by first | decide | kernel_rfl, codeAny_builtin HotX.entry_unchain ?_⟩
  show wpAny _ _ (field (.ref x2) 2 >>= _) _ _ s
  refine wpAny_bind (wpAny_field h2 d2 c2 ?_)
  rw [if_pos (show (Value.none == Value.none) = true from rfl)]
  first
  | exact wpAny_bind (wpAny_pure (wpAny_pure q))
  | exact wpAny_pure q
theorem raiseNew_hotA {α : Type} {a x1 x2 : Addr} {oe : Obj} {vs : Array Value} {Q : α → Shared → Prop} (hot : HotA A x1 x2 s.heap) (hne : x1 ≠ a) (hne2 : x2 ≠ a) (ha : s.heap.get? a = some oe) (da : oe.data = .fields vs) (hi : 2 < vs.size)
    (hE : E (.ref a) { s with heap := s.heap.update a (Obj.mapFields (·.setIfInBounds 2 (.ref x1))) }) : wpAny (model prog w) A (raiseNew (.ref a) : Sem α) Q E s := by
  obtain ⟨hh, o1, vs1, o2, h1, d1, h2, z2, c1⟩ := hot
  rcases c1 with c1 | c1
  · exact raiseNew_hot ⟨hh, o1, vs1, h1, d1, c1⟩ hne ha da hi hE
  unfold raiseNew
  refine wpAny_bind (wpAny_handled ?_)
  rw [hh]
  have hb : (Value.ref x1 != Value.ref a) = true := ref_bne hne
  first
  | (show wpAny _ _ (if (Value.ref x1 != Value.ref a) = true then _ else _) _ _ _
     rw [if_pos hb]
     first
     | exact wpAny_bind (unchain2 h1 d1 c1 h2 z2 hne2 (wpAny_bind (chained ha da hi (wpAny_throw hE))))
     | exact wpAny_bind (wpAny_bind (unchain2 h1 d1 c1 h2 z2 hne2 (chained ha da hi (wpAny_throw hE)))))
  | (refine wpAny_bind ?_
     show wpAny _ _ (if (Value.ref x1 != Value.ref a) = true then _ else _) _ _ _
     rw [if_pos hb]
     exact wpAny_bind (unchain2 h1 d1 c1 h2 z2 hne2 (chained ha da hi (wpAny_throw hE))))
end
/-- p is handled, q its context, if it has one -/
def Hot2 (A : Around) (p q : Addr × Obj) : Prop := A.handled = some (.ref p.1) ∧ NoCtx q.2 ∧ ∃ vs : Array Value, p.2.data = .fields vs ∧ (vs[2]? = some .none ∨ vs[2]? = some (.ref q.1))
def HotP (X : Cx) : Prop := ∃ p q : Addr × Obj, Hot2 X.A p q ∧ p ∈ X.pn ∧ q ∈ X.pn
theorem hotA_of {X : Cx} {A : Around} {p q : Addr × Obj} {h : Heap} (hot : Hot2 A p q) (h1 : h.get? p.1 = some p.2) (h2 : h.get? q.1 = some q.2) : HotA A p.1 q.1 h := by
  obtain ⟨a, n, vs, d, c⟩ := hot
  exact ⟨a, p.2, vs, q.2, h1, d, h2, n, c⟩
theorem HotP.at {X : Cx} {pins : List (Addr × Obj)} {σ : L2.St} {H : Hp} {s : Shared} (c : HotP X) (I : Inv X pins σ H s) : ∃ x1 x2, HotA X.A x1 x2 s.heap := by
  obtain ⟨p, q, hot, hp, hq⟩ := c
  exact ⟨p.1, q.1, hotA_of (X := X) hot (I.pin p (List.mem_append_left _ hp)).1 (I.pin q (List.mem_append_left _ hq)).1⟩
/-- an error that is caught, in its suite -/
theorem hotP_suite {X : Cx} {a : Addr} {oe : Obj} {pn : List (Addr × Obj)} {cls : Value} {d : Option Addr} {c : Value} (hz : Zm cls d c oe) (hf : ∃ vs, oe.data = .fields vs) (ct : CtP pn c) : ∃ q, Hot2 (X.suite a ((a, oe) :: pn)).A (a, oe) q ∧ q ∈ (X.suite a ((a, oe) :: pn)).pn := by
  obtain ⟨vs, hd⟩ := hf
  rcases ct with rfl | ⟨q, hq, rfl, z⟩
  · exact ⟨(a, oe), ⟨rfl, ⟨vs, hd, hz.2.2 vs hd⟩, vs, hd, .inl (hz.2.2 vs hd)⟩, List.mem_cons_self⟩
  · exact ⟨q, ⟨rfl, z, vs, hd, .inr (hz.2.2 vs hd)⟩, List.mem_cons_of_mem _ hq⟩
end PW

end
section
set_option Elab.async false
set_option linter.all false
set_option maxRecDepth 100000
set_option maxHeartbeats 4000000
/-! PM3: a lambda's body within a def that it was handed to: errors as PM1 has them. -/
namespace PW
open PySem PySem.Spec PyProof.Rows L2
/-- where an error of the lambda's body goes -/
abbrev lamXe (m : Bool) (X : Cx) (A : Around) (outer : List Env) (s : Shared) (H : Hp) (E : XK) (scope : Scope) (f c1 : Addr) : Value → Shared → Prop :=
  fun e t => wpAny (model X.prog X.w) (A.deeper (LamX.lamEnv X scope s.heap.objs.size f c1)) (leaving (LamX.lamEnv X scope s.heap.objs.size f c1) e) (fun _ t2 => L2M.CX m X.prog X.w outer H s E e t2) (fun e2 t2 => L2M.CX m X.prog X.w outer H s E e2 t2) t
abbrev lamM (m : Bool) (X : Cx) (A : Around) (outer : List Env) (s : Shared) (H : Hp) (E : XK) (scope : Scope) (f c1 : Addr) : Cx := (LamX.lamCx X A outer s H E scope f c1).tr [] (lamXe m X A outer s H E scope f c1)
section
variable {m : Bool} {X : Cx} {pins : List (Addr × Obj)} {σ : L2.St} {H HZ : Hp} {s s1 : Shared}
theorem lamM_takes {A : Around} {outer : List Env} {E : XK} {scope : Scope} {f c1 : Addr} : L2M.Takes m (lamM m X A outer s H E scope f c1) (fun cls d _ H => E cls d H) :=
  L2M.takes_of rfl rfl rfl (E₁ := fun e2 t2 => L2M.CX m X.prog X.w outer H s E e2 t2) rfl
theorem lamM_start {A : Around} {outer : List Env} {E : XK} {scope : Scope} {f c1 : Addr} {h1 : Heap} {tk : Nat} (I : Inv X pins σ H s) (L : LamX.LamS X.env.scope scope) (e0 : Env0 X.prog X.w X.K X.mg X.base A outer s1 HZ) (hd : A.handled = none)
    (un : Un (frs X.stack) [] H HZ s.heap s1.heap) (hns : h1.Ns s1.heap.objs.size fun y => ([] : List (Str × Value)).reverse.lookup y) (kp : ∀ b o, s1.heap.get? b = some o → h1.get? b = some o) :
    Inv (lamM m X A outer s1 HZ E scope f c1) [] σ HZ { s1 with heap := h1, toks := tk } :=
  (LamX.lam_start2 (E := E) (f := f) (c' := c1) (tk := tk) I L e0 hd un hns kp).toTry (pins := []) _
/-- a(), in the def that got the lambda -/
theorem pe_actM {Eg : XK} {Ng : List Str} {qg : Str} {sg : Scope} {g f c1 : Addr} {cdg pm ctv : Value} {params : Arguments} {body : Expr} {scope : Scope} {k i : Nat} {a : Str} {pn : List (Addr × Obj)} {xe : Value → Shared → Prop} {W : WX} {E : XK} {tb : TE} {p1 p2 : Pos}
    (I : Inv X pins σ H s) (L : LamX.LamS X.env.scope scope)
    (hf : s.heap.get? f = some (PySem.W.kla_obj "<lambda>" (X.env.qual ++ "<lambda>") params body scope (cloFrom X.env.cells scope.names []) pm c1 ctv)) (hfn : H f = none) (hfr : f ∉ frs X.stack)
    (hbind : bindArgs (PySem.W.kla_fn "<lambda>" (X.env.qual ++ "<lambda>") params body scope (cloFrom X.env.cells scope.names []) pm (.ref c1) ctv) ⟨[], []⟩ = pure [])
    (tk : L2M.Takes m ((cxOf (L2M.CX m X.prog X.w) X.prog X.w X.K X.mg X.base Ng qg sg g cdg X.A X.stack s H Eg).tr pn xe) W) (hW : ∀ cls d st G, E cls d G → W cls d st G) (hr : Room (k + 1) (X.A.deeper (envOfC qg sg s.heap.objs.size g cdg)))
    (hbody : ∀ (A : Around) (outer : List Env) (t : Shared) (G : Hp), Room k (A.deeper (LamX.lamEnv X scope t.heap.objs.size f c1)) → PE (lamM m X A outer t G E scope f c1) body tb)
    (hN : Ng[i]? = some a) (hv : Vis sg a) (hd : (a == ("__debug__" : Str)) = false) (hcd : (a == ("__classdict__" : Str)) = false) :
    PE ((cxOf (L2M.CX m X.prog X.w) X.prog X.w X.K X.mg X.base Ng qg sg g cdg X.A X.stack s H Eg).tr pn xe) (.Call (.Name a p1) [] [] p2)
      (fun st G Q => st[i]? = some (some (.ref f)) ∧ G c1 = some (LamX.CodeO c1 (X.env.qual ++ "<lambda>")) ∧ tb σ G Q) := by
  refine ⟨fun pZ sZ stZ GZ Q IZ ⟨y1, y2, y3⟩ => ?_⟩
  refine wpAny_Call_Name_kw (thn ((pe_var (pos := p1) (i := i) hN hv hd hcd).run pZ sZ stZ GZ (fun v G1 => v = .ref f ∧ G1 = GZ) IZ ⟨.ref f, y1, rfl, rfl⟩) fun u t1 ⟨v, G1, I1, r1, q1⟩ => ?_)
  obtain ⟨rfl, eG⟩ := q1
  subst eG
  obtain rfl : u = Value.ref f := r1
  have ofn := I1.base.keep f _ hf hfn hfr (fun z => nomatch (show f ∈ ([] : List Addr) from z))
  refine PySem.W.callWith_F0 ⟨_, _, _, _, ofn⟩ ?_
  obtain ⟨⟨oc, vs, t, hoc, hdc, hvc⟩, _, _⟩ := I1.hok c1 _ y2
  have rc : codeAny (model X.prog X.w) (X.A.deeper (envOfC qg sg s.heap.objs.size g cdg)) (.call (.ref f) ⟨[], []⟩) (CR (L2M.CX m X.prog X.w) (envOfC qg sg s.heap.objs.size g cdg :: X.stack) X.prog X.w G1 t1 Q E) t1 := by
    refine PySem.W.kla_callFunE hr.depth ofn rfl L.co L.gen rfl ⟨c1, oc, vs, t, rfl, hoc, hdc, hvc⟩ ?_
    rw [hbind]
    refine wpAny_pure (wpAny_newFunctionEnv (fun y hy => (L.own y hy).2) (fun y hy => absurd hy (by simp)) (fun h2 n1 n2 => ⟨I1.nolimit.fresh _ n2, ?_⟩) L.kind)
    have kept : ∀ b o, t1.heap.get? b = some o → h2.get? b = some o := fun b o z => n2.extBut b o (Nat.ne_of_lt (Heap.lt_size z)) (Heap.get?_push_of_some _ z)
    have J := lamM_start (m := m) (E := E) (f := f) (c1 := c1) (tk := t1.toks + ([] : List (Str × Value)).length) I L I1.env0 hr.hd I1.base n1 kept
    refine PySem.W.kla_codeExpr (wpAny_mono ((hbody _ _ t1 G1 (hr.deeper _)).run [] _ _ G1 Q J y3) (fun v t2 hq => ?_) fun e t2 hq => hq)
    obtain ⟨w1, G2, J2, rv, q⟩ := hq
    exact ⟨w1, G2, J2.os, J2.bare, J2.base, J2.hok, rv, q⟩
  refine wpAny_call (codeAny_mono rc fun r t2 hq => ?_)
  cases r with
  | error e => exact tk e t2 (L2M.XE.of_call I1 (fun cls d G z => hW cls d _ G z) hq)
  | ok fl =>
    cases fl with
    | ret u => exact I1.after hq
    | next => exact False.elim hq
    | brk => exact False.elim hq
    | cont => exact False.elim hq
end
end PW

end
section
set_option Elab.async false
set_option linter.all false
set_option maxRecDepth 100000
set_option maxHeartbeats 4000000
/-! PM4: a lambda is made: its code object is found in the table, or new. -/
namespace PW
open PySem PySem.Spec PyProof.Rows L2
section
variable {X : Cx} {pins : List (Addr × Obj)} {σ : L2.St} {H : Hp} {s : Shared}
abbrev lamQ (X : Cx) : Str := X.env.qual ++ "<lambda>"
abbrev lamO (X : Cx) (params : Arguments) (body : Expr) (scope : Scope) (pm ctv : Value) (c1 : Addr) : Obj := PySem.W.kla_obj "<lambda>" (lamQ X) params body scope (cloFrom X.env.cells scope.names []) pm c1 ctv
abbrev newTab (H : Hp) (P c1 : Addr) (ps : Array Value) (pos : Pos) (q : Str) : Hp := upd (upd H P (.tbl (ps ++ #[rawInt pos.line, rawInt pos.col, .ref c1]))) c1 (LamX.CodeO c1 q)
theorem lam_make3 {c P : Addr} {params : Arguments} {body : Expr} {scope : Scope} {pos : Pos} {ps : Array Value} {E Q : Value → Shared → Prop} (I : Inv X pins σ H s) (TB : LamX.TabB X.base X.mg c P) (hcode : X.env.code = .ref c)
    (hP : H P = some (.tbl ps)) (ht : TriplesOk ps.toList) (ha : ∀ cv, codeAmong pos ps.toList = some cv → ∃ c1, cv = .ref c1) (hdef : defaultsOf params X.env = ([], [])) (hfree : ∀ y ∈ scope.names, y.2 = .free → ∃ c, X.env.cells.lookup y.1 = some c)
    (kOld : ∀ (f c1 : Addr) (pm ctv : Value) (t : Shared), codeAmong pos ps.toList = some (.ref c1) → Inv X pins σ H t → t.heap.get? f = some (lamO X params body scope pm ctv c1) → H f = none → f ∉ frs X.stack → Q (.ref f) t)
    (kNew : ∀ (f c1 : Addr) (pm ctv : Value) (t : Shared), H c1 = none → c1 ≠ P → Inv X pins σ (newTab H P c1 ps pos (lamQ X)) t → t.heap.get? f = some (lamO X params body scope pm ctv c1) → newTab H P c1 ps pos (lamQ X) f = none → f ∉ frs X.stack → Q (.ref f) t) :
    wpAny (model X.prog X.w) X.A (eval (.Lambda params body scope pos) X.env) Q E s := by
  refine PySem.W.kla_eval hdef ?_
  have bP := TB.bm.keeps I.bk
  have gP : s.heap.get? P = some { cls := .none, data := .fields ps } := I.hok P _ hP
  have nofr : ∀ z, s.heap.objs.size ≤ z → z ∉ frs X.stack := fun z hz hm => by
    rcases List.mem_cons.mp (I.stkSub _ hm) with e | e
    · have h1 := I.lt
      rw [← e] at h1
      exact Nat.lt_irrefl _ (Nat.lt_of_lt_of_le h1 hz)
    · exact I.nofs hz e
  cases hc : codeAmong pos ps.toList with
  | some cv =>
    obtain ⟨c1, rfl⟩ := ha cv hc
    refine PySem.W.kla_makeFunctionHit (mg := X.mg) (c := c) (P := P) (ps := ps) (closure_ok hfree) I.ok.glob (I.mod.glob.keeps I.bk) hcode (TB.code.keeps I.bk) gP ht hc bP fun ctv hh tk hx hsz => ?_
    exact kOld hh.objs.size c1 ((X.mg "__name__").getD .none) ctv _ hc (I.kept fun b o e => Heap.get?_push_of_some _ (hx b o e)) (Heap.get?_push_size _ rfl) (I.hok.fresh hsz) (nofr _ hsz)
  | none =>
    refine PySem.W.kla_makeFunction (mg := X.mg) (c := c) (P := P) (ps := ps) (closure_ok hfree) I.ok.glob (I.mod.glob.keeps I.bk) hcode (TB.code.keeps I.bk) gP ht hc TB.gP bP fun c1 ctv hh tk hx hge hlt hrec htb => ?_
    obtain ⟨c2, oc, vs, t, e2, hoc, hd, hv⟩ := hrec
    cases e2
    have hsz := Nat.le_trans hge (Nat.le_of_lt hlt)
    have nC : H c1 = none := I.hok.fresh hge
    have nP : c1 ≠ P := fun z => by rw [z, hP] at nC; cases nC
    have I1 := LamX.inv_table (t' := tk) (more := #[rawInt pos.line, rawInt pos.col, .ref c1]) (h' := hh.push (lamO X params body scope ((X.mg "__name__").getD .none) ctv c1)) I hP
      (fun b o hb e => Heap.get?_push_of_some _ (hx b o hb e)) (Heap.get?_push_of_some _ htb) hge ⟨oc, vs, t, Heap.get?_push_of_some _ hoc, hd, hv⟩
    refine kNew hh.objs.size c1 ((X.mg "__name__").getD .none) ctv _ nC nP I1 (Heap.get?_push_size _ rfl) ?_ (nofr _ hsz)
    have n1 : hh.objs.size ≠ c1 := Nat.ne_of_gt hlt
    have n2 : hh.objs.size ≠ P := Nat.ne_of_gt (Nat.lt_of_lt_of_le (Heap.lt_size gP) hsz)
    show upd (upd H P _) c1 _ hh.objs.size = none
    rw [upd_ne n1, upd_ne n2]
    exact I.hok.fresh hsz
theorem codes_app {p1 : Pos} {l c1 : Nat} {n : Addr} {cv : Value} (ls : List Value) (h : TriplesOk ls) (hc : codeAmong p1 (ls ++ [rawInt l, rawInt c1, .ref n]) = some cv) : codeAmong p1 ls = some cv ∨ cv = .ref n :=
  LamX.among_app (p' := p1) (pos := ⟨l, c1, 0, 0⟩) ls h hc
end
end PW

end
section
set_option Elab.async false
set_option linter.all false
set_option maxRecDepth 100000
set_option maxHeartbeats 4000000
/-! PXH: comprehensions and stores as statements, the check of a text, its soundness. -/
namespace PW
open PySem PySem.Spec PyProof.Rows L2

abbrev W0 : WX := fun _ _ _ _ => False
section
variable {gl : List D} {Φ : Fns} {ca : EC → Addr} {X : Cx} {W : WX} {iter tgE elt : Expr} {ifs : List Expr} {tg : Tgt} {it pe : PEx} {pt : Option PEx} {scope : Scope} {own : List (Str × Nat)} {pos px py : Pos}
/-- a clause's test, in every block -/
def TsOk (gl : List D) (Φ : Fns) (ca : EC → Addr) (X : Cx) (scope : Scope) (ifs : List Expr) (pt : Option PEx) : Prop := match ifs, pt with
  | [], none => True
  | [c], some p => ∀ (s : Shared) (H : Hp) (C : Addr) (cl : List (Str × Addr)) (fp : List Addr), SndT gl Φ ca (X.blk s H scope (compEnvC scope cl C X.env) fp) W0 c p
  | _, _ => False
def ttOf (X : Cx) (scope : Scope) (ifs : List Expr) : TT := match ifs with
  | [c] => fun σ H Q => ∀ (s : Shared) (H' : Hp) (C : Addr) (cl : List (Str × Addr)) (fp : List Addr), wT (X.blk s H' scope (compEnvC scope cl C X.env) fp) c σ H Q
  | _ => tYes
def teOf (X : Cx) (scope : Scope) (elt : Expr) : TE := fun σ H Q => ∀ (s : Shared) (H' : Hp) (C : Addr) (cl : List (Str × Addr)) (fp : List Addr), wE (X.blk s H' scope (compEnvC scope cl C X.env) fp) elt σ H Q
theorem tt_pts (h : TsOk gl Φ ca X scope ifs pt) (s : Shared) (H : Hp) (C : Addr) (cl : List (Str × Addr)) (fp : List Addr) : PTs (X.blk s H scope (compEnvC scope cl C X.env) fp) ifs (ttOf X scope ifs) := by
  unfold TsOk at h
  split at h
  · exact pts_nil
  · exact pts_one ⟨fun pins s' σ H' Q I hq => hq s H C cl fp pins s' I⟩
  · exact h.elim
theorem te_pe (s : Shared) (H : Hp) (C : Addr) (cl : List (Str × Addr)) (fp : List Addr) : PE (X.blk s H scope (compEnvC scope cl C X.env) fp) elt (teOf X scope elt) := ⟨fun pins s' σ H' Q I hq => hq s H C cl fp pins s' I⟩
theorem tt_read (h : TsOk gl Φ ca X scope ifs pt) : ∀ Γ2 R2, semTo gl Φ pt Γ2 R2 → ∀ σ G H F, Sta X.K σ Γ2 G H F → ∀ Q : Bool → Hp → Prop, (∀ b G' H' F', Sta X.K σ Γ2 G' H' F' → Stp G H F G' H' F' → R2 b → Q b H') → ttOf X scope ifs σ H Q := by
  intro Γ2 R2 hs σ G H F st Q k
  unfold TsOk at h
  split at h
  · unfold semTo at hs
    exact k true G H F st Stp.refl hs
  · rename_i c p
    unfold semTo at hs
    intro s H' C cl fp
    have hs' : semT gl Φ p Γ2 (fun b Γ1 => Γ1 = Γ2 ∧ R2 b) noX := by
      unfold semT
      have e : (fun (o : O) (Γ1 : List O) => Γ1 = Γ2 ∧ ∃ b, o = O.sh (D.bl b) ∧ R2 b) = (fun (o : O) (Γ1 : List O) => ∃ b, o = O.sh (D.bl b) ∧ (Γ1 = Γ2 ∧ R2 b)) := by
        funext o Γ1
        apply propext
        constructor
        · rintro ⟨h1, b, h2, h3⟩
          exact ⟨b, h2, h1, h3⟩
        · rintro ⟨b, h2, h1, h3⟩
          exact ⟨h1, b, h2, h3⟩
      rw [← e]
      exact hs
    refine h s H' C cl fp Γ2 _ noX hs' σ G H F st Q (fun b Γ' G' H' F' st' sp hb => ?_) kox_no
    obtain ⟨rfl, hb⟩ := hb
    exact k b G' H' F' st' sp hb
  · exact h.elim
theorem te_read (h : ∀ (s : Shared) (H : Hp) (C : Addr) (cl : List (Str × Addr)) (fp : List Addr), Snd gl Φ ca (X.blk s H scope (compEnvC scope cl C X.env) fp) W0 elt pe) :
    ∀ Γ2 R2, sem gl Φ pe Γ2 R2 noX → ∀ σ G H F, Sta X.K σ Γ2 G H F → ∀ Q, Kon X.K σ G H F R2 Q → teOf X scope elt σ H Q := fun Γ2 R2 hs σ G H F st Q k s H' C cl fp => h s H' C cl fp Γ2 R2 noX hs σ G H F st Q k kox_no
theorem snd_lc (hc : X.calm = true) (hN : X.N.Nodup) (hn : notSetE iter = true) (hi : SndI gl Φ ca X W tgE iter it) (ok : BlkOk X.N X.env.scope scope own) (hown : own.map (·.2) = tgtSlots tg)
    (hg : ∀ (s : Shared) (H : Hp) (C : Addr) (cl : List (Str × Addr)) (fp : List Addr), PG (X.blk s H scope (compEnvC scope cl C X.env) fp) tgE (gOf X.K tg)) (ht : TsOk gl Φ ca X scope ifs pt)
    (he : ∀ (s : Shared) (H : Hp) (C : Addr) (cl : List (Str × Addr)) (fp : List Addr), Snd gl Φ ca (X.blk s H scope (compEnvC scope cl C X.env) fp) W0 elt pe) : Snd gl Φ ca X W (.ListComp elt [⟨tgE, iter, ifs, 0⟩] scope pos) (.lc pe tg it pt) := by
  intro Γ R E hs σ G H F st Q kn kx
  refine wE_of (pe_lc hc hN pi_w ok hg (tt_pts ht) te_pe (folded_ok hn)) ?_
  rw [hown]
  exact lc_read hi (tt_read ht) (te_read he) hs st kn kx
theorem sndS_lc {i : Nat} {pub : Bool} {y : Str} (hc : X.calm = true) (hN : X.N.Nodup) (hy : X.N[i]? = some y) (hyl : X.env.scope.names.lookup y = some .local) (hk : X.env.scope.kind = .function) (hl : (py.line == pos.line) = true) (hna : (scope.names.any fun (n, k) => n == y && (k == .local || k == .cell)) = false)
    (hn : notSetE iter = true) (hi : SndI gl Φ ca X W tgE iter it) (ok : BlkOk X.N X.env.scope scope own) (hown : own.map (·.2) = tgtSlots tg)
    (hg : ∀ (s : Shared) (H : Hp) (C : Addr) (cl : List (Str × Addr)) (fp : List Addr), PG (X.blk s H scope (compEnvC scope cl C X.env) fp) tgE (gOf X.K tg)) (ht : TsOk gl Φ ca X scope ifs pt)
    (he : ∀ (s : Shared) (H : Hp) (C : Addr) (cl : List (Str × Addr)) (fp : List Addr), Snd gl Φ ca (X.blk s H scope (compEnvC scope cl C X.env) fp) W0 elt pe) : SndS gl Φ ca X W (.Assign [.Name y py] (.ListComp elt [⟨tgE, iter, ifs, 0⟩] scope pos) px) (.asg i pub (.lc pe tg it pt)) := by
  intro Γ P hs σ G H F st D k
  unfold semS at hs
  refine wS_of (ps_setLc hc hN hy hyl (sw_true hk hyl hl hna) pi_w ok hg (tt_pts ht) te_pe (folded_ok hn)) ?_
  rw [hown]
  exact lc_read hi (tt_read ht) (te_read he) hs st (kon_asg k) (k.kox σ)
theorem sw_cell {gs : List Comprehension} {l : Nat} {env : Env} {y : Str} (h : env.scope.names.lookup y ≠ some .local) : swapsWith (.ListComp elt gs scope pos) (some (.Name y py)) l env = pure false := by
  have e : (env.kindOf y == some NameKind.local) = false := by
    unfold Env.kindOf
    cases z : env.scope.names.lookup y with
    | none => rfl
    | some k =>
      rw [z] at h
      cases k <;> first | rfl | exact absurd rfl h
  show (pure (env.blockKind == .function && env.kindOf y == some .local && py.line == pos.line && !(scope.names.any fun (n, k) => n == y && (k == .local || k == .cell))) : Sem Bool) = pure false
  rw [e]
  simp
end

/-! ### xs[k] = e -/
section
variable {gl : List D} {Φ : Fns} {ca : EC → Addr} {X : Cx} {W : WX} {e ix : Expr} {pe : PEx} {pos px pt : Pos}
def ixB : Int → Expr → Bool
  | k, .Constant (.int j) _ _ => decide (k = j)
  | k, .UnaryOp .USub (.Constant (.int j) _ _) _ => decide (k = -j)
  | _, _ => false
theorem ix_pe {k : Int} (h : ixB k ix = true) : PE X ix (tC (.int k)) := by
  unfold ixB at h
  split at h
  · have z := of_decide_eq_true h
    subst z
    exact pe_int
  · have z := of_decide_eq_true h
    subst z
    exact ⟨fun pins s σ H Q I hq => (pe_un un_neg pe_int).run pins s σ H Q I ⟨_, rfl, hq⟩⟩
  · cases h
theorem orepAll_set {K : PySem.W.Frag} {G H : Hp} : ∀ {vs : List V} {os : List O} {S : List Addr} {j : Nat} {v : V} {o : O} {T : List Addr}, ORepAll K G H vs os S → ORep K G H v o T → (∀ p, p ∈ S → p ∉ T) → j < os.length → ∃ S', ORepAll K G H (vs.set j v) (os.set j o) S' ∧ ∀ p, p ∈ S' → p ∈ S ∨ p ∈ T
  | _, _, _, j, _, _, _, .nil, _, _, hj => by simp at hj
  | _, _, _, 0, v, o, T, .cons (S1 := S1) (S2 := S2) h r n, q, d, _ => ⟨T ++ S2, .cons q r fun p hp hq => d p (List.mem_append_right _ hq) hp, fun p hp => (List.mem_append.mp hp).elim .inr fun z => .inl (List.mem_append_right _ z)⟩
  | _, _, _, j + 1, v, o, T, .cons (S1 := S1) (S2 := S2) h r n, q, d, hj => by
    obtain ⟨S', h1, h2⟩ := orepAll_set (j := j) r q (fun p hp => d p (List.mem_append_right _ hp)) (by simpa using hj)
    refine ⟨S1 ++ S', .cons h h1 fun p hp hq => (h2 p hq).elim (n p hp) fun z => d p (List.mem_append_left _ hp) z, fun p hp => ?_⟩
    rcases List.mem_append.mp hp with z | z
    · exact .inl (List.mem_append_left _ z)
    · exact (h2 p z).imp (fun y => List.mem_append_right _ y) id
theorem sndS_seti {i : Nat} {k : Int} {x : Str} (hN : X.N[i]? = some x) (hv : Vis X.env.scope x) (hd : (x == ("__debug__" : Str)) = false) (hcd : (x == ("__classdict__" : Str)) = false) (hix : ixB k ix = true) (hpl : plainIxB ix = true) (hc : isComp e = false) (ha : Snd gl Φ ca X W e pe) :
    SndS gl Φ ca X W (.Assign [.Subscript (.Name x px) ix pt] e pos) (.seti i k pe) := by
  intro Γ P hs σ G H F st D kk
  unfold semS at hs
  have hass : ∀ v, assign (.Subscript (.Name x px) ix pt) X.env v = (do
      let ov ← holding [v] (eval (.Name x px) X.env)
      let iv ← holding [v, ov] (eval ix X.env)
      standAt pt
      holding [v, ov, iv] (setItem ov iv v)
      release [v, ov, iv] []) := by
    intro v
    cases ix <;> first | rfl | (simp [ixB] at hix)
  refine wS_of (ps_asg pe_w (pg_sub (pe_var hN hv hd hcd) (ix_pe hix) set_list hass) (by rw [swapsWithSole]; exact swaps_no hc) (by cases e <;> rfl) rfl) ?_
  refine ha Γ _ P.ex hs σ G H F st _ (fun y o S Γ1 G1 H1 F1 st1 sp1 r1 d1 d2 hs1 => ?_) (kk.kox σ)
  obtain ⟨os1, j, e1, hj, hs1⟩ := hs1
  rcases st1.env.ent i _ e1 with z | ⟨v', h3, h4⟩
  · cases z
  obtain ⟨l, vs1, S1, rfl, eS1, hg1, hh1, ra1, nl1⟩ := h4.lst_inv
  have hlen : i < Γ1.length := by
    rcases Nat.lt_or_ge i Γ1.length with z | z
    · exact z
    · rw [List.getElem?_eq_none_iff.mpr z] at e1; cases e1
  have hlF : l ∈ F1 i := by rw [eS1]; exact List.mem_cons_self
  have nlS : l ∉ S := fun z => d1 l z i hlF
  have dis : ∀ q, q ∈ S1 → q ∉ S := fun q hq z => d1 q z i (by rw [eS1]; exact List.mem_cons_of_mem _ hq)
  have hjl : j < os1.length := by
    have z := ixN_seq hj
    exact z.2.1
  have up : ∀ q u, q ≠ l → H1 q = some u → upd H1 l (.lst (vs1.set j y)) q = some u := fun q u hq e => by rw [upd_ne hq]; exact e
  obtain ⟨S', ra2, hS'⟩ := orepAll_set (j := j) (ra1.keep (H' := upd H1 l (.lst (vs1.set j y))) (Same.refl _) (fun q hq => (ra1.foot q hq).1) fun q u hq e => up q u (fun z => nl1 (z ▸ hq)) e) (r1.keep (H' := upd H1 l (.lst (vs1.set j y))) (Same.refl _) (fun q hq => (r1.foot q hq).1) fun q u hq e => up q u (fun z => nlS (z ▸ hq)) e) dis hjl
  refine ⟨.ref l, h3, l, vs1, k, j, rfl, rfl, hh1, by rw [ra1.len]; exact hj, ?_⟩
  have rn : ORep X.K G1 (upd H1 l (.lst (vs1.set j y))) (.ref l) (.lst (os1.set j o)) (l :: S') := .lst hg1 upd_same ra2 fun z => (hS' l z).elim nl1 nlS
  have hS : ∀ q, q ∈ l :: S' → q ∈ F1 i ∨ q ∈ S := fun q hq => by
    rw [eS1]
    rcases List.mem_cons.mp hq with rfl | z
    · exact .inl List.mem_cons_self
    · exact (hS' q z).imp (fun y => List.mem_cons_of_mem _ y) id
  exact kk.nx σ _ G1 _ _ (st1.mut hlF hlen h3 rn fun q hq => (hS q hq).imp id fun z j => d1 q z j) (sp1.mut hlF fun q hq => (hS q hq).elim (fun z => sp1.ff i q z) fun z => d2 q z) hs1
end

/-! ### raise, try -/
/-- C(e), C one of the text's own errors -/
def MkOk (X : Cx) (ca : EC → Addr) (C : EC) : Prop := ∀ (e : Expr) (p pos : Pos), notStar e = true → L2N.PMk X (.Call (.Name (ecW C) p) [e] [] pos) (fun σ H Q => wE X e σ H fun v H1 => ∃ n, v = .int n ∧ ∀ d, H1 d = none → Q (.ref (ca C)) (some d) (upd H1 d (.xd [(("line" : Str), .int n)])))
/-- _law_word(e), e the error that the suite holds -/
def LwOk (X : Cx) (ca : EC → Addr) : Prop := ∀ (a : Addr) (oe : Obj) (pn : List (Addr × Obj)) (C : EC) (dd : Addr) (n : Int) (i : Nat) (nm : Str) (p1 p2 pos : Pos) (σ : L2.St) (G H : Hp) (Q : VK),
  ∀ cx : Value, L2M.Zm (.ref (ca C)) (some dd) cx oe → L2M.CtP pn cx → (∃ vs, oe.data = .fields vs) → X.N[i]? = some nm → Vis X.env.scope nm → (nm == ("__debug__" : Str)) = false → (nm == ("__classdict__" : Str)) = false → σ[i]? = some (some (.ref a)) →
  H dd = some (.xd [(("line" : Str), .int n)]) → Same G H → Kop X.K G H (fun o => o = .sh (ecD C n)) Q → wE (X.suite a ((a, oe) :: pn)) (.Call (.Name "_law_word" p1) [.Name nm p2] [] pos) σ H Q
section
variable {sx : Bool} {gl : List D} {Φ : Fns} {ca : EC → Addr} {X : Cx} {W : WX} {e : Expr} {b : List Stmt} {pe : PEx} {ps : List PSt} {pos px p0 p1 p2 p3 p4 p5 : Pos}
theorem sndS_rse {C : EC} (hc : X.calm = true) (tk : L2M.Takes sx X W) (hm : MkOk X ca C) (hn : notStar e = true) (ha : Snd gl Φ ca X W e pe) : SndS gl Φ ca X W (.Raise (some (.Call (.Name (ecW C) px) [e] [] p1)) none pos) (.rse C pe) := by
  intro Γ P hs σ G H F st D k
  unfold semS at hs
  refine wS_of (L2M.ps_raise hc tk (hm e px p1 hn)) ?_
  refine ha Γ _ P.ex hs σ G H F st _ (kon_int fun n Γ1 G1 H1 F1 st1 sp1 hs1 => ⟨n, rfl, fun d hd => ?_⟩) (k.kox σ)
  obtain ⟨st2, sp2⟩ := st1.grow (same_upd (o := .xd [(("line" : Str), .int n)]) hd)
  exact k.ex C n σ Γ1 G1 _ F1 d st2 (sp1.trans sp2) upd_same hs1
/-- the body of a try, whatever is wished -/
def tbOf (sx : Bool) (X : Cx) (b : List Stmt) : WX → TS := fun W D σ H => ∀ pn xe, L2M.Takes sx (X.tr pn xe) W → PassesOwn (model X.prog X.w) X.A X.env xe → wB (X.tr pn xe) b D σ H
def tsOf (X : Cx) (b : List Stmt) : Addr → Value → Option Addr → TS := fun a cls d D σ H => ∀ oe pn cx, L2M.Zm cls d cx oe → L2M.CtP pn cx → (∃ vs, oe.data = .fields vs) → wB (X.suite a ((a, oe) :: pn)) b D σ H
theorem try_read {x n : Str} {i : Nat} {suite : List Stmt} {b0 : Stmt} {c : Value} {Pb : Pst} {P : Pst} (hs : X.stack = X.env :: X.outer) (hf : X.env.frame = some X.env.locals) (hN : X.N.Nodup) (hi : X.N[i]? = some n) (hln : X.env.kindOf n = some .local) (hc : Names X x c) (tk : L2M.Takes sx X W)
    (hb : ∀ (W' : WX) (pn : List (Addr × Obj)) (xe : Value → Shared → Prop), L2M.Takes sx (X.tr pn xe) W' → PassesOwn (model X.prog X.w) X.A X.env xe → SndB gl Φ ca (X.tr pn xe) W' b ps)
    {Γ : List O} {σ : L2.St} {G H : Hp} {F : Nat → List Addr} {D : Ends} (hsm : semB gl Φ ps Γ Pb) (st : Sta X.K σ Γ G H F) (k : Kst X.K ca G H F Pb D (wAs X.K c i (tsOf X (b0 :: suite)) W D)) :
    wS X (.Try b [.ExceptHandler (some (.Name x p1)) (some n) (b0 :: suite) p2] [] [] pos) D σ H := by
  refine wS_of (L2M.ps_try_as (tb := tbOf sx X b) (ts := tsOf X (b0 :: suite)) hs hf hN hi hln hc tk (fun W' pn xe tk' po => ⟨fun pins s σ H D I h => h pn xe tk' po pins s I⟩) (fun a oe cls d cx pn hz hv ct => ⟨fun pins s σ H D I h => h oe pn cx hz ct hv pins s I⟩)) ?_
  intro pn xe tk' po
  exact hb _ pn xe tk' po Γ Pb hsm σ G H F st D ⟨k.nx, k.rt, k.bk, k.ct, k.ex⟩
/-- except .. as e: return _law_word(e) -/
theorem sndS_tryR {x n : Str} {i : Nat} {c : Value} (hs : X.stack = X.env :: X.outer) (hf : X.env.frame = some X.env.locals) (hN : X.N.Nodup) (hi : X.N[i]? = some n) (hln : X.env.kindOf n = some .local) (hd : (n == ("__debug__" : Str)) = false) (hcd : (n == ("__classdict__" : Str)) = false) (hc : Names X x c) (tk : L2M.Takes sx X W)
    (hex : ∀ C : EC, PySem.W.exmOne X.K (.ref (ca C)) c = some true) (lw : LwOk X ca)
    (hb : ∀ (W' : WX) (pn : List (Addr × Obj)) (xe : Value → Shared → Prop), L2M.Takes sx (X.tr pn xe) W' → PassesOwn (model X.prog X.w) X.A X.env xe → SndB gl Φ ca (X.tr pn xe) W' b ps) :
    SndS gl Φ ca X W (.Try b [.ExceptHandler (some (.Name x p1)) (some n) [.Return (some (.Call (.Name "_law_word" p3) [.Name n p4] [] p5)) px] p2] [] [] pos) (.tryR ps i) := by
  intro Γ P hsm σ G H F st D k
  unfold semS at hsm
  refine try_read (P := P) hs hf hN hi hln hc tk hb hsm st ⟨k.nx, k.rt, k.bk, k.ct, fun C nn σ' Γ' G' H' F' dd st' sp' hx hp => ?_⟩
  refine ⟨true, hex C, fun _ a ha => ?_, fun z => nomatch z⟩
  intro oe pn cx hz hct hv
  refine wB_of (pss_one (ps_ret pe_w)) ?_
  have hlt : i < σ'.length ∨ ¬ i < σ'.length := Nat.lt_or_ge i σ'.length |>.imp id Nat.not_lt.mpr
  refine fun pins s I => ?_
  have hlen : i < σ'.length := by
    have z := I.len
    rw [List.length_set] at z
    rw [z]
    exact (List.getElem?_eq_some_iff.mp hi).1
  refine lw a oe pn C dd nn i n p3 p4 p5 _ G' H' _ cx hz hct hv hi (.inl hln) hd hcd (List.getElem?_set_self hlen) hx st'.gh ?_ pins s I
  intro v o S G2 H2 e1 e2 e3 e4 r hS eo
  subst eo
  obtain ⟨st2, sp2⟩ := st'.growG e1 e2 e3 e4
  obtain ⟨r1, rfl⟩ := r.sh_inv
  exact k.rt v (.sh (ecD C nn)) [] σ' Γ' G2 H2 F' st2 (sp'.trans sp2) (.sh r1) (fun _ z => nomatch z) (fun _ z => nomatch z) hp
theorem Sta.drop {K : PySem.W.Frag} {σ : L2.St} {Γ : List O} {G H : Hp} {F : Nat → List Addr} (st : Sta K σ Γ G H F) (i : Nat) (u : Option V) : Sta K (σ.set i u) (Γ.set i .un) G H (setF F i []) := by
  have z := st.unset i
  refine ⟨⟨by rw [List.length_set, z.env.len], fun j o e => ?_, z.env.own, z.env.dis⟩, z.gh⟩
  by_cases q : j = i
  · subst q
    left
    rw [List.getElem?_set] at e
    simp at e
    exact e.2.symm
  · rw [List.getElem?_set_ne (Ne.symm q)]
    exact z.env.ent j o e
/-- except .. as e: name = _law_word(e) -/
theorem sndS_tryA {x n y : Str} {i j : Nat} {c : Value} {py : Pos} (hs : X.stack = X.env :: X.outer) (hf : X.env.frame = some X.env.locals) (hN : X.N.Nodup) (hi : X.N[i]? = some n) (hln : X.env.kindOf n = some .local) (hd : (n == ("__debug__" : Str)) = false) (hcd : (n == ("__classdict__" : Str)) = false) (hc : Names X x c) (tk : L2M.Takes sx X W)
    (hj : X.N[j]? = some y) (hy : Loc X.env.scope y) (hfy : X.fn y = true ∨ X.env.scope.names.lookup y = some .local) (hij : i ≠ j)
    (hex : ∀ C : EC, PySem.W.exmOne X.K (.ref (ca C)) c = some true) (lw : LwOk X ca)
    (hb : ∀ (W' : WX) (pn : List (Addr × Obj)) (xe : Value → Shared → Prop), L2M.Takes sx (X.tr pn xe) W' → PassesOwn (model X.prog X.w) X.A X.env xe → SndB gl Φ ca (X.tr pn xe) W' b ps) :
    SndS gl Φ ca X W (.Try b [.ExceptHandler (some (.Name x p1)) (some n) [.Assign [.Name y py] (.Call (.Name "_law_word" p3) [.Name n p4] [] p5) px] p2] [] [] pos) (.tryA ps i j) := by
  intro Γ P hsm σ G H F st D k
  unfold semS at hsm
  refine try_read (P := P) hs hf hN hi hln hc tk hb hsm st ⟨k.nx, k.rt, k.bk, k.ct, fun C nn σ' Γ' G' H' F' dd st' sp' hx hp => ?_⟩
  refine ⟨true, hex C, fun _ a ha => ?_, fun z => nomatch z⟩
  intro oe pn cx hz hct hv
  refine wB_of (pss_one (ps_set hN hj hy pe_w (swaps_no rfl) hfy)) ?_
  refine fun pins s I => ?_
  have hlen : i < σ'.length := by
    have z := I.len
    rw [List.length_set] at z
    rw [z]
    exact (List.getElem?_eq_some_iff.mp hi).1
  refine lw a oe pn C dd nn i n p3 p4 p5 _ G' H' _ cx hz hct hv hi (.inl hln) hd hcd (List.getElem?_set_self hlen) hx st'.gh ?_ pins s I
  intro v o S G2 H2 e1 e2 e3 e4 r hS eo
  subst eo
  obtain ⟨st2, sp2⟩ := st'.growG e1 e2 e3 e4
  obtain ⟨r1, rfl⟩ := r.sh_inv
  have st3 := (st2.set (i := j) hp.1 (.sh r1) fun _ z => nomatch z).drop i none
  show D.nx ((((σ'.set i (some (.ref a))).set j (some v))).set i none) H2
  have e : (((σ'.set i (some (.ref a))).set j (some v))).set i none = (σ'.set j (some v)).set i none := by
    rw [List.set_comm _ _ hij, List.set_set]
  rw [e]
  exact k.nx _ _ G2 H2 _ st3 (sp'.trans sp2).unset.unset hp.2
/-- except C: raise C(x[k]) -/
def tsU (X : Cx) (W : WX) (b : List Stmt) : Addr → Value → Option Addr → TS := fun a _ _ D σ H => ∀ oe pn, L2M.Takes false (L2H.suiteX X a ((a, oe) :: pn)) W → L2H.HotC (L2H.suiteX X a ((a, oe) :: pn)) → wB (L2H.suiteX X a ((a, oe) :: pn)) b D σ H
theorem sndS_tryU {C : EC} {i : Nat} {k : Int} {v : Str} {ix : Expr} (hs : X.stack = X.env :: X.outer) (hf : X.env.frame = some X.env.locals) (hpa : ∀ hd : Option Value, PassesOwnAt (model X.prog X.w) (X.A.mark hd) X.A X.env X.xe) (hc : Names X (ecW C) (.ref (ca C))) (tk : L2M.Takes false X W)
    (hu : X.A.units + 64 < cLine) (hN : X.N[i]? = some v) (hv : Vis X.env.scope v) (hd : (v == ("__debug__" : Str)) = false) (hcd : (v == ("__classdict__" : Str)) = false) (hix : ixB k ix = true) (hpx : plainIxB ix = true)
    (hex : ∀ C0 : EC, PySem.W.exmOne X.K (.ref (ca C0)) (.ref (ca C)) = some (decide (C0 = C))) (hmk : ∀ a pn, L2H.HotC (L2H.suiteX X a pn) → MkOk (L2H.suiteX X a pn) ca C)
    (hb : ∀ (W' : WX) (pn : List (Addr × Obj)) (xe : Value → Shared → Prop), L2M.Takes true (X.tr pn xe) W' → PassesOwn (model X.prog X.w) X.A X.env xe → SndB gl Φ ca (X.tr pn xe) W' b ps) :
    SndS gl Φ ca X W (.Try b [.ExceptHandler (some (.Name (ecW C) p1)) none [.Raise (some (.Call (.Name (ecW C) p2) [.Subscript (.Name v p3) ix p4] [] p5)) none px] pos] [] [] p0) (.tryU ps C i k) := by
  intro Γ P hsm σ G H F st D kk
  unfold semS at hsm
  refine wS_of (L2M.ps_try_up (tb := tbOf true X b) (ts := tsU X W [.Raise (some (.Call (.Name (ecW C) p2) [.Subscript (.Name v p3) ix p4] [] p5)) none px]) hs hf hc hpa tk (fun W' pn xe tk' po => ⟨fun pins s σ H D I h => h pn xe tk' po pins s I⟩)
    (fun a oe cls d pn _ tk' hot => ⟨fun pins s σ H D I h => h oe pn tk' hot pins s I⟩)) ?_
  intro pn xe tk' po
  refine hb _ pn xe tk' po Γ _ hsm σ G H F st D ⟨kk.nx, kk.rt, kk.bk, kk.ct, fun C0 n σ1 Γ1 G1 H1 F1 dd st1 sp1 hx hp => ?_⟩
  refine ⟨decide (C0 = C), hex C0, fun hy a _ => ?_, fun hn => ?_⟩
  · have e0 : C0 = C := of_decide_eq_true hy
    dsimp only at hp
    rw [if_pos e0] at hp
    obtain ⟨ds, n1, e1, e2, hp⟩ := hp
    intro oe pn' tk2 hot
    refine wB_of (pss_one (L2M.ps_raiseH hot tk2 (hmk a _ hot _ p2 p5 rfl))) ?_
    refine wE_of (pe_ix ix_w (pe_var (X := L2H.suiteX X a ((a, oe) :: pn')) hN hv hd hcd) (ix_pe hix) (plainIx_ok hpx)) ?_
    rcases st1.env.ent i _ e1 with z | ⟨u, h1, h2⟩
    · cases z
    obtain ⟨r, _⟩ := h2.sh_inv
    refine ⟨u, h1, ?_⟩
    refine sub_ok (X := L2H.suiteX X a ((a, oe) :: pn')) (x := .tup ds) (y := .int k) (R := fun o => o = .sh (.int n1)) (G := G1) hu st1.gh r (.int k) ⟨.int n1, e2, rfl⟩ ?_
    intro v2 o2 S2 G2 H2 g1 g2 g3 g4 ro hS eo
    subst eo
    obtain ⟨r2, _⟩ := ro.sh_inv
    cases r2
    refine ⟨n1, rfl, fun d hd => ?_⟩
    obtain ⟨st2, sp2⟩ := st1.growG g1 g2 g3 g4
    obtain ⟨st3, sp3⟩ := st2.grow (same_upd (o := .xd [(("line" : Str), .int n1)]) hd)
    exact kk.ex C n1 σ1 Γ1 G2 _ F1 d st3 (sp1.trans (sp2.trans sp3)) upd_same hp
  · have e0 : ¬ C0 = C := of_decide_eq_false hn
    dsimp only at hp
    rw [if_neg e0] at hp
    exact kk.ex C0 n σ1 Γ1 G1 H1 F1 dd st1 sp1 hx hp
end
end PW

end
section
set_option Elab.async false
set_option linter.all false
set_option maxRecDepth 100000
set_option maxHeartbeats 4000000
/-! PXO: things of the text's own classes: fields, methods, making. -/
namespace PW
open PySem PySem.Spec PyProof.Rows L2

abbrev CXx (sx : Bool) (X : Cx) : CXT := L2M.CX sx X.prog X.w
/-- what a method of a lent thing promises -/
def spOfM (K : PySem.W.Frag) (ca : EC → Addr) (s : MSpec) : Sp := fun vs H Q E => ∃ G p o S us ds, vs = .ref p :: us ∧ Same G H ∧ ORep K G H (.ref p) o S ∧ RepAll K G us ds ∧ ds.length = s.np ∧ s.pre o ds ∧
  (∀ r o', s.out o ds = (.ok r, o') → ∀ v S1 S2 G' H', Same G G' → Same G' H' → (∀ a u, a ∉ S → H a = some u → H' a = some u) → (∀ q, H q ≠ none → G q = none → q ∉ S → G' q = none) →
    ORep K G' H' v r S1 → ORep K G' H' (.ref p) o' S2 → (∀ q, q ∈ S1 → q ∉ S2) → (∀ q, q ∈ S1 → q ∈ S ∨ H q = none) → (∀ q, q ∈ S2 → q ∈ S ∨ H q = none) → Q v H') ∧
  (∀ C n o', s.out o ds = (.error (C, n), o') → ∀ dd S2 G' H', Same G G' → Same G' H' → (∀ a u, a ∉ S → H a = some u → H' a = some u) → (∀ q, H q ≠ none → G q = none → q ∉ S → G' q = none) →
    ORep K G' H' (.ref p) o' S2 → (∀ q, q ∈ S2 → q ∈ S ∨ H q = none) → H' dd = some (.xd [(("line" : Str), .int n)]) → E (.ref (ca C)) (some dd) H')
def MethOk (CX : CXT) (X : Cx) (cn m : Str) (sp : Sp) : Prop :=
  ∃ (fa : Addr) (fd : FuncData) (ps : List Str) (k : Nat), Cls X.K (clA X.K cn) ∧ Meth X.K (clA X.K cn) m fa ∧ FnOk X.prog X.w X.K X.mg X.base CX k fa fd ps sp ∧ Room k X.A ∧ Binds X.K fd ps []
def MakeOk (CX : CXT) (X : Cx) (cn : Str) (sp : Sp) : Prop :=
  ∃ (fa : Addr) (fd : FuncData) (ps : List Str) (k : Nat), Mk X.K (clA X.K cn) fa ∧ FnOk X.prog X.w X.K X.mg X.base CX k fa fd ps sp ∧ Room (k + 1) X.A ∧ X.mg cn = some (.ref (clA X.K cn)) ∧ Binds X.K fd ps []
def FldOk (X : Cx) (cn f : Str) : Prop := Cls X.K (clA X.K cn) ∧ NoAttr X.K (clA X.K cn) f

/-! ### o.m(..) -/
section
variable {X : Cx} {CX : CXT} {k : Nat} {f C : Addr} {fd : FuncData} {ps : List Str} {sp : Sp} {E : L2.St → XK} {m : Str} {apos pos : Pos} {o : Expr} {args : List Expr} {ta : TE} {t : TA}
def tMethA (C : Addr) (m : Str) (sp : Sp) (E : L2.St → XK) (ta : TE) (t : TA) : TE := fun σ H Q => ta σ H fun x H1 => ∃ a dx fs, x = .ref a ∧ H1 a = some (.ins C dx fs) ∧ fs.lookup m = none ∧ t σ H1 fun vs H2 => sp (x :: vs) H2 Q (E σ)
theorem run_fnA {pins : List (Addr × Obj)} {σ : L2.St} {H : Hp} {s : Shared} {Q : VK} {us : List Value} {vs : List V} (F : FnOk X.prog X.w X.K X.mg X.base CX k f fd ps sp) (hr : Room k X.A) (hb : Binds X.K fd ps []) (hx : PassesAt CX X σ (E σ))
    (I : Inv X pins σ H s) (r : Vals vs us) (h : sp vs H Q (E σ)) : wpAny (model X.prog X.w) X.A (call (.ref f) us) (EP X pins σ Q) X.xe s :=
  run_fnSD (dvs := []) (ds := []) F hr hb .nil hx I r (by rw [List.append_nil]; exact h)
theorem few_any {env : Env} (hn : args.all notStar = true) (hl : decide (args.length < 30) = true) : ((backTo pos (starEach args env)).all (fun x => !x.1) && (backToKw pos (keywordEach [] env)).all (fun x => x.1.isSome)
      && decide (args.length + ([] : List Keyword).length + (if ([] : List Keyword).isEmpty then 0 else 1) < 30)) = true := by
  rw [noStar_all hn]
  show (true && true && decide (args.length + 0 + 0 < 30)) = true
  simpa using hl
theorem meth_call {pins : List (Addr × Obj)} {σ : L2.St} {H : Hp} {s : Shared} {Q : Value → Shared → Prop} (he : PE X o ta) (c : Cls X.K C) (hm : Meth X.K C m f) (hb : plainBase o = true) (hn : args.all notStar = true) (h30 : decide (args.length < 30) = true) (hl : (apos.endLine == pos.line) = true)
    (I : Inv X pins σ H s) (h : ta σ H fun x H1 => ∃ a dx fs, x = .ref a ∧ H1 a = some (.ins C dx fs) ∧ fs.lookup m = none ∧ ∀ s1, Inv X pins σ H1 s1 → wpAny (model X.prog X.w) X.A (callWith pos (.ref f) [.ref a] (backTo pos (starEach args X.env)) []) Q X.xe s1) :
    wpAny (model X.prog X.w) X.A (eval (.Call (.Attribute o m apos) args [] pos) X.env) Q X.xe s := by
  rw [arm_eval_Call, base_ok hb]
  refine wpAny_bind (wpAny_mono (he.run pins s σ H _ I h) (fun ov s1 h1 => ?_) fun _ _ e => e)
  obtain ⟨x, H1, I1, rx, a, dx, fs, ex, ea, l, q⟩ := h1
  subst ex
  obtain rfl : ov = Value.ref a := rx
  refine wpAny_bind (wpAny_standAt ?_)
  have hform : methodCallForm (args.length + ([] : List Keyword).length) (backTo pos (starEach args X.env)) (backToKw pos (keywordEach [] X.env)) = true := few_any hn h30
  have hpos : methodCallPos true o X.env apos pos = pure pos := by unfold methodCallPos; simp [hl]
  unfold methodCall
  rw [hform]
  refine wpAny_bind (wpAny_holding (getmeth_ok I1 ea c hm l ?_))
  exact wpAny_bind (wpAny_of_eq hpos (q s1 I1))
theorem pe_methA {e : Expr} {es : List Expr} (he : PE X o ta) (c : Cls X.K C) (hm : Meth X.K C m f) (F : FnOk X.prog X.w X.K X.mg X.base CX k f fd ps sp) (hr : Room k X.A) (hb : Binds X.K fd ps []) (hx : ∀ σ, PassesAt CX X σ (E σ)) (ha : PA X (e :: es) t)
    (hbase : plainBase o = true) (hn : (e :: es).all notStar = true) (h30 : decide ((e :: es).length < 30) = true) (hl : (apos.endLine == pos.line) = true) : PE X (.Call (.Attribute o m apos) (e :: es) [] pos) (tMethA C m sp E ta t) := by
  refine ⟨fun pins s σ H Q I h => ?_⟩
  have hn2 := hn
  simp only [List.all_cons, Bool.and_eq_true] at hn2
  refine meth_call (pe_w (e := o)) c hm hbase hn h30 hl I fun pins' s' I' => thn (he.run pins' s' σ H _ I' h) fun u s1 ⟨x, H1, I1, rx, a, dx, fs, ex, ea, l, q⟩ => ?_
  refine ⟨x, H1, I1, rx, a, dx, fs, ex, ea, l, fun s2 I2 => ?_⟩
  subst ex
  refine PySem.W.callWith_K (first := [.ref a]) (h₀ := X.base) I.ok.mod.kin hm.kp (thn (ha.run pos pins s2 σ H1 _ I2 q) fun us s3 ⟨vs, H2, I3, r, q2⟩ => ⟨I3.kIn, ?_⟩) (star_ok hn2.1) (noStar_any hn2.2)
  exact run_fnA (us := .ref a :: us) (vs := .ref a :: vs) F hr hb (hx σ) I3 (.cons rfl r) q2
theorem pe_methA0 (he : PE X o ta) (c : Cls X.K C) (hm : Meth X.K C m f) (F : FnOk X.prog X.w X.K X.mg X.base CX k f fd ps sp) (hr : Room k X.A) (hb : Binds X.K fd ps []) (hx : ∀ σ, PassesAt CX X σ (E σ))
    (hbase : plainBase o = true) (hl : (apos.endLine == pos.line) = true) : PE X (.Call (.Attribute o m apos) [] [] pos) (tMethA C m sp E ta tNil) := by
  refine ⟨fun pins s σ H Q I h => ?_⟩
  refine meth_call (pe_w (e := o)) c hm hbase rfl rfl hl I fun pins' s' I' => thn (he.run pins' s' σ H _ I' h) fun u s1 ⟨x, H1, I1, rx, a, dx, fs, ex, ea, l, q⟩ => ?_
  refine ⟨x, H1, I1, rx, a, dx, fs, ex, ea, l, fun s2 I2 => ?_⟩
  subst ex
  exact PySem.W.callWith_K0 (first := [.ref a]) I2.kIn hm.kp (run_fnA (us := [.ref a]) (vs := [.ref a]) F hr hb (hx σ) I2 (.cons rfl .nil) q)
end
end PW

end
section
set_option Elab.async false
set_option linter.all false
set_option maxRecDepth 100000
set_option maxHeartbeats 4000000
/-! PXP: the soundness of fields, methods, making. -/
namespace PW
open PySem PySem.Spec PyProof.Rows L2

section
variable {K : PySem.W.Frag} {G H : Hp}
theorem ORep.ins_inv {v : V} {p : Addr} {c : Str} {fs : List Str} {os : List O} {S : List Addr} (h : ORep K G H v (.ins p c fs os) S) : ∃ dx fvs S', v = .ref p ∧ S = p :: S' ∧ G p = none ∧ H p = some (.ins (clA K c) dx fvs) ∧ fvs.map (·.1) = fs ∧ ORepAll K G H (fvs.map (·.2)) os S' ∧ p ∉ S' := by
  cases h with | ins a b c d e => exact ⟨_, _, _, rfl, rfl, a, b, c, d, e⟩
theorem ORep.dct_inv {v : V} {ks : List Str} {os : List O} {S : List Addr} (h : ORep K G H v (.dct ks os) S) : ∃ p kvs S', v = .ref p ∧ S = p :: S' ∧ G p = none ∧ H p = some (.dK kvs) ∧ kvs.map (·.1) = ks.map Sum.inr ∧ ORepAll K G H (kvs.map (·.2)) os S' ∧ p ∉ S' := by
  cases h with | dct a b c d e => exact ⟨_, _, _, rfl, rfl, a, b, c, d, e⟩
theorem look_no {m : Str} : ∀ {fvs : List (Str × V)} {fs : List Str}, fvs.map (·.1) = fs → fs.contains m = false → fvs.lookup m = none
  | [], _, _, _ => rfl
  | (g, v) :: r, _, rfl, h => by
    simp only [List.map_cons, List.contains_cons, Bool.or_eq_false_iff] at h
    rw [List.lookup_cons, h.1]
    exact look_no rfl h.2
theorem fld_get {f : Str} {d : D} : ∀ {fvs : List (Str × V)} {fs : List Str} {ds : List D}, fvs.map (·.1) = fs → RepAll K G (fvs.map (·.2)) ds → lookF fs ds f = some d → ∃ v, fvs.lookup f = some v ∧ Rep K G v d
  | [], _, _, rfl, r, h => by
    unfold lookF at h
    cases h
  | (g, v) :: q, _, _, rfl, r, h => by
    rw [List.map_cons] at r
    cases r with
    | cons r1 r2 =>
      rw [List.map_cons] at h
      unfold lookF at h
      by_cases z : g = f
      · rw [if_pos z] at h
        cases h
        exact ⟨v, by rw [List.lookup_cons, beq_iff_eq.mpr z.symm], r1⟩
      · rw [if_neg z] at h
        obtain ⟨w, a, b⟩ := fld_get (fvs := q) rfl r2 h
        exact ⟨w, by rw [List.lookup_cons, beq_eq_false_iff_ne.mpr fun y => z y.symm]; exact a, b⟩
theorem fld_getO {f : Str} {o : O} : ∀ {fvs : List (Str × V)} {fs : List Str} {os : List O} {S : List Addr}, fvs.map (·.1) = fs → ORepAll K G H (fvs.map (·.2)) os S → lookF fs os f = some o → ∃ v T, fvs.lookup f = some v ∧ ORep K G H v o T ∧ ∀ q, q ∈ T → q ∈ S
  | [], _, _, _, rfl, r, h => by
    unfold lookF at h
    cases h
  | (g, v) :: q, _, _, _, rfl, r, h => by
    rw [List.map_cons] at r
    cases r with
    | cons r1 r2 dj =>
      rw [List.map_cons] at h
      unfold lookF at h
      by_cases z : g = f
      · rw [if_pos z] at h
        cases h
        exact ⟨v, _, by rw [List.lookup_cons, beq_iff_eq.mpr z.symm], r1, fun q hq => List.mem_append_left _ hq⟩
      · rw [if_neg z] at h
        obtain ⟨w, T, a, b, c⟩ := fld_getO (fvs := q) rfl r2 h
        exact ⟨w, T, by rw [List.lookup_cons, beq_eq_false_iff_ne.mpr fun y => z y.symm]; exact a, b, fun q hq => List.mem_append_right _ (c q hq)⟩
/-- a field is put -/
theorem fld_put {f : Str} {o : O} {y : V} {T : List Addr} (ry : ORep K G H y o T) : ∀ {fvs : List (Str × V)} {fs : List Str} {os : List O} {S : List Addr}, fvs.map (·.1) = fs → ORepAll K G H (fvs.map (·.2)) os S → (∀ q, q ∈ S → q ∉ T) →
    (putF f y fvs).map (·.1) = (putO fs os f o).1 ∧ ∃ S', ORepAll K G H ((putF f y fvs).map (·.2)) (putO fs os f o).2 S' ∧ ∀ q, q ∈ S' → q ∈ S ∨ q ∈ T
  | [], _, os, _, rfl, r, d => by
    refine ⟨by unfold putO; rfl, T, ?_, fun q hq => .inr hq⟩
    have e : (putO ([] : List Str) os f o).2 = [o] := by unfold putO; rfl
    show ORepAll K G H [y] (putO ([] : List Str) os f o).2 T
    rw [e]
    exact ORepAll.one ry
  | (g, v) :: q, _, _, _, rfl, r, d => by
    rw [List.map_cons] at r
    cases r with
    | cons r1 r2 dj =>
      rename_i o1 os1 S1 S2
      rw [List.map_cons]
      unfold putO putF
      by_cases z : g = f
      · rw [if_pos z, if_pos z]
        refine ⟨rfl, T ++ S2, .cons ry r2 fun p hp hq => d p (List.mem_append_right _ hq) hp, fun p hp => ?_⟩
        rcases List.mem_append.mp hp with h | h
        · exact .inr h
        · exact .inl (List.mem_append_right _ h)
      · rw [if_neg z, if_neg z]
        obtain ⟨e, S', a, b⟩ := fld_put ry (fvs := q) rfl r2 fun p hp => d p (List.mem_append_right _ hp)
        refine ⟨by rw [List.map_cons, e], S1 ++ S', .cons r1 a fun p hp hq => ?_, fun p hp => ?_⟩
        · rcases b p hq with h | h
          · exact dj p hp h
          · exact d p (List.mem_append_left _ hp) h
        · rcases List.mem_append.mp hp with h | h
          · exact .inl (List.mem_append_left _ h)
          · exact (b p h).imp (fun y => List.mem_append_right _ y) id
theorem pin_all {f : Str} {M : D} : ∀ {fvs : List (Str × V)} {fs : List Str} {os : List O} {S : List Addr}, fvs.map (·.1) = fs → ORepAll K G H (fvs.map (·.2)) os S → lookF fs os f = some (.sh M) → ∃ v, ORepAll K G H (fvs.map (·.2)) (pinF fs os f v M) S
  | [], _, _, _, rfl, r, h => by
    unfold lookF at h
    cases h
  | (g, v) :: q, _, _, _, rfl, r, h => by
    rw [List.map_cons] at r
    cases r with
    | cons r1 r2 dj =>
      rw [List.map_cons] at h
      unfold lookF at h
      rename_i o1 os1 T1 T2
      have pc : ∀ w, pinF (((g, v) :: q).map (·.1)) (o1 :: os1) f w M = if g = f then .pin w M :: os1 else o1 :: pinF (q.map (·.1)) os1 f w M := fun w => by
        show pinF (g :: q.map (·.1)) (o1 :: os1) f w M = _
        rw [pinF]
      by_cases z : g = f
      · rw [if_pos z] at h
        cases h
        refine ⟨v, ?_⟩
        rw [pc, if_pos z]
        obtain ⟨rv, eS⟩ := r1.sh_inv
        subst eS
        exact .cons (.pin rv) r2 dj
      · rw [if_neg z] at h
        obtain ⟨w, rr⟩ := pin_all (fvs := q) rfl r2 h
        refine ⟨w, ?_⟩
        rw [pc, if_neg z]
        exact .cons r1 rr dj
/-- what is lent comes back changed -/
theorem Sta.lent {σ : L2.St} {Γ : List O} {F : Nat → List Addr} {G' H' : Hp} {i : Nat} {v : V} {o : O} {S2 : List Addr} (st : Sta K σ Γ G H F) (hi : i < Γ.length) (hv : σ[i]? = some (some v)) (e1 : Same G G') (e2 : Same G' H')
    (e3 : ∀ a u, a ∉ F i → H a = some u → H' a = some u) (e4 : ∀ q, H q ≠ none → G q = none → q ∉ F i → G' q = none) (ro : ORep K G' H' v o S2) (p2 : ∀ q, q ∈ S2 → q ∈ F i ∨ H q = none) :
    Sta K σ (Γ.set i o) G' H' (setF F i S2) ∧ Stp G H F G' H' (setF F i S2) := by
  have ne : ∀ j q, j ≠ i → q ∈ F j → q ∉ F i := fun j q h hq z => h (st.env.dis j i q hq z)
  refine ⟨⟨⟨by simp [st.env.len], fun j o' ej => ?_, fun j q hq => ?_, fun j k q h1 h2 => ?_⟩, e2⟩, ⟨e1, fun a u h e => e3 a u (h i) e, fun q h1 h2 h3 => e4 q h1 h2 (h3 i), fun j q hq => ?_⟩⟩
  · by_cases z : j = i
    · subst z
      rw [List.getElem?_set_self hi] at ej
      cases ej
      exact .inr ⟨v, hv, by rw [setF_same]; exact ro⟩
    · rw [List.getElem?_set_ne (Ne.symm z)] at ej
      rw [setF_ne z]
      rcases st.env.ent j o' ej with y | ⟨w, h1, h2⟩
      · exact .inl y
      · exact .inr ⟨w, h1, h2.keep e1 (fun q hq => e4 q (st.env.own j q hq).2 (st.env.own j q hq).1 (ne j q z hq)) fun q u hq e => e3 q u (ne j q z hq) e⟩
  · by_cases z : j = i
    · subst z; rw [setF_same] at hq; exact ro.foot q hq
    · rw [setF_ne z] at hq
      obtain ⟨a1, a2⟩ := st.env.own j q hq
      refine ⟨e4 q a2 a1 (ne j q z hq), ?_⟩
      cases y : H q with
      | none => exact absurd y a2
      | some u => rw [e3 q u (ne j q z hq) y]; exact fun z => nomatch z
  · have mix : ∀ k, k ≠ i → q ∈ S2 → q ∈ F k → False := fun k hk h1 h2 => by
      rcases p2 q h1 with h | h
      · exact hk (st.env.dis k i q h2 h)
      · exact (st.env.own k q h2).2 h
    by_cases z1 : j = i
    · subst z1
      rw [setF_same] at h1
      by_cases z2 : k = j
      · exact z2.symm
      · rw [setF_ne z2] at h2; exact (mix k z2 h1 h2).elim
    · rw [setF_ne z1] at h1
      by_cases z2 : k = i
      · subst z2; rw [setF_same] at h2; exact (mix j z1 h2 h1).elim
      · rw [setF_ne z2] at h2; exact st.env.dis j k q h1 h2
  · by_cases z : j = i
    · subst z
      rw [setF_same] at hq
      exact (p2 q hq).imp (fun h => ⟨j, h⟩) id
    · rw [setF_ne z] at hq; exact .inl ⟨j, hq⟩
end
section
variable {gl : List D} {Φ : Fns} {ca : EC → Addr} {X : Cx} {W : WX} {CX : CXT} {a : Expr} {args : List Expr} {p : PEx} {ps : List PEx} {pos apos : Pos} {k : Nat} {cn m f : Str}
theorem lt_of_get {α : Type} {l : List α} {i : Nat} {x : α} (h : l[i]? = some x) : i < l.length := (List.getElem?_eq_some_iff.mp h).1
/-! ### fields -/
theorem snd_fld (hf : FldOk X cn f) (hb : plainBase a = true) (ha : Snd gl Φ ca X W a p) : Snd gl Φ ca X W (.Attribute a f pos) (.fld cn p f) := by
  intro Γ R E hs σ G H F st Q kn kx
  unfold sem at hs
  refine wE_of (pe_fld pe_w (base_ok hb)) ?_
  refine ha Γ _ E hs σ G H F st _ (kon_imp (R' := fun o Γ1 => ∃ d', asD o = some d' ∧ ∃ fs ds d, d' = .ins cn fs ds ∧ lookF fs ds f = some d ∧ R (.sh d) Γ1) (fun o Γ1 ⟨fs, ds, d, h1, h2, h3⟩ => ⟨_, h1, fs, ds, d, rfl, h2, h3⟩) (kon_D fun v d Γ1 G1 H1 F1 st1 sp1 r1 hs1 => ?_)) kx
  obtain ⟨fs, ds, d, rfl, h2, h3⟩ := hs1
  cases r1 with
  | ins g e q =>
    obtain ⟨w, l, rw'⟩ := fld_get e q h2
    exact ⟨_, _, _, _, w, rfl, st1.gh _ _ g, hf.1, hf.2, l, (kn.step sp1).val st1 rw' h3⟩
theorem snd_fldv {i : Nat} {x : Str} {px : Pos} (hf : FldOk X cn f) (hN : X.N[i]? = some x) (hv : Vis X.env.scope x) (hd : (x == ("__debug__" : Str)) = false) (hcd : (x == ("__classdict__" : Str)) = false) :
    Snd gl Φ ca X W (.Attribute (.Name x px) f pos) (.fldv cn i f) := by
  intro Γ R E hs σ G H F st Q kn kx
  unfold sem at hs
  obtain ⟨pa, fs, os, o, d, e0, h2, ho, h3⟩ := hs
  refine wE_of (pe_fld (pe_var hN hv hd hcd) (base_ok rfl)) ?_
  rcases st.env.ent i _ e0 with z | ⟨v, h1, r⟩
  · cases z
  obtain ⟨dx, fvs, S', rfl, eS, hg, hh, en, ra, np⟩ := r.ins_inv
  obtain ⟨w, T, l, rw', _⟩ := fld_getO en ra h2
  have rw2 : Rep X.K G w d := by
    rcases ho with rfl | ⟨v, rfl⟩
    · exact rw'.sh_inv.1
    · cases rw' with | pin h => exact h
  exact ⟨_, h1, pa, _, dx, fvs, w, rfl, hh, hf.1, hf.2, l, kn.val st rw2 h3⟩
/-! ### methods of what is shared -/
theorem snd_mcl {e : Expr} {es : List Expr} (hc : ∃ s : FSpec, Φ k = some s ∧ MethOk CX X cn m (spOf X.K ca s)) (hW : ∀ σ, PassesAt CX X σ (WE W σ)) (hb : plainBase a = true) (hl : (apos.endLine == pos.line) = true) (h30 : decide ((e :: es).length < 30) = true) (hn : (e :: es).all notStar = true)
    (ha : Snd gl Φ ca X W a p) (hr : SndA gl Φ ca X W (e :: es) ps) : Snd gl Φ ca X W (.Call (.Attribute a m apos) (e :: es) [] pos) (.mcl k cn m p ps) := by
  intro Γ R E hs σ G H F st Q kn kx
  unfold sem at hs
  obtain ⟨s, ef, fa, fd, nps, j, hcl, hme, FO, hr', hbd⟩ := hc
  refine wE_of (pe_methA (E := WE W) pe_w hcl hme FO hr' hbd hW pa_w hb hn h30 hl) ?_
  refine ha Γ _ E hs σ G H F st _ (kon_imp (R' := fun o Γ1 => ∃ d', asD o = some d' ∧ ∃ fs ds, d' = .ins cn fs ds ∧ fs.contains m = false ∧ semA gl Φ ps Γ1 (fun as Γ2 => ∃ s : FSpec, Φ k = some s ∧ as.length + 1 = s.np ∧ s.pre (.ins cn fs ds :: as) ∧ (match s.out (.ins cn fs ds :: as) with
    | .ok o => R o Γ2
    | .error (C, n) => E C n Γ2)) E) (fun o Γ1 ⟨fs, ds, h1, h2, h3⟩ => ⟨_, h1, fs, ds, rfl, h2, h3⟩) (kon_D fun v d Γ1 G1 H1 F1 st1 sp1 r1 hs1 => ?_)) kx
  obtain ⟨fs, ds, rfl, hm, hs1⟩ := hs1
  cases r1 with
  | ins g en q =>
    refine ⟨_, _, _, rfl, st1.gh _ _ g, look_no en hm, ?_⟩
    refine hr Γ1 _ E hs1 σ G1 H1 F1 st1 _ (fun vs as Γ2 G2 H2 F2 st2 sp2 r2 hs2 => ?_) (kx.step sp1)
    obtain ⟨s', ef', hl', hp, hs2⟩ := hs2
    rw [ef] at ef'
    cases ef'
    refine ⟨G2, .ins cn fs ds :: as, st2.gh, .cons ((Rep.ins g en q).mono sp2.gg) r2, by rw [List.length_cons]; exact hl', hp, fun o eo => ?_, fun C n ee dd G' H' e1 e2 e3 e4 hx => ?_⟩
    · rw [eo] at hs2
      exact fun v o' S G' H' e1 e2 e3 e4 r hS eo' => (kop_of st2 (kn.step (sp1.trans sp2))) v o' S G' H' e1 e2 e3 e4 r hS (by rw [eo']; exact hs2)
    · rw [ee] at hs2
      obtain ⟨st3, sp3⟩ := st2.growG e1 e2 e3 e4
      exact kx C n Γ2 G' H' F2 dd st3 ((sp1.trans sp2).trans sp3) hx hs2
theorem snd_mcl0 (hc : ∃ s : FSpec, Φ k = some s ∧ MethOk CX X cn m (spOf X.K ca s)) (hW : ∀ σ, PassesAt CX X σ (WE W σ)) (hb : plainBase a = true) (hl : (apos.endLine == pos.line) = true)
    (ha : Snd gl Φ ca X W a p) : Snd gl Φ ca X W (.Call (.Attribute a m apos) [] [] pos) (.mcl k cn m p []) := by
  intro Γ R E hs σ G H F st Q kn kx
  unfold sem at hs
  obtain ⟨s, ef, fa, fd, nps, j, hcl, hme, FO, hr', hbd⟩ := hc
  refine wE_of (pe_methA0 (E := WE W) pe_w hcl hme FO hr' hbd hW hb hl) ?_
  refine ha Γ _ E hs σ G H F st _ (kon_imp (R' := fun o Γ1 => ∃ d', asD o = some d' ∧ ∃ fs ds, d' = .ins cn fs ds ∧ fs.contains m = false ∧ semA gl Φ [] Γ1 (fun as Γ2 => ∃ s : FSpec, Φ k = some s ∧ as.length + 1 = s.np ∧ s.pre (.ins cn fs ds :: as) ∧ (match s.out (.ins cn fs ds :: as) with
    | .ok o => R o Γ2
    | .error (C, n) => E C n Γ2)) E) (fun o Γ1 ⟨fs, ds, h1, h2, h3⟩ => ⟨_, h1, fs, ds, rfl, h2, h3⟩) (kon_D fun v d Γ1 G1 H1 F1 st1 sp1 r1 hs1 => ?_)) kx
  obtain ⟨fs, ds, rfl, hm, hs1⟩ := hs1
  unfold semA at hs1
  cases r1 with
  | ins g en q =>
    refine ⟨_, _, _, rfl, st1.gh _ _ g, look_no en hm, ?_⟩
    obtain ⟨s', ef', hl', hp, hs2⟩ := hs1
    rw [ef] at ef'
    cases ef'
    refine ⟨G1, .ins cn fs ds :: [], st1.gh, .cons (Rep.ins g en q) .nil, by rw [List.length_cons]; exact hl', hp, fun o eo => ?_, fun C n ee dd G' H' e1 e2 e3 e4 hx => ?_⟩
    · rw [eo] at hs2
      exact fun v o' S G' H' e1 e2 e3 e4 r hS eo' => (kop_of st1 (kn.step sp1)) v o' S G' H' e1 e2 e3 e4 r hS (by rw [eo']; exact hs2)
    · rw [ee] at hs2
      obtain ⟨st3, sp3⟩ := st1.growG e1 e2 e3 e4
      exact kx C n Γ1 G' H' F1 dd st3 (sp1.trans sp3) hx hs2
/-! ### methods of what is lent -/
/-- at the call: what stands in slot i is lent -/
theorem lent_call {Γ0 : List O} {σ : L2.St} {G H G1 H1 : Hp} {F F1 : Nat → List Addr} {R : O → List O → Prop} {E : EXC} {Q : VK} {Γ1 : List O} {i : Nat} {pa : Addr} {fs : List Str} {os : List O} {s : MSpec} {vs : List V} {as : List D}
    (kn : Kon X.K σ G H F R Q) (kx : Kox X.K ca σ G H F E W) (st1 : Sta X.K σ Γ1 G1 H1 F1) (sp1 : Stp G H F G1 H1 F1) (hv : σ[i]? = some (some (.ref pa))) (e0 : Γ1[i]? = some (.ins pa cn fs os)) (r2 : RepAll X.K G1 vs as) (hl : as.length = s.np) (hp : s.pre (.ins pa cn fs os) as)
    (hs : match s.out (.ins pa cn fs os) as with
      | (.ok r, o) => R r (Γ1.set i o)
      | (.error (C, n), o) => E C n (Γ1.set i o)) : spOfM X.K ca s (.ref pa :: vs) H1 Q (WE W σ) := by
  have hi := lt_of_get e0
  rcases st1.env.ent i _ e0 with z | ⟨v, h1, r⟩
  · cases z
  rw [hv] at h1
  cases h1
  refine ⟨G1, pa, _, F1 i, vs, as, rfl, st1.gh, r, r2, hl, hp, fun r' o' eo v S1 S2 G' H' e1 e2 e3 e4 rr ro dd p1 p2 => ?_, fun C n o' eo dd S2 G' H' e1 e2 e3 e4 ro p2 hx => ?_⟩
  · rw [eo] at hs
    obtain ⟨st2, sp2⟩ := st1.lent hi hv e1 e2 e3 e4 ro p2
    refine kn v r' S1 _ G' H' _ st2 (sp1.trans sp2) rr (fun q hq j hj => ?_) (fun q hq => ?_) hs
    · by_cases z : j = i
      · subst z; rw [setF_same] at hj; exact dd q hq hj
      · rw [setF_ne z] at hj
        rcases p1 q hq with h | h
        · exact z (st1.env.dis j i q hj h)
        · exact (st1.env.own j q hj).2 h
    · exact sp1.back ((p1 q hq).imp (fun h => ⟨i, h⟩) id)
  · rw [eo] at hs
    obtain ⟨st2, sp2⟩ := st1.lent hi hv e1 e2 e3 e4 ro p2
    exact kx C n _ G' H' _ dd st2 (sp1.trans sp2) hx hs
theorem snd_mcv {i : Nat} {x : Str} {px : Pos} {e : Expr} {es : List Expr} (hc : ∃ s : MSpec, Φ.m k = some s ∧ MethOk CX X cn m (spOfM X.K ca s)) (hW : ∀ σ, PassesAt CX X σ (WE W σ)) (hl : (apos.endLine == pos.line) = true) (h30 : decide ((e :: es).length < 30) = true) (hn : (e :: es).all notStar = true)
    (hN : X.N[i]? = some x) (hv : Vis X.env.scope x) (hd : (x == ("__debug__" : Str)) = false) (hcd : (x == ("__classdict__" : Str)) = false) (hr : SndA gl Φ ca X W (e :: es) ps) : Snd gl Φ ca X W (.Call (.Attribute (.Name x px) m apos) (e :: es) [] pos) (.mcv k cn m i ps) := by
  intro Γ R E hs σ G H F st Q kn kx
  unfold sem at hs
  obtain ⟨⟨pa, fs, os, e0, hm⟩, hs⟩ := hs
  obtain ⟨s, ef, fa, fd, nps, j, hcl, hme, FO, hr', hbd⟩ := hc
  refine wE_of (pe_methA (E := WE W) (pe_var hN hv hd hcd) hcl hme FO hr' hbd hW pa_w rfl hn h30 hl) ?_
  rcases st.env.ent i _ e0 with z | ⟨v, h1, r⟩
  · cases z
  obtain ⟨dx, fvs, S', rfl, eS, hg, hh, en, ra, np⟩ := r.ins_inv
  refine ⟨_, h1, pa, dx, fvs, rfl, hh, look_no en hm, ?_⟩
  refine hr Γ _ E hs σ G H F st _ (fun vs as Γ1 G1 H1 F1 st1 sp1 r2 hs1 => ?_) kx
  obtain ⟨pa', fs', os', s', e1, ef', hl', hp, hs1⟩ := hs1
  rw [ef] at ef'
  cases ef'
  have epa : pa' = pa := by
    rcases st1.env.ent i _ e1 with z | ⟨v', h1', r'⟩
    · cases z
    obtain ⟨_, _, _, ev, _⟩ := r'.ins_inv
    rw [h1] at h1'
    cases h1'
    cases ev
    rfl
  subst epa
  exact lent_call (Γ0 := Γ) kn kx st1 sp1 h1 e1 r2 hl' hp hs1
theorem snd_mcv0 {i : Nat} {x : Str} {px : Pos} (hc : ∃ s : MSpec, Φ.m k = some s ∧ MethOk CX X cn m (spOfM X.K ca s)) (hW : ∀ σ, PassesAt CX X σ (WE W σ)) (hl : (apos.endLine == pos.line) = true)
    (hN : X.N[i]? = some x) (hv : Vis X.env.scope x) (hd : (x == ("__debug__" : Str)) = false) (hcd : (x == ("__classdict__" : Str)) = false) : Snd gl Φ ca X W (.Call (.Attribute (.Name x px) m apos) [] [] pos) (.mcv k cn m i []) := by
  intro Γ R E hs σ G H F st Q kn kx
  unfold sem semA at hs
  obtain ⟨⟨pa, fs, os, e0, hm⟩, hs⟩ := hs
  obtain ⟨s, ef, fa, fd, nps, j, hcl, hme, FO, hr', hbd⟩ := hc
  refine wE_of (pe_methA0 (E := WE W) (pe_var hN hv hd hcd) hcl hme FO hr' hbd hW rfl hl) ?_
  rcases st.env.ent i _ e0 with z | ⟨v, h1, r⟩
  · cases z
  obtain ⟨dx, fvs, S', rfl, eS, hg, hh, en, ra, np⟩ := r.ins_inv
  refine ⟨_, h1, pa, dx, fvs, rfl, hh, look_no en hm, ?_⟩
  obtain ⟨pa', fs', os', s', e1, ef', hl', hp, hs1⟩ := hs
  rw [ef] at ef'
  cases ef'
  rw [e0] at e1
  cases e1
  exact lent_call (Γ0 := Γ) kn kx st Stp.refl h1 e0 .nil hl' hp hs1
/-! ### C(..) -/
theorem passesF {sx : Bool} : Passes (CXx sx X) X (fun _ _ _ => False) := fun _ _ _ _ _ _ _ c => by
  obtain ⟨_, _, _, _, _, _, _, _, _, _, _, _, _, _, h⟩ := c
  exact h.elim
theorem new_sp {σ : L2.St} {G H : Hp} {F : Nat → List Addr} {R : O → List O → Prop} {Q : VK} {Γ1 : List O} {G1 H1 : Hp} {F1 : Nat → List Addr} {s : MSpec} {vs : List V} {as : List D} (kn : Kon X.K σ G H F R Q) (st1 : Sta X.K σ Γ1 G1 H1 F1) (sp1 : Stp G H F G1 H1 F1)
    (r2 : RepAll X.K G1 vs as) (hl : as.length = s.np) (hs : ∀ p, s.pre (.ins p cn [] []) as ∧ (match s.out (.ins p cn [] []) as with
      | (.ok r, o) => r = .sh .non ∧ R o Γ1
      | (.error _, _) => False)) (x dx : Addr) (hx : H1 x = none) (hdx : H1 dx = none) (hne : dx ≠ x) :
    spOfM X.K ca s (.ref x :: vs) (upd (upd H1 dx (.own x)) x (.ins (clA X.K cn) dx [])) (fun v H2 => v = .non ∧ Q (.ref x) H2) (fun _ _ _ => False) := by
  have sm : Same H1 (upd (upd H1 dx (.own x)) x (.ins (clA X.K cn) dx [])) := fun a u e => by
    have h1 : a ≠ x := fun z => by rw [z, hx] at e; cases e
    have h2 : a ≠ dx := fun z => by rw [z, hdx] at e; cases e
    rw [upd_ne h1, upd_ne h2]
    exact e
  have back : ∀ q, upd (upd H1 dx (.own x)) x (.ins (clA X.K cn) dx []) q = none → H1 q = none := fun q e => by
    cases z : H1 q with
    | none => rfl
    | some u => rw [sm q u z] at e; cases e
  obtain ⟨hp, hs⟩ := hs x
  refine ⟨G1, x, .ins x cn [] [], [x], vs, as, rfl, st1.gh.trans sm, .ins (st1.gh.free hx) upd_same rfl .nil (fun z => nomatch z), r2, hl, hp, fun r' o' eo v S1 S2 G' H' e1 e2 e3 e4 rr ro dd p1 p2 => ?_, fun C n o' eo dd S2 G' H' e1 e2 e3 e4 ro p2 hx => ?_⟩
  · rw [eo] at hs
    obtain ⟨rfl, hs⟩ := hs
    obtain ⟨rr, _⟩ := rr.sh_inv
    cases rr
    have hh : Same H1 H' := fun a u e => e3 a u (fun z => by rw [List.mem_singleton] at z; rw [z, hx] at e; cases e) (sm a u e)
    obtain ⟨st2, sp2⟩ := st1.growG e1 e2 hh fun p h1 h2 => by
      refine e4 p ?_ h2 fun z => ?_
      · cases y : H1 p with
        | none => exact absurd y h1
        | some u => rw [sm p u y]; exact fun z => nomatch z
      · rw [List.mem_singleton] at z
        rw [z] at h1
        exact h1 hx
    have fr : ∀ q, q ∈ S2 → H1 q = none := fun q hq => by
      rcases p2 q hq with h | h
      · rw [List.mem_singleton] at h
        rw [h]
        exact hx
      · exact back q h
    exact ⟨rfl, kn (.ref x) o' S2 Γ1 G' H' F1 st2 (sp1.trans sp2) ro (fun q hq j hj => (st1.env.own j q hj).2 (fr q hq)) (fun q hq => sp1.back (.inr (fr q hq))) hs⟩
  · rw [eo] at hs
    exact hs.elim
theorem snd_new {sx : Bool} {e : Expr} {es : List Expr} {px : Pos} (hc : ∃ s : MSpec, Φ.m k = some s ∧ MakeOk (CXx sx X) X cn (spOfM X.K ca s)) (hg : Gl X cn) (hd : (cn == ("__debug__" : Str)) = false) (hn : (e :: es).all notStar = true)
    (hr : SndA gl Φ ca X W (e :: es) ps) : Snd gl Φ ca X W (.Call (.Name cn px) (e :: es) [] pos) (.new k cn ps) := by
  intro Γ R E hs σ G H F st Q kn kx
  unfold sem at hs
  have hn2 := hn
  simp only [List.all_cons, Bool.and_eq_true] at hn2
  obtain ⟨s, ef, fa, fd, nps, j, M, FO, hr', hm, hbd⟩ := hc
  refine wE_of (pe_make (dvs := []) (E := fun _ _ _ => False) M FO hr' hg hm hbd .nil passesF pa_w hd (star_ok hn2.1) (noStar_any hn2.2)) ?_
  refine hr Γ _ E hs σ G H F st _ (fun vs as Γ1 G1 H1 F1 st1 sp1 r2 hs1 => ?_) kx
  obtain ⟨s', ef', hl', hs1⟩ := hs1
  rw [ef] at ef'
  cases ef'
  intro x dx hx hdx hne
  rw [List.append_nil]
  exact new_sp kn st1 sp1 r2 hl' hs1 x dx hx hdx hne
theorem snd_new0 {sx : Bool} {px : Pos} (hc : ∃ s : MSpec, Φ.m k = some s ∧ MakeOk (CXx sx X) X cn (spOfM X.K ca s)) (hg : Gl X cn) (hd : (cn == ("__debug__" : Str)) = false) : Snd gl Φ ca X W (.Call (.Name cn px) [] [] pos) (.new k cn []) := by
  intro Γ R E hs σ G H F st Q kn kx
  unfold sem semA at hs
  obtain ⟨s, ef, fa, fd, nps, j, M, FO, hr', hm, hbd⟩ := hc
  refine wE_of (pe_make0 (dvs := []) (E := fun _ _ _ => False) M FO hr' hg hm hbd .nil passesF hd) ?_
  obtain ⟨s', ef', hl', hs1⟩ := hs
  rw [ef] at ef'
  cases ef'
  intro x dx hx hdx hne
  rw [List.append_nil]
  exact new_sp kn st Stp.refl .nil hl' hs1 x dx hx hdx hne
/-! ### C(..).m(..) -/
theorem snd_mct {e : Expr} {es : List Expr} (hc : ∃ s : MSpec, Φ.m k = some s ∧ MethOk CX X cn m (spOfM X.K ca s)) (hW : ∀ σ, PassesAt CX X σ (WE W σ)) (hb : plainBase a = true) (hl : (apos.endLine == pos.line) = true) (h30 : decide ((e :: es).length < 30) = true) (hn : (e :: es).all notStar = true)
    (ha : Snd gl Φ ca X W a p) (hr : SndA gl Φ ca X W (e :: es) ps) : Snd gl Φ ca X W (.Call (.Attribute a m apos) (e :: es) [] pos) (.mct k cn m p ps) := by
  intro Γ R E hs σ G H F st Q kn kx
  unfold sem at hs
  obtain ⟨s, ef, fa, fd, nps, j, hcl, hme, FO, hr', hbd⟩ := hc
  refine wE_of (pe_methA (E := WE W) pe_w hcl hme FO hr' hbd hW pa_w hb hn h30 hl) ?_
  refine ha Γ _ E hs σ G H F st _ (fun v o S Γ1 G1 H1 F1 st1 sp1 r1 d1 d2 hs1 => ?_) kx
  obtain ⟨pa, fs, os, rfl, hm, hs1⟩ := hs1
  obtain ⟨dx, fvs, S', rfl, eS, hg, hh, en, ra, np⟩ := r1.ins_inv
  refine ⟨pa, dx, fvs, rfl, hh, look_no en hm, ?_⟩
  refine hr Γ1 _ E hs1 σ G1 H1 F1 st1 _ (fun vs as Γ2 G2 H2 F2 st2 sp2 r2 hs2 => ?_) (kx.step sp1)
  obtain ⟨s', ef', hl', hp, hs2⟩ := hs2
  rw [ef] at ef'
  cases ef'
  have r1' : ORep X.K G2 H2 (.ref pa) (.ins pa cn fs os) S := r1.keep sp2.gg (fun q hq => sp2.gn q (r1.foot q hq).2 (r1.foot q hq).1 (d1 q hq)) fun q u hq e => sp2.hh q u (d1 q hq) e
  have out2 : ∀ q, q ∈ S → ∀ i, q ∉ F2 i := fun q hq => sp2.out (r1.foot q hq).2 (d1 q hq)
  have sp12 := sp1.trans sp2
  -- all but the thing itself stands as it stood
  have key : ∀ G' H', Same G2 G' → Same G' H' → (∀ a u, a ∉ S → H2 a = some u → H' a = some u) → (∀ q, H2 q ≠ none → G2 q = none → q ∉ S → G' q = none) → Sta X.K σ Γ2 G' H' F2 ∧ Stp G H F G' H' F2 := fun G' H' e1 e2 e3 e4 => by
    have nS : ∀ i q, q ∈ F2 i → q ∉ S := fun i q hq z => out2 q z i hq
    have nS0 : ∀ q, H q ≠ none → (∀ i, q ∉ F i) → q ∉ S := fun q h1 h2 z => by
      rcases d2 q z with ⟨j, y⟩ | y
      · exact h2 j y
      · exact h1 y
    refine ⟨⟨⟨st2.env.len, fun i o e => ?_, fun i q hq => ?_, st2.env.dis⟩, e2⟩, ⟨sp12.gg.trans e1, fun a u h e => e3 a u (nS0 a (by rw [e]; exact fun z => nomatch z) h) (sp12.hh a u h e), fun q h1 h2 h3 => ?_, sp12.ff⟩⟩
    · rcases st2.env.ent i o e with z | ⟨w, h1, h2⟩
      · exact .inl z
      · exact .inr ⟨w, h1, h2.keep e1 (fun q hq => e4 q (st2.env.own i q hq).2 (st2.env.own i q hq).1 (nS i q hq)) fun q u hq e => e3 q u (nS i q hq) e⟩
    · obtain ⟨a1, a2⟩ := st2.env.own i q hq
      refine ⟨e4 q a2 a1 (nS i q hq), ?_⟩
      cases y : H2 q with
      | none => exact absurd y a2
      | some u => rw [e3 q u (nS i q hq) y]; exact fun z => nomatch z
    · refine e4 q ?_ (sp12.gn q h1 h2 h3) (nS0 q h1 h3)
      cases y : H q with
      | none => exact absurd y h1
      | some u => rw [sp12.hh q u h3 y]; exact fun z => nomatch z
  refine ⟨G2, pa, _, S, vs, as, rfl, st2.gh, r1', r2, hl', hp, fun r' o' eo v S1 S2 G' H' e1 e2 e3 e4 rr ro dd p1 p2 => ?_, fun C n o' eo dd S2 G' H' e1 e2 e3 e4 ro p2 hx => ?_⟩
  · rw [eo] at hs2
    obtain ⟨st3, sp3⟩ := key G' H' e1 e2 e3 e4
    refine kn v r' S1 Γ2 G' H' F2 st3 sp3 rr (fun q hq j hj => ?_) (fun q hq => ?_) hs2
    · rcases p1 q hq with h | h
      · exact out2 q h j hj
      · exact (st2.env.own j q hj).2 h
    · rcases p1 q hq with h | h
      · exact d2 q h
      · exact sp12.back (.inr h)
  · rw [eo] at hs2
    obtain ⟨st3, sp3⟩ := key G' H' e1 e2 e3 e4
    exact kx C n Γ2 G' H' F2 dd st3 sp3 hx hs2
/-! ### .. the field f pinned -/
theorem snd_mctP {f : Str} {e : Expr} {es : List Expr} (hc : ∃ s : MSpec, Φ.m k = some s ∧ MethOk CX X cn m (spOfM X.K ca s)) (hW : ∀ σ, PassesAt CX X σ (WE W σ)) (hb : plainBase a = true) (hl : (apos.endLine == pos.line) = true) (h30 : decide ((e :: es).length < 30) = true) (hn : (e :: es).all notStar = true)
    (ha : Snd gl Φ ca X W a p) (hr : SndA gl Φ ca X W (e :: es) ps) : Snd gl Φ ca X W (.Call (.Attribute a m apos) (e :: es) [] pos) (.mctP k cn m f p ps) := by
  intro Γ R E hs σ G H F st Q kn kx
  unfold sem at hs
  obtain ⟨s, ef, fa, fd, nps, j, hcl, hme, FO, hr', hbd⟩ := hc
  refine wE_of (pe_methA (E := WE W) pe_w hcl hme FO hr' hbd hW pa_w hb hn h30 hl) ?_
  refine ha Γ _ E hs σ G H F st _ (fun v o S Γ1 G1 H1 F1 st1 sp1 r1 d1 d2 hs1 => ?_) kx
  obtain ⟨pa, fs, os, M, rfl, hlk, hm, hs1⟩ := hs1
  obtain ⟨dx, fvs, S', rfl, eS, hg, hh, en, ra, np⟩ := r1.ins_inv
  obtain ⟨vM, rap⟩ := pin_all (f := f) en ra hlk
  have hs1 := hs1 vM
  have r1 : ORep X.K G1 H1 (.ref pa) (.ins pa cn fs (pinF fs os f vM M)) S := by
    rw [eS]
    exact .ins hg hh en rap np
  refine ⟨pa, dx, fvs, rfl, hh, look_no en hm, ?_⟩
  refine hr Γ1 _ E hs1 σ G1 H1 F1 st1 _ (fun vs as Γ2 G2 H2 F2 st2 sp2 r2 hs2 => ?_) (kx.step sp1)
  obtain ⟨s', ef', hl', hp, hs2⟩ := hs2
  rw [ef] at ef'
  cases ef'
  have r1' : ORep X.K G2 H2 (.ref pa) (.ins pa cn fs (pinF fs os f vM M)) S := r1.keep sp2.gg (fun q hq => sp2.gn q (r1.foot q hq).2 (r1.foot q hq).1 (d1 q hq)) fun q u hq e => sp2.hh q u (d1 q hq) e
  have out2 : ∀ q, q ∈ S → ∀ i, q ∉ F2 i := fun q hq => sp2.out (r1.foot q hq).2 (d1 q hq)
  have sp12 := sp1.trans sp2
  -- all but the thing itself stands as it stood
  have key : ∀ G' H', Same G2 G' → Same G' H' → (∀ a u, a ∉ S → H2 a = some u → H' a = some u) → (∀ q, H2 q ≠ none → G2 q = none → q ∉ S → G' q = none) → Sta X.K σ Γ2 G' H' F2 ∧ Stp G H F G' H' F2 := fun G' H' e1 e2 e3 e4 => by
    have nS : ∀ i q, q ∈ F2 i → q ∉ S := fun i q hq z => out2 q z i hq
    have nS0 : ∀ q, H q ≠ none → (∀ i, q ∉ F i) → q ∉ S := fun q h1 h2 z => by
      rcases d2 q z with ⟨j, y⟩ | y
      · exact h2 j y
      · exact h1 y
    refine ⟨⟨⟨st2.env.len, fun i o e => ?_, fun i q hq => ?_, st2.env.dis⟩, e2⟩, ⟨sp12.gg.trans e1, fun a u h e => e3 a u (nS0 a (by rw [e]; exact fun z => nomatch z) h) (sp12.hh a u h e), fun q h1 h2 h3 => ?_, sp12.ff⟩⟩
    · rcases st2.env.ent i o e with z | ⟨w, h1, h2⟩
      · exact .inl z
      · exact .inr ⟨w, h1, h2.keep e1 (fun q hq => e4 q (st2.env.own i q hq).2 (st2.env.own i q hq).1 (nS i q hq)) fun q u hq e => e3 q u (nS i q hq) e⟩
    · obtain ⟨a1, a2⟩ := st2.env.own i q hq
      refine ⟨e4 q a2 a1 (nS i q hq), ?_⟩
      cases y : H2 q with
      | none => exact absurd y a2
      | some u => rw [e3 q u (nS i q hq) y]; exact fun z => nomatch z
    · refine e4 q ?_ (sp12.gn q h1 h2 h3) (nS0 q h1 h3)
      cases y : H q with
      | none => exact absurd y h1
      | some u => rw [sp12.hh q u h3 y]; exact fun z => nomatch z
  refine ⟨G2, pa, _, S, vs, as, rfl, st2.gh, r1', r2, hl', hp, fun r' o' eo v S1 S2 G' H' e1 e2 e3 e4 rr ro dd p1 p2 => ?_, fun C n o' eo dd S2 G' H' e1 e2 e3 e4 ro p2 hx => ?_⟩
  · rw [eo] at hs2
    obtain ⟨st3, sp3⟩ := key G' H' e1 e2 e3 e4
    refine kn v r' S1 Γ2 G' H' F2 st3 sp3 rr (fun q hq j hj => ?_) (fun q hq => ?_) hs2
    · rcases p1 q hq with h | h
      · exact out2 q h j hj
      · exact (st2.env.own j q hj).2 h
    · rcases p1 q hq with h | h
      · exact d2 q h
      · exact sp12.back (.inr h)
  · rw [eo] at hs2
    obtain ⟨st3, sp3⟩ := key G' H' e1 e2 e3 e4
    exact kx C n Γ2 G' H' F2 dd st3 sp3 hx hs2
end
end PW

end
section
set_option Elab.async false
set_option linter.all false
set_option maxRecDepth 100000
set_option maxHeartbeats 4000000
/-! PXQ: stores to fields and dicts; a try whose body raises nothing. -/
namespace PW
open PySem PySem.Spec PyProof.Rows L2

section
variable {K : PySem.W.Frag} {G H : Hp}
theorem putK_keys {x : Str} {v : V} {ks : List Str} {as : List O} {b : O} : ∀ {kvs : List (Key × V)}, kvs.map (·.1) = ks.map Sum.inr → (putK kvs (Sum.inr x : Key) v).map (·.1) = (putD ks as x b).1.map Sum.inr := by
  intro kvs h
  unfold putK putD
  rw [valV_any, look_val h]
  by_cases z : x ∈ ks
  · rw [if_pos (by simpa using z), if_pos z, List.map_map, ← h]
    apply List.map_congr_left
    intro kv _
    show (if kv.1 = (Sum.inr x : Key) then (kv.1, v) else kv).1 = kv.1
    split <;> rfl
  · rw [if_neg (by simpa using z), if_neg z, List.map_append, List.map_append, h]
    rfl
theorem put_vals {x : Str} {v : V} {d : D} (rv : Rep K G v d) {ks : List Str} {os : List O} {S : List Addr} {kvs : List (Key × V)} (h : kvs.map (·.1) = ks.map Sum.inr) (r : ORepAll K G H (kvs.map (·.2)) os S) :
    ∃ S', ORepAll K G H ((putK kvs (Sum.inr x : Key) v).map (·.2)) (putD ks os x (.sh d)).2 S' ∧ ∀ q, q ∈ S' → q ∈ S := by
  have rep : ∀ (kvs : List (Key × V)) (ks : List Str) (os : List O) (S : List Addr), kvs.map (·.1) = ks.map Sum.inr → ORepAll K G H (kvs.map (·.2)) os S →
      ∃ S', ORepAll K G H ((kvs.map fun kv => if kv.1 = (Sum.inr x : Key) then (kv.1, v) else kv).map (·.2)) (repO ks os x (.sh d)) S' ∧ ∀ q, q ∈ S' → q ∈ S := by
    intro kvs
    induction kvs with
    | nil =>
      intro ks os S h r
      cases ks with
      | cons _ _ => cases h
      | nil =>
        refine ⟨[], ?_, fun q hq => nomatch hq⟩
        unfold repO
        exact .nil
    | cons p q ih =>
      intro ks os S h r
      cases ks with
      | nil => cases h
      | cons k ks =>
        simp only [List.map_cons, List.cons.injEq] at h
        rw [List.map_cons] at r
        cases r with
        | cons r1 r2 dj =>
          rename_i o1 os1 S1 S2
          obtain ⟨S', a, b⟩ := ih ks os1 S2 h.2 r2
          rw [List.map_cons, List.map_cons]
          unfold repO
          by_cases z : k = x
          · rw [if_pos (by rw [h.1, z]), if_pos z]
            exact ⟨[] ++ S', .cons (.sh rv) a fun q hq => (nomatch hq), fun q hq => List.mem_append_right _ (b q hq)⟩
          · rw [if_neg (by rw [h.1]; intro y; cases y; exact z rfl), if_neg z]
            refine ⟨S1 ++ S', .cons r1 a fun q hq hz => dj q hq (b q hz), fun q hq => ?_⟩
            rcases List.mem_append.mp hq with y | y
            · exact List.mem_append_left _ y
            · exact List.mem_append_right _ (b q y)
  unfold putK putD
  rw [valV_any, look_val h]
  by_cases z : x ∈ ks
  · rw [if_pos (by simpa using z), if_pos z]
    exact rep kvs ks os S h r
  · rw [if_neg (by simpa using z), if_neg z, List.map_append]
    refine ⟨S ++ [], ORepAll.append r (ORepAll.one (.sh rv)) fun _ _ y => (nomatch y), fun q hq => ?_⟩
    rw [List.append_nil] at hq
    exact hq
/-- .. an owned one, under a new key -/
theorem put_valsO {x : Str} {v : V} {o : O} {T : List Addr} (rv : ORep K G H v o T) {ks : List Str} {os : List O} {S : List Addr} {kvs : List (Key × V)} (h : kvs.map (·.1) = ks.map Sum.inr) (r : ORepAll K G H (kvs.map (·.2)) os S) (hx : x ∈ ks → ∃ d, o = .sh d) (dj : ∀ q, q ∈ S → q ∉ T) :
    ∃ S', ORepAll K G H ((putK kvs (Sum.inr x : Key) v).map (·.2)) (putD ks os x o).2 S' ∧ ∀ q, q ∈ S' → q ∈ S ∨ q ∈ T := by
  by_cases z : x ∈ ks
  · obtain ⟨d, rfl⟩ := hx z
    obtain ⟨rv', _⟩ := rv.sh_inv
    obtain ⟨S', a, b⟩ := put_vals rv' h r
    exact ⟨S', a, fun q hq => .inl (b q hq)⟩
  · unfold putK putD
    rw [valV_any, look_val h, if_neg (by simpa using z), if_neg z, List.map_append]
    exact ⟨S ++ T, ORepAll.append r (ORepAll.one rv) dj, fun q hq => List.mem_append.mp hq⟩
theorem drop_vals {x : Str} : ∀ {kvs : List (Key × V)} {ks : List Str} {os : List O} {S : List Addr}, kvs.map (·.1) = ks.map Sum.inr → ORepAll K G H (kvs.map (·.2)) os S →
    (dropK kvs (Sum.inr x : Key)).map (·.1) = (dropO ks os x).1.map Sum.inr ∧ ∃ S', ORepAll K G H ((dropK kvs (Sum.inr x : Key)).map (·.2)) (dropO ks os x).2 S' ∧ ∀ q, q ∈ S' → q ∈ S := by
  intro kvs
  induction kvs with
  | nil =>
    intro ks os S h r
    cases ks with
    | cons _ _ => cases h
    | nil =>
      have e : dropO ([] : List Str) os x = ([], []) := by unfold dropO; rfl
      rw [e]
      exact ⟨rfl, [], .nil, fun q hq => nomatch hq⟩
  | cons p q ih =>
    intro ks os S h r
    cases ks with
    | nil => cases h
    | cons k ks =>
      simp only [List.map_cons, List.cons.injEq] at h
      rw [List.map_cons] at r
      cases r with
      | cons r1 r2 dj =>
        rename_i o1 os1 S1 S2
        obtain ⟨e, S', a, b⟩ := ih h.2 r2
        unfold dropO dropK
        rw [List.filter_cons]
        by_cases z : k = x
        · have y : ¬ (decide (p.1 ≠ (Sum.inr x : Key)) = true) := by rw [h.1, z]; simp
          rw [if_neg y, if_pos z]
          exact ⟨e, S', a, fun q hq => List.mem_append_right _ (b q hq)⟩
        · have y : decide (p.1 ≠ (Sum.inr x : Key)) = true := by
            rw [h.1]
            exact decide_eq_true (by intro y; cases y; exact z rfl)
          rw [if_pos y, if_neg z, List.map_cons, List.map_cons]
          refine ⟨?_, S1 ++ S', .cons r1 a fun q hq hz => dj q hq (b q hz), fun q hq => ?_⟩
          · show _ = Sum.inr k :: List.map Sum.inr (dropO ks os1 x).fst
            rw [← e, h.1]
            rfl
          · rcases List.mem_append.mp hq with w | w
            · exact List.mem_append_left _ w
            · exact List.mem_append_right _ (b q w)
end
section
variable {gl : List D} {Φ : Fns} {ca : EC → Addr} {X : Cx} {W : WX} {e ix : Expr} {pe pk : PEx} {pos px pt pa : Pos} {cn f x y : Str} {i j : Nat}
theorem len_keys {kvs : List (Key × V)} {ks : List Str} (h : kvs.map (·.1) = ks.map Sum.inr) : kvs.length = ks.length := by
  have := congrArg List.length h
  rwa [List.length_map, List.length_map] at this
/-! ### o.f = e -/
theorem sndS_setf (hf : FldOk X cn f) (hN : X.N[i]? = some x) (hv : Vis X.env.scope x) (hd : (x == ("__debug__" : Str)) = false) (hcd : (x == ("__classdict__" : Str)) = false) (hc : isComp e = false) (ha : Snd gl Φ ca X W e pe) :
    SndS gl Φ ca X W (.Assign [.Attribute (.Name x px) f pt] e pos) (.setf cn i f pe) := by
  intro Γ P hs σ G H F st D kk
  unfold semS at hs
  refine wS_of (ps_fld (pe_var hN hv hd hcd) pe_w (swaps_no hc)) ?_
  refine ha Γ _ P.ex hs σ G H F st _ (fun y o S Γ1 G1 H1 F1 st1 sp1 r1 d1 d2 hs1 => ?_) (kk.kox σ)
  obtain ⟨p, fs, os, e1, hl, hs1⟩ := hs1
  rcases st1.env.ent i _ e1 with z | ⟨v', h3, h4⟩
  · cases z
  obtain ⟨dx, fvs, S1, rfl, eS1, hg1, hh1, en, ra1, nl1⟩ := h4.ins_inv
  have hlen := lt_of_get e1
  have hlF : p ∈ F1 i := by rw [eS1]; exact List.mem_cons_self
  have nlS : p ∉ S := fun z => d1 p z i hlF
  have dis : ∀ q, q ∈ S1 → q ∉ S := fun q hq z => d1 q z i (by rw [eS1]; exact List.mem_cons_of_mem _ hq)
  have up : ∀ q u, q ≠ p → H1 q = some u → upd H1 p (.ins (clA X.K cn) dx (putF f y fvs)) q = some u := fun q u hq e => by rw [upd_ne hq]; exact e
  obtain ⟨en', S', ra2, hS'⟩ := fld_put (f := f) (r1.keep (H' := upd H1 p (.ins (clA X.K cn) dx (putF f y fvs))) (Same.refl _) (fun q hq => (r1.foot q hq).1) fun q u hq e => up q u (fun z => nlS (z ▸ hq)) e) en
    (ra1.keep (H' := upd H1 p (.ins (clA X.K cn) dx (putF f y fvs))) (Same.refl _) (fun q hq => (ra1.foot q hq).1) fun q u hq e => up q u (fun z => nl1 (z ▸ hq)) e) dis
  refine ⟨_, h3, p, _, dx, fvs, rfl, hh1, hf.1, hf.2, by rw [← en, List.length_map] at hl; exact hl, ?_⟩
  have rn : ORep X.K G1 (upd H1 p (.ins (clA X.K cn) dx (putF f y fvs))) (.ref p) (.ins p cn (putO fs os f o).1 (putO fs os f o).2) (p :: S') := .ins hg1 upd_same en' ra2 fun z => (hS' p z).elim nl1 nlS
  have hS : ∀ q, q ∈ p :: S' → q ∈ F1 i ∨ q ∈ S := fun q hq => by
    rw [eS1]
    rcases List.mem_cons.mp hq with rfl | z
    · exact .inl List.mem_cons_self
    · exact (hS' q z).imp (fun y => List.mem_cons_of_mem _ y) id
  exact kk.nx σ _ G1 _ _ (st1.mut hlF hlen h3 rn fun q hq => (hS q hq).imp id fun z j => d1 q z j) (sp1.mut hlF fun q hq => (hS q hq).elim (fun z => sp1.ff i q z) fun z => d2 q z) hs1
/-! ### d[k] = e -/
theorem sndS_dput (hu : X.A.units + 64 < cLine) (hN : X.N[i]? = some x) (hv : Vis X.env.scope x) (hd : (x == ("__debug__" : Str)) = false) (hcd : (x == ("__classdict__" : Str)) = false) (hc : isComp e = false) (ha : Snd gl Φ ca X W e pe) (hk : Snd gl Φ ca X W ix pk) :
    SndS gl Φ ca X W (.Assign [.Subscript (.Name x px) ix pt] e pos) (.dput i pk pe) := by
  intro Γ P hs σ G H F st D kk
  unfold semS at hs
  refine wS_of (ps_dput (by omega) (pe_var hN hv hd hcd) pe_w pe_w (swaps_no hc)) ?_
  refine ha Γ _ P.ex hs σ G H F st _ (kon_D fun y d Γ1 G1 H1 F1 st1 sp1 r1 hs1 => ?_) (kk.kox σ)
  obtain ⟨⟨ks0, vs0, e0⟩, hs1⟩ := hs1
  rcases st1.env.ent i _ e0 with z | ⟨v', h3, h4⟩
  · cases z
  refine ⟨_, h3, ?_⟩
  refine hk Γ1 _ P.ex hs1 σ G1 H1 F1 st1 _ (fun yk o S Γ2 G2 H2 F2 st2 sp2 rk2 d1 d2 hs2 => ?_) ((kk.step sp1).kox σ)
  obtain ⟨xk, ks, vs, rfl, e2, hl, hs2⟩ := hs2
  obtain ⟨rk3, _⟩ := rk2.sh_inv
  cases rk3
  rcases st2.env.ent i _ e2 with z | ⟨v2, h5, h6⟩
  · cases z
  rw [h3] at h5
  cases h5
  obtain ⟨p, kvs, S1, rfl, eS1, hg1, hh1, en, ra1, nl1⟩ := h6.dct_inv
  have hlen := lt_of_get e2
  have hlF : p ∈ F2 i := by rw [eS1]; exact List.mem_cons_self
  have up : ∀ q u, q ≠ p → H2 q = some u → upd H2 p (.dK (putK kvs (Sum.inr xk : Key) y)) q = some u := fun q u hq e => by rw [upd_ne hq]; exact e
  obtain ⟨S', ra2, hS'⟩ := put_vals (x := xk) (r1.mono sp2.gg) en (ra1.keep (H' := upd H2 p (.dK (putK kvs (Sum.inr xk : Key) y))) (Same.refl _) (fun q hq => (ra1.foot q hq).1) fun q u hq e => up q u (fun z => nl1 (z ▸ hq)) e)
  refine ⟨p, _, rfl, DPut.k (k := Sum.inr xk) hh1 (by rw [len_keys en, sizeLine_eq]; omega), ?_⟩
  have rn : ORep X.K G2 (upd H2 p (.dK (putK kvs (Sum.inr xk : Key) y))) (.ref p) (.dct (putD ks vs xk (.sh d)).1 (putD ks vs xk (.sh d)).2) (p :: S') := .dct hg1 upd_same (putK_keys en) ra2 fun z => nl1 (hS' p z)
  have hS : ∀ q, q ∈ p :: S' → q ∈ F2 i := fun q hq => by
    rw [eS1]
    rcases List.mem_cons.mp hq with rfl | z
    · exact List.mem_cons_self
    · exact List.mem_cons_of_mem _ (hS' q z)
  exact kk.nx σ _ G2 _ _ (st2.mut hlF hlen h3 rn fun q hq => .inl (hS q hq)) ((sp1.trans sp2).mut hlF fun q hq => (sp1.trans sp2).ff i q (hS q hq)) hs2
/-- a dict in a field: what came of it -/
theorem fld_dict {G H : Hp} {σ : L2.St} {Γ : List O} {F : Nat → List Addr} {p dx q : Addr} {fvs : List (Str × V)} {fs : List Str} {os : List O} {ks ks' : List Str} {vs vs' : List O} {kvs kvs' : List (Key × V)} {G0 H0 : Hp} {F0 : Nat → List Addr} {T : List Addr} (st : Sta X.K σ Γ G H F) (sp : Stp G0 H0 F0 G H F) (hT : ∀ a, a ∈ T → ∀ j, a ∉ F j) (hT2 : ∀ a, a ∈ T → (∃ j, a ∈ F0 j) ∨ H0 a = none) (e0 : Γ[i]? = some (.ins p cn fs os)) (h3 : σ[i]? = some (some (.ref p)))
    (hh : H p = some (.ins (clA X.K cn) dx fvs)) (el : fvs.lookup f = some (.ref q)) (ef : lookF fs os f = some (.dct ks vs)) (hq : H q = some (.dK kvs)) (ek : kvs'.map (·.1) = ks'.map Sum.inr)
    (hr : ∀ S, ORepAll X.K G H (kvs.map (·.2)) vs S → (∀ a, a ∈ S → a ∉ T) → ∃ S', ORepAll X.K G H (kvs'.map (·.2)) vs' S' ∧ ∀ a, a ∈ S' → a ∈ S ∨ a ∈ T) :
    ∃ S', Sta X.K σ (Γ.set i (.ins p cn (putO fs os f (.dct ks' vs')).1 (putO fs os f (.dct ks' vs')).2)) G (upd H q (.dK kvs')) (setF F i S') ∧ Stp G0 H0 F0 G (upd H q (.dK kvs')) (setF F i S') := by
  rcases st.env.ent i _ e0 with z | ⟨v, h1, r⟩
  · cases z
  rw [h3] at h1
  cases h1
  obtain ⟨dx', fvs', S1, _, eS1, hg1, hh1, en, ra1, nl1⟩ := r.ins_inv
  rw [hh] at hh1
  cases hh1
  -- the row of fields, the dict's one changed
  have key : ∀ (fvs : List (Str × V)) (fs : List Str) (os : List O) (S : List Addr), fvs.map (·.1) = fs → ORepAll X.K G H (fvs.map (·.2)) os S → fvs.lookup f = some (.ref q) → lookF fs os f = some (.dct ks vs) →
      (∀ a, a ∈ S → a ∉ T) → fs = (putO fs os f (.dct ks' vs')).1 ∧ q ∈ S ∧ ∃ S', ORepAll X.K G (upd H q (.dK kvs')) (fvs.map (·.2)) (putO fs os f (.dct ks' vs')).2 S' ∧ ∀ a, a ∈ S' → a ∈ S ∨ a ∈ T := by
    intro fvs
    induction fvs with
    | nil => intro fs os S _ _ h; cases h
    | cons g w ih =>
      obtain ⟨g, v⟩ := g
      intro fs os S en r hl hf hdT
      subst en
      rw [List.map_cons] at r
      cases r with
      | cons r1 r2 dj =>
        rename_i o1 os1 T1 T2
        rw [List.map_cons] at hf ⊢
        unfold lookF at hf
        unfold putO
        rw [List.lookup_cons] at hl
        by_cases z : g = f
        · rw [if_pos z] at hf ⊢
          rw [beq_iff_eq.mpr z.symm] at hl
          cases hl
          cases hf
          obtain ⟨q', kvs0, T3, eq', eT, gq, hq', enk, rk, nq⟩ := r1.dct_inv
          cases eq'
          rw [hq] at hq'
          cases hq'
          subst eT
          obtain ⟨S', a, b⟩ := hr T3 rk fun c hc => hdT c (List.mem_append_left _ (List.mem_cons_of_mem _ hc))
          have qT : q ∉ T := hdT q (List.mem_append_left _ List.mem_cons_self)
          have nq' : q ∉ S' := fun y => (b q y).elim nq qT
          refine ⟨rfl, List.mem_append_left _ List.mem_cons_self, (q :: S') ++ T2, .cons (.dct gq upd_same ek (a.keep (Same.refl _) (fun c hc => (a.foot c hc).1) fun c u hc e => ?_) nq') (r2.keep (Same.refl _) (fun c hc => (r2.foot c hc).1) fun c u hc e => ?_) fun c hc hz => ?_, fun c hc => ?_⟩
          · rw [upd_ne fun (y : c = q) => nq' (y ▸ hc)]
            exact e
          · rw [upd_ne fun (y : c = q) => dj q List.mem_cons_self (y ▸ hc)]
            exact e
          · rcases List.mem_cons.mp hc with y | y
            · exact dj c (by rw [y]; exact List.mem_cons_self) hz
            · rcases b c y with w | w
              · exact dj c (List.mem_cons_of_mem _ w) hz
              · exact hdT c (List.mem_append_right _ hz) w
          · rcases List.mem_append.mp hc with y | y
            · rcases List.mem_cons.mp y with y | y
              · exact .inl (List.mem_append_left _ (by rw [y]; exact List.mem_cons_self))
              · exact (b c y).imp (fun w => List.mem_append_left _ (List.mem_cons_of_mem _ w)) id
            · exact .inl (List.mem_append_right _ y)
        · rw [if_neg z] at hf ⊢
          rw [beq_eq_false_iff_ne.mpr fun y => z y.symm] at hl
          obtain ⟨a1, a2, S', a3, a4⟩ := ih _ os1 T2 rfl r2 hl hf fun c hc => hdT c (List.mem_append_right _ hc)
          refine ⟨by rw [← a1], List.mem_append_right _ a2, T1 ++ S', .cons (r1.keep (Same.refl _) (fun c hc => (r1.foot c hc).1) fun c u hc e => ?_) a3 (fun c hc hz => (a4 c hz).elim (dj c hc) (hdT c (List.mem_append_left _ hc))), fun c hc => ?_⟩
          · rw [upd_ne fun (y : c = q) => dj q (y ▸ hc) a2]
            exact e
          · rcases List.mem_append.mp hc with y | y
            · exact .inl (List.mem_append_left _ y)
            · exact (a4 c y).imp (fun w => List.mem_append_right _ w) id
  obtain ⟨a1, a2, S', a3, a4⟩ := key fvs fs os S1 en ra1 el ef fun c hc z => hT c z i (by rw [eS1]; exact List.mem_cons_of_mem _ hc)
  have pT : p ∉ T := fun z => hT p z i (by rw [eS1]; exact List.mem_cons_self)
  have hqF : q ∈ F i := by rw [eS1]; exact List.mem_cons_of_mem _ a2
  have hpq : p ≠ q := fun z => nl1 (z ▸ a2)
  have rn : ORep X.K G (upd H q (.dK kvs')) (.ref p) (.ins p cn (putO fs os f (.dct ks' vs')).1 (putO fs os f (.dct ks' vs')).2) (p :: S') := .ins hg1 (by rw [upd_ne hpq]; exact hh) (by rw [← a1]; exact en) a3 fun z => (a4 p z).elim nl1 pT
  have hS : ∀ c, c ∈ p :: S' → c ∈ F i ∨ c ∈ T := fun c hc => by
    rw [eS1]
    rcases List.mem_cons.mp hc with rfl | z
    · exact .inl List.mem_cons_self
    · exact (a4 c z).imp (fun w => List.mem_cons_of_mem _ w) id
  exact ⟨p :: S', st.mut hqF (lt_of_get e0) h3 rn fun c hc => (hS c hc).imp id fun w => hT c w, sp.mut hqF fun c hc => (hS c hc).elim (fun w => sp.ff i c w) fun w => hT2 c w⟩
/-! ### o.f[k] = e -/
theorem sndS_dputF (hu : X.A.units + 64 < cLine) (hf : FldOk X cn f) (hN : X.N[i]? = some x) (hv : Vis X.env.scope x) (hd : (x == ("__debug__" : Str)) = false) (hcd : (x == ("__classdict__" : Str)) = false) (hN' : X.N[j]? = some y) (hv' : Vis X.env.scope y) (hd' : (y == ("__debug__" : Str)) = false) (hcd' : (y == ("__classdict__" : Str)) = false)
    {py : Pos} (hc : isComp e = false) (ha : Snd gl Φ ca X W e pe) : SndS gl Φ ca X W (.Assign [.Subscript (.Attribute (.Name x px) f pa) (.Name y py) pt] e pos) (.dputF cn i f j pe) := by
  intro Γ P hs σ G H F st D kk
  unfold semS at hs
  refine wS_of (ps_dput (by omega) (pe_fld (pe_var hN hv hd hcd) (base_ok rfl)) (pe_var hN' hv' hd' hcd') pe_w (swaps_no hc)) ?_
  refine ha Γ _ P.ex hs σ G H F st _ (fun w o T Γ1 G1 H1 F1 st1 sp1 r1 d1 d2 hs1 => ?_) (kk.kox σ)
  obtain ⟨xk, p, fs, os, ks, vs, ej, e0, ef, hl, hxd, hs1⟩ := hs1
  rcases st1.env.ent i _ e0 with z | ⟨v, h3, r⟩
  · cases z
  rcases st1.env.ent j _ ej with z | ⟨vj, h5, rj⟩
  · cases z
  obtain ⟨rj, _⟩ := rj.sh_inv
  cases rj
  obtain ⟨dx, fvs, S1, rfl, eS1, hg1, hh1, en, ra1, nl1⟩ := r.ins_inv
  obtain ⟨vq, T, el, rq, hT⟩ := fld_getO en ra1 ef
  obtain ⟨q, kvs, T', rfl, eT, gq, hq, ekk, rk, nq⟩ := rq.dct_inv
  obtain ⟨S', st2, sp2⟩ := fld_dict (kvs' := putK kvs (Sum.inr xk : Key) w) (ks' := (putD ks vs xk o).1) (vs' := (putD ks vs xk o).2) st1 sp1 d1 d2 e0 h3 hh1 el ef hq (putK_keys ekk) fun S r dj => put_valsO r1 ekk r hxd dj
  exact ⟨_, h3, p, _, dx, fvs, .ref q, rfl, hh1, hf.1, hf.2, el, _, h5, q, _, rfl, DPut.k (k := Sum.inr xk) hq (by rw [len_keys ekk, sizeLine_eq]; omega), kk.nx σ _ G1 _ _ st2 sp2 hs1⟩
/-! ### o.f.pop(k, None) -/
theorem snd_dpopF (hf : FldOk X cn f) (hN : X.N[i]? = some x) (hv : Vis X.env.scope x) (hd : (x == ("__debug__" : Str)) = false) (hcd : (x == ("__classdict__" : Str)) = false) (hN' : X.N[j]? = some y) (hv' : Vis X.env.scope y) (hd' : (y == ("__debug__" : Str)) = false) (hcd' : (y == ("__classdict__" : Str)) = false)
    {py pn apos : Pos} {kk : Nat} (hl : (apos.endLine == pos.line) = true) : Snd gl Φ ca X W (.Call (.Attribute (.Attribute (.Name x px) f pa) "pop" apos) [.Name y py, .Constant .none kk pn] [] pos) (.dpopF cn i f j) := by
  intro Γ R E hs σ G H F st Q kn kx
  unfold sem at hs
  obtain ⟨xk, p, fs, os, ks, vs, ej, e0, ef, hs⟩ := hs
  refine wE_of (pe_dpop2 (pe_fld (pe_var hN hv hd hcd) (base_ok rfl)) (pe_var hN' hv' hd' hcd') pe_non ⟨base_ok rfl, few_any rfl rfl, hl, rfl⟩) ?_
  rcases st.env.ent i _ e0 with z | ⟨v, h3, r⟩
  · cases z
  rcases st.env.ent j _ ej with z | ⟨vj, h5, rj⟩
  · cases z
  obtain ⟨rj, _⟩ := rj.sh_inv
  cases rj
  obtain ⟨dx, fvs, S1, rfl, eS1, hg1, hh1, en, ra1, nl1⟩ := r.ins_inv
  obtain ⟨vq, T, el, rq, hT⟩ := fld_getO en ra1 ef
  obtain ⟨q, kvs, T', rfl, eT, gq, hq, ekk, rk, nq⟩ := rq.dct_inv
  have ed := (drop_vals (x := xk) ekk rk).1
  refine ⟨_, h3, p, _, dx, fvs, .ref q, rfl, hh1, hf.1, hf.2, el, q, rfl, .inl ⟨kvs, .inl hq⟩, _, h5, kvs, Sum.inr xk, hq, rfl, fun w ew => ?_, fun ew => ?_⟩
  · obtain ⟨S', st2, sp2⟩ := fld_dict (kvs' := dropK kvs (Sum.inr xk : Key)) (ks' := (dropO ks vs xk).1) (vs' := (dropO ks vs xk).2) (T := []) st Stp.refl (fun _ z => (nomatch z)) (fun _ z => (nomatch z)) e0 h3 hh1 el ef hq ed fun S r _ => (drop_vals ekk r).2.imp fun _ h => ⟨h.1, fun a ha => .inl (h.2 a ha)⟩
    exact kn w .un [] _ G _ _ st2 sp2 .un (fun _ z => nomatch z) (fun _ z => nomatch z) hs
  · have edk : dropK kvs (Sum.inr xk : Key) = kvs := by
      unfold dropK
      rw [List.filter_eq_self]
      intro kv hkv
      refine decide_eq_true fun z => ?_
      have : (kvs.any fun kv => decide (kv.1 = (Sum.inr xk : Key))) = true := List.any_eq_true.mpr ⟨kv, hkv, by simpa using z⟩
      rw [valV_any, ew] at this
      cases this
    obtain ⟨S', st2, sp2⟩ := fld_dict (kvs' := dropK kvs (Sum.inr xk : Key)) (ks' := (dropO ks vs xk).1) (vs' := (dropO ks vs xk).2) (T := []) st Stp.refl (fun _ z => (nomatch z)) (fun _ z => (nomatch z)) e0 h3 hh1 el ef hq ed fun S r _ => (drop_vals ekk r).2.imp fun _ h => ⟨h.1, fun a ha => .inl (h.2 a ha)⟩
    have eu : upd H q (.dK (dropK kvs (Sum.inr xk : Key))) = H := by
      funext b
      by_cases z : b = q
      · subst z
        rw [upd_same, edk, hq]
      · rw [upd_ne z]
    rw [eu] at st2 sp2
    exact kn .non .un [] _ G _ _ st2 sp2 .un (fun _ z => nomatch z) (fun _ z => nomatch z) hs
/-! ### {} -/
theorem snd_dnew : Snd gl Φ ca X W (.Dict [] [] pos) .dnew := by
  intro Γ R E hs σ G H F st Q kn kx
  unfold sem at hs
  refine wE_of pe_dnewK fun p hp => ?_
  obtain ⟨st2, sp2⟩ := st.grow (same_upd (o := .dK []) hp)
  refine kn (.ref p) (.dct [] []) [p] Γ G _ F st2 sp2 (.dct (st.gh.free hp) upd_same rfl .nil fun z => nomatch z) (fun q hq j hj => ?_) (fun q hq => ?_) hs
  · rw [List.mem_singleton] at hq
    subst hq
    exact (st.env.own j q hj).2 hp
  · rw [List.mem_singleton] at hq
    subst hq
    exact .inr hp
/-! ### try, nothing is raised in it -/
def tnOf (X : Cx) (b : List Stmt) : WX → TS := fun _ D σ H => ∀ pn xe, PassesOwn (model X.prog X.w) X.A X.env xe → wB (X.tr pn xe) b D σ H
theorem takesN0 {sx : Bool} : L2M.Takes sx X W0 := fun u s' ⟨_, _, _, _, _, _, _, _, _, _, _, _, _, w⟩ => w.elim
theorem takes00 : L2.Takes X W0 := fun u s' ⟨_, _, _, _, _, _, _, _, _, _, _, _, _, _, _, _, w⟩ => w.elim
theorem sndS_tryN {b suite : List Stmt} {b0 : Stmt} {ps : List PSt} {c : Value} {p1 p2 : Pos} (hs : X.stack = X.env :: X.outer) (hf : X.env.frame = some X.env.locals) (hc : Names X x c)
    (hb : ∀ (pn : List (Addr × Obj)) (xe : Value → Shared → Prop), PassesOwn (model X.prog X.w) X.A X.env xe → SndB gl Φ ca (X.tr pn xe) W0 b ps) :
    SndS gl Φ ca X W (.Try b [.ExceptHandler (some (.Name x p1)) none (b0 :: suite) p2] [] [] pos) (.tryN ps) := by
  intro Γ P hsm σ G H F st D k
  unfold semS at hsm
  refine wS_of (L2.ps_try_only (tb := tnOf X b) (ts := fun a cls d D σ H => ∀ oe pn, wB (X.suite a ((a, oe) :: pn)) (b0 :: suite) D σ H) hs hf hc takes00 (fun W' pn xe _ po => ⟨fun pins s σ H D I h => h pn xe po pins s I⟩) (fun a oe cls d pn hz hv => ⟨fun pins s σ H D I h => h oe pn pins s I⟩)) ?_
  intro pn xe po
  exact hb pn xe po Γ _ hsm σ G H F st D ⟨k.nx, k.rt, k.bk, k.ct, fun _ _ _ _ _ _ _ _ _ _ _ h => h.elim⟩
end
end PW

end
section
set_option Elab.async false
set_option linter.all false
set_option maxRecDepth 100000
set_option maxHeartbeats 4000000
/-! PXR: a pair of owned things; an owned dict read; a slot lent. -/
namespace PW
open PySem PySem.Spec PyProof.Rows L2
section
variable {K : PySem.W.Frag} {G G1 H : Hp}
/-- the stable part without what was lent -/
def cutG (G : Hp) (S : List Addr) : Hp := fun a => if a ∈ S then none else G a
theorem cutG_in {S : List Addr} {a : Addr} (h : a ∈ S) : cutG G S a = none := by unfold cutG; rw [if_pos h]
theorem cutG_out {S : List Addr} {a : Addr} (h : a ∉ S) : cutG G S a = G a := by unfold cutG; rw [if_neg h]
theorem cutG_none {S : List Addr} {a : Addr} (h : G a = none) : cutG G S a = none := by
  by_cases z : a ∈ S
  · exact cutG_in z
  · rw [cutG_out z]; exact h
/-- no tuple is among these -/
def NoTup (G : Hp) (S : List Addr) : Prop := ∀ p, p ∈ S → ∃ u, G p = some u ∧ (∀ xs, u ≠ .tup xs) ∧ ∀ ob xs, u ≠ .frz ob xs
theorem sqt_cut {S : List Addr} (hn : NoTup G S) {a : Addr} {xs : List V} (h : SqT K G a xs) : SqT K (cutG G S) a xs := by
  rcases h with (h | ⟨o, h⟩) | h
  · refine .inl (.inl ?_)
    rw [cutG_out fun z => ?_]
    · exact h
    · obtain ⟨u, e, n, _⟩ := hn a z
      rw [h] at e
      cases e
      exact n _ rfl
  · refine .inl (.inr ⟨o, ?_⟩)
    rw [cutG_out fun z => ?_]
    · exact h
    · obtain ⟨u, e, _, n⟩ := hn a z
      rw [h] at e
      cases e
      exact n _ _ rfl
  · exact .inr h
mutual
theorem Rep.cut {S : List Addr} (hn : NoTup G S) : ∀ {v : V} {d : D}, cleanD d = true → Rep K G v d → Rep K (cutG G S) v d
  | _, _, _, .non => .non
  | _, _, _, .bl b => .bl b
  | _, _, _, .int i => .int i
  | _, _, _, .str x => .str x
  | _, _, c, .tup h r => .tup (sqt_cut hn h) (RepAll.cut hn (by unfold cleanD at c; exact c) r)
  | _, _, c, .lst _ _ => by unfold cleanD at c; cases c
  | _, _, c, .scr _ => by unfold cleanD at c; cases c
  | _, _, c, .dct _ _ _ => by unfold cleanD at c; cases c
  | _, _, c, .fct _ _ _ => by unfold cleanD at c; cases c
  | _, _, c, .ins _ _ _ => by unfold cleanD at c; cases c
theorem RepAll.cut {S : List Addr} (hn : NoTup G S) : ∀ {vs : List V} {ds : List D}, cleanDs ds = true → RepAll K G vs ds → RepAll K (cutG G S) vs ds
  | _, _, _, .nil => .nil
  | _, _, c, .cons h r => by
    unfold cleanDs at c
    simp only [Bool.and_eq_true] at c
    exact .cons (Rep.cut hn c.1 h) (RepAll.cut hn c.2 r)
end
mutual
theorem ORep.cut {S : List Addr} (hn : NoTup G S) : ∀ {v : V} {o : O} {T : List Addr}, cleanO o = true → ORep K G H v o T → ORep K (cutG G S) H v o T
  | _, _, _, c, .sh h => .sh (Rep.cut hn (by unfold cleanO at c; exact c) h)
  | _, _, _, _, .rw => .rw
  | _, _, _, c, .pin _ => by unfold cleanO at c; cases c
  | _, _, _, _, .un => .un
  | _, _, _, c, .lst hg hh r n => .lst (cutG_none hg) hh (ORepAll.cut hn (by unfold cleanO at c; exact c) r) n
  | _, _, _, c, .tup h r => .tup (sqt_cut hn h) (ORepAll.cut hn (by unfold cleanO at c; exact c) r)
  | _, _, _, c, .dct hg hh k r n => .dct (cutG_none hg) hh k (ORepAll.cut hn (by unfold cleanO at c; exact c) r) n
  | _, _, _, c, .ins hg hh k r n => .ins (cutG_none hg) hh k (ORepAll.cut hn (by unfold cleanO at c; exact c) r) n
  | _, _, _, c, .tab hg hh t m r => .tab (cutG_none hg) hh t m fun c hc => ⟨cutG_none (r c hc).1, (r c hc).2⟩
theorem ORepAll.cut {S : List Addr} (hn : NoTup G S) : ∀ {vs : List V} {os : List O} {T : List Addr}, cleanOs os = true → ORepAll K G H vs os T → ORepAll K (cutG G S) H vs os T
  | _, _, _, _, .nil => .nil
  | _, _, _, c, .cons h r n => by
    unfold cleanOs at c
    simp only [Bool.and_eq_true] at c
    exact .cons (ORep.cut hn c.1 h) (ORepAll.cut hn c.2 r) n
end
theorem lendAll_at : ∀ {Γ Γ1 : List O} {i : Nat} {b : O}, LendAll Γ Γ1 → Γ1[i]? = some b → ∃ a, Γ[i]? = some a ∧ OkS a b
  | a :: Γ, c :: Γ1, 0, b, h, e => by
    simp only [List.getElem?_cons_zero, Option.some.injEq] at e
    subst e
    exact ⟨a, rfl, h.1⟩
  | a :: Γ, c :: Γ1, i + 1, b, h, e => by
    rw [List.getElem?_cons_succ] at e ⊢
    exact lendAll_at h.2 e
  | [], [], i, b, h, e => by simp at e
  | [], _ :: _, _, _, h, _ => h.elim
  | _ :: _, [], _, _, h, _ => h.elim
theorem lend_at : ∀ {j : Nat} {Γ Γ1 : List O} {i : Nat} {b : O}, LendOk j Γ Γ1 → i ≠ j → Γ1[i]? = some b → ∃ a, Γ[i]? = some a ∧ OkS a b
  | 0, a :: Γ, c :: Γ1, 0, b, h, n, e => absurd rfl n
  | 0, a :: Γ, c :: Γ1, i + 1, b, h, n, e => by
    rw [List.getElem?_cons_succ] at e ⊢
    exact lendAll_at h e
  | j + 1, a :: Γ, c :: Γ1, 0, b, h, n, e => by
    simp only [List.getElem?_cons_zero, Option.some.injEq] at e
    subst e
    exact ⟨a, rfl, h.1⟩
  | j + 1, a :: Γ, c :: Γ1, i + 1, b, h, n, e => by
    rw [List.getElem?_cons_succ] at e ⊢
    exact lend_at h.2 (fun z => n (by rw [z])) e
  | 0, [], _, _, _, h, _, _ => by unfold LendOk at h; exact h.elim
  | _ + 1, [], _, _, _, h, _, _ => by unfold LendOk at h; exact h.elim
  | 0, _ :: _, [], _, _, h, _, _ => by unfold LendOk at h; exact h.elim
  | _ + 1, _ :: _, [], _, _, h, _, _ => by unfold LendOk at h; exact h.elim
theorem ORepAll.cutF {S : List Addr} (hn : NoTup G S) {G0 H0 : Hp} (g0 : Same G0 (cutG G S)) : ∀ {l l' : List O} {vs vs' : List V} {T T' : List Addr}, OkF l l' → ORepAll K G0 H0 vs l T → ORepAll K G H vs' l' T' → ORepAll K (cutG G S) H vs' l' T'
  | [], [], _, _, _, _, _, _, .nil => .nil
  | a :: l, b :: l', _, _, _, _, h, .cons q1 q2 _, .cons r1 r2 n => by
    refine .cons ?_ (ORepAll.cutF hn g0 h.2 q2 r2) n
    rcases h.1 with ⟨v, d, rfl, rfl⟩ | hc
    · cases q1 with
      | pin z1 =>
        cases r1 with
        | pin z2 => exact .pin (z1.mono g0)
    · exact r1.cut hn hc
  | [], _ :: _, _, _, _, _, h, _, _ => h.elim
  | _ :: _, [], _, _, _, _, h, _, _ => h.elim
/-- out of a lending -/
theorem Sta.unlend {σ : L2.St} {Γ Γ1 : List O} {G' H' : Hp} {F F' : Nat → List Addr} {j : Nat} {v : V} {o : O} {d : D} (st : Sta K σ Γ G H F) (e0 : Γ[j]? = some o) (h1 : σ[j]? = some (some v)) (r : ORep K G H v o (F j)) (st' : Sta K σ Γ1 G' H' F') (sp' : Stp (pubG G H (F j)) H (setF F j []) G' H' F')
    (hl : LendOk j Γ Γ1) (e1 : Γ1[j]? = some (.sh d)) : NoTup G' (F j) ∧ Sta K σ (Γ1.set j o) (cutG G' (F j)) H' (setF F' j (F j)) ∧ Stp G H F (cutG G' (F j)) H' (setF F' j (F j)) := by
  have fk : ∀ a, a ∈ F j → ∃ u, H a = some u ∧ G' a = some u ∧ H' a = some u ∧ (∀ xs, u ≠ .tup xs) ∧ ∀ ob xs, u ≠ .frz ob xs := fun a ha => by
    obtain ⟨u, e, n1, n2⟩ := r.ntup a ha
    have g : G' a = some u := sp'.gg a u (by rw [pubG_in ha]; exact e)
    exact ⟨u, e, g, st'.gh a u g, n1, n2⟩
  have hn : NoTup G' (F j) := fun a ha => by
    obtain ⟨u, _, g, _, n1, n2⟩ := fk a ha
    exact ⟨u, g, n1, n2⟩
  have nF : ∀ a u, G a = some u → a ∉ F j := fun a u e z => by
    rw [(st.env.own j a z).1] at e
    cases e
  have GG : Same G (cutG G' (F j)) := fun a u e => by
    rw [cutG_out (nF a u e)]
    exact sp'.gg a u (by rw [pubG_out (nF a u e)]; exact e)
  have GH : Same (cutG G' (F j)) H' := fun a u e => by
    by_cases z : a ∈ F j
    · rw [cutG_in z] at e; cases e
    · rw [cutG_out z] at e; exact st'.gh a u e
  have sub : ∀ i a, a ∈ setF F j [] i → a ∈ F i := fun i a h => by
    by_cases z : i = j
    · subst z; rw [setF_same] at h; exact nomatch h
    · rw [setF_ne z] at h; exact h
  have apart : ∀ i a, a ∈ F' i → a ∉ F j := fun i a h z => by
    obtain ⟨u, _, g, _⟩ := fk a z
    rw [(st'.env.own i a h).1] at g
    cases g
  have hj := lt_of_get e1
  refine ⟨hn, ⟨⟨by rw [List.length_set]; exact st'.env.len, fun i q ei => ?_, fun i p hp => ?_, fun i k p h2 h3 => ?_⟩, GH⟩, ⟨GG, fun a u h e => sp'.hh a u (fun i z => h i (sub i a z)) e, fun p h2 h3 h4 => ?_, fun i p hp => ?_⟩⟩
  · by_cases z : i = j
    · subst z
      rw [List.getElem?_set_self hj] at ei
      cases ei
      refine .inr ⟨v, h1, ?_⟩
      rw [setF_same]
      exact r.keep GG (fun p hp => cutG_in hp) fun p u hp e => by
        obtain ⟨u', e', _, e'', _⟩ := fk p hp
        rw [e] at e'
        cases e'
        exact e''
    · rw [List.getElem?_set_ne (Ne.symm z)] at ei
      rw [setF_ne z]
      rcases st'.env.ent i q ei with y | ⟨w, h2, h3⟩
      · exact .inl y
      · obtain ⟨a0, a1, hk⟩ := lend_at hl z ei
        rcases hk with ⟨d', rfl, rfl⟩ | hc | ⟨pp, cc, fs, l, l', rfl, rfl, hF⟩ | ⟨kk, l, l', rfl, rfl, hF⟩
        · rcases st.env.ent i _ a1 with y | ⟨w', a2, a3⟩
          · cases y
          · rw [h2] at a2
            cases a2
            refine .inr ⟨w, h2, ?_⟩
            rw [h3.sh_inv.2]
            exact .sh (a3.sh_inv.1.mono GG)
        · exact .inr ⟨w, h2, h3.cut hn hc⟩
        · rcases st.env.ent i _ a1 with y | ⟨w', a2, a3⟩
          · cases y
          · refine .inr ⟨w, h2, ?_⟩
            obtain ⟨dx0, fv0, S0, _, eS0, _, _, _, ra0, _⟩ := a3.ins_inv
            obtain ⟨dx1, fv1, S1, rfl, eS1, g1, g2, g3, ra1, n1⟩ := h3.ins_inv
            rw [eS1]
            exact .ins (cutG_none g1) g2 g3 (ORepAll.cutF hn GG hF ra0 ra1) n1
        · rcases st.env.ent i _ a1 with y | ⟨w', a2, a3⟩
          · cases y
          · refine .inr ⟨w, h2, ?_⟩
            obtain ⟨pp0, kv0, S0, _, eS0, _, _, _, ra0, _⟩ := a3.dct_inv
            obtain ⟨pp1, kv1, S1, rfl, eS1, g1, g2, g3, ra1, n1⟩ := h3.dct_inv
            rw [eS1]
            exact .dct (cutG_none g1) g2 g3 (ORepAll.cutF hn GG hF ra0 ra1) n1
  · by_cases z : i = j
    · subst z
      rw [setF_same] at hp
      obtain ⟨u, _, _, e, _⟩ := fk p hp
      exact ⟨cutG_in hp, by rw [e]; exact fun z => nomatch z⟩
    · rw [setF_ne z] at hp
      exact ⟨cutG_none (st'.env.own i p hp).1, (st'.env.own i p hp).2⟩
  · by_cases z1 : i = j
    · subst z1
      rw [setF_same] at h2
      by_cases z2 : k = i
      · exact z2.symm
      · rw [setF_ne z2] at h3; exact absurd h2 (apart k p h3)
    · rw [setF_ne z1] at h2
      by_cases z2 : k = j
      · subst z2; rw [setF_same] at h3; exact absurd h3 (apart i p h2)
      · rw [setF_ne z2] at h3; exact st'.env.dis i k p h2 h3
  · refine cutG_none (sp'.gn p h2 ?_ fun i z => h4 i (sub i p z))
    rw [pubG_out (h4 j)]
    exact h3
  · by_cases z : i = j
    · subst z; rw [setF_same] at hp; exact .inl ⟨i, hp⟩
    · rw [setF_ne z] at hp
      exact (sp'.ff i p hp).imp (fun ⟨k, y⟩ => ⟨k, sub k p y⟩) id
end
section
variable {gl : List D} {Φ : Fns} {ca : EC → Addr} {X : Cx} {W : WX} {a b e : Expr} {p q : PEx} {pos px : Pos} {x : Str} {i j : Nat}
theorem snd_lend (ha : Snd gl Φ ca X W e p) : Snd gl Φ ca X W e (.lend j p) := by
  intro Γ R E hs σ G H F st Q kn kx
  unfold sem at hs
  obtain ⟨o, d, e0, ed, hs⟩ := hs
  rcases st.env.ent j _ e0 with z | ⟨v, h1, r⟩
  · subst z; simp [asD] at ed
  obtain ⟨st2, _, rp⟩ := st.pubAt e0 h1 r ed
  refine ha _ _ _ hs σ _ H _ st2 Q (fun v' r' S Γ1 G' H' F' st' sp' rr d1 d2 h => ?_) (fun C n Γ1 G' H' F' dd st' sp' hx h => ?_)
  · obtain ⟨e1, hc, hl, hR⟩ := h
    obtain ⟨hn, st3, sp3⟩ := st.unlend e0 h1 r st' sp' hl e1
    refine kn v' r' S _ _ H' _ st3 sp3 (rr.cut hn hc) (fun c hc i hi => ?_) (fun c hc => ?_) hR
    · by_cases z : i = j
      · subst z
        rw [setF_same] at hi
        obtain ⟨u, g, _⟩ := hn c hi
        rw [(rr.foot c hc).1] at g
        cases g
      · rw [setF_ne z] at hi; exact d1 c hc i hi
    · refine (d2 c hc).imp (fun ⟨k, y⟩ => ?_) id
      by_cases z : k = j
      · subst z; rw [setF_same] at y; exact nomatch y
      · rw [setF_ne z] at y; exact ⟨k, y⟩
  · obtain ⟨e1, hl, hE⟩ := h
    obtain ⟨_, st3, sp3⟩ := st.unlend e0 h1 r st' sp' hl e1
    exact kx C n _ _ H' _ dd st3 sp3 hx hE
theorem ORepAll.topin {K : PySem.W.Frag} {G H : Hp} : ∀ {ws : List V} {ds : List D} {S : List Addr}, ORepAll K G H ws (ds.map .sh) S → ORepAll K G H ws (pins ws ds) S ∧ ws.length = ds.length
  | [], [], _, .nil => ⟨.nil, rfl⟩
  | w :: ws, d :: ds, _, .cons r1 r2 n => by
    obtain ⟨a1, a2⟩ := ORepAll.topin r2
    obtain ⟨b1, b2⟩ := r1.sh_inv
    subst b2
    exact ⟨.cons (.pin b1) a1 n, by rw [List.length_cons, List.length_cons, a2]⟩
theorem ORepAll.unpin {K : PySem.W.Frag} {G H : Hp} : ∀ {vs ws : List V} {ds : List D} {S : List Addr}, vs.length = ds.length → ORepAll K G H ws (pins vs ds) S → ORepAll K G H ws (ds.map .sh) S
  | [], ws, [], S, _, r => by
    have e : pins [] [] = [] := rfl
    rw [e] at r
    exact r
  | v :: vs, ws, d :: ds, S, l, r => by
    have e : pins (v :: vs) (d :: ds) = .pin v d :: pins vs ds := rfl
    rw [e] at r
    cases r with
    | cons r1 r2 n =>
      have := ORepAll.unpin (Nat.succ.inj l) r2
      cases r1 with
      | pin z => exact .cons (.sh z) this n
  | [], _, _ :: _, _, l, _ => nomatch l
  | _ :: _, _, [], _, l, _ => nomatch l
theorem Sta.swap {K : PySem.W.Frag} {σ : L2.St} {Γ : List O} {G H : Hp} {F : Nat → List Addr} {v : V} {o o' : O} (st : Sta K σ Γ G H F) (e0 : Γ[i]? = some o) (hv : σ[i]? = some (some v)) (r' : ORep K G H v o' (F i)) : Sta K σ (Γ.set i o') G H F := by
  refine ⟨⟨by rw [List.length_set]; exact st.env.len, fun k q e => ?_, st.env.own, st.env.dis⟩, st.gh⟩
  by_cases z : k = i
  · subst z
    rw [List.getElem?_set_self (lt_of_get e0)] at e
    cases e
    exact .inr ⟨v, hv, r'⟩
  · rw [List.getElem?_set_ne (Ne.symm z)] at e
    exact st.env.ent k q e
theorem Sta.unpinD {K : PySem.W.Frag} {σ : L2.St} {Γ : List O} {G H : Hp} {F : Nat → List Addr} {ks : List Str} {vs : List V} {ds : List D} (st : Sta K σ Γ G H F) (l : vs.length = ds.length) (e0 : Γ[i]? = some (.dct ks (pins vs ds))) : Sta K σ (Γ.set i (.dct ks (ds.map .sh))) G H F := by
  rcases st.env.ent i _ e0 with z | ⟨v, h1, r⟩
  · cases z
  · refine st.swap e0 h1 ?_
    obtain ⟨p, kvs, S', rfl, eS, g1, g2, g3, ra, n⟩ := r.dct_inv
    rw [eS]
    exact .dct g1 g2 g3 (ra.unpin l) n
theorem snd_pinD (ha : Snd gl Φ ca X W e p) : Snd gl Φ ca X W e (.pinD i p) := by
  intro Γ R E hs σ G H F st Q kn kx
  unfold sem at hs
  obtain ⟨ks, ds, e0, hs⟩ := hs
  rcases st.env.ent i _ e0 with z | ⟨v, h1, r⟩
  · cases z
  obtain ⟨pa, kvs, S', rfl, eS, g1, g2, g3, ra, n⟩ := r.dct_inv
  obtain ⟨rp, hl⟩ := ra.topin
  have st2 : Sta X.K σ (Γ.set i (.dct ks (pins (kvs.map (·.2)) ds))) G H F := st.swap e0 h1 (by rw [eS]; exact .dct g1 g2 g3 rp n)
  refine ha _ _ _ (hs _ hl) σ G H F st2 Q (fun v' r' S Γ1 G' H' F' st' sp' rr d1 d2 h => ?_) (fun C n Γ1 G' H' F' dd st' sp' hx h => ?_)
  · exact kn v' r' S _ G' H' F' (st'.unpinD hl h.1) sp' rr d1 d2 h.2
  · exact kx C n _ G' H' F' dd (st'.unpinD hl h.1) sp' hx h.2
theorem snd_tup2 {k : Nat} (na : notStar a = true) (nb : notStar b = true) (ha : Snd gl Φ ca X W a p) (hb : Snd gl Φ ca X W b q) : Snd gl Φ ca X W (.Tuple [a, b] k pos) (.tup2 p q) := by
  intro Γ R E hs σ G H F st Q kn kx
  unfold sem at hs
  refine wE_of (pe_tup (pa_cons pe_w (pa_cons pe_w pa_nil (star_ok nb)) (star_ok na))) ?_
  refine ha Γ _ E hs σ G H F st _ (fun v o S Γ1 G1 H1 F1 st1 sp1 r1 d1 d2 hs1 => ?_) kx
  refine hb Γ1 _ E hs1 σ G1 H1 F1 st1 _ (fun v2 o2 S2 Γ2 G2 H2 F2 st2 sp2 r2 e1 e2 hs2 => ⟨by show 2 ≤ sizeLine; decide, fun t ht => ?_⟩) (kx.step sp1)
  have r1' : ORep X.K G2 H2 v o S := r1.keep sp2.gg (fun c hc => sp2.gn c (r1.foot c hc).2 (r1.foot c hc).1 (d1 c hc)) fun c u hc e => sp2.hh c u (d1 c hc) e
  have out2 : ∀ c, c ∈ S → ∀ i, c ∉ F2 i := fun c hc => sp2.out (r1.foot c hc).2 (d1 c hc)
  have dj : ∀ c, c ∈ S → c ∉ S2 := fun c hc hz => by
    rcases e2 c hz with ⟨k, y⟩ | y
    · exact d1 c hc k y
    · exact (r1.foot c hc).2 y
  have sg : Same G2 (upd G2 t (.tup [v, v2])) := same_upd (st2.gh.free ht)
  have sh : Same H2 (upd H2 t (.tup [v, v2])) := same_upd ht
  obtain ⟨st3, sp3⟩ := st2.growG (G1 := upd G2 t (.tup [v, v2])) (H1 := upd H2 t (.tup [v, v2])) sg (same_upd2 st2.gh) sh fun c h1 h2 => by
    rw [upd_ne fun z => h1 (by rw [z]; exact ht)]
    exact h2
  have gt : ∀ c, H2 c ≠ none → G2 c = none → upd G2 t (.tup [v, v2]) c = none := fun c h1 h2 => by
    rw [upd_ne fun z => h1 (by rw [z]; exact ht)]
    exact h2
  have ra : ORepAll X.K (upd G2 t (.tup [v, v2])) (upd H2 t (.tup [v, v2])) [v, v2] [o, o2] (S ++ (S2 ++ [])) :=
    .cons (r1'.keep sg (fun c hc => gt c (r1'.foot c hc).2 (r1'.foot c hc).1) fun c u _ e => sh c u e)
      (.cons (r2.keep sg (fun c hc => gt c (r2.foot c hc).2 (r2.foot c hc).1) fun c u _ e => sh c u e) .nil fun _ _ z => nomatch z) fun c hc hz => by
        rw [List.append_nil] at hz
        exact dj c hc hz
  refine kn (.ref t) (.tup [o, o2]) (S ++ (S2 ++ [])) Γ2 _ _ F2 st3 ((sp1.trans sp2).trans sp3) (.tup (SqT.of upd_same) ra) (fun c hc i hi => ?_) (fun c hc => ?_) hs2
  · rw [List.append_nil] at hc
    rcases List.mem_append.mp hc with y | y
    · exact out2 c y i hi
    · exact e1 c y i hi
  · rw [List.append_nil] at hc
    rcases List.mem_append.mp hc with y | y
    · exact d2 c y
    · exact sp1.back (e2 c y)
theorem snd_dgetv (hu : X.A.units + 64 < cLine) (hN : X.N[i]? = some x) (hv : Vis X.env.scope x) (hd : (x == ("__debug__" : Str)) = false) (hcd : (x == ("__classdict__" : Str)) = false) (hx : plainIxB b = true) (hb : Snd gl Φ ca X W b q) : Snd gl Φ ca X W (.Subscript (.Name x px) b pos) (.dgetv i q) := by
  intro Γ R E hs σ G H F st Q kn kx
  unfold sem at hs
  obtain ⟨⟨ks0, os0, e0⟩, hs⟩ := hs
  refine wE_of (pe_ix ix_w (pe_var hN hv hd hcd) pe_w (plainIx_ok hx)) ?_
  rcases st.env.ent i _ e0 with z | ⟨v, h1, r⟩
  · cases z
  refine ⟨_, h1, ?_⟩
  refine hb Γ _ E hs σ G H F st _ (fun vk o S Γ1 G1 H1 F1 st1 sp1 rk d1 d2 hs1 => ?_) kx
  obtain ⟨xk, ks, os, d, rfl, e1, el, hs1⟩ := hs1
  obtain ⟨rk', _⟩ := rk.sh_inv
  cases rk'
  rcases st1.env.ent i _ e1 with z | ⟨v', h2, r'⟩
  · cases z
  rw [h1] at h2
  cases h2
  obtain ⟨pa, kvs, S1, rfl, eS, hg, hh, en, ra, nl⟩ := r'.dct_inv
  have key : ∀ (kvs : List (Key × V)) (ks : List Str) (os : List O) (S : List Addr), kvs.map (·.1) = ks.map Sum.inr → ORepAll X.K G1 H1 (kvs.map (·.2)) os S → lookF ks os xk = some (.sh d) → ∃ w, valV kvs (Sum.inr xk : Key) = some w ∧ Rep X.K G1 w d := by
    intro kvs
    induction kvs with
    | nil =>
      intro ks os S h r e
      cases ks with
      | nil => cases e
      | cons _ _ => cases h
    | cons g w ih =>
      intro ks os S h r e
      cases ks with
      | nil => cases h
      | cons k ks =>
        simp only [List.map_cons, List.cons.injEq] at h
        rw [List.map_cons] at r
        cases r with
        | cons r1 r2 dj =>
          unfold lookF at e
          by_cases z : k = xk
          · rw [if_pos z] at e
            cases e
            exact ⟨_, valV_pos (by rw [h.1, z]), r1.sh_inv.1⟩
          · rw [if_neg z] at e
            obtain ⟨u, a1, a2⟩ := ih ks _ _ h.2 r2 e
            exact ⟨u, by rw [valV_neg (by rw [h.1]; intro y; cases y; exact z rfl)]; exact a1, a2⟩
  obtain ⟨w, a1, a2⟩ := key kvs ks os S1 en ra el
  exact dix_w hu (.inl hh) a1 ((kn.step sp1).val st1 a2 hs1)
end
end PW

end
section
set_option Elab.async false
set_option linter.all false
set_option maxRecDepth 100000
set_option maxHeartbeats 4000000
/-! PXS: set(xs) of texts: how many, in order. -/
namespace PW
open PySem PySem.Spec PyProof.Rows L2

def kyT (e : Int × Value) : Str := match e.2 with
  | .str k _ => k
  | _ => Str.empty
def GoodT (P : Program) (w : World) (e : Int × Value) : Prop := ∃ k tk, e.2 = Value.str k tk ∧ e.1 = (PySem.strKind P w).hash k
/-- the set of these texts at a, its table such that it can be walked -/
structure SetT (P : Program) (w : World) (h : Heap) (a : Addr) (l : List Str) (o : Obj) (es : Array (Int × Value)) (ep : Nat) (t : SetTable) : Prop where
  at_ : h.get? a = some o
  ex : o.ExactSet
  dat : o.data = .set es ep t
  good : ∀ e ∈ es.toList, GoodT P w e
  nd : (es.toList.map kyT).Nodup
  mem : ∀ k, k ∈ l ↔ k ∈ es.toList.map kyT
  few : es.size < scanBound
  fits : t.fits es.size = true
  ris : Ris t.place.toList
  led : w.params.followText "set-order" = true ∨ t.led = true
def IsSetT (P : Program) (w : World) (h : Heap) (a : Addr) (l : List Str) : Prop := ∃ o es ep t, SetT P w h a l o es ep t
section
variable {P : Program} {w : World} {h h' : Heap} {a : Addr} {l : List Str}
theorem IsSetT.at (R : IsSetT P w h a l) (k : ∀ o, h.get? a = some o → h'.get? a = some o) : IsSetT P w h' a l := by
  obtain ⟨o, es, ep, t, R⟩ := R
  exact ⟨o, es, ep, t, { R with at_ := k _ R.at_ }⟩
theorem goodT_elems {l : List (Int × Value)} (g : ∀ e ∈ l, GoodT P w e) : ElemsOf (PySem.strKind P w) l := fun e he => by
  obtain ⟨k, tk, h1, h2⟩ := g e he
  exact ⟨⟨k, by rw [h1]; exact strKind_is P w k tk, h2⟩, by rw [h1] <;> rfl⟩
theorem goodT_is {e : Int × Value} (g : GoodT P w e) (k : Str) : (PySem.strKind P w).is k e.2 = true ↔ kyT e = k := by
  obtain ⟨k0, tk, h1, _⟩ := g
  unfold kyT
  rw [h1]
  constructor
  · intro z
    obtain ⟨t, ez⟩ := Value.isStrOf_shape (show Value.isStrOf k (.str k0 tk) = true from z)
    cases ez
    rfl
  · intro z
    have z' : k0 = k := z
    rw [z']
    exact strKind_is P w k tk
theorem setT_new (ho : h.get? a = some { cls := .type "set", dict := none, data := .set #[] 0 (.fresh 0 0 (!w.params.followText "set-order")) }) : IsSetT P w h a [] :=
  ⟨_, #[], 0, _, ho, ⟨rfl, rfl, rfl⟩, rfl, fun e he => by simp at he, by simp, fun k => by simp, by decide, rfl, List.Pairwise.nil, by
    show _ ∨ (!w.params.followText "set-order") = true
    cases w.params.followText "set-order"
    · exact .inr rfl
    · exact .inl rfl⟩
end
section
variable {P : Program} {w : World} {A : Around} {E : Value → Shared → Prop} {s : Shared} {a : Addr} {l : List Str}
/-- one more member, where it was not -/
theorem setT_tail {g : Bool → Sem Unit} (hg : ∀ (b : Bool) (s1 : Shared) (Q' : Unit → Shared → Prop), Q' () s1 → wpAny (model P w) A (g b) Q' E s1) {o : Obj} {es : Array (Int × Value)} {ep : Nat} {t : SetTable} (ho : s.heap.get? a = some o) (hex : o.ExactSet) (hd : o.data = .set es ep t)
    {fs : Array (Int × Value)} {u : SetTable} (g1 : ∀ e ∈ fs.toList, GoodT P w e) (nd1 : (fs.toList.map kyT).Nodup) (m1 : ∀ k, k ∈ l ↔ k ∈ fs.toList.map kyT) (hb1 : fs.size < scanBound) (hf2 : u.fits fs.size = true) (hr : Ris u.place.toList)
    (hl : w.params.followText "set-order" = true ∨ u.led = true) {wd : Bool} {R : Option Bool → Shared → Prop} (hR : ∀ h', Heap.SameBut a s.heap h' → IsSetT P w h' a l → R (some true) { s with heap := h' }) :
    wpAny (model P w) A (do
        storeSet a fs u
        if (!wd && u.tooFull) = true then do
            g (relayAll u fs (SetTable.grown fs.size)).2.2
            storeSet a (relayAll u fs (SetTable.grown fs.size)).1 (relayAll u fs (SetTable.grown fs.size)).2.1
            pure (some true)
          else pure (some true)) R E s := by
  refine wpAny_bind (wpAny_storeSet_of ho hd ?_ (fits_of_scanBound hb1))
  have q1 := store_at (es' := fs) (t' := u) ho hd
  have b1 := Heap.SameBut.update s.heap a (Obj.putSet fs u)
  split
  · have pm := relayAll_perm u fs (SetTable.grown fs.size)
    have hf3 := relayAll_fits u fs (SetTable.grown fs.size)
    have hr3 := relayAll_ris u fs (SetTable.grown fs.size)
    have hl3 := relayAll_led u fs (SetTable.grown fs.size)
    generalize relayAll u fs (SetTable.grown fs.size) = Z at pm hf3 hr3 hl3 ⊢
    obtain ⟨es2, t3, gave⟩ := Z
    dsimp only at pm hf3 hr3 hl3 ⊢
    have hb2 : es2.size < scanBound := by
      have : es2.size = fs.size := by rw [← Array.length_toList, pm.length_eq, Array.length_toList]
      rw [this]
      exact hb1
    refine wpAny_bind (hg _ _ _ (wpAny_bind (wpAny_storeSet_of q1 rfl (wpAny_pure (hR _ (b1.trans (Heap.SameBut.update _ a _)) ?_)) (fits_of_scanBound hb2))))
    exact ⟨_, es2, _, t3, store_at (es' := es2) (t' := t3) q1 rfl, hex, rfl, fun e he => g1 e (pm.mem_iff.mp he), (pm.map kyT).nodup_iff.mpr nd1, fun k => (m1 k).trans (pm.map kyT).mem_iff.symm, hb2, hf3, hr3, hl.imp id fun z => by rw [hl3]; exact z⟩
  · exact wpAny_pure (hR _ b1 ⟨_, fs, _, u, q1, hex, rfl, g1, nd1, m1, hb1, hf2, hr, hl⟩)
theorem setT_add {k : Str} {tk : Tok} {Q : Bool → Shared → Prop} (R : IsSetT P w s.heap a l) (room : l.length + 1 < 4096) (nl : l.Nodup) (hQ : ∀ h' b, Heap.SameBut a s.heap h' → IsSetT P w h' a (if k ∈ l then l else l ++ [k]) → Q b { s with heap := h' }) :
    wpAny (model P w) A (setAddHashed a (.str k tk) ((PySem.strKind P w).hash k)) Q E s := by
  obtain ⟨o, es, ep, t, R⟩ := R
  have hkey : (PySem.strKind P w).is k (.str k tk) = true := strKind_is P w k tk
  have hsc : (Value.str k tk).scannable = true := rfl
  have hel : ElemsOf (PySem.strKind P w) es.toList := goodT_elems R.good
  have hn : es.size = l.length := by
    have p : (es.toList.map kyT).Perm l := (List.perm_ext_iff_of_nodup R.nd nl).mpr fun x => (R.mem x).symm
    have := p.length_eq
    rwa [List.length_map, Array.length_toList] at this
  unfold setAddHashed setAddHashedIn
  refine wpAny_holding (wpAny_bind (wpAny_setState_of R.at_ R.dat R.fits ?_))
  dsimp only
  rw [byScan_of hsc R.few hel]
  simp only [↓reduceIte]
  unfold setAddByScan
  refine wpAny_bind (wpAny_bind (wpAny_rule (wpAny_bind (wpAny_setScan_of hkey R.at_ R.dat R.fits hel ?_))))
  cases hfi : List.findIdx? (fun e => (PySem.strKind P w).is k e.2) es.toList with
  | some j =>
    dsimp only
    obtain ⟨hj, pj, _⟩ := List.findIdx?_eq_some_iff_getElem.mp hfi
    have hk : k ∈ l := (R.mem k).2 (List.mem_map.mpr ⟨es.toList[j], List.getElem_mem hj, (goodT_is (R.good _ (List.getElem_mem hj)) k).1 pj⟩)
    refine wpAny_pure (wpAny_pure (hQ s.heap _ (Heap.SameBut.refl a s.heap) ?_))
    rw [if_pos hk]
    exact ⟨o, es, ep, t, R⟩
  | none =>
    dsimp only
    have hnk : k ∉ es.toList.map kyT := fun z => by
      obtain ⟨e, he, q⟩ := List.mem_map.mp z
      have c := List.findIdx?_eq_none_iff.mp hfi e he
      rw [(goodT_is (R.good e he) k).2 q] at c
      cases c
    have hkl : k ∉ l := fun z => hnk ((R.mem k).1 z)
    rw [if_neg hkl] at hQ
    have hgw : ∀ (b : Bool) {s1 : Shared} {Q' : Unit → Shared → Prop}, Q' () s1 → wpAny (model P w) A (match b with | true => rule "set.scan.the-table-gave-way" | false => pure ()) Q' E s1 :=
      fun b s1 Q' q => by cases b <;> first | exact wpAny_pure q | exact wpAny_rule q
    have pm := layNew_perm t es ((PySem.strKind P w).hash k) (.str k tk)
    have hf1 := layNew_fits t es ((PySem.strKind P w).hash k) (.str k tk)
    have hr1 := layNew_ris t es ((PySem.strKind P w).hash k) (.str k tk) R.ris
    have hl1 := layNew_led t es ((PySem.strKind P w).hash k) (.str k tk)
    generalize layNew t es ((PySem.strKind P w).hash k) (.str k tk) = Z at pm hf1 hr1 hl1 ⊢
    obtain ⟨fs, u, wd, gave⟩ := Z
    dsimp only at pm hf1 hr1 hl1 ⊢
    rw [Array.toList_push] at pm
    have pc : fs.toList.Perm (((PySem.strKind P w).hash k, Value.str k tk) :: es.toList) := pm.trans (List.perm_append_singleton _ _)
    have pk : (fs.toList.map kyT).Perm (k :: es.toList.map kyT) := pc.map kyT
    have g1 : ∀ e ∈ fs.toList, GoodT P w e := fun e he => by
      rcases List.mem_cons.mp (pc.mem_iff.mp he) with z | z
      · rw [z]; exact ⟨k, tk, rfl, rfl⟩
      · exact R.good e z
    have nd1 : (fs.toList.map kyT).Nodup := pk.nodup_iff.mpr (List.nodup_cons.mpr ⟨hnk, R.nd⟩)
    have m1 : ∀ i, i ∈ l ++ [k] ↔ i ∈ fs.toList.map kyT := fun i => by
      rw [pk.mem_iff, List.mem_cons, List.mem_append, List.mem_singleton, R.mem i]
      exact Or.comm
    have hb1 : fs.size < scanBound := by
      have : fs.size = l.length + 1 := by rw [← Array.length_toList, pc.length_eq, List.length_cons, Array.length_toList, hn]
      rw [this]
      unfold scanBound
      omega
    have hled : w.params.followText "set-order" = true ∨ u.led = true := R.led.imp id fun z => by rw [hl1]; exact z
    refine wpAny_bind (hgw _ ?_)
    split
    · refine wpAny_bind ?_
      rw [hashByValue_scannable 8 hsc]
      refine wpAny_pure (setT_tail (l := l ++ [k]) ?_ R.at_ R.ex R.dat g1 nd1 m1 hb1 ?_ ?_ ?_ ?_)
      · intro b s1 Q' q; cases b <;> first | exact wpAny_pure q | exact wpAny_rule q
      · first | (split <;> first | exact hf1 | exact SetTable.fits_plain_off hf1) | exact hf1
      · first | (split <;> exact hr1) | exact hr1
      · first | (split <;> exact hled) | exact hled
      · intro h' sb r; dsimp only; exact wpAny_pure (hQ h' _ sb r)
    · refine wpAny_bind (wpAny_pure ?_)
      simp only [↓reduceIte]
      refine setT_tail (l := l ++ [k]) ?_ R.at_ R.ex R.dat g1 nd1 m1 hb1 hf1 hr1 hled ?_
      · intro b s1 Q' q; cases b <;> first | exact wpAny_pure q | exact wpAny_rule q
      · intro h' sb r; dsimp only; exact wpAny_pure (hQ h' _ sb r)
end
/-- the texts so far, each once -/
def met (xs : List Str) : Nat → List Str
  | 0 => []
  | i + 1 => match xs[i]? with
    | some x => if x ∈ met xs i then met xs i else met xs i ++ [x]
    | none => met xs i
theorem met_nodup (xs : List Str) : ∀ i, (met xs i).Nodup
  | 0 => List.nodup_nil
  | i + 1 => by
    unfold met
    split
    · split
      · exact met_nodup xs i
      · rename_i x _ h
        rw [List.nodup_append]
        refine ⟨met_nodup xs i, by simp, fun a ha b hb => ?_⟩
        rw [List.mem_singleton] at hb
        subst hb
        exact fun z => h (z ▸ ha)
    · exact met_nodup xs i
theorem met_len (xs : List Str) : ∀ i, (met xs i).length ≤ i
  | 0 => Nat.le_refl _
  | i + 1 => by
    have := met_len xs i
    unfold met
    split
    · split
      · omega
      · rw [List.length_append]
        simp
        omega
    · omega
theorem met_mem (xs : List Str) (y : Str) : ∀ i, y ∈ met xs i ↔ y ∈ xs.take i
  | 0 => by simp [met]
  | i + 1 => by
    unfold met
    rw [List.take_add_one]
    cases h : xs[i]? with
    | none => simp [met_mem xs y i]
    | some x =>
      simp only
      rw [List.mem_append, ← met_mem xs y i]
      split
      · rename_i hx
        constructor
        · exact fun z => .inl z
        · rintro (z | z)
          · exact z
          · simp at z
            rw [z]
            exact hx
      · rw [List.mem_append]
        simp
theorem dd_nodup : ∀ l : List Str, (ddS l).Nodup ∧ ∀ y, y ∈ ddS l ↔ y ∈ l
  | [] => ⟨List.nodup_nil, fun y => Iff.rfl⟩
  | x :: r => by
    obtain ⟨h1, h2⟩ := dd_nodup r
    unfold ddS
    split
    · rename_i hx
      refine ⟨h1, fun y => ?_⟩
      rw [h2, List.mem_cons]
      exact ⟨.inr, fun z => z.elim (fun e => e ▸ hx) id⟩
    · rename_i hx
      refine ⟨List.nodup_cons.mpr ⟨fun z => hx ((h2 x).mp z), h1⟩, fun y => ?_⟩
      rw [List.mem_cons, List.mem_cons, h2]
theorem met_dd (xs : List Str) : (met xs xs.length).Perm (ddS xs) := (List.perm_ext_iff_of_nodup (met_nodup xs _) (dd_nodup xs).1).mpr fun y => by
  rw [met_mem, List.take_length, (dd_nodup xs).2]
section
variable {P : Program} {w : World} {A : Around} {E : Value → Shared → Prop} {s : Shared}
theorem setT_loop {I : Addr} {fp wr : List Addr} {G : Array GenState → Array GenState → Prop} {n : Nat} {Pv : Nat → Value → Prop} {St : Nat → Shared → Prop} {R : Result → Shared → Prop}
    (W : WalksS P w A.in1 I fp wr G n Pv St) (S : Addr) (hSf : S ∉ fp) (xs : List Str) (hn : n = xs.length) (hb : xs.length ≤ 1000) (hval : ∀ i v, Pv i v → ∃ k t, xs[i]? = some k ∧ v = .str k t) :
    ∀ (k i : Nat) (s : Shared), n - i = k → i ≤ n → St i s → IsSetT P w s.heap S (met xs i) →
      (∀ s', Moved (S :: wr) G s s' → IsSetT P w s'.heap S (met xs xs.length) → R (.ok (.ret .none)) s') →
      codeAny (model P w) A (.builtin "set.update.loop" ⟨[.ref S, .ref I], []⟩) R s := by
  have hSw : S ∉ wr := fun h => hSf (W.sub _ h)
  have hsub : ∀ b ∈ wr, b ∈ S :: wr := fun b hb => List.mem_cons_of_mem _ hb
  intro k
  induction k with
  | zero =>
    intro i s hk' hi hst hS hR
    have hin : i = n := by omega
    subst hin
    refine codeAny_builtin PyProof.Rows.F.entry_set_update_loop ?_
    rw [Around.under_plainId PyProof.Rows.F.plain_set_update_loop _]
    show wpAny _ A.in1 (pyNext (.ref I) >>= _) _ _ s
    refine wpAny_bind (W.done s _ _ hst fun s' hm => ?_)
    show wpAny _ A.in1 (ret Value.none) _ _ s'
    rw [hn] at hS
    exact wpAny_pure (hR s' (hm.mono hsub) (hS.at fun o e => hm.heap S o hSw e))
  | succ k ih =>
    intro i s hk' hi hst hS hR
    have hlt : i < n := by omega
    refine codeAny_builtin PyProof.Rows.F.entry_set_update_loop ?_
    rw [Around.under_plainId PyProof.Rows.F.plain_set_update_loop _]
    show wpAny _ A.in1 (pyNext (.ref I) >>= _) _ _ s
    refine wpAny_bind (W.item i s _ _ hlt hst fun v s' hP hst' hm => ?_)
    obtain ⟨z, t, hz, rfl⟩ := hval i v hP
    have hS' : IsSetT P w s'.heap S (met xs i) := hS.at fun o e => hm.heap S o hSw e
    show wpAny _ A.in1 (holding [Value.str z t] (setAdd S (.str z t)) >>= _) _ _ s'
    refine wpAny_bind (wpAny_holding ?_)
    unfold setAdd
    refine wpAny_holding (wpAny_bind ((PySem.strKind P w).pyHash (k := z) (strKind_is _ _ _ _) ?_))
    have ml := met_len xs i
    refine setT_add (s := { s' with toks := s'.toks + 1 }) hS' (by omega) (met_nodup xs i) fun h' b hsb hS2 => ?_
    have hS3 : IsSetT P w h' S (met xs (i + 1)) := by
      unfold met
      rw [hz]
      exact hS2
    refine wpAny_pure ⟨plainId_quiet PyProof.Rows.F.plain_set_update_loop _, ih (i + 1) _ (by omega) hlt (W.frame _ s' _ _ hst' (Nat.le_succ _) fun b hb o e => ?_) hS3 fun s'' hm'' hS'' => ?_⟩
    · rw [hsb.2 b (fun h : b = S => hSf (by rw [← h]; exact hb))]; exact e
    · refine hR s'' (Moved.trans W.gtrans ((hm.mono hsub).then_heap (Nat.le_succ _) fun b o hb e => ?_) hm'') hS''
      rw [hsb.2 b (fun h : b = S => hb (by rw [h]; exact List.mem_cons_self))]; exact e
end
section
variable {P : Program} {w : World} {A : Around} {E : Value → Shared → Prop} {s : Shared}
set_option maxHeartbeats 3200000 in
theorem call_setT {l : Addr} {items : Array Value} (xs : List Str) {Q : Value → Shared → Prop} (hh : A.handled = none) (hl : s.heap.IsList l items) (hit : PyProof.Rows.StrsAre items.toList xs) (hb : xs.length ≤ 1000)
    (h : ∀ (h' : Heap) (tk : Nat), IsSetT P w h' s.heap.objs.size (met xs xs.length) → (∀ b o, s.heap.get? b = some o → h'.get? b = some o) → s.heap.objs.size < h'.objs.size → Q (.ref s.heap.objs.size) { s with heap := h', toks := tk }) :
    wpAny (model P w) A (call (.type "set") [.ref l]) Q E s := by
  have hisz : items.size = xs.length := by rw [← StrsAre.len_eq hit, Array.length_toList]
  obtain ⟨c, tl, hmro⟩ := PySem.F.called_set.mro
  have hmade := PySem.F.called_set.made
  have hsub := PySem.F.called_set.sub
  refine wpAny_call (codeAny_of_tree ?_)
  show wpAny _ _ (callAny (.type "set") _) _ _ _
  refine wpAny_pure ⟨Code.quiet_builtin _ (by decide +kernel), codeAny_builtin PySem.F.entry_type_call ?_⟩
  rw [Around.under_plain (weight_type_call_type "set" [.ref l] []) rfl]
  have h1 := PySem.F.called_set.notType
  have h2 := PySem.F.called_set.canCreate
  have hct := PySem.F.typeCall_set_1 (.ref l)
  repeat (any_goals (first | assumption | wp_step))
  refine codeAny_mono (code_set_led1 (.ref l) (E := E) (Q₁ := fun obj s1 => obj = .ref s.heap.objs.size ∧ s1 = { s with heap := s.heap.push { cls := .type "set", dict := none, data := .set #[] 0 (.fresh 0 0 (!w.params.followText "set-order")) } }) ⟨rfl, rfl⟩) fun r s1 hr => ?_
  cases r with
  | error e => exact hr
  | ok fl =>
    cases fl with
    | ret obj =>
      obtain ⟨rfl, rfl⟩ := hr
      have hS : (s.heap.push { cls := .type "set", dict := none, data := .set #[] 0 (.fresh 0 0 (!w.params.followText "set-order")) }).get? s.heap.objs.size = some { cls := .type "set", dict := none, data := .set #[] 0 (.fresh 0 0 (!w.params.followText "set-order")) } := Heap.get?_push_size _ rfl
      have hT : Shared.TypeIs { s with heap := s.heap.push { cls := .type "set", dict := none, data := .set #[] 0 (.fresh 0 0 (!w.params.followText "set-order")) } } (.ref s.heap.objs.size) "set" := ⟨_, hS, rfl⟩
      have hli := PySem.F.called_set.init.lookup
      have hbi := PySem.F.called_set.init.bind (.ref s.heap.objs.size)
      repeat (any_goals (first | assumption | wp_step))
      refine codeAny_mono (codeAny_call_builtin (R := wants (fun r s2 => r = .none ∧ ∃ h' tk, s2 = { s with heap := h', toks := tk } ∧ IsSetT P w h' s.heap.objs.size (met xs xs.length) ∧ (∀ b o, s.heap.get? b = some o → h'.get? b = some o)) E) PySem.F.called_set.init.plain PySem.F.entry_set_init (check_set_init_1 hT ?_)) fun r2 s2 hr2 => ?_
      · obtain ⟨ol, hol, hcl, nl, hdl⟩ := hl
        obtain ⟨ocls, odict, odata, oslots⟩ := ol
        simp only at hcl hdl
        subst hcl; subst hdl
        have hol' : (s.heap.push { cls := .type "set", dict := none, data := .set #[] 0 (.fresh 0 0 (!w.params.followText "set-order")) }).get? l = some { cls := .type "list", dict := odict, data := .seq items nl, slots := oslots } := Heap.get?_push_of_some _ hol
        have hsls := PySem.F.sub_list_set
        have hslf := PySem.F.sub_list_frozenset
        have hne : (Value.type "list" == Value.type "dict") = false := by decide
        have hl1 : (s.heap.push { cls := .type "set", dict := none, data := .set #[] 0 (.fresh 0 0 (!w.params.followText "set-order")) }).IsList l items := ⟨_, hol', rfl, nl, rfl⟩
        unfold Builtin.«set.__init__» noKeywords Builtin.Frozenset.updateFrom
        generalize hPI : pyIter = PI
        wp_walk
        subst hPI
        refine wpAny_pyIter_list hl1 (wpAny_bind (wpAny_runValue ?_))
        have hlS : l < s.heap.objs.size := Heap.lt_size hol
        have hh3 : A.in1.in1.in1.handled = none := by simp [hh]
        have hneI : l ≠ (s.heap.push { cls := .type "set", dict := none, data := .set #[] 0 (.fresh 0 0 (!w.params.followText "set-order")) }).objs.size := by
          rw [Heap.size_push]; exact Nat.ne_of_lt (Nat.lt_succ_of_lt hlS)
        have hSf : s.heap.objs.size ∉ [(s.heap.push { cls := .type "set", dict := none, data := .set #[] 0 (.fresh 0 0 (!w.params.followText "set-order")) }).objs.size, l] := by
          rw [Heap.size_push]; simp only [List.mem_cons, List.mem_singleton, List.not_mem_nil, or_false, not_or]
          exact ⟨Nat.ne_of_lt (Nat.lt_succ_self _), Nat.ne_of_gt hlS⟩
        have hval : ∀ (i : Nat) (v : Value), items[i]? = some v → ∃ k t, xs[i]? = some k ∧ v = .str k t := fun i v hv => by
          have hi : i < xs.length := by rw [← hisz]; exact (Array.getElem?_eq_some_iff.mp hv).1
          obtain ⟨t, e⟩ := SS.strs_at hit i v (by rw [Array.getElem?_toList]; exact hv)
          refine ⟨xs[i], t, List.getElem?_eq_getElem hi, ?_⟩
          rw [e, List.getD_eq_getElem?_getD, List.getElem?_eq_getElem hi] <;> rfl
        refine setT_loop ((Walks.list hh3 _ l hneI items).toS) s.heap.objs.size
          hSf xs hisz hb hval (items.size - 0) 0 _ (by omega) (Nat.zero_le _)
          ⟨⟨_, Heap.get?_push_size _ rfl, rfl, rfl⟩, (hl1.push _)⟩ ?hS0 ?hR
        case hS0 => exact setT_new (Heap.get?_push_of_some _ hS)
        case hR =>
          intro s' hm hS'
          obtain ⟨h', g2, d', tk', os'⟩ := s'
          have eg : g2 = s.gens := hm.gens
          have ed : d' = s.drawn := hm.drawn
          have eo : os' = s.os := hm.os
          subst eg; subst ed; subst eo
          show wpAny _ _ _ _ _ _
          refine wpAny_pure ?_
          show wpAny _ _ (ret Value.none) _ _ _
          refine wpAny_pure ⟨rfl, h', tk', rfl, hS', fun b o e => ?_⟩
          have hb0 : b < s.heap.objs.size := Heap.lt_size e
          have hb2 : b ≠ (s.heap.push { cls := .type "set", dict := none, data := .set #[] 0 (.fresh 0 0 (!w.params.followText "set-order")) }).objs.size := by
            rw [Heap.size_push]; exact Nat.ne_of_lt (Nat.lt_succ_of_lt hb0)
          exact hm.heap b o (by simp only [List.mem_cons, List.mem_singleton, List.not_mem_nil, or_false, not_or]; exact ⟨Nat.ne_of_lt hb0, hb2⟩) (Heap.get?_push_of_some _ (Heap.get?_push_of_some _ e))
      · cases r2 with
        | error e => exact hr2
        | ok fl2 =>
          cases fl2 with
          | ret r =>
            obtain ⟨rfl, h', tk, rfl, hS', hk'⟩ := hr2
            repeat (any_goals (first | assumption | wp_step))
            refine h _ _ hS' hk' ?_
            obtain ⟨_, _, _, _, R⟩ := hS'
            exact Heap.lt_size R.at_
          | _ => exact hr2.elim
    | _ => exact hr.elim
theorem strs_of : ∀ (l : List Value), (∀ v ∈ l, ∃ k tk, v = Value.str k tk) → PyProof.Rows.StrsAre l (l.map fun v => match v with | .str k _ => k | _ => Str.empty)
  | [], _ => .nil
  | v :: l, h => by
    obtain ⟨k, tk, rfl⟩ := h v List.mem_cons_self
    exact .cons k tk (strs_of l fun u hu => h u (List.mem_cons_of_mem _ hu))
/-- sorted of a set of texts -/
theorem sorted_setT {a : Addr} {l : List Str} {Q : Value → Shared → Prop} (R : IsSetT P w s.heap a l) (nl : l.Nodup) (hl : l.length ≤ 1000) (hh : A.handled = none)
    (hQ : ∀ s' p (out : Array Value) (c : Nat) (ys : List Str), (∀ b o, s.heap.get? b = some o → s'.heap.get? b = some o) → s'.gens = s.gens → s'.os = s.os → s.heap.objs.size ≤ p →
      s'.heap.get? p = some (seqObj "list" out c) → PyProof.Rows.StrsAre out.toList ys → ys.Perm l → sortedS ys = true → Q (.ref p) s') :
    wpAny (model P w) A (call (.builtin "sorted") [.ref a]) Q E s := by
  obtain ⟨o, es, ep, t, R⟩ := R
  refine Calls.call_function_entry kind_sorted plain_sorted entry_sorted (args_sorted1 _) ?_
  unfold Builtin.«sorted»
  refine wpAny_bind (m := checkCount "sorted" 1 1 _) (wpAny_pure ?_)
  refine wpAny_bind (collect_set (A := A.in1) hh ⟨o, R.at_, R.ex.1, R.dat⟩ R.fits R.few R.ris R.led fun s1 vs k1 hz g1 o1 pm => ?_)
  have hI := strs_of vs fun v hv => by
    obtain ⟨e, he, q⟩ := List.mem_map.mp (pm.mem_iff.mp hv)
    obtain ⟨k, tk, h1, _⟩ := R.good e he
    exact ⟨k, tk, by rw [← q]; exact h1⟩
  have pk : (vs.map fun v => match v with | .str k _ => k | _ => Str.empty).Perm (es.toList.map kyT) := by
    have q := pm.map (fun v => match v with | Value.str k _ => k | _ => Str.empty)
    rw [List.map_map] at q
    exact q
  have pl : (es.toList.map kyT).Perm l := (List.perm_ext_iff_of_nodup R.nd nl).mpr fun x => (R.mem x).symm
  have hvl : vs.length ≤ sizeLine := by
    have e1 := pk.length_eq
    have e2 := pl.length_eq
    rw [List.length_map] at e1
    rw [e1, e2, sizeLine_eq]
    omega
  refine wpAny_bind (wpAny_newList ?_ hvl)
  have hoL : (s1.heap.push (seqObj "list" vs.toArray 0)).get? s1.heap.objs.size = some (seqObj "list" vs.toArray 0) := Heap.get?_push_size _ rfl
  refine wpAny_bind (wpAny_holding (wpAny_call_entry slot_list_sort ⟨_, hoL, rfl⟩ entry_list_sort (list_sort_treeKAny strKind_oneLt hoL hI.keysOf (fun v1 v2 rest e => keyKind_strs (by rw [← e]; exact hI)) hvl fun st' hp hs => ⟨_, rfl, ?_⟩) (args_list_sort _)))
  obtain ⟨ys, a1, a2, a3⟩ := sorted_out_str hI hp hs
  obtain ⟨c, hc⟩ := sortedHeap_at (vs := vs) (out := ((arrOf st').map (·.2))) hoL
  refine wpAny_pure ⟨_, rfl, hQ _ s1.heap.objs.size _ c ys (fun b u e => ?_) g1 o1 hz hc a1 (a2.trans (pk.trans pl)) a3⟩
  have q := k1 b u e
  have hlt := Heap.lt_size q
  show (sortedHeap (s1.heap.push (seqObj "list" vs.toArray 0)) s1.heap.objs.size vs _).get? b = some u
  rw [sortedHeap_old (Nat.ne_of_lt hlt) (by rw [size_push']; exact Nat.lt_succ_of_lt hlt)]
  exact Heap.get?_push_of_some _ q
end
/-! ### in the small language -/
section
variable {X : Cx} {a : Expr} {ta : TE} {p p2 q pos : Pos}
def tLenT (K : PySem.W.Frag) (ta : TE) : TE := fun σ H Q => ta σ H fun x H1 => ∃ (l : Addr) (xs : List Str), x = V.ref l ∧ SqL K H1 l (xs.map V.str) ∧ xs.length ≤ 1000 ∧ Q (.int (ddS xs).length) H1
theorem pe_lenT (hc : X.calm = true) (hg : Gl X "len") (hm : X.mg "len" = none) (hg2 : Gl X "set") (hm2 : X.mg "set" = none) (ha : PE X a ta) (na : notStar a = true) : PE X (.Call (.Name "len" p) [.Call (.Name "set" p2) [a] [] q] [] pos) (tLenT X.K ta) := by
  refine ⟨fun pins s σ H Q I h => ?_⟩
  refine Call_ (ld_blt I hg hm PySem.boot_len ?_)
  refine PyProof.Rows.callWith_builtin1 (PyProof.Rows.args_cons ?_ rfl) rfl rfl
  refine Call_ (ld_blt I hg2 hm2 PyProof.Rows.boot_set ?_)
  refine PyProof.Rows.callWith_type1 (PyProof.Rows.args_cons (thn (ha.run pins s σ H _ I h) fun v s1 ⟨x, H1, I1, r1, q1⟩ => PyProof.Rows.args_nil ?_) (star_ok na)) (star_ok na) rfl
  obtain ⟨l, xs, rfl, hq, h1, q1⟩ := q1
  cases r1
  obtain ⟨its, r, pl, hz⟩ := I1.list hq
  refine call_setT xs (I1.ok.hd hc) pl.isList (by simpa using r.strs) h1 fun h' tk hS hk hlt => ?_
  refine PyProof.Rows.args_nil ?_
  obtain ⟨o, es, ep, t, R⟩ := hS
  have hn : es.size = (ddS xs).length := by
    have p1 : (es.toList.map kyT).Perm (met xs xs.length) := (List.perm_ext_iff_of_nodup R.nd (met_nodup xs _)).mpr fun x => (R.mem x).symm
    have := (p1.trans (met_dd xs)).length_eq
    rwa [List.length_map, Array.length_toList] at this
  have I2 : Inv X pins σ H1 { s1 with heap := h', toks := tk } := I1.kept fun b o e => hk b o e
  refine call_len_set R.at_ R.ex R.dat R.fits (by have := R.few; unfold scanBound at this; omega) ⟨.int (ddS xs).length, H1, I2.tok _, ⟨_, by rw [hn]⟩, q1⟩
def tSortT (K : PySem.W.Frag) (ta : TE) : TE := fun σ H Q => ta σ H fun x H1 => ∃ (l : Addr) (xs : List Str), x = V.ref l ∧ SqL K H1 l (xs.map V.str) ∧ xs.length ≤ 1000 ∧ ∀ p, H1 p = none → Q (.ref p) (upd H1 p (.lst ((srtS (ddS xs)).map V.str)))
theorem pe_sortT (hc : X.calm = true) (hg : Gl X "sorted") (hm : X.mg "sorted" = none) (hg2 : Gl X "set") (hm2 : X.mg "set" = none) (ha : PE X a ta) (na : notStar a = true) : PE X (.Call (.Name "sorted" p) [.Call (.Name "set" p2) [a] [] q] [] pos) (tSortT X.K ta) := by
  refine ⟨fun pins s σ H Q I h => ?_⟩
  refine Call_ (ld_blt I hg hm (show bootBuiltins "sorted" = some (.builtin "sorted") by decide +kernel) ?_)
  refine PyProof.Rows.callWith_builtin1 (PyProof.Rows.args_cons ?_ rfl) rfl rfl
  refine Call_ (ld_blt I hg2 hm2 PyProof.Rows.boot_set ?_)
  refine PyProof.Rows.callWith_type1 (PyProof.Rows.args_cons (thn (ha.run pins s σ H _ I h) fun v s1 ⟨x, H1, I1, r1, q1⟩ => PyProof.Rows.args_nil ?_) (star_ok na)) (star_ok na) rfl
  obtain ⟨l, xs, rfl, hq, h1, q1⟩ := q1
  cases r1
  obtain ⟨its, r, pl, hz⟩ := I1.list hq
  refine call_setT xs (I1.ok.hd hc) pl.isList (by simpa using r.strs) h1 fun h' tk hS hk hlt => ?_
  refine PyProof.Rows.args_nil ?_
  have I2 : Inv X pins σ H1 { s1 with heap := h', toks := tk } := I1.kept fun b o e => hk b o e
  have ml := met_len xs xs.length
  refine sorted_setT hS (met_nodup xs _) (by omega) (I2.ok.hd hc) fun s' b out c ys k g o hp hg' hi pm hs => ?_
  have ey : ys = srtS (ddS xs) := srt_uniq (pm.trans (met_dd xs)) hs
  have hlen : (ys.map V.str).length ≤ sizeLine := by
    rw [List.length_map, pm.length_eq, sizeLine_eq]
    omega
  have hn : H1 b = none := I2.hok.fresh hp
  have J : Inv X pins σ (upd H1 b (.lst (ys.map V.str))) { ({ s1 with heap := h', toks := tk } : Shared) with heap := s'.heap, gens := s'.gens, drawn := s'.drawn, toks := s'.toks } :=
    I2.call (ch := []) (Un.laid k hp hn) (I2.hok.laid k hp ⟨hlen, out.toList, c, vals_of_strs hi, hg'⟩) (by rw [g]; exact I2.bare) (fun _ z => nomatch z)
  have e : s' = { ({ s1 with heap := h', toks := tk } : Shared) with heap := s'.heap, gens := s'.gens, drawn := s'.drawn, toks := s'.toks } := by
    cases s'
    cases s1
    cases o
    rfl
  rw [e]
  rw [ey] at J
  exact ⟨.ref b, _, J, rfl, q1 b hn⟩
end
section
variable {gl : List D} {Φ : Fns} {ca : EC → Addr} {X : Cx} {W : WX} {e : Expr} {pe : PEx} {p p2 q pos : Pos}
theorem snd_lenset (hc : X.calm = true) (hg : Gl X "len") (hm : X.mg "len" = none) (hg2 : Gl X "set") (hm2 : X.mg "set" = none) (na : notStar e = true) (ha : Snd gl Φ ca X W e pe) : Snd gl Φ ca X W (.Call (.Name "len" p) [.Call (.Name "set" p2) [e] [] q] [] pos) (.lenset pe) := by
  intro Γ R E hs σ G H F st Q kn kx
  unfold sem at hs
  refine wE_of (pe_lenT hc hg hm hg2 hm2 pe_w na) ?_
  refine ha Γ _ E hs σ G H F st _ (kon_imp (R' := fun o Γ1 => ∃ l, asD o = some (.lst l) ∧ ∃ xs : List Str, l = xs.map .str ∧ xs.length ≤ 1000 ∧ R (.sh (.int (ddS xs).length)) Γ1) (fun o Γ1 ⟨xs, h1, h2, h3⟩ => ⟨_, h1, xs, rfl, h2, h3⟩) (kon_L fun a vs l Γ1 G1 H1 F1 st1 sp1 g r hs1 => ?_)) kx
  obtain ⟨xs, rfl, h2, h3⟩ := hs1
  exact ⟨a, xs, rfl, SqL.of (st1.gh _ _ (by rw [r.strs] at g; exact g)), h2, (kn.step sp1).val st1 (.int _) h3⟩
theorem snd_sortset (hc : X.calm = true) (hg : Gl X "sorted") (hm : X.mg "sorted" = none) (hg2 : Gl X "set") (hm2 : X.mg "set" = none) (na : notStar e = true) (ha : Snd gl Φ ca X W e pe) : Snd gl Φ ca X W (.Call (.Name "sorted" p) [.Call (.Name "set" p2) [e] [] q] [] pos) (.sortset pe) := by
  intro Γ R E hs σ G H F st Q kn kx
  unfold sem at hs
  refine wE_of (pe_sortT hc hg hm hg2 hm2 pe_w na) ?_
  refine ha Γ _ E hs σ G H F st _ (kon_imp (R' := fun o Γ1 => ∃ l, asD o = some (.lst l) ∧ ∃ xs : List Str, l = xs.map .str ∧ xs.length ≤ 1000 ∧ R (.lst ((srtS (ddS xs)).map fun k => .sh (.str k))) Γ1) (fun o Γ1 ⟨xs, h1, h2, h3⟩ => ⟨_, h1, xs, rfl, h2, h3⟩) (kon_L fun a vs l Γ1 G1 H1 F1 st1 sp1 g r hs1 => ?_)) kx
  obtain ⟨xs, rfl, h2, h3⟩ := hs1
  refine ⟨a, xs, rfl, SqL.of (st1.gh _ _ (by rw [r.strs] at g; exact g)), h2, fun b hb => ?_⟩
  rw [strs_sh] at h3
  exact (kop_of st1 (kn.step sp1)).lst st1.gh hb (RepAll.of_strs _) h3
end
end PW

end
section
set_option Elab.async false
set_option linter.all false
set_option maxRecDepth 100000
set_option maxHeartbeats 4000000
/-! PXT: list.pop, dict.get, dict.pop, `or` over lists, append to what nobody has. -/
namespace PW
open PySem PySem.Spec PyProof.Rows L2
section
variable {K : PySem.W.Frag} {G H : Hp}
theorem RepAll.snoc : ∀ {ds : List D} {vs : List V} {d : D}, RepAll K G vs (ds ++ [d]) → ∃ ws y, vs = ws ++ [y] ∧ RepAll K G ws ds ∧ Rep K G y d
  | [], _, _, .cons h .nil => ⟨[], _, rfl, .nil, h⟩
  | _ :: ds, _, _, .cons h r => by
    obtain ⟨ws, y, e, r1, r2⟩ := RepAll.snoc r
    exact ⟨_ :: ws, y, by rw [e]; rfl, .cons h r1, r2⟩
end
section
variable {gl : List D} {Φ : Fns} {ca : EC → Addr} {X : Cx} {W : WX} {a b e : Expr} {p q r : PEx} {i : Nat} {x : Str} {px pos apos : Pos}
theorem snd_pop (hN : X.N[i]? = some x) (hv : Vis X.env.scope x) (hd : (x == ("__debug__" : Str)) = false) (hcd : (x == ("__classdict__" : Str)) = false) (hl : (apos.endLine == pos.line) = true) : Snd gl Φ ca X W (.Call (.Attribute (.Name x px) "pop" apos) [] [] pos) (.pop i) := by
  intro Γ R E hs σ G H F st Q kn kx
  unfold sem at hs
  obtain ⟨ds, d, e0, hs⟩ := hs
  refine wE_of (pe_bm0 PySem.F.plainAttrs_list PySem.F.slot_list_pop PySem.F.type_list_pop mt_pop (pe_var hN hv hd hcd) (base_ok rfl) hl) ?_
  rcases st.env.ent i _ e0 with z | ⟨v, h1, h2⟩
  · cases z
  obtain ⟨l, vs, S', rfl, eS, hg, hh, ra, nl⟩ := h2.lst_inv
  obtain ⟨rs, eS0⟩ := ra.to_sh
  subst eS0
  obtain ⟨ws, y, rfl, r1, r2⟩ := rs.snoc
  have hlen : i < Γ.length := by
    rcases Nat.lt_or_ge i Γ.length with z | z
    · exact z
    · rw [List.getElem?_eq_none_iff.mpr z] at e0; cases e0
  have hlF : l ∈ F i := by rw [eS]; exact List.mem_cons_self
  refine ⟨.ref l, h1, .inl ⟨rfl, _, SqL.of hh⟩, l, ws ++ [y], y, rfl, rfl, hh, by simp, ?_⟩
  rw [List.dropLast_concat]
  have rn : ORep X.K G (upd H l (.lst ws)) (.ref l) (.lst (ds.map .sh)) [l] := .lst hg upd_same (ORepAll.of_sh r1) fun z => nomatch z
  have hS : ∀ q, q ∈ [l] → q ∈ F i := fun q hq => by rw [List.mem_singleton.mp hq]; exact hlF
  exact kn y (.sh d) [] _ G _ _ (st.mut hlF hlen h1 rn fun q hq => .inl (hS q hq)) (Stp.refl.mut hlF fun q hq => .inl ⟨i, hS q hq⟩) (.sh r2) (fun _ z => nomatch z) (fun _ z => nomatch z) hs
theorem snd_dget2 (hu : X.A.units + 64 < cLine) (hb : plainBase e = true) (hl : (apos.endLine == pos.line) = true) (na : notStar a = true) (nb : notStar b = true) (he : Snd gl Φ ca X W e p) (ha : Snd gl Φ ca X W a q) (hbb : Snd gl Φ ca X W b r) :
    Snd gl Φ ca X W (.Call (.Attribute e "get" apos) [a, b] [] pos) (.dget2 p q r) := by
  intro Γ R E hs σ G H F st Q kn kx
  unfold sem at hs
  refine wE_of (pe_dget2 (by omega) pe_w pe_w pe_w ⟨base_ok hb, few_any (by simp [na, nb]) rfl, hl, by rw [star_ok na, star_ok nb] <;> rfl⟩) ?_
  refine he Γ _ E hs σ G H F st _ (kon_imp (R' := fun o Γ1 => ∃ d, asD o = some d ∧ ∃ ks ds, d = .dct ks ds ∧ sem gl Φ q Γ1 (fun o2 Γ2 => ∃ x, o2 = .sh (.str x) ∧ sem gl Φ r Γ2 (fun o3 Γ3 => ∃ d3, asD o3 = some d3 ∧ R (.sh ((lookF ks ds x).getD d3)) Γ3) E) E) (fun o Γ1 ⟨ks, ds, e1, h⟩ => ⟨_, e1, ks, ds, rfl, h⟩) (kon_D fun v d Γ1 G1 H1 F1 st1 sp1 r1 hs1 => ?_)) kx
  obtain ⟨ks, ds, rfl, hs1⟩ := hs1
  cases r1 with | dct g1 ek ra =>
  refine ⟨_, rfl, .inl ⟨_, same_rd st1.gh g1⟩, ?_⟩
  refine ha Γ1 _ E hs1 σ G1 H1 F1 st1 _ (fun v2 o2 S2 Γ2 G2 H2 F2 st2 sp2 r2 d1 d2 hs2 => ?_) (kx.step sp1)
  obtain ⟨xk, rfl, hs2⟩ := hs2
  obtain ⟨rk', _⟩ := r2.sh_inv
  cases rk'
  refine hbb Γ2 _ E hs2 σ G2 H2 F2 st2 _ (kon_D fun v3 d3 Γ3 G3 H3 F3 st3 sp3 r3 hs3 => ?_) (kx.step (sp1.trans sp2))
  have g3 := same_rd sp3.gg (same_rd sp2.gg g1)
  have ra3 := (ra.mono sp2.gg).mono sp3.gg
  refine ⟨_, .inl ⟨_, (Sum.inr xk : Key), same_rd st3.gh g3, rfl, rfl⟩, ?_⟩
  have key : ∀ (kvs : List (Key × V)) (ks : List Str) (ds : List D), kvs.map (·.1) = ks.map Sum.inr → RepAll X.K G3 (kvs.map (·.2)) ds → Rep X.K G3 ((valV kvs (Sum.inr xk : Key)).getD v3) ((lookF ks ds xk).getD d3) := by
    intro kvs
    induction kvs with
    | nil =>
      intro ks ds h r
      cases ks with
      | nil => cases r; exact r3
      | cons k ks => cases h
    | cons kv kvs ih =>
      intro ks ds h r
      cases ks with
      | nil => cases h
      | cons k ks =>
        cases r with | @cons _ _ dd dr ra rb =>
        simp only [List.map_cons, List.cons.injEq] at h
        by_cases z : k = xk
        · subst z
          rw [show valV (kv :: kvs) (Sum.inr k : Key) = some kv.2 by unfold valV; rw [List.find?_cons, h.1]; simp]
          rw [show lookF (k :: ks) (dd :: dr) k = some dd from if_pos rfl]
          exact ra
        · rw [show valV (kv :: kvs) (Sum.inr xk : Key) = valV kvs (Sum.inr xk : Key) by unfold valV; rw [List.find?_cons, h.1]; simp [z]]
          rw [show lookF (k :: ks) (dd :: dr) xk = lookF ks dr xk from if_neg z]
          exact ih ks _ h.2 rb
  exact (kn.step ((sp1.trans sp2).trans sp3)).val st3 (key _ _ _ ek ra3) hs3
theorem snd_dpop (hN : X.N[i]? = some x) (hv : Vis X.env.scope x) (hd : (x == ("__debug__" : Str)) = false) (hcd : (x == ("__classdict__" : Str)) = false) (hl : (apos.endLine == pos.line) = true) (na : notStar a = true) (ha : Snd gl Φ ca X W a q) :
    Snd gl Φ ca X W (.Call (.Attribute (.Name x px) "pop" apos) [a] [] pos) (.dpop i q) := by
  intro Γ R E hs σ G H F st Q kn kx
  unfold sem at hs
  obtain ⟨⟨ks0, vs0, e0⟩, hs⟩ := hs
  refine wE_of (pe_dpop1 (pe_var hN hv hd hcd) pe_w ⟨base_ok rfl, few_any (by simp [na]) rfl, hl, by rw [star_ok na] <;> rfl⟩) ?_
  rcases st.env.ent i _ e0 with z | ⟨v, h1, r0⟩
  · cases z
  obtain ⟨pa, kvs0, S0, rfl, eS0, hg0, hh0, en0, ra0, nl0⟩ := r0.dct_inv
  refine ⟨_, h1, pa, rfl, .inl ⟨_, .inl hh0⟩, ?_⟩
  refine ha Γ _ E hs σ G H F st _ (fun v2 o2 S2 Γ1 G1 H1 F1 st1 sp1 r2 d1 d2 hs1 => ?_) kx
  obtain ⟨xk, ks, vs, rfl, e1, hx, hs1⟩ := hs1
  obtain ⟨rk', _⟩ := r2.sh_inv
  cases rk'
  rcases st1.env.ent i _ e1 with z | ⟨v', h2, r'⟩
  · cases z
  rw [h1] at h2
  cases h2
  obtain ⟨pb, kvs, S1, eq, eS, hg, hh, en, ra, nl⟩ := r'.dct_inv
  cases eq
  have hlen : i < Γ1.length := by
    rcases Nat.lt_or_ge i Γ1.length with z | z
    · exact z
    · rw [List.getElem?_eq_none_iff.mpr z] at e1; cases e1
  have hlF : pa ∈ F1 i := by rw [eS]; exact List.mem_cons_self
  have hsome : ∃ w, valV kvs (Sum.inr xk : Key) = some w := by
    have := look_val en xk
    rw [decide_eq_true hx] at this
    exact Option.isSome_iff_exists.mp this
  obtain ⟨w, ew⟩ := hsome
  refine ⟨kvs, Sum.inr xk, w, hh, rfl, ew, ?_⟩
  obtain ⟨S', rd, hS'⟩ := (drop_vals (x := xk) en ra).2
  have up : ∀ c u, c ≠ pa → H1 c = some u → upd H1 pa (.dK (dropK kvs (Sum.inr xk : Key))) c = some u := fun c u hc e => by rw [upd_ne hc]; exact e
  have nS : pa ∉ S' := fun z => nl (hS' pa z)
  have rn : ORep X.K G1 (upd H1 pa (.dK (dropK kvs (Sum.inr xk : Key)))) (.ref pa) (.dct (dropO ks vs xk).1 (dropO ks vs xk).2) (pa :: S') :=
    .dct hg upd_same (drop_vals (x := xk) en ra).1 (rd.keep (Same.refl _) (fun c hc => (rd.foot c hc).1) fun c u hc e => up c u (fun z => nS (z ▸ hc)) e) nS
  have hS : ∀ c, c ∈ pa :: S' → c ∈ F1 i := fun c hc => by
    rw [eS]
    rcases List.mem_cons.mp hc with rfl | z
    · exact List.mem_cons_self
    · exact List.mem_cons_of_mem _ (hS' c z)
  exact kn w .un [] _ G1 _ _ (st1.mut hlF hlen h1 rn fun c hc => .inl (hS c hc)) (sp1.mut hlF fun c hc => sp1.ff i c (hS c hc)) .un (fun _ z => nomatch z) (fun _ z => nomatch z) hs1
/-- `or` over a list, or None -/
def tOrL (K : PySem.W.Frag) (ta tb : TE) : TE := fun σ H Q => ta σ H fun x H1 => ((x = .non ∨ ∃ l, x = .ref l ∧ SqL K H1 l []) ∧ tb σ H1 Q) ∨ ∃ l v vs, x = .ref l ∧ SqL K H1 l (v :: vs) ∧ Q x H1
theorem pe_orL {ta tb : TE} (ha : PE X a ta) (hb : PE X b tb) : PE X (.BoolOp .Or [a, b] pos) (tOrL X.K ta tb) := by
  refine ⟨fun pins s σ H Q I h => ?_⟩
  refine BoolOp_or (thn (ha.run pins s σ H _ I h) fun v s1 ⟨y, H1, I1, r1, q1⟩ => ?_)
  have lst : ∀ {l : Addr} {xs : List V}, SqL X.K H1 l xs → ∃ its : Array Value, s1.heap.IsList l its ∧ (its.size : Int) < 2 ^ 63 ∧ its.size = xs.length := fun {l xs} hl => by
    obtain ⟨its, rv, ⟨o, n, ho, hc, hdn, hdt⟩, hlen⟩ := I1.list hl
    have := rv.length
    have := sizeLine_eq
    refine ⟨its.toArray, ⟨o, ho, hc, n, hdt⟩, ?_, ?_⟩
    · rw [List.size_toArray]; omega
    · rw [List.size_toArray]; omega
  rcases q1 with ⟨rfl | ⟨l, rfl, hl⟩, q⟩ | ⟨l, v', vs, rfl, hl, q⟩
  · cases r1
    have z : (if (false : Bool) = true then EP X pins σ Q Value.none s1 else wpAny (model X.prog X.w) X.A (eval (.BoolOp .Or [b] pos) X.env) (EP X pins σ Q) X.xe s1) := by
      rw [if_neg (by decide)]
      exact (pe_one hb).run pins s1 σ H1 Q I1 q
    exact fun _ _ _ => z
  · cases r1
    obtain ⟨its, h1, h2, h3⟩ := lst hl
    have e : its.isEmpty = true := by
      rw [Array.isEmpty_iff_size_eq_zero]
      exact h3
    refine wpAny_truthy_list h1 h2 ?_
    rw [e]
    exact (pe_one hb).run pins _ σ H1 Q (I1.tok _) q
  · cases r1
    obtain ⟨its, h1, h2, h3⟩ := lst hl
    have e : its.isEmpty = false := by
      cases q : its.isEmpty with
      | false => rfl
      | true =>
        rw [Array.isEmpty_iff_size_eq_zero] at q
        rw [q] at h3
        cases h3
    refine wpAny_truthy_list h1 h2 ?_
    rw [e]
    exact ⟨.ref l, H1, I1.tok _, rfl, q⟩
theorem snd_orL (ha : Snd gl Φ ca X W a p) (hb : Snd gl Φ ca X W b q) : Snd gl Φ ca X W (.BoolOp .Or [a, b] pos) (.orL p q) := by
  intro Γ R E hs σ G H F st Q kn kx
  unfold sem at hs
  refine wE_of (pe_orL pe_w pe_w) ?_
  refine ha Γ _ E hs σ G H F st _ (kon_D fun v d Γ1 G1 H1 F1 st1 sp1 r1 hs1 => ?_) kx
  split at hs1
  · cases r1 with | lst g r =>
    cases r
    exact .inl ⟨.inr ⟨_, rfl, SqL.of (st1.gh _ _ g)⟩, hb Γ1 _ E hs1 σ G1 H1 F1 st1 _ (kn.step sp1) (kx.step sp1)⟩
  · cases r1 with | lst g r =>
    cases r with | cons r1 r2 =>
    exact .inr ⟨_, _, _, rfl, SqL.of (st1.gh _ _ g), (kn.step sp1).val st1 (.lst g (.cons r1 r2)) hs1⟩
  · cases r1
    exact .inl ⟨.inl rfl, hb Γ1 _ E hs1 σ G1 H1 F1 st1 _ (kn.step sp1) (kx.step sp1)⟩
  · exact hs1.elim
theorem snd_appT {kk : Nat} {pn : Pos} (hb : plainBase e = true) (hl : (apos.endLine == pos.line) = true) (he : Snd gl Φ ca X W e p) : Snd gl Φ ca X W (.Call (.Attribute e "append" apos) [.Constant .none kk pn] [] pos) (.appT p) := by
  intro Γ R E hs σ G H F st Q kn kx
  unfold sem at hs
  refine wE_of (pe_bm PySem.F.plainAttrs_list PySem.F.slot_list_append PySem.F.type_list_append mt_append pe_w (pa_cons pe_non pa_nil rfl) (base_ok hb) rfl hl rfl rfl) ?_
  refine he Γ _ E hs σ G H F st _ (fun v o S Γ1 G1 H1 F1 st1 sp1 r1 d1 d2 hs1 => ?_) kx
  obtain ⟨os, rfl, hz, hs1⟩ := hs1
  obtain ⟨l, vs, S', rfl, eS, hg, hh, ra, nl⟩ := r1.lst_inv
  have hlS : l ∈ S := by rw [eS]; exact List.mem_cons_self
  refine ⟨.inl ⟨rfl, vs, SqL.of hh⟩, l, vs, .non, rfl, rfl, hh, sizeLine_lt (by rw [ra.len]; exact hz), ?_⟩
  have st2 := st1.updOut (u := .lst (vs ++ [.non])) (d1 l hlS) hg
  have sp2 : Stp G H F G1 (upd H1 l (.lst (vs ++ [.non]))) F1 := ⟨sp1.gg, fun c u h1 e => ?_, sp1.gn, sp1.ff⟩
  · exact kn .non (.sh .non) [] Γ1 G1 _ F1 st2 sp2 (.sh .non) (fun _ z => nomatch z) (fun _ z => nomatch z) hs1
  · by_cases z : c = l
    · subst z
      rcases d2 c hlS with ⟨j, y⟩ | y
      · exact absurd y (h1 j)
      · rw [y] at e; cases e
    · rw [upd_ne z]
      exact sp1.hh c u h1 e
/-- an owned dict, of which nobody changes anything any more -/
theorem snd_frz (he : Snd gl Φ ca X W e p) : Snd gl Φ ca X W e (.frz p) := by
  intro Γ R E hs σ G H F st Q kn kx
  unfold sem at hs
  have h1 : wE X e σ H (fun v H1 => ∃ l kvs, v = .ref l ∧ H1 l = some (.dK kvs) ∧ ∀ od, Q v (upd H1 l (.frz od (.dK kvs)))) := by
    refine he Γ _ E hs σ G H F st _ (fun v o S Γ1 G1 H1 F1 st1 sp1 r1 d1 d2 hs1 => ?_) kx
    obtain ⟨ks, ds, rfl, hs1⟩ := hs1
    obtain ⟨l, kvs, S', rfl, eS, hg, hh, ek, ra, nl⟩ := r1.dct_inv
    obtain ⟨rs, eS0⟩ := ra.to_sh
    subst eS0
    have hlS : l ∈ S := by rw [eS]; exact List.mem_cons_self
    refine ⟨l, kvs, rfl, hh, fun od => ?_⟩
    have one : ∀ p, p ∈ [l] → p = l := fun p hp => List.mem_singleton.mp hp
    have hg1 : ∀ p, p ∈ [l] → G1 p = none := fun p hp => by rw [one p hp]; exact hg
    have st2 := st1.updOut (u := .frz od (.dK kvs)) (d1 l hlS) hg
    have st3 := st2.pub (S := [l]) (fun p hp j => by rw [one p hp]; exact d1 l hlS j) hg1
    have gl1 : pubG G1 (upd H1 l (.frz od (.dK kvs))) [l] l = some (.frz od (.dK kvs)) := by rw [pubG_in List.mem_cons_self]; exact upd_same
    have sp : Stp G H F (pubG G1 (upd H1 l (.frz od (.dK kvs))) [l]) (upd H1 l (.frz od (.dK kvs))) F1 := by
      refine ⟨sp1.gg.trans (pubG_same hg1), fun a o h e => ?_, fun p h1 h2 h3 => ?_, sp1.ff⟩
      · by_cases z : a = l
        · subst z
          rcases d2 a hlS with ⟨j, y⟩ | y
          · exact absurd y (h j)
          · rw [y] at e; cases e
        · rw [upd_ne z]
          exact sp1.hh a o h e
      · rw [pubG_out fun z => ?_]
        · exact sp1.gn p h1 h2 h3
        · have z2 := one p z
          subst z2
          rcases d2 p hlS with ⟨j, y⟩ | y
          · exact h3 j y
          · exact h1 y
    exact kn (.ref l) (.sh (.fct ks ds)) [] Γ1 _ _ F1 st3 sp (.sh (.fct gl1 ek (rs.mono (pubG_same hg1)))) (fun _ z => nomatch z) (fun _ z => nomatch z) hs1
  intro pins s I
  refine thn (h1 pins s I) fun u s1 ⟨x, H1, I1, rx, l, kvs, ex, hh, q⟩ => ?_
  obtain ⟨od, I2⟩ := I1.lock hh trivial
  exact ⟨x, _, I2, rx, q od⟩
/-- a dict that is walked is read alone from then on -/
theorem sndI_itD {tg : Expr} (hN : X.N[i]? = some x) (hv : Vis X.env.scope x) (hd : (x == ("__debug__" : Str)) = false) (hcd : (x == ("__classdict__" : Str)) = false) : SndI gl Φ ca X W tg (.Name x px) (.itD i) := by
  intro Γ R E hs σ G H F st Q kn kx
  unfold semI at hs
  obtain ⟨ks, ds, ⟨e0, hs⟩ | ⟨e0, hs⟩⟩ := hs
  rotate_left
  · rcases st.env.ent i _ e0 with z | ⟨v, h1, h2⟩
    · cases z
    have h3 := h2.sh_inv.1
    cases h3 with | @fct l od kvs _ _ gl1 ek rs =>
    intro pins s I
    refine (pi_keys (pe_var hN hv hd hcd)).run pins s σ _ Q I ⟨.ref l, h1, l, od, rfl, .inl ⟨kvs, st.gh _ _ gl1, ?_⟩⟩
    refine kn (Itk l od kvs) _ _ _ _ _ st Stp.refl ?_ hs
    have ln : kvs.length = (ks.map D.str).length := by
      have := congrArg List.length ek
      rw [List.length_map, List.length_map] at this
      rw [List.length_map, this]
    rw [IterOk, ← ln]
    refine walk_keys.mono (fun H h => h _ _ gl1) fun j H y H' _ _ h => ?_
    obtain ⟨e1, k, v, e2, rfl⟩ := h
    have e3 : (kvs.map (·.1))[j]? = some k := by rw [List.getElem?_map, e2]; rfl
    rw [ek, List.getElem?_map] at e3
    cases e4 : ks[j]? with
    | none => rw [e4] at e3; cases e3
    | some t =>
      rw [e4] at e3
      cases e3
      exact ⟨.str t, by rw [List.getElem?_map, e4]; rfl, .inl ⟨e1, .str t⟩⟩
  rcases st.env.ent i _ e0 with z | ⟨v, h1, h2⟩
  · cases z
  obtain ⟨l, kvs, S', rfl, eS, hg, hh, ek, ra, nl⟩ := h2.dct_inv
  obtain ⟨rs, eS0⟩ := ra.to_sh
  subst eS0
  have hlF : l ∈ F i := by rw [eS]; exact List.mem_cons_self
  have hlen := lt_of_get e0
  intro pins s I
  obtain ⟨od, I1⟩ := I.lock hh trivial
  have st1 : Sta X.K σ (Γ.set i .un) G (upd H l (.frz od (.dK kvs))) (setF F i []) := st.mut hlF hlen h1 .un fun _ z => nomatch z
  have nF : ∀ j, l ∉ setF F i [] j := fun j hj => by
    by_cases q : j = i
    · subst q; rw [setF_same] at hj; exact nomatch hj
    · rw [setF_ne q] at hj; exact q (st.env.dis j i l hj hlF)
  have one : ∀ p, p ∈ [l] → p = l := fun p hp => List.mem_singleton.mp hp
  have hg1 : ∀ p, p ∈ [l] → G p = none := fun p hp => by rw [one p hp]; exact hg
  have st2 := st1.pub (S := [l]) (fun p hp j => by rw [one p hp]; exact nF j) hg1
  have gl1 : pubG G (upd H l (.frz od (.dK kvs))) [l] l = some (.frz od (.dK kvs)) := by rw [pubG_in List.mem_cons_self]; exact upd_same
  have rp : Rep X.K (pubG G (upd H l (.frz od (.dK kvs))) [l]) (.ref l) (.dct ks ds) := .dct (.inr ⟨od, gl1⟩) ek (rs.mono (pubG_same hg1))
  have st3 := st2.swap (i := i) (o := .un) (o' := .sh (.dct ks ds)) (v := .ref l) (List.getElem?_set_self hlen) h1 (by rw [setF_same]; exact .sh rp)
  rw [List.set_set] at st3
  have sp : Stp G H F (pubG G (upd H l (.frz od (.dK kvs))) [l]) (upd H l (.frz od (.dK kvs))) (setF F i []) := by
    refine ⟨pubG_same hg1, fun a o h e => ?_, fun p _ h2 h3 => ?_, fun j p hp => ?_⟩
    · rw [upd_ne fun z => h i (by rw [z]; exact hlF)]; exact e
    · rw [pubG_out fun z => h3 i (by rw [one p z]; exact hlF)]; exact h2
    · by_cases q : j = i
      · subst q; rw [setF_same] at hp; exact nomatch hp
      · rw [setF_ne q] at hp; exact .inl ⟨j, hp⟩
  refine (pi_keys (pe_var hN hv hd hcd)).run pins s σ _ Q I1 ⟨.ref l, h1, l, od, rfl, .inl ⟨kvs, upd_same, ?_⟩⟩
  refine kn (Itk l od kvs) _ _ _ _ _ st3 sp ?_ hs
  have ln : kvs.length = (ks.map D.str).length := by
    have := congrArg List.length ek
    rw [List.length_map, List.length_map] at this
    rw [List.length_map, this]
  rw [IterOk, ← ln]
  refine walk_keys.mono (fun H h => h _ _ gl1) fun j H y H' _ _ h => ?_
  obtain ⟨e1, k, v, e2, rfl⟩ := h
  have e3 : (kvs.map (·.1))[j]? = some k := by rw [List.getElem?_map, e2]; rfl
  rw [ek, List.getElem?_map] at e3
  cases e4 : ks[j]? with
  | none => rw [e4] at e3; cases e3
  | some t =>
    rw [e4] at e3
    cases e3
    exact ⟨.str t, by rw [List.getElem?_map, e4]; rfl, .inl ⟨e1, .str t⟩⟩
end
end PW

end
section
set_option Elab.async false
set_option linter.all false
set_option maxRecDepth 100000
set_option maxHeartbeats 4000000
/-! PN1: lists in fields: append, extend, pop. -/
namespace PW
open PySem PySem.Spec PyProof.Rows L2
section
variable {gl : List D} {Φ : Fns} {ca : EC → Addr} {X : Cx} {W : WX} {a b e : Expr} {pe : PEx} {pos px pa apos : Pos} {x cn f : Str} {i j : Nat}
theorem snd_cmp2 {d : Expr} {p q r : PEx} (hu : X.A.units + 64 < cLine) {op op2 : CmpOp} (hm : lastMarks [op, op2] [b, d] = false) (ha : Snd gl Φ ca X W a p) (hb : Snd gl Φ ca X W b q) (hdd : Snd gl Φ ca X W d r) : Snd gl Φ ca X W (.Compare a [op, op2] [b, d] pos) (.cmp2 op op2 p q r) := by
  intro Γ R E hs σ G H F st Q kn kx
  unfold sem at hs
  refine wE_of (pe_chain op_w op_w pe_w pe_w pe_w hm) ?_
  refine ha Γ _ E hs σ G H F st _ (kon_D fun v d Γ1 G1 H1 F1 st1 sp1 r1 hs1 => ?_) kx
  refine hb Γ1 _ E hs1 σ G1 H1 F1 st1 _ (kon_D fun v2 d2 Γ2 G2 H2 F2 st2 sp2 r2 hs2 => ?_) (kx.step sp1)
  refine cmp_ok hu st2.gh (r1.mono sp2.gg) r2 hs2 fun z hz => ⟨z, rfl, ?_⟩
  cases z with
  | true =>
    rw [if_pos rfl] at hz ⊢
    refine hdd Γ2 _ E hz σ G2 H2 F2 st2 _ (kon_D fun v3 d3 Γ3 G3 H3 F3 st3 sp3 r3 hs3 => ?_) (kx.step (sp1.trans sp2))
    exact cmp_ok hu st3.gh (r2.mono sp3.gg) r3 hs3 fun z2 hz2 => (kn.step ((sp1.trans sp2).trans sp3)).val st3 (.bl z2) hz2
  | false =>
    rw [if_neg (by decide)] at hz ⊢
    exact (kn.step (sp1.trans sp2)).val st2 (.bl false) hz
theorem sndT_cmp2 {d : Expr} {p q r : PEx} (hu : X.A.units + 64 < cLine) {op op2 : CmpOp} (hm : lastMarks [op, op2] [b, d] = false) (ha : Snd gl Φ ca X W a p) (hb : Snd gl Φ ca X W b q) (hdd : Snd gl Φ ca X W d r) : SndT gl Φ ca X W (.Compare a [op, op2] [b, d] pos) (.cmp2 op op2 p q r) := by
  intro Γ R E hs σ G H F st Q kn kx
  unfold semT sem at hs
  refine wT_of (pt_chain op_w op_w pe_w pe_w pe_w hm) ?_
  refine ha Γ _ E hs σ G H F st _ (kon_D fun v d Γ1 G1 H1 F1 st1 sp1 r1 hs1 => ?_) kx
  refine hb Γ1 _ E hs1 σ G1 H1 F1 st1 _ (kon_D fun v2 d2 Γ2 G2 H2 F2 st2 sp2 r2 hs2 => ?_) (kx.step sp1)
  refine cmp_ok hu st2.gh (r1.mono sp2.gg) r2 hs2 fun z hz => ⟨z, rfl, ?_⟩
  cases z with
  | true =>
    rw [if_pos rfl] at hz ⊢
    refine hdd Γ2 _ E hz σ G2 H2 F2 st2 _ (kon_D fun v3 d3 Γ3 G3 H3 F3 st3 sp3 r3 hs3 => ?_) (kx.step (sp1.trans sp2))
    refine cmp_ok hu st3.gh (r2.mono sp3.gg) r3 hs3 fun z2 hz2 => ⟨z2, rfl, ?_⟩
    obtain ⟨b', e', h'⟩ := hz2
    simp only [O.sh.injEq, D.bl.injEq] at e'
    subst e'
    exact kn z2 Γ3 G3 H3 F3 st3 ((sp1.trans sp2).trans sp3) h'
  | false =>
    rw [if_neg (by decide)] at hz ⊢
    obtain ⟨b', e', h'⟩ := hz
    simp only [O.sh.injEq, D.bl.injEq] at e'
    subst e'
    exact ⟨false, rfl, kn false Γ2 G2 H2 F2 st2 (sp1.trans sp2) h'⟩
/-- a thing in a field: what came of it -/
theorem fld_upd {G H : Hp} {σ : L2.St} {Γ : List O} {F : Nat → List Addr} {p dx q : Addr} {fvs : List (Str × V)} {fs : List Str} {os : List O} {oq oq' : O} {u : HO} {G0 H0 : Hp} {F0 : Nat → List Addr} {T : List Addr} (st : Sta X.K σ Γ G H F) (sp : Stp G0 H0 F0 G H F) (hT : ∀ a, a ∈ T → ∀ j, a ∉ F j) (hT2 : ∀ a, a ∈ T → (∃ j, a ∈ F0 j) ∨ H0 a = none) (e0 : Γ[i]? = some (.ins p cn fs os)) (h3 : σ[i]? = some (some (.ref p)))
    (hh : H p = some (.ins (clA X.K cn) dx fvs)) (el : fvs.lookup f = some (.ref q)) (ef : lookF fs os f = some oq)
    (hr : ∀ S, ORep X.K G H (.ref q) oq S → (∀ a, a ∈ S → a ∉ T) → q ∈ S ∧ ∃ S', ORep X.K G (upd H q u) (.ref q) oq' S' ∧ ∀ a, a ∈ S' → a ∈ S ∨ a ∈ T) :
    ∃ S', Sta X.K σ (Γ.set i (.ins p cn (putO fs os f oq').1 (putO fs os f oq').2)) G (upd H q u) (setF F i S') ∧ Stp G0 H0 F0 G (upd H q u) (setF F i S') := by
  rcases st.env.ent i _ e0 with z | ⟨v, h1, r⟩
  · cases z
  rw [h3] at h1
  cases h1
  obtain ⟨dx', fvs', S1, _, eS1, hg1, hh1, en, ra1, nl1⟩ := r.ins_inv
  rw [hh] at hh1
  cases hh1
  have key : ∀ (fvs : List (Str × V)) (fs : List Str) (os : List O) (S : List Addr), fvs.map (·.1) = fs → ORepAll X.K G H (fvs.map (·.2)) os S → fvs.lookup f = some (.ref q) → lookF fs os f = some oq →
      (∀ a, a ∈ S → a ∉ T) → fs = (putO fs os f oq').1 ∧ q ∈ S ∧ ∃ S', ORepAll X.K G (upd H q u) (fvs.map (·.2)) (putO fs os f oq').2 S' ∧ ∀ a, a ∈ S' → a ∈ S ∨ a ∈ T := by
    intro fvs
    induction fvs with
    | nil => intro fs os S _ _ h; cases h
    | cons g w ih =>
      obtain ⟨g, v⟩ := g
      intro fs os S en r hl hf hdT
      subst en
      rw [List.map_cons] at r
      cases r with
      | cons r1 r2 dj =>
        rename_i o1 os1 T1 T2
        rw [List.map_cons] at hf ⊢
        unfold lookF at hf
        unfold putO
        rw [List.lookup_cons] at hl
        by_cases z : g = f
        · rw [if_pos z] at hf ⊢
          rw [beq_iff_eq.mpr z.symm] at hl
          cases hl
          cases hf
          obtain ⟨qS, S', a, b⟩ := hr T1 r1 fun c hc => hdT c (List.mem_append_left _ hc)
          refine ⟨rfl, List.mem_append_left _ qS, S' ++ T2, .cons a (r2.keep (Same.refl _) (fun c hc => (r2.foot c hc).1) fun c u hc e => ?_) fun c hc hz => ?_, fun c hc => ?_⟩
          · rw [upd_ne fun (y : c = q) => dj q qS (y ▸ hc)]
            exact e
          · rcases b c hc with w | w
            · exact dj c w hz
            · exact hdT c (List.mem_append_right _ hz) w
          · rcases List.mem_append.mp hc with y | y
            · exact (b c y).imp (fun w => List.mem_append_left _ w) id
            · exact .inl (List.mem_append_right _ y)
        · rw [if_neg z] at hf ⊢
          rw [beq_eq_false_iff_ne.mpr fun y => z y.symm] at hl
          obtain ⟨a1, a2, S', a3, a4⟩ := ih _ os1 T2 rfl r2 hl hf fun c hc => hdT c (List.mem_append_right _ hc)
          refine ⟨by rw [← a1], List.mem_append_right _ a2, T1 ++ S', .cons (r1.keep (Same.refl _) (fun c hc => (r1.foot c hc).1) fun c u hc e => ?_) a3 (fun c hc hz => (a4 c hz).elim (dj c hc) (hdT c (List.mem_append_left _ hc))), fun c hc => ?_⟩
          · rw [upd_ne fun (y : c = q) => dj q (y ▸ hc) a2]
            exact e
          · rcases List.mem_append.mp hc with y | y
            · exact .inl (List.mem_append_left _ y)
            · exact (a4 c y).imp (fun w => List.mem_append_right _ w) id
  obtain ⟨a1, a2, S', a3, a4⟩ := key fvs fs os S1 en ra1 el ef fun c hc z => hT c z i (by rw [eS1]; exact List.mem_cons_of_mem _ hc)
  have pT : p ∉ T := fun z => hT p z i (by rw [eS1]; exact List.mem_cons_self)
  have hqF : q ∈ F i := by rw [eS1]; exact List.mem_cons_of_mem _ a2
  have hpq : p ≠ q := fun z => nl1 (z ▸ a2)
  have rn : ORep X.K G (upd H q u) (.ref p) (.ins p cn (putO fs os f oq').1 (putO fs os f oq').2) (p :: S') := .ins hg1 (by rw [upd_ne hpq]; exact hh) (by rw [← a1]; exact en) a3 fun z => (a4 p z).elim nl1 pT
  have hS : ∀ c, c ∈ p :: S' → c ∈ F i ∨ c ∈ T := fun c hc => by
    rw [eS1]
    rcases List.mem_cons.mp hc with rfl | z
    · exact .inl List.mem_cons_self
    · exact (a4 c z).imp (fun w => List.mem_cons_of_mem _ w) id
  exact ⟨p :: S', st.mut hqF (lt_of_get e0) h3 rn fun c hc => (hS c hc).imp id fun w => hT c w, sp.mut hqF fun c hc => (hS c hc).elim (fun w => sp.ff i c w) fun w => hT2 c w⟩
/-- what is lent stays as it was -/
theorem lent_kept {G H G' H' : Hp} {σ' : L2.St} {Γ1 : List O} {F F' : Nat → List Addr} {S : List Addr} (st' : Sta X.K σ' Γ1 G' H' F') (sp' : Stp (pubG G H S) H (setF F i []) G' H' F') {c : Addr} {u : HO} (hc : c ∈ S) (e : H c = some u) : H' c = some u := st'.gh c u (sp'.gg c u (by rw [pubG_in hc]; exact e))
theorem snd_lapp (hf : FldOk X cn f) (hN : X.N[i]? = some x) (hv : Vis X.env.scope x) (hd : (x == ("__debug__" : Str)) = false) (hcd : (x == ("__classdict__" : Str)) = false) (hl : (apos.endLine == pos.line) = true) (hn : notStar e = true)
    (ha : Snd gl Φ ca X W e pe) : Snd gl Φ ca X W (.Call (.Attribute (.Attribute (.Name x px) f pa) "append" apos) [e] [] pos) (.lapp cn i f pe) := by
  intro Γ R E hs σ G H F st Q kn kx
  unfold sem at hs
  obtain ⟨p, fs, os, d, e0, ed, ⟨ls, ef⟩, hs⟩ := hs
  refine wE_of (pe_bm PySem.F.plainAttrs_list PySem.F.slot_list_append PySem.F.type_list_append mt_append (pe_fld (pe_var hN hv hd hcd) (base_ok rfl)) (pa_cons pe_w pa_nil (star_ok hn)) (base_ok rfl) (few_ok (by simp [hn]) rfl) hl (star_ok hn) rfl) ?_
  rcases st.env.ent i _ e0 with z | ⟨v, h1, r⟩
  · cases z
  have r0 := r
  obtain ⟨dx, fvs, S', rfl, eS, hg, hh, en, ra, np⟩ := r.ins_inv
  obtain ⟨vq, Tq, el, rq, hTq⟩ := fld_getO en ra ef
  obtain ⟨q, vs, S2, rfl, eS2, hgq, hhq, raq, nq⟩ := rq.lst_inv
  have hqF : q ∈ F i := by rw [eS]; exact List.mem_cons_of_mem _ (hTq q (by rw [eS2]; exact List.mem_cons_self))
  have hpF : p ∈ F i := by rw [eS]; exact List.mem_cons_self
  refine ⟨_, h1, p, _, dx, fvs, .ref q, rfl, hh, hf.1, hf.2, el, .inl ⟨rfl, vs, SqL.of hhq⟩, ?_⟩
  obtain ⟨st2, _, rp⟩ := st.pubAt e0 h1 r0 ed
  refine ha _ _ _ hs σ _ H _ st2 _ (fun v' r' S Γ1 G' H' F' st' sp' rr d1 d2 h => ?_) (fun C n Γ1 G' H' F' dd st' sp' hx h => ?_)
  · obtain ⟨e1, hc, hlo, ls2, ef2, hz, hR⟩ := h
    rw [ef] at ef2
    cases ef2
    obtain ⟨hnt, st3, sp3⟩ := st.unlend e0 h1 r0 st' sp' hlo e1
    have hq' := lent_kept st' sp' hqF hhq
    have hp' := lent_kept st' sp' hpF hh
    have rc := rr.cut hnt hc
    have dT : ∀ c, c ∈ S → ∀ k, c ∉ setF F' i (F i) k := fun c hc k hk => by
      by_cases z : k = i
      · subst z
        rw [setF_same] at hk
        obtain ⟨u, g, _⟩ := hnt c hk
        rw [(rr.foot c hc).1] at g
        cases g
      · rw [setF_ne z] at hk; exact d1 c hc k hk
    have dT2 : ∀ c, c ∈ S → (∃ k, c ∈ F k) ∨ H c = none := fun c hc => (d2 c hc).imp (fun ⟨k, y⟩ => by
      by_cases z : k = i
      · subst z; rw [setF_same] at y; exact nomatch y
      · rw [setF_ne z] at y; exact ⟨k, y⟩) id
    refine ⟨q, vs, v', rfl, rfl, hq', sizeLine_lt (by rw [raq.len]; exact hz), ?_⟩
    have hlen1 : i < Γ1.length := lt_of_get e1
    obtain ⟨S9, st9, sp9⟩ := fld_upd (u := .lst (vs ++ [v'])) (oq' := .lst (ls ++ [r'])) st3 sp3 dT dT2 (List.getElem?_set_self hlen1) h1 hp' el ef fun S8 r8 dj => by
      obtain ⟨q8, vs8, S7, eq8, eS8, g8, h8, ra8, n8⟩ := r8.lst_inv
      cases eq8
      rw [hq'] at h8
      cases h8
      have nlS : q ∉ S := dj q (by rw [eS8]; exact List.mem_cons_self) 
      have up : ∀ c u, c ≠ q → H' c = some u → upd H' q (.lst (vs ++ [v'])) c = some u := fun c u hc e => by rw [upd_ne hc]; exact e
      refine ⟨by rw [eS8]; exact List.mem_cons_self, q :: (S7 ++ S), .lst g8 upd_same (ORepAll.append (ra8.keep (Same.refl _) (fun c hc => (ra8.foot c hc).1) fun c u hc e => up c u (fun z => n8 (z ▸ hc)) e)
        (ORepAll.one (rc.keep (Same.refl _) (fun c hc => (rc.foot c hc).1) fun c u hc e => up c u (fun z => nlS (z ▸ hc)) e)) fun c hc => dj c (by rw [eS8]; exact List.mem_cons_of_mem _ hc)) (fun z => (List.mem_append.mp z).elim n8 nlS), fun c hc => ?_⟩
      rw [eS8]
      rcases List.mem_cons.mp hc with rfl | z
      · exact .inl List.mem_cons_self
      · exact (List.mem_append.mp z).imp (fun z => List.mem_cons_of_mem _ z) id
    rw [List.set_set] at st9
    exact kn .non (.sh .non) [] _ _ _ _ st9 sp9 (.sh .non) (fun _ z => nomatch z) (fun _ z => nomatch z) hR
  · obtain ⟨e1, hlo, hE⟩ := h
    obtain ⟨_, st3, sp3⟩ := st.unlend e0 h1 r0 st' sp' hlo e1
    exact kx C n _ _ H' _ dd st3 sp3 hx hE
theorem snd_lext (hf : FldOk X cn f) (hN : X.N[i]? = some x) (hv : Vis X.env.scope x) (hd : (x == ("__debug__" : Str)) = false) (hcd : (x == ("__classdict__" : Str)) = false) (hl : (apos.endLine == pos.line) = true) (hn : notStar e = true)
    (ha : Snd gl Φ ca X W e pe) : Snd gl Φ ca X W (.Call (.Attribute (.Attribute (.Name x px) f pa) "extend" apos) [e] [] pos) (.lext cn i f pe) := by
  intro Γ R E hs σ G H F st Q kn kx
  unfold sem at hs
  obtain ⟨p, fs, os, d, e0, ed, ⟨ls, ef⟩, hs⟩ := hs
  refine wE_of (pe_bm PySem.F.plainAttrs_list PySem.F.slot_list_extend PySem.F.type_list_extend mt_extend (pe_fld (pe_var hN hv hd hcd) (base_ok rfl)) (pa_cons pe_w pa_nil (star_ok hn)) (base_ok rfl) (few_ok (by simp [hn]) rfl) hl (star_ok hn) rfl) ?_
  rcases st.env.ent i _ e0 with z | ⟨v, h1, r⟩
  · cases z
  have r0 := r
  obtain ⟨dx, fvs, S', rfl, eS, hg, hh, en, ra, np⟩ := r.ins_inv
  obtain ⟨vq, Tq, el, rq, hTq⟩ := fld_getO en ra ef
  obtain ⟨q, vs, S2, rfl, eS2, hgq, hhq, raq, nq⟩ := rq.lst_inv
  have hqF : q ∈ F i := by rw [eS]; exact List.mem_cons_of_mem _ (hTq q (by rw [eS2]; exact List.mem_cons_self))
  have hpF : p ∈ F i := by rw [eS]; exact List.mem_cons_self
  refine ⟨_, h1, p, _, dx, fvs, .ref q, rfl, hh, hf.1, hf.2, el, .inl ⟨rfl, vs, SqL.of hhq⟩, ?_⟩
  obtain ⟨st2, _, rp⟩ := st.pubAt e0 h1 r0 ed
  refine ha _ _ _ hs σ _ H _ st2 _ (kon_D fun v' dr Γ1 G' H' F' st' sp' rr h => ?_) (fun C n Γ1 G' H' F' dd st' sp' hx h => ?_)
  · obtain ⟨ds, ls2, rfl, e1, hc, hlo, ef2, hz, hR⟩ := h
    rw [ef] at ef2
    cases ef2
    obtain ⟨hnt, st3, sp3⟩ := st.unlend e0 h1 r0 st' sp' hlo e1
    have hq' := lent_kept st' sp' hqF hhq
    have hp' := lent_kept st' sp' hpF hh
    cases rr with | lst g1 q1 =>
    rename_i b ws
    have qc := q1.cut hnt hc
    refine ⟨q, b, vs, ws, rfl, rfl, hq', st'.gh _ _ g1, sizeLine_le (by rw [raq.len, q1.len]; exact hz), ?_⟩
    have hlen1 : i < Γ1.length := lt_of_get e1
    obtain ⟨S9, st9, sp9⟩ := fld_upd (u := .lst (vs ++ ws)) (oq' := .lst (ls ++ ds.map .sh)) (T := []) st3 sp3 (fun _ z => nomatch z) (fun _ z => nomatch z) (List.getElem?_set_self hlen1) h1 hp' el ef fun S8 r8 dj => by
      obtain ⟨q8, vs8, S7, eq8, eS8, g8, h8, ra8, n8⟩ := r8.lst_inv
      cases eq8
      rw [hq'] at h8
      cases h8
      have up : ∀ c u, c ≠ q → H' c = some u → upd H' q (.lst (vs ++ ws)) c = some u := fun c u hc e => by rw [upd_ne hc]; exact e
      refine ⟨by rw [eS8]; exact List.mem_cons_self, q :: (S7 ++ []), .lst g8 upd_same (ORepAll.append (ra8.keep (Same.refl _) (fun c hc => (ra8.foot c hc).1) fun c u hc e => up c u (fun z => n8 (z ▸ hc)) e)
        (ORepAll.of_sh qc) fun _ _ z => nomatch z) (by rw [List.append_nil]; exact n8), fun c hc => ?_⟩
      rw [List.append_nil] at hc
      rw [eS8]
      exact .inl hc
    rw [List.set_set] at st9
    exact kn .non (.sh .non) [] _ _ _ _ st9 sp9 (.sh .non) (fun _ z => nomatch z) (fun _ z => nomatch z) hR
  · obtain ⟨e1, hlo, hE⟩ := h
    obtain ⟨_, st3, sp3⟩ := st.unlend e0 h1 r0 st' sp' hlo e1
    exact kx C n _ _ H' _ dd st3 sp3 hx hE
theorem snd_lpop (hf : FldOk X cn f) (hN : X.N[i]? = some x) (hv : Vis X.env.scope x) (hd : (x == ("__debug__" : Str)) = false) (hcd : (x == ("__classdict__" : Str)) = false) (hl : (apos.endLine == pos.line) = true) : Snd gl Φ ca X W (.Call (.Attribute (.Attribute (.Name x px) f pa) "pop" apos) [] [] pos) (.lpop cn i f) := by
  intro Γ R E hs σ G H F st Q kn kx
  unfold sem at hs
  obtain ⟨p, fs, os, ls, d, e0, ef, hs⟩ := hs
  refine wE_of (pe_bm0 PySem.F.plainAttrs_list PySem.F.slot_list_pop PySem.F.type_list_pop mt_pop (pe_fld (pe_var hN hv hd hcd) (base_ok rfl)) (base_ok rfl) hl) ?_
  rcases st.env.ent i _ e0 with z | ⟨v, h1, r⟩
  · cases z
  obtain ⟨dx, fvs, S', rfl, eS, hg, hh, en, ra, np⟩ := r.ins_inv
  obtain ⟨vq, Tq, el, rq, hTq⟩ := fld_getO en ra ef
  obtain ⟨q, vs, S2, rfl, eS2, hgq, hhq, raq, nq⟩ := rq.lst_inv
  obtain ⟨ws, y, T1, T2, rfl, eT, r1, r2, dj⟩ := orepAll_last raq
  obtain ⟨r3, eT2⟩ := r2.sh_inv
  subst eT2
  refine ⟨_, h1, p, _, dx, fvs, .ref q, rfl, hh, hf.1, hf.2, el, .inl ⟨rfl, _, SqL.of hhq⟩, q, ws ++ [y], y, rfl, rfl, hhq, by simp, ?_⟩
  rw [List.dropLast_concat]
  obtain ⟨S9, st9, sp9⟩ := fld_upd (u := .lst ws) (oq' := .lst ls) (T := []) st Stp.refl (fun _ z => nomatch z) (fun _ z => nomatch z) e0 h1 hh el ef fun S8 r8 _ => by
    obtain ⟨q8, vs8, S7, eq8, eS8, g8, h8, ra8, n8⟩ := r8.lst_inv
    cases eq8
    rw [hhq] at h8
    cases h8
    obtain ⟨ws', y', U1, U2, e8, eU, u1, u2, _⟩ := orepAll_last ra8
    obtain ⟨rfl, hy⟩ := List.append_inj' e8 rfl
    cases hy
    have eU2 := u2.sh_inv.2
    subst eU2
    rw [List.append_nil] at eU
    subst eU
    refine ⟨by rw [eS8]; exact List.mem_cons_self, q :: S7, .lst g8 upd_same (u1.keep (Same.refl _) (fun c hc => (u1.foot c hc).1) fun c u hc e => ?_) n8, fun c hc => .inl (by rw [eS8]; exact hc)⟩
    rw [upd_ne fun (z : c = q) => n8 (z ▸ hc)]
    exact e
  exact kn y (.sh d) [] _ _ _ _ st9 sp9 (.sh r3) (fun _ z => nomatch z) (fun _ z => nomatch z) hs
end
end PW

end
section
set_option Elab.async false
set_option linter.all false
set_option maxRecDepth 100000
set_option maxHeartbeats 4000000
/-! PM5: _law_told(lambda: e). -/
namespace PW
open PySem PySem.Spec PyProof.Rows L2
theorem ORep.tab_inv {K : PySem.W.Frag} {G H : Hp} {v : V} {p : Addr} {q : Str} {S : List Addr} (h : ORep K G H v (.tab p q) S) : ∃ ps cs, v = .ref p ∧ S = p :: cs ∧ G p = none ∧ H p = some (.tbl ps) ∧ TriplesOk ps.toList ∧ (∀ (pos : Pos) (cv : Value), codeAmong pos ps.toList = some cv → ∃ c, cv = .ref c ∧ c ∈ cs) ∧ ∀ c, c ∈ cs → G c = none ∧ H c = some (LamX.CodeO c q) := by
  cases h with | tab a b c d e => exact ⟨_, _, rfl, rfl, a, b, c, d, e⟩
section
variable {K : PySem.W.Frag} {σ : L2.St} {Γ : List O} {G H : Hp} {F : Nat → List Addr} {i : Nat} {P c1 : Addr} {q : Str} {ps : Array Value} {cs : List Addr} {pos : Pos}
/-- the table with a new code object -/
theorem sta_newTab (st : Sta K σ Γ G H F) (e0 : Γ[i]? = some (.tab P q)) (h1 : σ[i]? = some (some (.ref P))) (eF : F i = P :: cs) (hg : G P = none) (hP : H P = some (.tbl ps)) (ht : TriplesOk ps.toList)
    (hm : ∀ (pos : Pos) (cv : Value), codeAmong pos ps.toList = some cv → ∃ c, cv = .ref c ∧ c ∈ cs) (hcs : ∀ c, c ∈ cs → G c = none ∧ H c = some (LamX.CodeO c q)) (hn : H c1 = none) (hnP : c1 ≠ P) :
    Sta K σ Γ G (newTab H P c1 ps pos q) (setF F i (P :: c1 :: cs)) ∧ Stp G H F G (newTab H P c1 ps pos q) (setF F i (P :: c1 :: cs)) := by
  have g1 : G c1 = none := by
    cases z : G c1 with
    | none => rfl
    | some u => rw [st.gh c1 u z] at hn; cases hn
  have hPF : P ∈ F i := by rw [eF]; exact List.mem_cons_self
  have csF : ∀ c, c ∈ cs → c ∈ F i := fun c hc => by rw [eF]; exact List.mem_cons_of_mem _ hc
  have at_ : ∀ a, a ≠ P → a ≠ c1 → newTab H P c1 ps pos q a = H a := fun a n1 n2 => by
    unfold newTab
    rw [upd_ne n2, upd_ne n1]
  have atP : newTab H P c1 ps pos q P = some (.tbl (ps ++ #[rawInt pos.line, rawInt pos.col, .ref c1])) := by
    unfold newTab
    rw [upd_ne (fun z : P = c1 => hnP z.symm), upd_same]
  have atC : newTab H P c1 ps pos q c1 = some (LamX.CodeO c1 q) := upd_same
  have nc : ∀ a u, H a = some u → a ≠ c1 := fun a u e z => by rw [z, hn] at e; cases e
  have mu1 : ORep K G (newTab H P c1 ps pos q) (.ref P) (.tab P q) (P :: c1 :: cs) := by
    refine .tab hg atP (by rw [Array.toList_append]; exact PySem.TriplesOk_snoc _ _ _ _ ht) (fun p1 cv hc => ?_) fun c hc => ?_
    · rw [Array.toList_append] at hc
      rcases codes_app _ ht hc with z | z
      · obtain ⟨c, e1, e2⟩ := hm p1 cv z
        exact ⟨c, e1, List.mem_cons_of_mem _ e2⟩
      · exact ⟨c1, z, List.mem_cons_self⟩
    · rcases List.mem_cons.mp hc with rfl | hc
      · exact ⟨g1, atC⟩
      · obtain ⟨a, b⟩ := hcs c hc
        refine ⟨a, ?_⟩
        rw [at_ c (fun z => ?_) (nc c _ b)]
        · exact b
        · rw [z, hP] at b
          cases b
  have nF : ∀ j, c1 ∉ F j := fun j z => (st.env.own j c1 z).2 hn
  refine ⟨⟨⟨st.env.len, fun j o e => ?_, fun j a h => ?_, fun j k a ha hb => ?_⟩, fun a u e => ?_⟩, ⟨Same.refl G, fun a u h e => ?_, fun _ _ z _ => z, fun j a h => ?_⟩⟩
  · by_cases z : j = i
    · subst z
      rw [e0] at e
      cases e
      rw [setF_same]
      exact .inr ⟨_, h1, mu1⟩
    · rw [setF_ne z]
      rcases st.env.ent j o e with y | ⟨v, a, b⟩
      · exact .inl y
      · refine .inr ⟨v, a, b.keep (Same.refl _) (fun c hc => (st.env.own j c hc).1) fun c u hc hu => ?_⟩
        rw [at_ c (fun y => z (st.env.dis j i c hc (by rw [y]; exact hPF))) (nc c u hu)]
        exact hu
  · by_cases z : j = i
    · subst z
      rw [setF_same] at h
      exact mu1.foot a h
    · rw [setF_ne z] at h
      obtain ⟨a1, a2⟩ := st.env.own j a h
      refine ⟨a1, ?_⟩
      rw [at_ a (fun y => z (st.env.dis j i a h (by rw [y]; exact hPF))) fun y => nF j (y ▸ h)]
      exact a2
  · have key : ∀ j k, j ≠ i → k = i → a ∈ setF F i (P :: c1 :: cs) j → a ∈ setF F i (P :: c1 :: cs) k → False := fun j k nj ek h1 h2 => by
      subst ek
      rw [setF_ne nj] at h1
      rw [setF_same] at h2
      rcases List.mem_cons.mp h2 with z | z
      · exact nj (st.env.dis j k a h1 (by rw [z]; exact hPF))
      · rcases List.mem_cons.mp z with z | z
        · exact nF j (z ▸ h1)
        · exact nj (st.env.dis j k a h1 (csF a z))
    by_cases z1 : j = i
    · by_cases z2 : k = i
      · rw [z1, z2]
      · exact (key k j z2 z1 hb ha).elim
    · by_cases z2 : k = i
      · exact (key j k z1 z2 ha hb).elim
      · rw [setF_ne z1] at ha
        rw [setF_ne z2] at hb
        exact st.env.dis j k a ha hb
  · have := st.gh a u e
    rw [at_ a (fun z => by rw [z, hg] at e; cases e) (nc a u this)]
    exact this
  · rw [at_ a (fun z => h i (by rw [z]; exact hPF)) (nc a u e)]
    exact e
  · by_cases z : j = i
    · subst z
      rw [setF_same] at h
      rcases List.mem_cons.mp h with z | z
      · exact .inl ⟨j, by rw [z]; exact hPF⟩
      · rcases List.mem_cons.mp z with z | z
        · exact .inr (by rw [z]; exact hn)
        · exact .inl ⟨j, csF a z⟩
    · rw [setF_ne z] at h
      exact .inl ⟨j, h⟩
end
end PW

end
section
set_option Elab.async false
set_option linter.all false
set_option maxRecDepth 100000
set_option maxHeartbeats 4000000
/-! PM6: _law_told(lambda: e): its soundness. -/
namespace PW
open PySem PySem.Spec PyProof.Rows L2
abbrev toldB (a1 a2 a3 a4 a5 a6 a7 a8 a9 b1 : Pos) : List Stmt := [.Try [.Return (some (.Call (.Name "deed" a1) [] [] a2)) a3] [.ExceptHandler (some (.Name "PasteError" a4)) (some "e") [.Return (some (.Call (.Name "_law_word" a5) [.Name "e" a6] [] a7)) a8] a9] [] [] b1]
section
variable {sx : Bool} {gl : List D} {Φ : Fns} {ca : EC → Addr} {X : Cx} {W : WX}
theorem snd_told {g c : Addr} {k : Nat} {fdg : FuncData} {pg params : Arguments} {sg scope : Scope} {body : Expr} {i : Nat} {cv : Value} {pe : PEx} {p lpos pos a1 a2 a3 a4 a5 a6 a7 a8 a9 b1 : Pos}
    (hg : Gl X "_law_told") (hm : X.mg "_law_told" = some (.ref g)) (Fg : FunD X.K "_law_told" "_law_told" pg (toldB a1 a2 a3 a4 a5 a6 a7 a8 a9 b1) sg [] [] g fdg) (hb : Binds X.K fdg ["deed"] []) (Sg : FnScope ["deed", "e"] ["deed"] sg)
    (vd : Vis sg "deed") (ve : sg.names.lookup ("e" : Str) = some .local) (gpe : sg.names.lookup ("PasteError" : Str) = some .globalImplicit) (mpe : X.mg "PasteError" = some cv) (hex : ∀ C : EC, PySem.W.exmOne X.K (.ref (ca C)) cv = some true)
    (hlw : ∀ (cdv : Value) (t : Shared) (H1 : Hp) (E : XK), Room (k + 1) (X.A.deeper (envOfC "_law_told" sg t.heap.objs.size g cdv)) → LwOk (cxOf (L2M.CX sx X.prog X.w) X.prog X.w X.K X.mg X.base ["deed", "e"] "_law_told" sg g cdv X.A X.stack t H1 E) ca)
    (TB : LamX.TabB X.base X.mg c Φ.tb) (hcode : X.env.code = .ref c) (hr : Room (k + 2) X.A) (L : LamX.LamS X.env.scope scope) (hdef : defaultsOf params X.env = ([], []))
    (hbind : ∀ (q : Str) (cl : List (Str × Addr)) (pm cv ctv : Value), bindArgs (PySem.W.kla_fn "<lambda>" q params body scope cl pm cv ctv) ⟨[], []⟩ = pure [])
    (hbody : ∀ (A : Around) (outer : List Env) (t : Shared) (G : Hp) (E : XK) (f c1 : Addr), Room k (A.deeper (LamX.lamEnv X scope t.heap.objs.size f c1)) → Snd gl Φ ca (lamM sx X A outer t G E scope f c1) (fun cls d _ G => E cls d G) body pe) :
    Snd gl Φ ca X W (.Call (.Name "_law_told" p) [.Lambda params body scope lpos] [] pos) (.told i (lamQ X) pe) := by
  intro Γ R E0 hs σ G H F st Q kn kx
  unfold sem at hs
  obtain ⟨e0, hs⟩ := hs
  rcases st.env.ent i _ e0 with z | ⟨v, h1, r⟩
  · cases z
  obtain ⟨ps, cs, rfl, eF, hgP, hP, ht, hmm, hcs⟩ := r.tab_inv
  intro pins s I
  refine wpAny_Call_Name_kw (ld_glob I hg hm ?_ (by decide))
  refine PySem.W.callWith_K (h₀ := X.base) I.ok.mod.kin Fg.kp ?_ (by rfl) (by rfl)
  show wpAny _ _ (spliced ((false, eval (.Lambda params body scope lpos) X.env) :: backTo pos (starEach [] X.env))) _ _ s
  have main : ∀ (f c1 : Addr) (pm ctv : Value) (t : Shared) (H1 : Hp) (F1 : Nat → List Addr), Sta X.K σ Γ G H1 F1 → Stp G H F G H1 F1 → H1 c1 = some (LamX.CodeO c1 (lamQ X)) → Inv X pins σ H1 t → t.heap.get? f = some (lamO X params body scope pm ctv c1) → H1 f = none → f ∉ frs X.stack →
      wpAny (model X.prog X.w) X.A (call (.ref g) [.ref f]) (EP X pins σ Q) X.xe t := by
    intro f c1 pm ctv t H1 F1 st1 sp1 hco I1 hf hfn hfr
    have rc : codeAny (model X.prog X.w) X.A (.call (.ref g) ⟨[.ref f], []⟩) (CR (L2M.CX sx X.prog X.w) X.stack X.prog X.w H1 t Q (fun _ _ _ => False)) t := by
      obtain ⟨oc, od, dV, kV, doc, pm2, an, cdv, ct, osl, rfl, lk, hcd, _, _⟩ := Fg.ex
      refine LamX.run_ofS (CX := L2M.CX sx X.prog X.w) (N := ["deed", "e"]) (ps := ["deed"]) (us := [.ref f]) (vs := [.ref f]) lk hcd Sg hr I1.env0 (hb t [.ref f] I1.kIn rfl) (.cons rfl .nil) rfl fun hr1 => ?_
      have lw := hlw cdv t H1 (fun _ _ _ => False) hr1
      refine ⟨wB _ _, pss_w, ?_⟩
      let Z := cxOf (L2M.CX sx X.prog X.w) X.prog X.w X.K X.mg X.base ["deed", "e"] "_law_told" sg g cdv X.A X.stack t H1 (fun _ _ _ => False)
      refine wB_of (pss_one (L2M.ps_try_as (X := Z) (m := sx) (Wout := fun _ _ _ _ => False) (c := cv) (i := 1) (tb := tbOf sx Z [.Return (some (.Call (.Name "deed" a1) [] [] a2)) a3]) (ts := tsOf Z [.Return (some (.Call (.Name "_law_word" a5) [.Name "e" a6] [] a7)) a8])
        rfl rfl Sg.nd rfl ve ⟨gpe, by decide, .inl mpe⟩ (fun u s2 ⟨_, _, _, _, _, _, _, _, _, _, _, _, _, w⟩ => w.elim) (fun W2 pn xe tk po => ⟨fun pins s σ H D I h => h pn xe tk po pins s I⟩) (fun a oe cls d cx pn hz hv ct => ⟨fun pins s σ H D I h => h oe pn cx hz ct hv pins s I⟩))) ?_
      intro pn xe tk po
      refine wB_of (pss_one (ps_ret (pe_actM (m := sx) (k := k) (i := 0)
        (E := fun cls d G2 => ∃ C n dd Γ2 G3 F2, cls = .ref (ca C) ∧ d = some dd ∧ Sta X.K σ Γ2 G3 G2 F2 ∧ Stp G H F G3 G2 F2 ∧ G2 dd = some (.xd [(("line" : Str), .int n)]) ∧ R (.sh (ecD C n)) Γ2)
        (tb := fun st9 H9 Q9 => ∀ (A : Around) (outer : List Env) (t2 : Shared) (G2 : Hp), Room k (A.deeper (LamX.lamEnv X scope t2.heap.objs.size f c1)) → wE (lamM sx X A outer t2 G2 (fun cls d G2 => ∃ C n dd Γ2 G3 F2, cls = .ref (ca C) ∧ d = some dd ∧ Sta X.K σ Γ2 G3 G2 F2 ∧ Stp G H F G3 G2 F2 ∧ G2 dd = some (.xd [(("line" : Str), .int n)]) ∧ R (.sh (ecD C n)) Γ2) scope f c1) body st9 H9 Q9)
        I1 L hf hfn hfr (hbind _ _ _ _ _) tk ?_ hr1 (fun A outer t2 G2 hr2 => ⟨fun pins s σ H Q I h => ?_⟩) rfl vd (by decide) (by decide)))) ?_
      · rintro cls d stz G2 ⟨C, n, dd, Γ2, G3, F2, rfl, rfl, st2, sp2, hx, hR⟩
        refine ⟨true, hex C, fun _ a ha => ?_, fun z => nomatch z⟩
        intro oe pn2 cx hz hct hv
        refine wB_of (pss_one (ps_ret pe_w)) ?_
        refine fun pins s I => ?_
        have hlen : 1 < stz.length := by
          have z := I.len
          rw [List.length_set] at z
          rw [z]
          exact Nat.le_refl 2
        refine lw a oe pn2 C dd n 1 "e" a5 a6 a7 _ G3 G2 _ cx hz hct hv rfl (.inl ve) (by decide) (by decide) (List.getElem?_set_self hlen) hx st2.gh ?_ pins s I
        intro v o S G4 H4 y1 y2 y3 y4 r hS eo
        subst eo
        obtain ⟨st3, sp3⟩ := st2.growG y1 y2 y3 y4
        obtain ⟨r1, rfl⟩ := r.sh_inv
        exact kn v (.sh (ecD C n)) [] Γ2 G4 H4 F2 st3 (sp2.trans sp3) (.sh r1) (fun _ z => nomatch z) (fun _ z => nomatch z) hR
      · exact h A outer t2 G2 hr2 pins s I
      · refine ⟨rfl, hco, fun A outer t2 G2 hr2 => ?_⟩
        refine hbody A outer t2 G2 _ f c1 hr2 Γ R _ hs σ G H1 F1 st1 Q (kn.step sp1) fun C n Γ2 G3 G4 F2 dd st2 sp2 hx hR => ?_
        exact ⟨C, n, dd, Γ2, G3, F2, rfl, rfl, st2, sp1.trans sp2, hx, hR⟩
    refine wpAny_call (codeAny_mono rc fun r s2 hq => ?_)
    cases r with
    | error e =>
      obtain ⟨_, _, _, _, _, _, _, _, _, _, _, _, _, _, z⟩ := hq
      exact z.elim
    | ok fl =>
      cases fl with
      | ret u => exact I1.after hq
      | next => exact False.elim hq
      | brk => exact False.elim hq
      | cont => exact False.elim hq
  refine Calls.spliced_cons (lam_make3 I TB hcode hP ht (fun cv hc => (hmm _ cv hc).imp fun _ h => h.1) hdef (L.has I.ok) (fun f c1 pm ctv t hc I1 hf hfn hfr => ?_) fun f c1 pm ctv t hn hnP I1 hf hfn hfr => ?_)
  · refine Calls.spliced_nil ⟨I1.kIn, ?_⟩
    obtain ⟨c2, e2, hc2⟩ := hmm _ _ hc
    cases e2
    exact main f c1 pm ctv t H F st Stp.refl (hcs c1 hc2).2 I1 hf hfn hfr
  · refine Calls.spliced_nil ⟨I1.kIn, ?_⟩
    obtain ⟨st1, sp1⟩ := sta_newTab (pos := lpos) st e0 h1 eF hgP hP ht hmm hcs hn hnP
    exact main f c1 pm ctv t _ _ st1 sp1 upd_same I1 hf hfn hfr
end
end PW

end
section
set_option Elab.async false
set_option linter.all false
set_option maxRecDepth 100000
set_option maxHeartbeats 4000000
/-! PXI: the check that a text of the small language is the text of the model; its soundness. -/
namespace PW
open PySem PySem.Spec PyProof.Rows L2

/-- the slots' names, the scope of the code that runs, own defs and module constants by number, whether it stands in a try's reach -/
inductive FnN where
  | fn (x : Str) | me (cn m : Str) | mu (cn m : Str) | ini (cn : Str)
  deriving DecidableEq
structure Cfg where
  N : List Str
  sc : Scope
  st : Scope
  fns : List FnN
  gls : List Str
  flds : List (Str × Str) := []
  sx : Bool := false
  lt : Bool := false
  qual : Str := ""
/-- within a lambda's body -/
def Cfg.lam (c : Cfg) (scope : Scope) : Cfg := { c with sc := scope, st := scope, lt := false }
/-- within a comprehension's block -/
def Cfg.blk (c : Cfg) (scope : Scope) : Cfg := { c with sc := relS scope c.sc, st := scope, lt := false }
def visB (sc : Scope) (x : Str) : Bool := match sc.names.lookup x with
  | some .local => true
  | some .cell => true
  | some .free => true
  | _ => false
def locB (sc : Scope) (x : Str) : Bool := match sc.names.lookup x with
  | some .local => true
  | some .cell => true
  | _ => false
def glB (sc : Scope) (x : Str) : Bool := match sc.names.lookup x with
  | some .globalImplicit => true
  | _ => false
def plainN (x : Str) : Bool := !(x == ("__debug__" : Str)) && !(x == ("__classdict__" : Str))
def nmB (c : Cfg) (i : Nat) (x : Str) : Bool := decide (c.N[i]? = some x) && (visB c.sc x && plainN x)
def tgB (c : Cfg) : Tgt → Expr → Bool
  | .nm i, .Name x _ => decide (c.N[i]? = some x) && locB c.st x
  | .tp is, .Tuple es _ _ => tgsB c is es
  | _, _ => false
where tgsB (c : Cfg) : List Nat → List Expr → Bool
  | [], [] => true
  | i :: is, .Name x _ :: es => (decide (c.N[i]? = some x) && locB c.st x) && tgsB c is es
  | _, _ => false
def ownOf : Tgt → Expr → List (Str × Nat)
  | .nm i, .Name x _ => [(x, i)]
  | .tp is, .Tuple es _ _ => ownsOf is es
  | _, _ => []
where ownsOf : List Nat → List Expr → List (Str × Nat)
  | i :: is, .Name x _ :: es => (x, i) :: ownsOf is es
  | _, _ => []
def bopB : Bop → Operator → Bool
  | .add, .Add => true | .sub, .Sub => true | .mul, .Mult => true | .mod, .Mod => true | .fdiv, .FloorDiv => true | .pow, .Pow => true | .shl, .LShift => true
  | _, _ => false
/-- a test that is a value -/
def valB : Expr → Bool
  | .UnaryOp .Not _ _ => false
  | .BoolOp _ _ _ => false
  | .IfExp _ _ _ _ => false
  | .Compare _ _ _ _ => false
  | _ => true
mutual
def chkE (c : Cfg) : PEx → Expr → Bool
  | .c d, ex => (match ex with
    | .Constant k _ _ => constB d k
    | _ => false)
  | .var i, ex => (match ex with
    | .Name x _ => nmB c i x
    | _ => false)
  | .mov i, ex => (match ex with
    | .Name x _ => nmB c i x
    | _ => false)
  | .glb k, ex => (match ex with
    | .Name x _ => decide (c.gls[k]? = some x) && (glB c.sc x && plainN x)
    | _ => false)
  | .bin op a b, ex => (match ex with
    | .BinOp l o r _ => bopB op o && (chkE c a l && chkE c b r)
    | _ => false)
  | .cmp op a b, ex => (match ex with
    | .Compare l [o] [r] _ => (decide (op = o) && notSetE r) && (chkE c a l && chkE c b r)
    | _ => false)
  | .and a b, ex => (match ex with
    | .BoolOp .And [x, y] _ => chkE c a x && chkE c b y
    | .BoolOp .And (x :: y :: z :: r) pos => chkE c a x && chkE c b (.BoolOp .And (y :: z :: r) pos)
    | _ => false)
  | .or a b, ex => (match ex with
    | .BoolOp .Or [x, y] _ => chkE c a x && chkE c b y
    | .BoolOp .Or (x :: y :: z :: r) pos => chkE c a x && chkE c b (.BoolOp .Or (y :: z :: r) pos)
    | _ => false)
  | .not a, ex => (match ex with
    | .UnaryOp .Not x _ => chkE c a x
    | _ => false)
  | .neg a, ex => (match ex with
    | .UnaryOp .USub x _ => chkE c a x
    | _ => false)
  | .ifx t a b, ex => (match ex with
    | .IfExp u x y _ => (noIfx t && chkE c t u) && (chkE c a x && chkE c b y)
    | _ => false)
  | .tup es, ex => (match ex with
    | .Tuple xs _ _ => chkA c es xs
    | _ => false)
  | .lst es, ex => (match ex with
    | .List xs _ => chkA c es xs
    | _ => false)
  | .lst1 e, ex => (match ex with
    | .List [x] _ => notStar x && chkE c e x
    | _ => false)
  | .sub a b, ex => (match ex with
    | .Subscript x y _ => plainIxB y && (chkE c a x && chkE c b y)
    | _ => false)
  | .slc a lo hi, ex => (match ex with
    | .Subscript x (.Slice l h none _) _ => chkE c a x && (chkO c lo l && chkO c hi h)
    | _ => false)
  | .cal f es, ex => (match ex with
    | .Call (.Name x _) (a :: r) [] _ => (decide (c.fns[f]? = some (.fn x)) && (glB c.sc x && plainN x)) && ((a :: r).all notStar && chkA c es (a :: r))
    | _ => false)
  | .prm f es, ex => (match ex with
    | .Call (.Name x _) (a :: r) [] _ => (decide (x = prmName f) && glB c.sc x) && ((a :: r).all notStar && chkA c es (a :: r))
    | _ => false)
  | .mth m o es, ex => (match ex with
    | .Call (.Attribute x n ap) (a :: r) [] cp => (decide (n = mthName m) && (plainBase x && ((ap.endLine == cp.line) && decide ((a :: r).length < 30)))) && (((a :: r).all notStar && chkE c o x) && chkA c es (a :: r))
    | _ => false)
  | .isi e t, ex => (match ex with
    | .Call (.Name f _) [x, .Name y _] [] _ => (decide (f = ("isinstance" : Str)) && (glB c.sc f && (isiT t && (decide (y = PySem.Str.ofString t) && glB c.sc y)))) && (notStar x && chkE c e x)
    | _ => false)
  | .app i e, ex => (match ex with
    | .Call (.Attribute (.Name x _) n ap) [a] [] cp => (decide (n = ("append" : Str)) && (nmB c i x && (ap.endLine == cp.line))) && (notStar a && chkE c e a)
    | _ => false)
  | .ext i e, ex => (match ex with
    | .Call (.Attribute (.Name x _) n ap) [a] [] cp => (decide (n = ("extend" : Str)) && (nmB c i x && (ap.endLine == cp.line))) && (notStar a && chkE c e a)
    | _ => false)
  | .appL i j, ex => (match ex with
    | .Call (.Attribute (.Subscript (.Name x _) (.UnaryOp .USub (.Constant (.int k) _ _) _) _) n ap) [.Name y _] [] cp => (decide (n = ("append" : Str)) && decide (k = 1)) && ((nmB c i x && nmB c j y) && (ap.endLine == cp.line))
    | _ => false)
  | .lapp cn i f e, ex => (match ex with
    | .Call (.Attribute (.Attribute (.Name x _) g _) n ap) [a] [] cp => (decide (n = ("append" : Str)) && (decide (g = f) && c.flds.contains (cn, f))) && ((nmB c i x && (ap.endLine == cp.line)) && (notStar a && chkE c e a))
    | _ => false)
  | .lext cn i f e, ex => (match ex with
    | .Call (.Attribute (.Attribute (.Name x _) g _) n ap) [a] [] cp => (decide (n = ("extend" : Str)) && (decide (g = f) && c.flds.contains (cn, f))) && ((nmB c i x && (ap.endLine == cp.line)) && (notStar a && chkE c e a))
    | _ => false)
  | .lpop cn i f, ex => (match ex with
    | .Call (.Attribute (.Attribute (.Name x _) g _) n ap) [] [] cp => (decide (n = ("pop" : Str)) && (decide (g = f) && c.flds.contains (cn, f))) && (nmB c i x && (ap.endLine == cp.line))
    | _ => false)
  | .cmp2 op op2 a b d, ex => (match ex with
    | .Compare x [o, o2] [y, z] _ => ((decide (o = op) && decide (o2 = op2)) && !lastMarks [o, o2] [y, z]) && (chkE c a x && (chkE c b y && chkE c d z))
    | _ => false)
  | .told i q e, ex => (match ex with
    | .Call (.Name x _) [.Lambda ⟨[], [], none, [], [], none, []⟩ body scope _] [] _ => ((decide (x = ("_law_told" : Str)) && glB c.sc x) && (c.lt && decide (q = c.qual ++ "<lambda>"))) && (LamX.lamSB c.sc scope && chkE (c.lam scope) e body)
    | _ => false)
  | .peek e, x => chkE c e x
  | .frz e, x => chkE c e x
  | .lc elt tg it t, ex => (match ex with
    | .ListComp el [⟨tgE, itE, ifs, k⟩] scope _ => (decide (k = 0) && (notSetE itE && (tgB (c.blk scope) tg tgE && (decide ((ownOf tg tgE).map (·.2) = tgtSlots tg) && blkC c.N c.sc scope (ownOf tg tgE))))) && (chkI c it tgE itE && (chkTs (c.blk scope) t ifs && chkE (c.blk scope) elt el))
    | _ => false)
  | .fld cn e f, ex => (match ex with
    | .Attribute x g _ => (decide (g = f) && c.flds.contains (cn, f)) && (plainBase x && chkE c e x)
    | _ => false)
  | .fldv cn i f, ex => (match ex with
    | .Attribute (.Name x _) g _ => (decide (g = f) && c.flds.contains (cn, f)) && nmB c i x
    | _ => false)
  | .mcl k cn m e es, ex => (match ex with
    | .Call (.Attribute x n ap) args [] cp => ((decide (n = m) && decide (c.fns[k]? = some (.me cn m))) && (plainBase x && ((ap.endLine == cp.line) && decide (args.length < 30)))) && ((args.all notStar && chkE c e x) && chkA c es args)
    | _ => false)
  | .mcv k cn m i es, ex => (match ex with
    | .Call (.Attribute (.Name x _) n ap) args [] cp => ((decide (n = m) && decide (c.fns[k]? = some (.mu cn m))) && (nmB c i x && ((ap.endLine == cp.line) && decide (args.length < 30)))) && (args.all notStar && chkA c es args)
    | _ => false)
  | .new k cn es, ex => (match ex with
    | .Call (.Name x _) args [] _ => ((decide (x = cn) && decide (c.fns[k]? = some (.ini cn))) && (glB c.sc x && plainN x)) && (args.all notStar && chkA c es args)
    | _ => false)
  | .mct k cn m e es, ex => (match ex with
    | .Call (.Attribute x n ap) (a :: r) [] cp => ((decide (n = m) && decide (c.fns[k]? = some (.mu cn m))) && (plainBase x && ((ap.endLine == cp.line) && decide ((a :: r).length < 30)))) && (((a :: r).all notStar && chkE c e x) && chkA c es (a :: r))
    | _ => false)
  | .mctP k cn m _ e es, ex => (match ex with
    | .Call (.Attribute x n ap) (a :: r) [] cp => ((decide (n = m) && decide (c.fns[k]? = some (.mu cn m))) && (plainBase x && ((ap.endLine == cp.line) && decide ((a :: r).length < 30)))) && (((a :: r).all notStar && chkE c e x) && chkA c es (a :: r))
    | _ => false)
  | .lenset e, ex => (match ex with
    | .Call (.Name l _) [.Call (.Name s _) [x] [] _] [] _ => ((decide (l = ("len" : Str)) && glB c.sc l) && (decide (s = ("set" : Str)) && glB c.sc s)) && (notStar x && chkE c e x)
    | _ => false)
  | .sortset e, ex => (match ex with
    | .Call (.Name l _) [.Call (.Name s _) [x] [] _] [] _ => ((decide (l = ("sorted" : Str)) && glB c.sc l) && (decide (s = ("set" : Str)) && glB c.sc s)) && (notStar x && chkE c e x)
    | _ => false)
  | .dnew, ex => (match ex with
    | .Dict [] [] _ => true
    | _ => false)
  | .dpopF cn i f j, ex => (match ex with
    | .Call (.Attribute (.Attribute (.Name x _) g _) n ap) [.Name y _, .Constant .none _ _] [] cp => (decide (n = ("pop" : Str)) && (decide (g = f) && c.flds.contains (cn, f))) && ((nmB c i x && nmB c j y) && (ap.endLine == cp.line))
    | _ => false)
  | .tup2 a b, ex => (match ex with
    | .Tuple [x, y] _ _ => (notStar x && notStar y) && (chkE c a x && chkE c b y)
    | _ => false)
  | .dgetv i k, ex => (match ex with
    | .Subscript (.Name x _) y _ => (nmB c i x && plainIxB y) && chkE c k y
    | _ => false)
  | .pop i, ex => (match ex with
    | .Call (.Attribute (.Name x _) n ap) [] [] cp => decide (n = ("pop" : Str)) && (nmB c i x && (ap.endLine == cp.line))
    | _ => false)
  | .dget2 d k p, ex => (match ex with
    | .Call (.Attribute x n ap) [a, b] [] cp => (decide (n = ("get" : Str)) && (plainBase x && (ap.endLine == cp.line))) && ((notStar a && notStar b) && (chkE c d x && (chkE c k a && chkE c p b)))
    | _ => false)
  | .dpop i k, ex => (match ex with
    | .Call (.Attribute (.Name x _) n ap) [a] [] cp => (decide (n = ("pop" : Str)) && (nmB c i x && (ap.endLine == cp.line))) && (notStar a && chkE c k a)
    | _ => false)
  | .orL a b, ex => (match ex with
    | .BoolOp .Or [x, y] _ => chkE c a x && chkE c b y
    | _ => false)
  | .appT p, ex => (match ex with
    | .Call (.Attribute x n ap) [.Constant .none _ _] [] cp => (decide (n = ("append" : Str)) && (plainBase x && (ap.endLine == cp.line))) && chkE c p x
    | _ => false)
  | .lend _ e, x => valB x && chkE c e x
  | .pinD _ e, x => valB x && chkE c e x
  | .jnk, _ => true
  | _, _ => false
def chkA (c : Cfg) : List PEx → List Expr → Bool
  | [], [] => true
  | p :: ps, e :: es => notStar e && (chkE c p e && chkA c ps es)
  | _, _ => false
def chkO (c : Cfg) : Option PEx → Option Expr → Bool
  | none, none => true
  | some p, some e => chkE c p e
  | _, _ => false
def chkTs (c : Cfg) : Option PEx → List Expr → Bool
  | none, [] => true
  | some p, [e] => noIfx p && chkE c p e
  | _, _ => false
def chkI (c : Cfg) : PEx → Expr → Expr → Bool
  | .rng1 p, _, ex => (match ex with
    | .Call (.Name x _) [a] [] _ => (decide (x = ("range" : Str)) && glB c.sc x) && (notStar a && chkE c p a)
    | _ => false)
  | .rng2 p q, _, ex => (match ex with
    | .Call (.Name x _) [a, b] [] _ => (decide (x = ("range" : Str)) && glB c.sc x) && ((notStar a && notStar b) && (chkE c p a && chkE c q b))
    | _ => false)
  | .itL p, _, e => chkE c p e
  | .itT p, _, e => chkE c p e
  | .itS p, _, e => chkE c p e
  | .itD i, _, e => (match e with
    | .Name x _ => nmB c i x
    | _ => false)
  | .enm p, tg, ex => (match tg, ex with
    | .Tuple _ _ _, .Call (.Name x _) [a] [] _ => (decide (x = ("enumerate" : Str)) && glB c.sc x) && (notStar a && chkE c p a)
    | _, _ => false)
  | .zip p q, tg, ex => (match tg, ex with
    | .Tuple _ _ _, .Call (.Name x _) [a, b] [] _ => (decide (x = ("zip" : Str)) && glB c.sc x) && ((notStar a && notStar b) && (chkE c p a && chkE c q b))
    | _, _ => false)
  | _, _, _ => false
/-- no conditional expression as a test -/
def noIfx : PEx → Bool
  | .ifx _ _ _ => false
  | .orL _ _ => false
  | .frz _ => false
  | .told _ _ _ => false
  | .and a b => noIfx a && noIfx b
  | .or a b => noIfx a && noIfx b
  | .not a => noIfx a
  | .peek e => noIfx e
  | _ => true
end

def bltNames : List Str := ["len", "int", "str", "list", "tuple", "max", "min", "sum", "all", "any", "sorted", "ord", "range", "enumerate", "zip", "isinstance", "set", "bool", "dict", "reversed"]
def FnHas (sx : Bool) (Φ : Fns) (ca : EC → Addr) (X : Cx) (f : Nat) : FnN → Prop
  | .fn x => ∃ s : FSpec, Φ f = some s ∧ CallOk (CXx sx X) ca X x s
  | .me cn m => ∃ s : FSpec, Φ f = some s ∧ MethOk (CXx sx X) X cn m (spOf X.K ca s)
  | .mu cn m => ∃ s : MSpec, Φ.m f = some s ∧ MethOk (CXx sx X) X cn m (spOfM X.K ca s)
  | .ini cn => ∃ s : MSpec, Φ.m f = some s ∧ MakeOk (CXx sx X) X cn (spOfM X.K ca s)
def SameW (X X1 : Cx) : Prop := X1.prog = X.prog ∧ X1.w = X.w ∧ X1.K = X.K ∧ X1.mg = X.mg ∧ X1.base = X.base
/-- what a lambda handed to _law_told leans on -/
def LamOk (Φ : Fns) (ca : EC → Addr) (c : Cfg) (X : Cx) : Prop :=
  ∃ (k : Nat) (g cc : Addr) (fdg : FuncData) (pg : Arguments) (sg : Scope) (cv : Value) (a1 a2 a3 a4 a5 a6 a7 a8 a9 b1 : Pos), (X.mg "_law_told" = some (.ref g) ∧ FunD X.K "_law_told" "_law_told" pg (toldB a1 a2 a3 a4 a5 a6 a7 a8 a9 b1) sg [] [] g fdg ∧ Binds X.K fdg ["deed"] [] ∧ FnScope ["deed", "e"] ["deed"] sg) ∧
    (Vis sg "deed" ∧ sg.names.lookup ("e" : Str) = some .local ∧ sg.names.lookup ("PasteError" : Str) = some .globalImplicit ∧ X.mg "PasteError" = some cv ∧ ∀ C : EC, PySem.W.exmOne X.K (.ref (ca C)) cv = some true) ∧
    (∀ (cdv : Value) (t : Shared) (H1 : Hp) (E : XK), Room (k + 1) (X.A.deeper (envOfC "_law_told" sg t.heap.objs.size g cdv)) → LwOk (cxOf (L2M.CX c.sx X.prog X.w) X.prog X.w X.K X.mg X.base ["deed", "e"] "_law_told" sg g cdv X.A X.stack t H1 E) ca) ∧
    (LamX.TabB X.base X.mg cc Φ.tb ∧ X.env.code = .ref cc ∧ Room (k + 2) X.A ∧ X.env.qual = c.qual) ∧
    ∀ X1, SameW X X1 → Room k X1.A → ∀ (f : Nat) (x : FnN), c.fns[f]? = some x → FnHas c.sx Φ ca X1 f x
/-- what the check leans on -/
structure COk (gl : List D) (Φ : Fns) (ca : EC → Addr) (c : Cfg) (X : Cx) : Prop where
  N : X.N = c.N
  sc : X.env.scope = c.sc
  nd : c.N.Nodup
  calm : X.calm = true
  un : X.A.units + 64 < cLine
  blt : ∀ x, x ∈ bltNames → X.mg x = none
  gls : ∀ (k : Nat) (x : Str), c.gls[k]? = some x → ∃ v u, X.mg x = some u ∧ RelV v u ∧ ∀ d, gl[k]? = some d → ∀ G, Rep X.K G v d
  fns : ∀ (f : Nat) (x : FnN), c.fns[f]? = some x → FnHas c.sx Φ ca X f x
  flds : ∀ cn f : Str, (cn, f) ∈ c.flds → FldOk X cn f
  fnx : ∀ x, locB c.st x = true → L2.Loc X.env.scope x ∧ (X.fn x = true ∨ X.env.scope.names.lookup x = some .local)
  lam : c.lt = true → LamOk Φ ca c X := by first | (intro z; exact nomatch z) | assumption
theorem vis_ok {sc : Scope} {x : Str} (h : visB sc x = true) : Vis sc x := by
  unfold visB at h
  split at h
  · rename_i e; exact .inl e
  · rename_i e; exact .inr (.inl e)
  · rename_i e; exact .inr (.inr e)
  · cases h
theorem loc_ok {sc : Scope} {x : Str} (h : locB sc x = true) : L2.Loc sc x := by
  unfold locB at h
  split at h
  · rename_i e; exact .inl e
  · rename_i e; exact .inr e
  · cases h
theorem ba {a b : Bool} (h : (a && b) = true) : a = true ∧ b = true := by simpa using h
theorem passes0 {sx : Bool} {X : Cx} (σ : L2.St) : PassesAt (CXx sx X) X σ (WE W0 σ) := fun _ _ _ _ _ _ c => by
  obtain ⟨_, _, _, _, _, _, _, _, _, _, _, _, _, _, h⟩ := c
  exact h.elim
section
variable {gl : List D} {Φ : Fns} {ca : EC → Addr} {c : Cfg} {X : Cx} {W : WX}
theorem COk.vis (k : COk gl Φ ca c X) {i : Nat} {x : Str} (h : nmB c i x = true) : X.N[i]? = some x ∧ Vis X.env.scope x ∧ (x == ("__debug__" : Str)) = false ∧ (x == ("__classdict__" : Str)) = false := by
  obtain ⟨h1, h2⟩ := ba h
  obtain ⟨h2, h3⟩ := ba h2
  obtain ⟨h3, h4⟩ := ba h3
  exact ⟨by rw [k.N]; exact of_decide_eq_true h1, by rw [k.sc]; exact vis_ok h2, by simpa using h3, by simpa using h4⟩
theorem COk.glo (k : COk gl Φ ca c X) {x : Str} (h : glB c.sc x = true) : Gl X x := by
  unfold Gl Env.kindOf
  rw [k.sc]
  unfold glB at h
  split at h
  · rename_i e; exact e
  · cases h
theorem COk.blk (k : COk gl Φ ca c X) {scope : Scope} (s : Shared) (H : Hp) (C : Addr) (cl : List (Str × Addr)) (fp : List Addr) : COk gl Φ ca (c.blk scope) (X.blk s H scope (compEnvC scope cl C X.env) fp) where
  N := k.N
  sc := by
    show relS scope X.env.scope = relS scope c.sc
    rw [k.sc]
  nd := k.nd
  calm := k.calm
  un := k.un
  blt := k.blt
  gls := k.gls
  fns := k.fns
  flds := k.flds
  fnx := fun x h => by
    have h' : locB scope x = true := h
    unfold locB at h'
    split at h'
    · rename_i e
      have z : (relS scope X.env.scope).names.lookup x = some .local := lookup_relS_keep (by decide) e
      exact ⟨.inl z, .inr z⟩
    · rename_i e
      have z : (relS scope X.env.scope).names.lookup x = some .cell := lookup_relS_keep (by decide) e
      refine ⟨.inr z, .inl ?_⟩
      show (scope.names.lookup x == some .cell) = true
      rw [e] <;> rfl
    · cases h'
theorem COk.inLam (k : COk gl Φ ca c X) {scope : Scope} (L : LamX.LamS X.env.scope scope) {A : Around} {outer : List Env} {t : Shared} {G : Hp} {E : XK} {f c1 : Addr} {j : Nat} (hr : Room j (A.deeper (LamX.lamEnv X scope t.heap.objs.size f c1)))
    (hf : ∀ (f1 : Nat) (x : FnN), c.fns[f1]? = some x → FnHas c.sx Φ ca (lamM c.sx X A outer t G E scope f c1) f1 x) : COk gl Φ ca (c.lam scope) (lamM c.sx X A outer t G E scope f c1) where
  N := k.N
  sc := rfl
  nd := k.nd
  calm := rfl
  un := hr.units
  blt := k.blt
  gls := k.gls
  fns := hf
  flds := k.flds
  fnx := fun x h => by
    have h1 : locB scope x = true := h
    rcases loc_ok h1 with e | e
    · exact absurd rfl (L.own _ (PySem.mem_of_lookup e)).1
    · exact absurd rfl (L.own _ (PySem.mem_of_lookup e)).2
  lam := fun z => nomatch z
theorem COk.pg (k : COk gl Φ ca c X) {tg : Tgt} {e : Expr} (h : tgB c tg e = true) : PG X e (gOf X.K tg) := by
  have one : ∀ (i : Nat) (x : Str) (pos : Pos), decide (c.N[i]? = some x) = true → locB c.st x = true → PG X (.Name x pos) (gName i) := fun i x pos h1 h2 =>
    pg_name (by rw [k.N]; exact k.nd) (by rw [k.N]; exact of_decide_eq_true h1) (k.fnx x h2).1 (k.fnx x h2).2
  have many : ∀ (is : List Nat) (es : List Expr), tgB.tgsB c is es = true → PGs X es (gNames is) ∧ is.length = es.length ∧ (assignEach es X.env).length = es.length ∧ (assignEach es X.env).findIdx? (·.1) = none := by
    intro is
    induction is with
    | nil =>
      intro es h
      cases es with
      | nil => exact ⟨pgs_nil, rfl, rfl, rfl⟩
      | cons e es => unfold tgB.tgsB at h; cases h
    | cons i is ih =>
      intro es h
      cases es with
      | nil => unfold tgB.tgsB at h; cases h
      | cons e es =>
        unfold tgB.tgsB at h
        split at h
        · rename_i h0; cases h0
        · rename_i i' is' x pos es' e1 e2
          cases e1
          cases e2
          obtain ⟨h1, h2⟩ := ba h
          obtain ⟨h1, h3⟩ := ba h1
          obtain ⟨a1, a2, a3, a4⟩ := ih es h2
          refine ⟨pgs_cons (one i x pos h1 h3) a1 rfl, by rw [List.length_cons, List.length_cons, a2], ?_, ?_⟩
          · show (assignEach es X.env).length + 1 = es.length + 1
            rw [a3]
          · show List.findIdx? (·.1) ((false, assign (.Name x pos) X.env) :: assignEach es X.env) = none
            rw [List.findIdx?_cons, a4]
            rfl
        · cases h
  unfold tgB at h
  split at h
  · obtain ⟨h1, h2⟩ := ba h
    exact one _ _ _ h1 h2
  · rename_i is es kk pos
    obtain ⟨a1, a2, a3, a4⟩ := many is es h
    exact pg_tup k.calm a1 (by rw [a3, a2]) a4
  · cases h
theorem bop_ok {op : Bop} {o : Operator} (h : bopB op o = true) : o = bopOp op := by
  unfold bopB at h
  split at h <;> first | rfl | cases h
theorem marks_ok {op : CmpOp} {e : Expr} (h : notSetE e = true) : behindInMarks op e = false := by
  cases e <;> first | rfl | (simp [notSetE] at h)
end
theorem prm_in : ∀ f : Prm, prmName f ∈ bltNames := by
  intro f
  cases f <;> decide +kernel
theorem isi_in {t : String} (h : isiT t = true) : PySem.Str.ofString t ∈ bltNames := by
  have z : t = "int" ∨ t = "bool" ∨ t = "str" ∨ t = "list" ∨ t = "tuple" := of_decide_eq_true h
  rcases z with rfl | rfl | rfl | rfl | rfl <;> decide +kernel
end PW

end
section
set_option Elab.async false
set_option linter.all false
set_option maxRecDepth 100000
set_option maxHeartbeats 4000000
/-! PXJ: a checked text is sound: expressions. -/
namespace PW
open PySem PySem.Spec PyProof.Rows L2

theorem in_range : ("range" : Str) ∈ bltNames := by decide +kernel
theorem in_enum : ("enumerate" : Str) ∈ bltNames := by decide +kernel
theorem in_zip : ("zip" : Str) ∈ bltNames := by decide +kernel
theorem in_isi : ("isinstance" : Str) ∈ bltNames := by decide +kernel
theorem in_len : ("len" : Str) ∈ bltNames := by decide +kernel
theorem in_set : ("set" : Str) ∈ bltNames := by decide +kernel
theorem in_sorted : ("sorted" : Str) ∈ bltNames := by decide +kernel
theorem mem_contains {l : List (Str × Str)} {p : Str × Str} (h : l.contains p = true) : p ∈ l := by simpa using h
section
variable {gl : List D} {Φ : Fns} {ca : EC → Addr}
theorem val_ok {e : Expr} {env : Env} (h : valB e = true) (whole : Sem Value) : isTrue e env whole = (do let v ← whole; standAt e.pos; holding [v] (truthy v)) := by
  cases e <;> first | rfl | (simp [valB] at h; done) | skip
  rename_i op x pos
  cases op <;> first | rfl | (simp [valB] at h)
def vB : PEx → Bool
  | .and _ _ => false
  | .or _ _ => false
  | .not _ => false
  | .cmp _ _ _ => false
  | .peek _ => false
  | .ifx _ _ _ => false
  | .orL _ _ => false
  | .frz _ => false
  | .cmp2 _ _ _ _ _ => false
  | .told _ _ _ => false
  | .jnk => false
  | _ => true
theorem chk_val {c : Cfg} {p : PEx} {e : Expr} (h : chkE c p e = true) (hv : vB p = true) : valB e = true := by
  cases p <;> first | (simp [vB] at hv; done) | skip
  all_goals simp only [chkE] at h
  all_goals first | exact (ba h).1 | (split at h <;> first | rfl | (cases h; done)) | (cases h; done)
theorem plainN_ok {x : Str} (h : plainN x = true) : (x == ("__debug__" : Str)) = false := by
  obtain ⟨h1, _⟩ := ba h
  simpa using h1
theorem both {c : Cfg} {X : Cx} {W : WX} {e : Expr} {p : PEx} (h : chkE c p e = true) (hv : vB p = true) (hs : Snd gl Φ ca X W e p) : Snd gl Φ ca X W e p ∧ (noIfx p = true → SndT gl Φ ca X W e p) := ⟨hs, fun _ => sndT_val (val_ok (chk_val h hv)) hs⟩
mutual
theorem sndE : ∀ (p : PEx) {c : Cfg} {X : Cx} {W : WX} {e : Expr}, COk gl Φ ca c X → (∀ σ, PassesAt (CXx c.sx X) X σ (WE W σ)) → chkE c p e = true → Snd gl Φ ca X W e p ∧ (noIfx p = true → SndT gl Φ ca X W e p)
  | .c d, c, X, W, e, k, hW, h => by
    refine both h rfl ?_
    simp only [chkE] at h
    split at h
    · exact snd_c h
    · cases h
  | .var i, c, X, W, e, k, hW, h => by
    refine both h rfl ?_
    simp only [chkE] at h
    split at h
    · obtain ⟨h1, h2, h3, h4⟩ := k.vis h
      exact snd_var h1 h2 h3 h4
    · cases h
  | .mov i, c, X, W, e, k, hW, h => by
    refine both h rfl ?_
    simp only [chkE] at h
    split at h
    · obtain ⟨h1, h2, h3, h4⟩ := k.vis h
      exact snd_mov h1 h2 h3 h4
    · cases h
  | .glb j, c, X, W, e, k, hW, h => by
    refine both h rfl ?_
    simp only [chkE] at h
    split at h
    · obtain ⟨h1, h2⟩ := ba h
      obtain ⟨h2, h3⟩ := ba h2
      obtain ⟨v, u, a1, a2, a3⟩ := k.gls j _ (of_decide_eq_true h1)
      exact snd_glb (k.glo h2) a1 a2 a3 (plainN_ok h3)
    · cases h
  | .bin op a b, c, X, W, e, k, hW, h => by
    refine both h rfl ?_
    simp only [chkE] at h
    split at h
    · obtain ⟨h1, h2⟩ := ba h
      obtain ⟨h2, h3⟩ := ba h2
      rw [bop_ok h1]
      exact snd_bin (sndE a k hW h2).1 (sndE b k hW h3).1
    · cases h
  | .cmp op a b, c, X, W, e, k, hW, h => by
    refine ⟨?_, fun hi => ?_⟩
    · simp only [chkE] at h
      split at h
      · obtain ⟨h1, h2⟩ := ba h
        obtain ⟨h1, h4⟩ := ba h1
        obtain ⟨h2, h3⟩ := ba h2
        have z := of_decide_eq_true h1
        subst z
        exact snd_cmp k.un (marks_ok h4) (sndE a k hW h2).1 (sndE b k hW h3).1
      · cases h
    · simp only [chkE] at h
      split at h
      · obtain ⟨h1, h2⟩ := ba h
        obtain ⟨h1, h4⟩ := ba h1
        obtain ⟨h2, h3⟩ := ba h2
        have z := of_decide_eq_true h1
        subst z
        exact sndT_cmp k.un (marks_ok h4) (sndE a k hW h2).1 (sndE b k hW h3).1
      · cases h
  | .and a b, c, X, W, e, k, hW, h => by
    refine ⟨?_, fun hi => ?_⟩
    · simp only [chkE] at h
      split at h
      · obtain ⟨h1, h2⟩ := ba h
        exact snd_and (sndE a k hW h1).1 (snd_one (sndE b k hW h2).1)
      · obtain ⟨h1, h2⟩ := ba h
        exact snd_and (sndE a k hW h1).1 (sndE b k hW h2).1
      · cases h
    · simp only [chkE] at h
      simp only [noIfx] at hi
      obtain ⟨i1, i2⟩ := ba hi
      split at h
      · obtain ⟨h1, h2⟩ := ba h
        exact sndT_and ((sndE a k hW h1).2 i1) (sndT_one ((sndE b k hW h2).2 i2))
      · obtain ⟨h1, h2⟩ := ba h
        exact sndT_and ((sndE a k hW h1).2 i1) ((sndE b k hW h2).2 i2)
      · cases h
  | .or a b, c, X, W, e, k, hW, h => by
    refine ⟨?_, fun hi => ?_⟩
    · simp only [chkE] at h
      split at h
      · obtain ⟨h1, h2⟩ := ba h
        exact snd_or (sndE a k hW h1).1 (snd_one (sndE b k hW h2).1)
      · obtain ⟨h1, h2⟩ := ba h
        exact snd_or (sndE a k hW h1).1 (sndE b k hW h2).1
      · cases h
    · simp only [chkE] at h
      simp only [noIfx] at hi
      obtain ⟨i1, i2⟩ := ba hi
      split at h
      · obtain ⟨h1, h2⟩ := ba h
        exact sndT_or ((sndE a k hW h1).2 i1) (sndT_one ((sndE b k hW h2).2 i2))
      · obtain ⟨h1, h2⟩ := ba h
        exact sndT_or ((sndE a k hW h1).2 i1) ((sndE b k hW h2).2 i2)
      · cases h
  | .not a, c, X, W, e, k, hW, h => by
    refine ⟨?_, fun hi => ?_⟩
    · simp only [chkE] at h
      split at h
      · exact snd_not (sndE a k hW h).1
      · cases h
    · simp only [chkE] at h
      simp only [noIfx] at hi
      split at h
      · exact sndT_not ((sndE a k hW h).2 hi)
      · cases h
  | .neg a, c, X, W, e, k, hW, h => by
    refine both h rfl ?_
    simp only [chkE] at h
    split at h
    · exact snd_neg (sndE a k hW h).1
    · cases h
  | .ifx t a b, c, X, W, e, k, hW, h => by
    refine ⟨?_, fun hi => ?_⟩
    · simp only [chkE] at h
      split at h
      · obtain ⟨h1, h2⟩ := ba h
        obtain ⟨h1, h4⟩ := ba h1
        obtain ⟨h2, h3⟩ := ba h2
        exact snd_ifx ((sndE t k hW h4).2 h1) (sndE a k hW h2).1 (sndE b k hW h3).1
      · cases h
    · simp [noIfx] at hi
  | .tup es, c, X, W, e, k, hW, h => by
    refine both h rfl ?_
    simp only [chkE] at h
    split at h
    · exact snd_tup (sndAA es k hW h)
    · cases h
  | .lst es, c, X, W, e, k, hW, h => by
    refine both h rfl ?_
    simp only [chkE] at h
    split at h
    · exact snd_lst (sndAA es k hW h)
    · cases h
  | .lst1 p, c, X, W, e, k, hW, h => by
    refine both h rfl ?_
    simp only [chkE] at h
    split at h
    · obtain ⟨h1, h2⟩ := ba h
      exact snd_lst1 h1 (sndE p k hW h2).1
    · cases h
  | .sub a b, c, X, W, e, k, hW, h => by
    refine both h rfl ?_
    simp only [chkE] at h
    split at h
    · obtain ⟨h1, h2⟩ := ba h
      obtain ⟨h2, h3⟩ := ba h2
      exact snd_sub k.un h1 (sndE a k hW h2).1 (sndE b k hW h3).1
    · cases h
  | .slc a lo hh, c, X, W, e, k, hW, h => by
    refine both h rfl ?_
    simp only [chkE] at h
    split at h
    · obtain ⟨h1, h2⟩ := ba h
      obtain ⟨h2, h3⟩ := ba h2
      exact snd_slc (sndE a k hW h1).1 (sndOO lo k hW h2) (sndOO hh k hW h3)
    · cases h
  | .cal f es, c, X, W, e, k, hW, h => by
    refine both h rfl ?_
    simp only [chkE] at h
    split at h
    · obtain ⟨h1, h2⟩ := ba h
      obtain ⟨h1, h3⟩ := ba h1
      obtain ⟨h3, h4⟩ := ba h3
      obtain ⟨h5, h6⟩ := ba h2
      exact snd_cal (k.fns f _ (of_decide_eq_true h1)) (k.glo h3) (plainN_ok h4) hW h5 (sndAA es k hW h6)
    · cases h
  | .prm f es, c, X, W, e, k, hW, h => by
    refine both h rfl ?_
    simp only [chkE] at h
    split at h
    · obtain ⟨h1, h2⟩ := ba h
      obtain ⟨h1, h3⟩ := ba h1
      obtain ⟨h5, h6⟩ := ba h2
      have z := of_decide_eq_true h1
      exact snd_prm k.calm z (k.glo h3) (by rw [z]; exact k.blt _ (prm_in f)) h5 (sndAA es k hW h6)
    · cases h
  | .mth m o es, c, X, W, e, k, hW, h => by
    refine both h rfl ?_
    simp only [chkE] at h
    split at h
    · obtain ⟨h1, h2⟩ := ba h
      obtain ⟨h1, h3⟩ := ba h1
      obtain ⟨h3, h4⟩ := ba h3
      obtain ⟨h4, h5⟩ := ba h4
      obtain ⟨h2, h6⟩ := ba h2
      obtain ⟨h2, h7⟩ := ba h2
      exact snd_mth k.un (of_decide_eq_true h1) h3 h4 h5 h2 (sndE o k hW h7).1 (sndAA es k hW h6)
    · cases h
  | .isi p t, c, X, W, e, k, hW, h => by
    refine both h rfl ?_
    simp only [chkE] at h
    split at h
    · obtain ⟨h1, h2⟩ := ba h
      obtain ⟨h1, h3⟩ := ba h1
      obtain ⟨h3, h4⟩ := ba h3
      obtain ⟨h4, h5⟩ := ba h4
      obtain ⟨h5, h6⟩ := ba h5
      obtain ⟨h7, h8⟩ := ba h2
      have z := of_decide_eq_true h1
      subst z
      have y := of_decide_eq_true h5
      exact snd_isi h4 y (k.glo h3) (k.blt _ in_isi) (k.glo h6) (by rw [y]; exact k.blt _ (isi_in h4)) h7 (sndE p k hW h8).1
    · cases h
  | .app i p, c, X, W, e, k, hW, h => by
    refine both h rfl ?_
    simp only [chkE] at h
    split at h
    · obtain ⟨h1, h2⟩ := ba h
      obtain ⟨h1, h3⟩ := ba h1
      obtain ⟨h3, h4⟩ := ba h3
      obtain ⟨h7, h8⟩ := ba h2
      have z := of_decide_eq_true h1
      subst z
      obtain ⟨a1, a2, a3, a4⟩ := k.vis h3
      exact snd_app a1 a2 a3 a4 h4 h7 (sndE p k hW h8).1
    · cases h
  | .ext i p, c, X, W, e, k, hW, h => by
    refine both h rfl ?_
    simp only [chkE] at h
    split at h
    · obtain ⟨h1, h2⟩ := ba h
      obtain ⟨h1, h3⟩ := ba h1
      obtain ⟨h3, h4⟩ := ba h3
      obtain ⟨h7, h8⟩ := ba h2
      have z := of_decide_eq_true h1
      subst z
      obtain ⟨a1, a2, a3, a4⟩ := k.vis h3
      exact snd_ext a1 a2 a3 a4 h4 h7 (sndE p k hW h8).1
    · cases h
  | .appL i j, c, X, W, e, k, hW, h => by
    refine both h rfl ?_
    simp only [chkE] at h
    split at h
    · obtain ⟨h1, h2⟩ := ba h
      obtain ⟨h1, h3⟩ := ba h1
      obtain ⟨h2, h4⟩ := ba h2
      obtain ⟨h2, h5⟩ := ba h2
      have z := of_decide_eq_true h1
      subst z
      have y := of_decide_eq_true h3
      subst y
      obtain ⟨a1, a2, a3, a4⟩ := k.vis h2
      obtain ⟨b1, b2, b3, b4⟩ := k.vis h5
      exact snd_appL a1 a2 a3 a4 b1 b2 b3 b4 h4
    · cases h
  | .peek p, c, X, W, e, k, hW, h => by
    refine ⟨?_, fun hi => ?_⟩
    · simp only [chkE] at h
      exact snd_peek (sndE p k hW h).1
    · simp only [chkE] at h
      simp only [noIfx] at hi
      exact sndT_peek ((sndE p k hW h).2 hi)
  | .lapp cn i f p, c, X, W, e, k, hW, h => by
    refine both h rfl ?_
    simp only [chkE] at h
    split at h
    · obtain ⟨h1, h2⟩ := ba h
      obtain ⟨h1, h3⟩ := ba h1
      obtain ⟨h3, h4⟩ := ba h3
      obtain ⟨h2, h5⟩ := ba h2
      obtain ⟨h2, h6⟩ := ba h2
      obtain ⟨h7, h8⟩ := ba h5
      have z := of_decide_eq_true h1
      subst z
      have y := of_decide_eq_true h3
      subst y
      obtain ⟨a1, a2, a3, a4⟩ := k.vis h2
      exact snd_lapp (k.flds _ _ (mem_contains h4)) a1 a2 a3 a4 h6 h7 (sndE p k hW h8).1
    · cases h
  | .lext cn i f p, c, X, W, e, k, hW, h => by
    refine both h rfl ?_
    simp only [chkE] at h
    split at h
    · obtain ⟨h1, h2⟩ := ba h
      obtain ⟨h1, h3⟩ := ba h1
      obtain ⟨h3, h4⟩ := ba h3
      obtain ⟨h2, h5⟩ := ba h2
      obtain ⟨h2, h6⟩ := ba h2
      obtain ⟨h7, h8⟩ := ba h5
      have z := of_decide_eq_true h1
      subst z
      have y := of_decide_eq_true h3
      subst y
      obtain ⟨a1, a2, a3, a4⟩ := k.vis h2
      exact snd_lext (k.flds _ _ (mem_contains h4)) a1 a2 a3 a4 h6 h7 (sndE p k hW h8).1
    · cases h
  | .lpop cn i f, c, X, W, e, k, hW, h => by
    refine both h rfl ?_
    simp only [chkE] at h
    split at h
    · obtain ⟨h1, h2⟩ := ba h
      obtain ⟨h1, h3⟩ := ba h1
      obtain ⟨h3, h4⟩ := ba h3
      obtain ⟨h2, h5⟩ := ba h2
      have z := of_decide_eq_true h1
      subst z
      have y := of_decide_eq_true h3
      subst y
      obtain ⟨a1, a2, a3, a4⟩ := k.vis h2
      exact snd_lpop (k.flds _ _ (mem_contains h4)) a1 a2 a3 a4 h5
    · cases h
  | .cmp2 op op2 p q r, c, X, W, e, k, hW, h => by
    simp only [chkE] at h
    split at h
    · obtain ⟨h1, h2⟩ := ba h
      obtain ⟨h1, h3⟩ := ba h1
      obtain ⟨h1, h4⟩ := ba h1
      obtain ⟨h2, h5⟩ := ba h2
      obtain ⟨h5, h6⟩ := ba h5
      have z := of_decide_eq_true h1
      subst z
      have y := of_decide_eq_true h4
      subst y
      exact ⟨snd_cmp2 k.un (by simpa using h3) (sndE p k hW h2).1 (sndE q k hW h5).1 (sndE r k hW h6).1, fun _ => sndT_cmp2 k.un (by simpa using h3) (sndE p k hW h2).1 (sndE q k hW h5).1 (sndE r k hW h6).1⟩
    · cases h
  | .told i q p, c, X, W, e, k, hW, h => by
    refine ⟨?_, fun hi => by simp [noIfx] at hi⟩
    simp only [chkE] at h
    split at h
    · obtain ⟨h1, h2⟩ := ba h
      obtain ⟨h1, h3⟩ := ba h1
      obtain ⟨h1, h5⟩ := ba h1
      obtain ⟨h3, h6⟩ := ba h3
      obtain ⟨h7, h8⟩ := ba h2
      have z := of_decide_eq_true h1
      subst z
      have L := LamX.lamS_by (k.sc ▸ h7)
      obtain ⟨j, g, cc, fdg, pg, sg, cv, a1, a2, a3, a4, a5, a6, a7, a8, a9, b1, ⟨m1, m2, m3, m4⟩, ⟨m5, m6, m7, m8, m9⟩, m10, ⟨n1, n2, n3, n4⟩, n5⟩ := k.lam h3
      have eq := of_decide_eq_true h6
      rw [← n4] at eq
      subst eq
      exact snd_told (k := j) (k.glo h5) m1 m2 m3 m4 m5 m6 m7 m8 m9 m10 n1 n2 n3 L rfl (fun _ _ _ _ _ => rfl) fun A outer t G E f c1 hr => (sndE p (k.inLam L hr (n5 _ ⟨rfl, rfl, rfl, rfl, rfl⟩ hr)) (fun σ => L2M.passAt lamM_takes σ) h8).1
    · cases h
  | .frz p, c, X, W, e, k, hW, h => by
    refine ⟨?_, fun hi => by simp [noIfx] at hi⟩
    simp only [chkE] at h
    exact snd_frz (sndE p k hW h).1
  | .lc elt tg it t, c, X, W, e, k, hW, h => by
    refine both h rfl ?_
    simp only [chkE] at h
    split at h
    · obtain ⟨h1, h2⟩ := ba h
      obtain ⟨h1, h3⟩ := ba h1
      obtain ⟨h3, h4⟩ := ba h3
      obtain ⟨h4, h5⟩ := ba h4
      obtain ⟨h5, h6⟩ := ba h5
      obtain ⟨h7, h8⟩ := ba h2
      obtain ⟨h8, h9⟩ := ba h8
      have z := of_decide_eq_true h1
      subst z
      exact snd_lc k.calm (by rw [k.N]; exact k.nd) h3 (sndII it k hW h7) (by rw [k.N, k.sc]; exact blkOk_by h6) (of_decide_eq_true h5) (fun s H C cl fp => (k.blk s H C cl fp).pg h4) (sndTs t k h8) (fun s H C cl fp => (sndE elt (k.blk s H C cl fp) passes0 h9).1)
    · cases h
  | .fld cn p f, c, X, W, e, k, hW, h => by
    refine both h rfl ?_
    simp only [chkE] at h
    split at h
    · obtain ⟨h1, h2⟩ := ba h
      obtain ⟨h1, h3⟩ := ba h1
      obtain ⟨h4, h5⟩ := ba h2
      have z := of_decide_eq_true h1
      subst z
      exact snd_fld (k.flds _ _ (mem_contains h3)) h4 (sndE p k hW h5).1
    · cases h
  | .fldv cn i f, c, X, W, e, k, hW, h => by
    refine both h rfl ?_
    simp only [chkE] at h
    split at h
    · obtain ⟨h1, h2⟩ := ba h
      obtain ⟨h1, h3⟩ := ba h1
      have z := of_decide_eq_true h1
      subst z
      obtain ⟨a1, a2, a3, a4⟩ := k.vis h2
      exact snd_fldv (k.flds _ _ (mem_contains h3)) a1 a2 a3 a4
    · cases h
  | .mcl j cn m p es, c, X, W, e, k, hW, h => by
    refine both h rfl ?_
    simp only [chkE] at h
    split at h
    · rename_i x n ap args cp
      obtain ⟨g1, g2⟩ := ba h
      obtain ⟨g3, g4⟩ := ba g1
      obtain ⟨g5, g6⟩ := ba g3
      obtain ⟨g7, g8⟩ := ba g4
      obtain ⟨g9, g10⟩ := ba g8
      obtain ⟨g11, g12⟩ := ba g2
      obtain ⟨g13, g14⟩ := ba g11
      have z := of_decide_eq_true g5
      subst z
      have fn := k.fns j _ (of_decide_eq_true g6)
      cases args with
      | nil =>
        cases es with
        | nil => exact snd_mcl0 fn hW g7 g9 (sndE p k hW g14).1
        | cons _ _ => simp [chkA] at g12
      | cons a r => exact snd_mcl fn hW g7 g9 g10 g13 (sndE p k hW g14).1 (sndAA es k hW g12)
    · cases h
  | .mcv j cn m i es, c, X, W, e, k, hW, h => by
    refine both h rfl ?_
    simp only [chkE] at h
    split at h
    · rename_i x _ n ap args cp
      obtain ⟨g1, g2⟩ := ba h
      obtain ⟨g3, g4⟩ := ba g1
      obtain ⟨g5, g6⟩ := ba g3
      obtain ⟨g7, g8⟩ := ba g4
      obtain ⟨g9, g10⟩ := ba g8
      obtain ⟨g11, g12⟩ := ba g2
      have z := of_decide_eq_true g5
      subst z
      have fn := k.fns j _ (of_decide_eq_true g6)
      obtain ⟨a1, a2, a3, a4⟩ := k.vis g7
      cases args with
      | nil =>
        cases es with
        | nil => exact snd_mcv0 fn hW g9 a1 a2 a3 a4
        | cons _ _ => simp [chkA] at g12
      | cons a r => exact snd_mcv fn hW g9 g10 g11 a1 a2 a3 a4 (sndAA es k hW g12)
    · cases h
  | .new j cn es, c, X, W, e, k, hW, h => by
    refine both h rfl ?_
    simp only [chkE] at h
    split at h
    · rename_i x _ args _
      obtain ⟨h1, h2⟩ := ba h
      obtain ⟨h1, h3⟩ := ba h1
      obtain ⟨h1, h4⟩ := ba h1
      obtain ⟨h3, h5⟩ := ba h3
      obtain ⟨h2, h7⟩ := ba h2
      have z := of_decide_eq_true h1
      subst z
      have fn := k.fns j _ (of_decide_eq_true h4)
      cases args with
      | nil =>
        cases es with
        | nil => exact snd_new0 fn (k.glo h3) (plainN_ok h5)
        | cons _ _ => simp [chkA] at h7
      | cons a r => exact snd_new fn (k.glo h3) (plainN_ok h5) h2 (sndAA es k hW h7)
    · cases h
  | .mct j cn m p es, c, X, W, e, k, hW, h => by
    refine both h rfl ?_
    simp only [chkE] at h
    split at h
    · obtain ⟨h1, h2⟩ := ba h
      obtain ⟨h1, h3⟩ := ba h1
      obtain ⟨h1, h4⟩ := ba h1
      obtain ⟨h3, h5⟩ := ba h3
      obtain ⟨h5, h6⟩ := ba h5
      obtain ⟨h2, h7⟩ := ba h2
      obtain ⟨h2, h8⟩ := ba h2
      have z := of_decide_eq_true h1
      subst z
      exact snd_mct (k.fns j _ (of_decide_eq_true h4)) hW h3 h5 h6 h2 (sndE p k hW h8).1 (sndAA es k hW h7)
    · cases h
  | .mctP j cn m f p es, c, X, W, e, k, hW, h => by
    refine both h rfl ?_
    simp only [chkE] at h
    split at h
    · obtain ⟨h1, h2⟩ := ba h
      obtain ⟨h1, h3⟩ := ba h1
      obtain ⟨h1, h4⟩ := ba h1
      obtain ⟨h3, h5⟩ := ba h3
      obtain ⟨h5, h6⟩ := ba h5
      obtain ⟨h2, h7⟩ := ba h2
      obtain ⟨h2, h8⟩ := ba h2
      have z := of_decide_eq_true h1
      subst z
      exact snd_mctP (k.fns j _ (of_decide_eq_true h4)) hW h3 h5 h6 h2 (sndE p k hW h8).1 (sndAA es k hW h7)
    · cases h
  | .lenset p, c, X, W, e, k, hW, h => by
    refine both h rfl ?_
    simp only [chkE] at h
    split at h
    · obtain ⟨h1, h2⟩ := ba h
      obtain ⟨h1, h3⟩ := ba h1
      obtain ⟨h1, h4⟩ := ba h1
      obtain ⟨h3, h5⟩ := ba h3
      obtain ⟨h6, h7⟩ := ba h2
      have z := of_decide_eq_true h1
      subst z
      have y := of_decide_eq_true h3
      subst y
      exact snd_lenset k.calm (k.glo h4) (k.blt _ in_len) (k.glo h5) (k.blt _ in_set) h6 (sndE p k hW h7).1
    · cases h
  | .sortset p, c, X, W, e, k, hW, h => by
    refine both h rfl ?_
    simp only [chkE] at h
    split at h
    · obtain ⟨h1, h2⟩ := ba h
      obtain ⟨h1, h3⟩ := ba h1
      obtain ⟨h1, h4⟩ := ba h1
      obtain ⟨h3, h5⟩ := ba h3
      obtain ⟨h6, h7⟩ := ba h2
      have z := of_decide_eq_true h1
      subst z
      have y := of_decide_eq_true h3
      subst y
      exact snd_sortset k.calm (k.glo h4) (k.blt _ in_sorted) (k.glo h5) (k.blt _ in_set) h6 (sndE p k hW h7).1
    · cases h
  | .dnew, c, X, W, e, k, hW, h => by
    refine both h rfl ?_
    simp only [chkE] at h
    split at h
    · exact snd_dnew
    · cases h
  | .dpopF cn i f j, c, X, W, e, k, hW, h => by
    refine both h rfl ?_
    simp only [chkE] at h
    split at h
    · obtain ⟨h1, h2⟩ := ba h
      obtain ⟨h1, h3⟩ := ba h1
      obtain ⟨h3, h4⟩ := ba h3
      obtain ⟨h2, h5⟩ := ba h2
      obtain ⟨h2, h6⟩ := ba h2
      have z := of_decide_eq_true h1
      subst z
      have y := of_decide_eq_true h3
      subst y
      obtain ⟨a1, a2, a3, a4⟩ := k.vis h2
      obtain ⟨b1, b2, b3, b4⟩ := k.vis h6
      exact snd_dpopF (k.flds _ _ (mem_contains h4)) a1 a2 a3 a4 b1 b2 b3 b4 h5
    · cases h
  | .tup2 a b, c, X, W, e, k, hW, h => by
    refine both h rfl ?_
    simp only [chkE] at h
    split at h
    · obtain ⟨g1, g2⟩ := ba h
      obtain ⟨g3, g4⟩ := ba g1
      obtain ⟨g5, g6⟩ := ba g2
      exact snd_tup2 g3 g4 (sndE a k hW g5).1 (sndE b k hW g6).1
    · cases h
  | .dgetv i p, c, X, W, e, k, hW, h => by
    refine both h rfl ?_
    simp only [chkE] at h
    split at h
    · obtain ⟨g1, g2⟩ := ba h
      obtain ⟨g3, g4⟩ := ba g1
      obtain ⟨a1, a2, a3, a4⟩ := k.vis g3
      exact snd_dgetv k.un a1 a2 a3 a4 g4 (sndE p k hW g2).1
    · cases h
  | .lend j p, c, X, W, e, k, hW, h => by
    refine both h rfl ?_
    simp only [chkE] at h
    exact snd_lend (sndE p k hW (ba h).2).1
  | .pinD j p, c, X, W, e, k, hW, h => by
    refine both h rfl ?_
    simp only [chkE] at h
    exact snd_pinD (sndE p k hW (ba h).2).1
  | .pop i, c, X, W, e, k, hW, h => by
    refine both h rfl ?_
    simp only [chkE] at h
    split at h
    · obtain ⟨g1, g2⟩ := ba h
      obtain ⟨g2, g3⟩ := ba g2
      have z := of_decide_eq_true g1
      subst z
      obtain ⟨a1, a2, a3, a4⟩ := k.vis g2
      exact snd_pop a1 a2 a3 a4 g3
    · cases h
  | .dget2 d kx p, c, X, W, e, k, hW, h => by
    refine both h rfl ?_
    simp only [chkE] at h
    split at h
    · obtain ⟨g1, g2⟩ := ba h
      obtain ⟨g1, g3⟩ := ba g1
      obtain ⟨g3, g4⟩ := ba g3
      obtain ⟨g2, g5⟩ := ba g2
      obtain ⟨g6, g7⟩ := ba g2
      obtain ⟨g5, g8⟩ := ba g5
      obtain ⟨g8, g9⟩ := ba g8
      have z := of_decide_eq_true g1
      subst z
      exact snd_dget2 k.un g3 g4 g6 g7 (sndE d k hW g5).1 (sndE kx k hW g8).1 (sndE p k hW g9).1
    · cases h
  | .dpop i p, c, X, W, e, k, hW, h => by
    refine both h rfl ?_
    simp only [chkE] at h
    split at h
    · obtain ⟨g1, g2⟩ := ba h
      obtain ⟨g1, g3⟩ := ba g1
      obtain ⟨g3, g4⟩ := ba g3
      obtain ⟨g5, g6⟩ := ba g2
      have z := of_decide_eq_true g1
      subst z
      obtain ⟨a1, a2, a3, a4⟩ := k.vis g3
      exact snd_dpop a1 a2 a3 a4 g4 g5 (sndE p k hW g6).1
    · cases h
  | .orL a b, c, X, W, e, k, hW, h => by
    refine ⟨?_, fun z => by cases z⟩
    simp only [chkE] at h
    split at h
    · obtain ⟨g1, g2⟩ := ba h
      exact snd_orL (sndE a k hW g1).1 (sndE b k hW g2).1
    · cases h
  | .rpl p y z, c, X, W, e, k, hW, h => by simp [chkE] at h
  | .appT p, c, X, W, e, k, hW, h => by
    refine both h rfl ?_
    simp only [chkE] at h
    split at h
    · obtain ⟨g1, g2⟩ := ba h
      obtain ⟨g1, g3⟩ := ba g1
      obtain ⟨g3, g4⟩ := ba g3
      have z := of_decide_eq_true g1
      subst z
      exact snd_appT g3 g4 (sndE p k hW g2).1
    · cases h
  | .jnk, c, X, W, e, k, hW, h => by
    refine ⟨fun Γ R E hs => ?_, fun _ Γ R E hs => ?_⟩
    · unfold sem at hs
      exact hs.elim
    · unfold semT sem at hs
      exact hs.elim
  | .rng1 _, c, X, W, e, k, hW, h => by simp [chkE] at h
  | .rng2 _ _, c, X, W, e, k, hW, h => by simp [chkE] at h
  | .itL _, c, X, W, e, k, hW, h => by simp [chkE] at h
  | .itT _, c, X, W, e, k, hW, h => by simp [chkE] at h
  | .itS _, c, X, W, e, k, hW, h => by simp [chkE] at h
  | .itD _, c, X, W, e, k, hW, h => by simp [chkE] at h
  | .enm _, c, X, W, e, k, hW, h => by simp [chkE] at h
  | .zip _ _, c, X, W, e, k, hW, h => by simp [chkE] at h
theorem sndAA : ∀ (ps : List PEx) {c : Cfg} {X : Cx} {W : WX} {es : List Expr}, COk gl Φ ca c X → (∀ σ, PassesAt (CXx c.sx X) X σ (WE W σ)) → chkA c ps es = true → SndA gl Φ ca X W es ps
  | [], c, X, W, es, k, hW, h => by
    cases es with
    | nil => exact snda_nil
    | cons _ _ => simp [chkA] at h
  | p :: ps, c, X, W, es, k, hW, h => by
    cases es with
    | nil => simp [chkA] at h
    | cons e es =>
      simp only [chkA] at h
      obtain ⟨h1, h2⟩ := ba h
      obtain ⟨h2, h3⟩ := ba h2
      exact snda_cons h1 (sndE p k hW h2).1 (sndAA ps k hW h3)
theorem sndOO : ∀ (p : Option PEx) {c : Cfg} {X : Cx} {W : WX} {e : Option Expr}, COk gl Φ ca c X → (∀ σ, PassesAt (CXx c.sx X) X σ (WE W σ)) → chkO c p e = true → SndO gl Φ ca X W e p
  | none, c, X, W, e, k, hW, h => by
    cases e with
    | none => exact sndo_none
    | some _ => simp [chkO] at h
  | some p, c, X, W, e, k, hW, h => by
    cases e with
    | none => simp [chkO] at h
    | some e =>
      simp only [chkO] at h
      exact sndo_some (sndE p k hW h).1
theorem sndTs : ∀ (t : Option PEx) {c : Cfg} {X : Cx} {scope : Scope} {ifs : List Expr}, COk gl Φ ca c X → chkTs (c.blk scope) t ifs = true → TsOk gl Φ ca X scope ifs t
  | none, c, X, scope, ifs, k, h => by
    cases ifs with
    | nil => trivial
    | cons _ _ => simp [chkTs] at h
  | some p, c, X, scope, ifs, k, h => by
    cases ifs with
    | nil => simp [chkTs] at h
    | cons e r =>
      cases r with
      | cons _ _ => simp [chkTs] at h
      | nil =>
        simp only [chkTs] at h
        obtain ⟨h1, h2⟩ := ba h
        exact fun s H C cl fp => (sndE p (k.blk s H C cl fp) passes0 h2).2 h1
theorem sndII : ∀ (p : PEx) {c : Cfg} {X : Cx} {W : WX} {tg e : Expr}, COk gl Φ ca c X → (∀ σ, PassesAt (CXx c.sx X) X σ (WE W σ)) → chkI c p tg e = true → SndI gl Φ ca X W tg e p
  | .rng1 p, c, X, W, tg, e, k, hW, h => by
    simp only [chkI] at h
    split at h
    · obtain ⟨h1, h2⟩ := ba h
      obtain ⟨h1, h3⟩ := ba h1
      obtain ⟨h4, h5⟩ := ba h2
      have z := of_decide_eq_true h1
      subst z
      exact sndI_rng1 (k.glo h3) (k.blt _ in_range) h4 (sndE p k hW h5).1
    · cases h
  | .rng2 p q, c, X, W, tg, e, k, hW, h => by
    simp only [chkI] at h
    split at h
    · obtain ⟨h1, h2⟩ := ba h
      obtain ⟨h1, h3⟩ := ba h1
      obtain ⟨h4, h5⟩ := ba h2
      obtain ⟨h4, h6⟩ := ba h4
      obtain ⟨h5, h7⟩ := ba h5
      have z := of_decide_eq_true h1
      subst z
      exact sndI_rng2 (k.glo h3) (k.blt _ in_range) h4 h6 (sndE p k hW h5).1 (sndE q k hW h7).1
    · cases h
  | .itL p, c, X, W, tg, e, k, hW, h => by
    simp only [chkI] at h
    exact sndI_itL (sndE p k hW h).1
  | .itT p, c, X, W, tg, e, k, hW, h => by
    simp only [chkI] at h
    exact sndI_itT (sndE p k hW h).1
  | .itS p, c, X, W, tg, e, k, hW, h => by
    simp only [chkI] at h
    exact sndI_itS (sndE p k hW h).1
  | .itD i, c, X, W, tg, e, k, hW, h => by
    simp only [chkI] at h
    split at h
    · obtain ⟨a1, a2, a3, a4⟩ := k.vis h
      exact sndI_itD a1 a2 a3 a4
    · cases h
  | .enm p, c, X, W, tg, e, k, hW, h => by
    simp only [chkI] at h
    split at h
    · obtain ⟨h1, h2⟩ := ba h
      obtain ⟨h1, h3⟩ := ba h1
      obtain ⟨h4, h5⟩ := ba h2
      have z := of_decide_eq_true h1
      subst z
      exact sndI_enm (k.glo h3) (k.blt _ in_enum) h4 (sndE p k hW h5).1
    · cases h
  | .zip p q, c, X, W, tg, e, k, hW, h => by
    simp only [chkI] at h
    split at h
    · obtain ⟨h1, h2⟩ := ba h
      obtain ⟨h1, h3⟩ := ba h1
      obtain ⟨h4, h5⟩ := ba h2
      obtain ⟨h4, h6⟩ := ba h4
      obtain ⟨h5, h7⟩ := ba h5
      have z := of_decide_eq_true h1
      subst z
      exact sndI_zip (k.glo h3) (k.blt _ in_zip) h4 h6 (sndE p k hW h5).1 (sndE q k hW h7).1
    · cases h
  | .c _, c, X, W, tg, e, k, hW, h => by simp [chkI] at h
  | .var _, c, X, W, tg, e, k, hW, h => by simp [chkI] at h
  | .mov _, c, X, W, tg, e, k, hW, h => by simp [chkI] at h
  | .glb _, c, X, W, tg, e, k, hW, h => by simp [chkI] at h
  | .bin _ _ _, c, X, W, tg, e, k, hW, h => by simp [chkI] at h
  | .cmp _ _ _, c, X, W, tg, e, k, hW, h => by simp [chkI] at h
  | .and _ _, c, X, W, tg, e, k, hW, h => by simp [chkI] at h
  | .or _ _, c, X, W, tg, e, k, hW, h => by simp [chkI] at h
  | .not _, c, X, W, tg, e, k, hW, h => by simp [chkI] at h
  | .neg _, c, X, W, tg, e, k, hW, h => by simp [chkI] at h
  | .ifx _ _ _, c, X, W, tg, e, k, hW, h => by simp [chkI] at h
  | .tup _, c, X, W, tg, e, k, hW, h => by simp [chkI] at h
  | .lst _, c, X, W, tg, e, k, hW, h => by simp [chkI] at h
  | .lst1 _, c, X, W, tg, e, k, hW, h => by simp [chkI] at h
  | .sub _ _, c, X, W, tg, e, k, hW, h => by simp [chkI] at h
  | .slc _ _ _, c, X, W, tg, e, k, hW, h => by simp [chkI] at h
  | .cal _ _, c, X, W, tg, e, k, hW, h => by simp [chkI] at h
  | .prm _ _, c, X, W, tg, e, k, hW, h => by simp [chkI] at h
  | .mth _ _ _, c, X, W, tg, e, k, hW, h => by simp [chkI] at h
  | .fld _ _ _, c, X, W, tg, e, k, hW, h => by simp [chkI] at h
  | .fldv _ _ _, c, X, W, tg, e, k, hW, h => by simp [chkI] at h
  | .mcl _ _ _ _ _, c, X, W, tg, e, k, hW, h => by simp [chkI] at h
  | .mcv _ _ _ _ _, c, X, W, tg, e, k, hW, h => by simp [chkI] at h
  | .new _ _ _, c, X, W, tg, e, k, hW, h => by simp [chkI] at h
  | .mct _ _ _ _ _, c, X, W, tg, e, k, hW, h => by simp [chkI] at h
  | .lenset _, c, X, W, tg, e, k, hW, h => by simp [chkI] at h
  | .sortset _, c, X, W, tg, e, k, hW, h => by simp [chkI] at h
  | .dnew, c, X, W, tg, e, k, hW, h => by simp [chkI] at h
  | .dpopF _ _ _ _, c, X, W, tg, e, k, hW, h => by simp [chkI] at h
  | .pop _, c, X, W, tg, e, k, hW, h => by simp [chkI] at h
  | .dget2 _ _ _, c, X, W, tg, e, k, hW, h => by simp [chkI] at h
  | .dpop _ _, c, X, W, tg, e, k, hW, h => by simp [chkI] at h
  | .orL _ _, c, X, W, tg, e, k, hW, h => by simp [chkI] at h
  | .rpl _ _ _, c, X, W, tg, e, k, hW, h => by simp [chkI] at h
  | .frz _, c, X, W, tg, e, k, hW, h => by simp [chkI] at h
  | .lapp _ _ _ _, c, X, W, tg, e, k, hW, h => by simp [chkI] at h
  | .lext _ _ _ _, c, X, W, tg, e, k, hW, h => by simp [chkI] at h
  | .lpop _ _ _, c, X, W, tg, e, k, hW, h => by simp [chkI] at h
  | .cmp2 _ _ _ _ _, c, X, W, tg, e, k, hW, h => by simp [chkI] at h
  | .told _ _ _, c, X, W, tg, e, k, hW, h => by simp [chkI] at h
  | .appT _, c, X, W, tg, e, k, hW, h => by simp [chkI] at h
  | .tup2 _ _, c, X, W, tg, e, k, hW, h => by simp [chkI] at h
  | .dgetv _ _, c, X, W, tg, e, k, hW, h => by simp [chkI] at h
  | .mctP _ _ _ _ _ _, c, X, W, tg, e, k, hW, h => by simp [chkI] at h
  | .lend _ _, c, X, W, tg, e, k, hW, h => by simp [chkI] at h
  | .pinD _ _, c, X, W, tg, e, k, hW, h => by simp [chkI] at h
  | .jnk, c, X, W, tg, e, k, hW, h => by simp [chkI] at h
  | .isi _ _, c, X, W, tg, e, k, hW, h => by simp [chkI] at h
  | .app _ _, c, X, W, tg, e, k, hW, h => by simp [chkI] at h
  | .ext _ _, c, X, W, tg, e, k, hW, h => by simp [chkI] at h
  | .appL _ _, c, X, W, tg, e, k, hW, h => by simp [chkI] at h
  | .peek _, c, X, W, tg, e, k, hW, h => by simp [chkI] at h
  | .lc _ _ _ _, c, X, W, tg, e, k, hW, h => by simp [chkI] at h
end
end
end PW

end
section
set_option Elab.async false
set_option linter.all false
set_option maxRecDepth 100000
set_option maxHeartbeats 4000000
/-! PXW: a, b = x, y and a, b, c = x, y, z of plain local names. -/
namespace PW
open PySem PySem.Spec PyProof.Rows L2
def isLo (sc : Scope) (x : Str) : Bool := match sc.names.lookup x with
  | some .local => true
  | _ => false
def isFn (sc : Scope) : Bool := match sc.kind with
  | .function => true
  | _ => false
def parB (sc : Scope) (x y : Str) (px py : Pos) (a b : Expr) : Bool := ((isFn sc && (isLo sc x && isLo sc y)) && ((py.line == px.line) && !decide (x = y))) && ((notStar a && notStar b) && (!([a, b].all (foldedForSure 8)) && !([a, b].all (constantsAlone 8))))
theorem isLo_ok {sc : Scope} {x : Str} (h : isLo sc x = true) : sc.names.lookup x = some .local := by
  unfold isLo at h
  split at h
  · assumption
  · cases h
theorem isFn_ok {sc : Scope} (h : isFn sc = true) : sc.kind = .function := by
  unfold isFn at h
  split at h
  · assumption
  · cases h
theorem star_any {a : Expr} (h : notStar a = true) : (match (generalizing := false) a with | .Starred .. => true | _ => false) = false := by
  cases a <;> first | rfl | (simp [notStar] at h)
theorem par_ok {env : Env} {x y : Str} {px py : Pos} {a b : Expr} {kt k2 : Nat} {pt pt2 : Pos} (h : parB env.scope x y px py a b = true) : swappedStores [.Tuple [.Name x px, .Name y py] kt pt] (.Tuple [a, b] k2 pt2) env = pure (some [x, y]) := by
  obtain ⟨h1, h2⟩ := ba h
  obtain ⟨h1, h3⟩ := ba h1
  obtain ⟨h1, h4⟩ := ba h1
  obtain ⟨h4, h5⟩ := ba h4
  obtain ⟨h3, h6⟩ := ba h3
  obtain ⟨h2, h7⟩ := ba h2
  obtain ⟨h8, h9⟩ := ba h2
  obtain ⟨h7, h10⟩ := ba h7
  have e1 := isLo_ok h4
  have e2 := isLo_ok h5
  have ek : env.blockKind = .function := by
    unfold Env.blockKind
    rw [isFn_ok h1]
    rfl
  have hne : x ≠ y := by simpa using h6
  have k1 : env.kindOf x = some .local := e1
  have k2' : env.kindOf y = some .local := e2
  unfold swappedStores
  have s1 := star_any h8
  have s2 := star_any h9
  simp only [Bool.not_eq_true'] at h7 h10
  have h3' : py.line = px.line := by simpa using h3
  have f1 : ([Expr.Name x px, Expr.Name y py].filterMap fun
      | .Name id pos => if env.kindOf id == some .local && pos.line == px.line then some id else none
      | _ => none) = [x, y] := by
    simp [k1, k2', h3']
  have d1 : ([x, y] : List Str).eraseDups.length = 2 := by
    have : (y == x) = false := by simpa using (Ne.symm hne)
    simp [List.eraseDups_cons, this]
  show (if (!(2 == 2 || 2 == 3) || (2 != 2) || (env.blockKind != .function)) = true then pure none else if ([a, b].any fun | .Starred .. => true | _ => false) = true then pure none else _) = _
  rw [if_neg (by rw [ek]; decide), if_neg (by simp [s1, s2])]
  show (if ((([Expr.Name x px, Expr.Name y py].filterMap fun
      | .Name id pos => if env.kindOf id == some .local && pos.line == px.line then some id else none
      | _ => none).length != 2) || (([Expr.Name x px, Expr.Name y py].filterMap fun
      | .Name id pos => if env.kindOf id == some .local && pos.line == px.line then some id else none
      | _ => none).eraseDups.length != ([Expr.Name x px, Expr.Name y py].filterMap fun
      | .Name id pos => if env.kindOf id == some .local && pos.line == px.line then some id else none
      | _ => none).length)) = true then pure none else if [a, b].all (foldedForSure 8) = true then pure none else if [a, b].all (constantsAlone 8) = true then unsupported "assign.tuple-of-constant-expressions:order-of-the-stores" >>= fun _ => pure (some ([Expr.Name x px, Expr.Name y py].filterMap fun
      | .Name id pos => if env.kindOf id == some .local && pos.line == px.line then some id else none
      | _ => none)) else pure (some ([Expr.Name x px, Expr.Name y py].filterMap fun
      | .Name id pos => if env.kindOf id == some .local && pos.line == px.line then some id else none
      | _ => none))) = _
  rw [f1, d1, h7, h10]
  rfl
def parB3 (sc : Scope) (x y z : Str) (px py pz : Pos) (a b d : Expr) : Bool := ((isFn sc && (isLo sc x && (isLo sc y && isLo sc z))) && (((py.line == px.line) && (pz.line == px.line)) && (!decide (x = y) && (!decide (x = z) && !decide (y = z))))) && ((notStar a && (notStar b && notStar d)) && (!([a, b, d].all (foldedForSure 8)) && !([a, b, d].all (constantsAlone 8))))
theorem par3_ok {env : Env} {x y z : Str} {px py pz : Pos} {a b d : Expr} {kt k2 : Nat} {pt pt2 : Pos} (h : parB3 env.scope x y z px py pz a b d = true) : swappedStores [.Tuple [.Name x px, .Name y py, .Name z pz] kt pt] (.Tuple [a, b, d] k2 pt2) env = pure (some [x, y, z]) := by
  obtain ⟨h1, h2⟩ := ba h
  obtain ⟨h1, h3⟩ := ba h1
  obtain ⟨h1, h4⟩ := ba h1
  obtain ⟨h4, h5⟩ := ba h4
  obtain ⟨h5, h6⟩ := ba h5
  obtain ⟨h3, h7⟩ := ba h3
  obtain ⟨h3, h8⟩ := ba h3
  obtain ⟨h7, h9⟩ := ba h7
  obtain ⟨h9, h10⟩ := ba h9
  obtain ⟨h2, h11⟩ := ba h2
  obtain ⟨n1, h2⟩ := ba h2
  obtain ⟨n2, n3⟩ := ba h2
  obtain ⟨h11, h12⟩ := ba h11
  have ek : env.blockKind = .function := by
    unfold Env.blockKind
    rw [isFn_ok h1]
    rfl
  have xy : x ≠ y := by simpa using h7
  have xz : x ≠ z := by simpa using h9
  have yz : y ≠ z := by simpa using h10
  have k1 : env.kindOf x = some .local := isLo_ok h4
  have k2' : env.kindOf y = some .local := isLo_ok h5
  have k3 : env.kindOf z = some .local := isLo_ok h6
  unfold swappedStores
  have s1 := star_any n1
  have s2 := star_any n2
  have s3 := star_any n3
  simp only [Bool.not_eq_true'] at h11 h12
  have h3' : py.line = px.line := by simpa using h3
  have h8' : pz.line = px.line := by simpa using h8
  have f1 : ([Expr.Name x px, Expr.Name y py, Expr.Name z pz].filterMap fun
      | .Name id pos => if env.kindOf id == some .local && pos.line == px.line then some id else none
      | _ => none) = [x, y, z] := by
    simp [k1, k2', k3, h3', h8']
  have d1 : ([x, y, z] : List Str).eraseDups.length = 3 := by
    have e1 : (y == x) = false := by simpa using (Ne.symm xy)
    have e2 : (z == x) = false := by simpa using (Ne.symm xz)
    have e3 : (z == y) = false := by simpa using (Ne.symm yz)
    simp [List.eraseDups_cons, e1, e2, e3]
  show (if (!(3 == 2 || 3 == 3) || (3 != 3) || (env.blockKind != .function)) = true then pure none else if ([a, b, d].any fun | .Starred .. => true | _ => false) = true then pure none else _) = _
  rw [if_neg (by rw [ek]; decide), if_neg (by simp [s1, s2, s3])]
  show (if ((([Expr.Name x px, Expr.Name y py, Expr.Name z pz].filterMap fun
      | .Name id pos => if env.kindOf id == some .local && pos.line == px.line then some id else none
      | _ => none).length != 3) || (([Expr.Name x px, Expr.Name y py, Expr.Name z pz].filterMap fun
      | .Name id pos => if env.kindOf id == some .local && pos.line == px.line then some id else none
      | _ => none).eraseDups.length != ([Expr.Name x px, Expr.Name y py, Expr.Name z pz].filterMap fun
      | .Name id pos => if env.kindOf id == some .local && pos.line == px.line then some id else none
      | _ => none).length)) = true then pure none else if [a, b, d].all (foldedForSure 8) = true then pure none else if [a, b, d].all (constantsAlone 8) = true then unsupported "assign.tuple-of-constant-expressions:order-of-the-stores" >>= fun _ => pure (some ([Expr.Name x px, Expr.Name y py, Expr.Name z pz].filterMap fun
      | .Name id pos => if env.kindOf id == some .local && pos.line == px.line then some id else none
      | _ => none)) else pure (some ([Expr.Name x px, Expr.Name y py, Expr.Name z pz].filterMap fun
      | .Name id pos => if env.kindOf id == some .local && pos.line == px.line then some id else none
      | _ => none))) = _
  rw [f1, d1, h11, h12]
  rfl
section
variable {gl : List D} {Φ : Fns} {ca : EC → Addr} {X : Cx} {W : WX} {a b : Expr} {p q : PEx} {i j : Nat} {x y : Str} {px py pt pt2 pos : Pos} {kt k2 : Nat}
theorem sndS_par2 (hc : X.calm = true) (hN : X.N.Nodup) (hi : X.N[i]? = some x) (hj : X.N[j]? = some y) (hij : i ≠ j) (h : parB X.env.scope x y px py a b = true) (ha : Snd gl Φ ca X W a p) (hb : Snd gl Φ ca X W b q) :
    SndS gl Φ ca X W (.Assign [.Tuple [.Name x px, .Name y py] kt pt] (.Tuple [a, b] k2 pt2) pos) (.par2 i j p q) := by
  intro Γ P hsm σ G H F st D k
  unfold semS at hsm
  have hw := par_ok (env := X.env) (kt := kt) (k2 := k2) (pt := pt) (pt2 := pt2) h
  obtain ⟨h1, h2⟩ := ba h
  obtain ⟨h1, h3⟩ := ba h1
  obtain ⟨h1, h4⟩ := ba h1
  obtain ⟨h4, h5⟩ := ba h4
  obtain ⟨h2, h7⟩ := ba h2
  obtain ⟨na, nb⟩ := ba h2
  refine wS_of (ps_par hc hN hi hj hij (isLo_ok h4) (isLo_ok h5) (pa_cons pe_w (pa_cons pe_w pa_nil (star_ok nb)) (star_ok na)) hw (by rw [swapsWithSole]; exact swaps_no rfl)) ?_
  refine ha Γ _ P.ex hsm σ G H F st _ (fun v o S Γ1 G1 H1 F1 st1 sp1 r1 d1 d2 hs1 => ?_) (k.kox σ)
  refine hb Γ1 _ P.ex hs1 σ G1 H1 F1 st1 _ (fun v2 o2 S2 Γ2 G2 H2 F2 st2 sp2 r2 e1 e2 hs2 => ⟨v, v2, rfl, ?_⟩) ((k.step sp1).kox σ)
  obtain ⟨li, lj, hnx⟩ := hs2
  have r1' : ORep X.K G2 H2 v o S := r1.keep sp2.gg (fun c hc => sp2.gn c (r1.foot c hc).2 (r1.foot c hc).1 (d1 c hc)) fun c u hc e => sp2.hh c u (d1 c hc) e
  have out2 : ∀ c, c ∈ S → ∀ i, c ∉ F2 i := fun c hc => sp2.out (r1.foot c hc).2 (d1 c hc)
  have dj : ∀ c, c ∈ S2 → c ∉ S := fun c hz hc => by
    rcases e2 c hz with ⟨k, y⟩ | y
    · exact d1 c hc k y
    · exact (r1.foot c hc).2 y
  have st3 := st2.set (i := i) li r1' fun c hc m _ => out2 c hc m
  have st4 := st3.set (i := j) (by rw [List.length_set]; exact lj) r2 fun c hc m hm => by
    by_cases z : m = i
    · subst z; rw [setF_same]; exact dj c hc
    · rw [setF_ne z]; exact e1 c hc m
  refine k.nx _ _ G2 H2 _ st4 ⟨(sp1.trans sp2).gg, (sp1.trans sp2).hh, (sp1.trans sp2).gn, fun m c hc => ?_⟩ hnx
  by_cases z : m = j
  · subst z
    rw [setF_same] at hc
    exact sp1.back (e2 c hc)
  · rw [setF_ne z] at hc
    by_cases y : m = i
    · subst y; rw [setF_same] at hc; exact d2 c hc
    · rw [setF_ne y] at hc; exact (sp1.trans sp2).ff m c hc
theorem sndS_par3 {d : Expr} {r : PEx} {l : Nat} {z : Str} {pz : Pos} (hc : X.calm = true) (hN : X.N.Nodup) (hi : X.N[i]? = some x) (hj : X.N[j]? = some y) (hl : X.N[l]? = some z) (hij : i ≠ j) (hil : i ≠ l) (hjl : j ≠ l) (h : parB3 X.env.scope x y z px py pz a b d = true) (ha : Snd gl Φ ca X W a p) (hb : Snd gl Φ ca X W b q) (hd : Snd gl Φ ca X W d r) :
    SndS gl Φ ca X W (.Assign [.Tuple [.Name x px, .Name y py, .Name z pz] kt pt] (.Tuple [a, b, d] k2 pt2) pos) (.par3 i j l p q r) := by
  intro Γ P hsm σ G H F st D k
  unfold semS at hsm
  have hw := par3_ok (env := X.env) (kt := kt) (k2 := k2) (pt := pt) (pt2 := pt2) h
  obtain ⟨h1, h2⟩ := ba h
  obtain ⟨h1, h3⟩ := ba h1
  obtain ⟨h1, h4⟩ := ba h1
  obtain ⟨h4, h5⟩ := ba h4
  obtain ⟨h5, h6⟩ := ba h5
  obtain ⟨h2, h11⟩ := ba h2
  obtain ⟨n1, h2⟩ := ba h2
  obtain ⟨n2, n3⟩ := ba h2
  refine wS_of (ps_par3 hc hN hi hj hl hij hil hjl (isLo_ok h4) (isLo_ok h5) (isLo_ok h6) (pa_cons pe_w (pa_cons pe_w (pa_cons pe_w pa_nil (star_ok n3)) (star_ok n2)) (star_ok n1)) hw (by rw [swapsWithSole]; exact swaps_no rfl)) ?_
  refine ha Γ _ P.ex hsm σ G H F st _ (fun v o S Γ1 G1 H1 F1 st1 sp1 r1 d1 d2 hs1 => ?_) (k.kox σ)
  refine hb Γ1 _ P.ex hs1 σ G1 H1 F1 st1 _ (fun v2 o2 S2 Γ2 G2 H2 F2 st2 sp2 r2 e1 e2 hs2 => ?_) ((k.step sp1).kox σ)
  refine hd Γ2 _ P.ex hs2 σ G2 H2 F2 st2 _ (fun v3 o3 S3 Γ3 G3 H3 F3 st3 sp3 r3 f1 f2 hs3 => ⟨v, v2, v3, rfl, ?_⟩) ((k.step (sp1.trans sp2)).kox σ)
  obtain ⟨li, lj, ll, hnx⟩ := hs3
  have r1' : ORep X.K G2 H2 v o S := r1.keep sp2.gg (fun c hc => sp2.gn c (r1.foot c hc).2 (r1.foot c hc).1 (d1 c hc)) fun c u hc e => sp2.hh c u (d1 c hc) e
  have out2 : ∀ c, c ∈ S → ∀ i, c ∉ F2 i := fun c hc => sp2.out (r1.foot c hc).2 (d1 c hc)
  have r1'' : ORep X.K G3 H3 v o S := r1'.keep sp3.gg (fun c hc => sp3.gn c (r1'.foot c hc).2 (r1'.foot c hc).1 (out2 c hc)) fun c u hc e => sp3.hh c u (out2 c hc) e
  have out3 : ∀ c, c ∈ S → ∀ i, c ∉ F3 i := fun c hc => sp3.out (r1'.foot c hc).2 (out2 c hc)
  have r2' : ORep X.K G3 H3 v2 o2 S2 := r2.keep sp3.gg (fun c hc => sp3.gn c (r2.foot c hc).2 (r2.foot c hc).1 (e1 c hc)) fun c u hc e => sp3.hh c u (e1 c hc) e
  have outb : ∀ c, c ∈ S2 → ∀ i, c ∉ F3 i := fun c hc => sp3.out (r2.foot c hc).2 (e1 c hc)
  have dj : ∀ c, c ∈ S2 → c ∉ S := fun c hz hc => by
    rcases e2 c hz with ⟨k, y⟩ | y
    · exact d1 c hc k y
    · exact (r1.foot c hc).2 y
  have dj1 : ∀ c, c ∈ S3 → c ∉ S := fun c hz hc => by
    rcases f2 c hz with ⟨k, y⟩ | y
    · exact out2 c hc k y
    · exact (r1'.foot c hc).2 y
  have dj2 : ∀ c, c ∈ S3 → c ∉ S2 := fun c hz hc => by
    rcases f2 c hz with ⟨k, y⟩ | y
    · exact e1 c hc k y
    · exact (r2.foot c hc).2 y
  have sp := (sp1.trans sp2).trans sp3
  have st4 := st3.set (i := i) li r1'' fun c hc m _ => out3 c hc m
  have st5 := st4.set (i := j) (by rw [List.length_set]; exact lj) r2' fun c hc m hm => by
    by_cases z : m = i
    · subst z; rw [setF_same]; exact dj c hc
    · rw [setF_ne z]; exact outb c hc m
  have st6 := st5.set (i := l) (by rw [List.length_set, List.length_set]; exact ll) r3 fun c hc m hm => by
    by_cases z : m = j
    · subst z; rw [setF_same]; exact dj2 c hc
    · rw [setF_ne z]
      by_cases y : m = i
      · subst y; rw [setF_same]; exact dj1 c hc
      · rw [setF_ne y]; exact f1 c hc m
  refine k.nx _ _ G3 H3 _ st6 ⟨sp.gg, sp.hh, sp.gn, fun m c hc => ?_⟩ hnx
  by_cases z : m = l
  · subst z
    rw [setF_same] at hc
    exact (sp1.trans sp2).back (f2 c hc)
  · rw [setF_ne z] at hc
    by_cases y : m = j
    · subst y; rw [setF_same] at hc; exact sp1.back (e2 c hc)
    · rw [setF_ne y] at hc
      by_cases w : m = i
      · subst w; rw [setF_same] at hc; exact d2 c hc
      · rw [setF_ne w] at hc; exact sp.ff m c hc
theorem not_lo {env : Env} {x : Str} (h : isLo env.scope x = false) : (env.kindOf x == some NameKind.local) = false := by
  unfold isLo at h
  show (env.scope.names.lookup x == some NameKind.local) = false
  split at h
  · cases h
  · rename_i z
    cases e : env.scope.names.lookup x with
    | none => rfl
    | some k =>
      cases k <;> first | rfl | exact absurd e z
def parN (sc : Scope) (x y : Str) (a b : Expr) : Bool := !(isLo sc x && isLo sc y) && (notStar a && notStar b)
def parN3 (sc : Scope) (x y z : Str) (a b d : Expr) : Bool := !(isLo sc x && (isLo sc y && isLo sc z)) && (notStar a && (notStar b && notStar d))
theorem parN_ok {env : Env} {x y : Str} {px py : Pos} {a b : Expr} {kt k2 : Nat} {pt pt2 : Pos} (h : parN env.scope x y a b = true) : swappedStores [.Tuple [.Name x px, .Name y py] kt pt] (.Tuple [a, b] k2 pt2) env = pure none := by
  obtain ⟨h1, h2⟩ := ba h
  have fl : ([Expr.Name x px, Expr.Name y py].filterMap fun
      | .Name id pos => if env.kindOf id == some .local && pos.line == px.line then some id else none
      | _ => none).length ≠ 2 := by
    rw [Bool.not_eq_true', Bool.and_eq_false_iff] at h1
    rcases h1 with h1 | h1
    · simp only [List.filterMap_cons, List.filterMap_nil, not_lo h1, Bool.false_and]
      cases env.kindOf y == some NameKind.local && py.line == px.line <;> simp
    · simp only [List.filterMap_cons, List.filterMap_nil, not_lo h1, Bool.false_and]
      cases env.kindOf x == some NameKind.local && px.line == px.line <;> simp
  unfold swappedStores
  show (if (!(2 == 2 || 2 == 3) || (2 != 2) || (env.blockKind != .function)) = true then pure none else if ([a, b].any fun | .Starred .. => true | _ => false) = true then pure none else if ((([Expr.Name x px, Expr.Name y py].filterMap fun
      | .Name id pos => if env.kindOf id == some .local && pos.line == px.line then some id else none
      | _ => none).length != 2) || (([Expr.Name x px, Expr.Name y py].filterMap fun
      | .Name id pos => if env.kindOf id == some .local && pos.line == px.line then some id else none
      | _ => none).eraseDups.length != ([Expr.Name x px, Expr.Name y py].filterMap fun
      | .Name id pos => if env.kindOf id == some .local && pos.line == px.line then some id else none
      | _ => none).length)) = true then pure none else _) = _
  by_cases c1 : (!(2 == 2 || 2 == 3) || (2 != 2) || (env.blockKind != .function)) = true
  · rw [if_pos c1]
  · rw [if_neg c1]
    by_cases c2 : ([a, b].any fun | .Starred .. => true | _ => false) = true
    · rw [if_pos c2]
    · rw [if_neg c2, if_pos]
      rw [Bool.or_eq_true]
      exact .inl (by simpa using fl)
theorem parN3_ok {env : Env} {x y z : Str} {px py pz : Pos} {a b d : Expr} {kt k2 : Nat} {pt pt2 : Pos} (h : parN3 env.scope x y z a b d = true) : swappedStores [.Tuple [.Name x px, .Name y py, .Name z pz] kt pt] (.Tuple [a, b, d] k2 pt2) env = pure none := by
  obtain ⟨h1, h2⟩ := ba h
  have fl : ([Expr.Name x px, Expr.Name y py, Expr.Name z pz].filterMap fun
      | .Name id pos => if env.kindOf id == some .local && pos.line == px.line then some id else none
      | _ => none).length ≠ 3 := by
    rw [Bool.not_eq_true', Bool.and_eq_false_iff, Bool.and_eq_false_iff] at h1
    rcases h1 with h1 | h1 | h1
    · simp only [List.filterMap_cons, List.filterMap_nil, not_lo h1, Bool.false_and]
      cases env.kindOf y == some NameKind.local && py.line == px.line <;> cases env.kindOf z == some NameKind.local && pz.line == px.line <;> simp
    · simp only [List.filterMap_cons, List.filterMap_nil, not_lo h1, Bool.false_and]
      cases env.kindOf x == some NameKind.local && px.line == px.line <;> cases env.kindOf z == some NameKind.local && pz.line == px.line <;> simp
    · simp only [List.filterMap_cons, List.filterMap_nil, not_lo h1, Bool.false_and]
      cases env.kindOf x == some NameKind.local && px.line == px.line <;> cases env.kindOf y == some NameKind.local && py.line == px.line <;> simp
  unfold swappedStores
  show (if (!(3 == 2 || 3 == 3) || (3 != 3) || (env.blockKind != .function)) = true then pure none else if ([a, b, d].any fun | .Starred .. => true | _ => false) = true then pure none else if ((([Expr.Name x px, Expr.Name y py, Expr.Name z pz].filterMap fun
      | .Name id pos => if env.kindOf id == some .local && pos.line == px.line then some id else none
      | _ => none).length != 3) || (([Expr.Name x px, Expr.Name y py, Expr.Name z pz].filterMap fun
      | .Name id pos => if env.kindOf id == some .local && pos.line == px.line then some id else none
      | _ => none).eraseDups.length != ([Expr.Name x px, Expr.Name y py, Expr.Name z pz].filterMap fun
      | .Name id pos => if env.kindOf id == some .local && pos.line == px.line then some id else none
      | _ => none).length)) = true then pure none else _) = _
  by_cases c1 : (!(3 == 2 || 3 == 3) || (3 != 3) || (env.blockKind != .function)) = true
  · rw [if_pos c1]
  · rw [if_neg c1]
    by_cases c2 : ([a, b, d].any fun | .Starred .. => true | _ => false) = true
    · rw [if_pos c2]
    · rw [if_neg c2, if_pos]
      rw [Bool.or_eq_true]
      exact .inl (by simpa using fl)
theorem sndS_par2N (hg : PG X (.Tuple [.Name x px, .Name y py] kt pt) (gOf X.K (.tp [i, j]))) (h : parN X.env.scope x y a b = true) (ha : Snd gl Φ ca X W a p) (hb : Snd gl Φ ca X W b q) :
    SndS gl Φ ca X W (.Assign [.Tuple [.Name x px, .Name y py] kt pt] (.Tuple [a, b] k2 pt2) pos) (.par2 i j p q) := by
  intro Γ P hsm σ G H F st D k
  unfold semS at hsm
  obtain ⟨_, h2⟩ := ba h
  obtain ⟨na, nb⟩ := ba h2
  refine wS_of (ps_asg (pe_tup (pa_cons pe_w (pa_cons pe_w pa_nil (star_ok nb)) (star_ok na))) hg (by rw [swapsWithSole]; exact swaps_no rfl) (parN_ok h) rfl) ?_
  refine ha Γ _ P.ex hsm σ G H F st _ (fun v o S Γ1 G1 H1 F1 st1 sp1 r1 d1 d2 hs1 => ?_) (k.kox σ)
  refine hb Γ1 _ P.ex hs1 σ G1 H1 F1 st1 _ (fun v2 o2 S2 Γ2 G2 H20 F2 st20 sp20 r20 e1 e2 hs2 => ⟨by show 2 ≤ sizeLine; decide, fun t ht => ⟨t, [v, v2], rfl, SqT.of upd_same, rfl, v, [v2], rfl, v2, [], rfl, rfl, ?_⟩⟩) ((k.step sp1).kox σ)
  obtain ⟨li, lj, hnx⟩ := hs2
  obtain ⟨st2, spg⟩ := st20.grow (same_upd (o := .tup [v, v2]) ht)
  have sp2 := sp20.trans spg
  have r2 := r20.keep (H' := upd H20 t (.tup [v, v2])) (Same.refl _) (fun c hc => (r20.foot c hc).1) fun c u hc e => same_upd ht c u e
  generalize upd H20 t (.tup [v, v2]) = H2 at st2 spg sp2 r2 ⊢
  have r1' : ORep X.K G2 H2 v o S := r1.keep sp2.gg (fun c hc => sp2.gn c (r1.foot c hc).2 (r1.foot c hc).1 (d1 c hc)) fun c u hc e => sp2.hh c u (d1 c hc) e
  have out2 : ∀ c, c ∈ S → ∀ i, c ∉ F2 i := fun c hc => sp2.out (r1.foot c hc).2 (d1 c hc)
  have dj : ∀ c, c ∈ S2 → c ∉ S := fun c hz hc => by
    rcases e2 c hz with ⟨k, y⟩ | y
    · exact d1 c hc k y
    · exact (r1.foot c hc).2 y
  have st3 := st2.set (i := i) li r1' fun c hc m _ => out2 c hc m
  have st4 := st3.set (i := j) (by rw [List.length_set]; exact lj) r2 fun c hc m hm => by
    by_cases z : m = i
    · subst z; rw [setF_same]; exact dj c hc
    · rw [setF_ne z]; exact e1 c hc m
  refine k.nx _ _ G2 H2 _ st4 ⟨(sp1.trans sp2).gg, (sp1.trans sp2).hh, (sp1.trans sp2).gn, fun m c hc => ?_⟩ hnx
  by_cases z : m = j
  · subst z
    rw [setF_same] at hc
    exact sp1.back (e2 c hc)
  · rw [setF_ne z] at hc
    by_cases y : m = i
    · subst y; rw [setF_same] at hc; exact d2 c hc
    · rw [setF_ne y] at hc; exact (sp1.trans sp2).ff m c hc
theorem sndS_par3N {d : Expr} {r : PEx} {l : Nat} {z : Str} {pz : Pos} (hg : PG X (.Tuple [.Name x px, .Name y py, .Name z pz] kt pt) (gOf X.K (.tp [i, j, l]))) (h : parN3 X.env.scope x y z a b d = true) (ha : Snd gl Φ ca X W a p) (hb : Snd gl Φ ca X W b q) (hd : Snd gl Φ ca X W d r) :
    SndS gl Φ ca X W (.Assign [.Tuple [.Name x px, .Name y py, .Name z pz] kt pt] (.Tuple [a, b, d] k2 pt2) pos) (.par3 i j l p q r) := by
  intro Γ P hsm σ G H F st D k
  unfold semS at hsm
  obtain ⟨_, h2⟩ := ba h
  obtain ⟨n1, h2⟩ := ba h2
  obtain ⟨n2, n3⟩ := ba h2
  refine wS_of (ps_asg (pe_tup (pa_cons pe_w (pa_cons pe_w (pa_cons pe_w pa_nil (star_ok n3)) (star_ok n2)) (star_ok n1))) hg (by rw [swapsWithSole]; exact swaps_no rfl) (parN3_ok h) rfl) ?_
  refine ha Γ _ P.ex hsm σ G H F st _ (fun v o S Γ1 G1 H1 F1 st1 sp1 r1 d1 d2 hs1 => ?_) (k.kox σ)
  refine hb Γ1 _ P.ex hs1 σ G1 H1 F1 st1 _ (fun v2 o2 S2 Γ2 G2 H2 F2 st2 sp2 r2 e1 e2 hs2 => ?_) ((k.step sp1).kox σ)
  refine hd Γ2 _ P.ex hs2 σ G2 H2 F2 st2 _ (fun v3 o3 S3 Γ3 G3 H30 F3 st30 sp30 r30 f1 f2 hs3 => ⟨by show 3 ≤ sizeLine; decide, fun t ht => ⟨t, [v, v2, v3], rfl, SqT.of upd_same, rfl, v, [v2, v3], rfl, v2, [v3], rfl, v3, [], rfl, rfl, ?_⟩⟩) ((k.step (sp1.trans sp2)).kox σ)
  obtain ⟨li, lj, ll, hnx⟩ := hs3
  obtain ⟨st3, spg⟩ := st30.grow (same_upd (o := .tup [v, v2, v3]) ht)
  have sp3 := sp30.trans spg
  have r3 := r30.keep (H' := upd H30 t (.tup [v, v2, v3])) (Same.refl _) (fun c hc => (r30.foot c hc).1) fun c u hc e => same_upd ht c u e
  generalize upd H30 t (.tup [v, v2, v3]) = H3 at st3 spg sp3 r3 ⊢
  have r1' : ORep X.K G2 H2 v o S := r1.keep sp2.gg (fun c hc => sp2.gn c (r1.foot c hc).2 (r1.foot c hc).1 (d1 c hc)) fun c u hc e => sp2.hh c u (d1 c hc) e
  have out2 : ∀ c, c ∈ S → ∀ i, c ∉ F2 i := fun c hc => sp2.out (r1.foot c hc).2 (d1 c hc)
  have r1'' : ORep X.K G3 H3 v o S := r1'.keep sp3.gg (fun c hc => sp3.gn c (r1'.foot c hc).2 (r1'.foot c hc).1 (out2 c hc)) fun c u hc e => sp3.hh c u (out2 c hc) e
  have out3 : ∀ c, c ∈ S → ∀ i, c ∉ F3 i := fun c hc => sp3.out (r1'.foot c hc).2 (out2 c hc)
  have r2' : ORep X.K G3 H3 v2 o2 S2 := r2.keep sp3.gg (fun c hc => sp3.gn c (r2.foot c hc).2 (r2.foot c hc).1 (e1 c hc)) fun c u hc e => sp3.hh c u (e1 c hc) e
  have outb : ∀ c, c ∈ S2 → ∀ i, c ∉ F3 i := fun c hc => sp3.out (r2.foot c hc).2 (e1 c hc)
  have dj : ∀ c, c ∈ S2 → c ∉ S := fun c hz hc => by
    rcases e2 c hz with ⟨k, y⟩ | y
    · exact d1 c hc k y
    · exact (r1.foot c hc).2 y
  have dj1 : ∀ c, c ∈ S3 → c ∉ S := fun c hz hc => by
    rcases f2 c hz with ⟨k, y⟩ | y
    · exact out2 c hc k y
    · exact (r1'.foot c hc).2 y
  have dj2 : ∀ c, c ∈ S3 → c ∉ S2 := fun c hz hc => by
    rcases f2 c hz with ⟨k, y⟩ | y
    · exact e1 c hc k y
    · exact (r2.foot c hc).2 y
  have sp := (sp1.trans sp2).trans sp3
  have st4 := st3.set (i := i) li r1'' fun c hc m _ => out3 c hc m
  have st5 := st4.set (i := j) (by rw [List.length_set]; exact lj) r2' fun c hc m hm => by
    by_cases z : m = i
    · subst z; rw [setF_same]; exact dj c hc
    · rw [setF_ne z]; exact outb c hc m
  have st6 := st5.set (i := l) (by rw [List.length_set, List.length_set]; exact ll) r3 fun c hc m hm => by
    by_cases z : m = j
    · subst z; rw [setF_same]; exact dj2 c hc
    · rw [setF_ne z]
      by_cases y : m = i
      · subst y; rw [setF_same]; exact dj1 c hc
      · rw [setF_ne y]; exact f1 c hc m
  refine k.nx _ _ G3 H3 _ st6 ⟨sp.gg, sp.hh, sp.gn, fun m c hc => ?_⟩ hnx
  by_cases z : m = l
  · subst z
    rw [setF_same] at hc
    exact (sp1.trans sp2).back (f2 c hc)
  · rw [setF_ne z] at hc
    by_cases y : m = j
    · subst y; rw [setF_same] at hc; exact sp1.back (e2 c hc)
    · rw [setF_ne y] at hc
      by_cases w : m = i
      · subst w; rw [setF_same] at hc; exact d2 c hc
      · rw [setF_ne w] at hc; exact sp.ff m c hc
theorem swaps_sub {e v ix : Expr} {pt : Pos} {l : Nat} {env : Env} : swapsWith e (some (.Subscript v ix pt)) l env = pure false := by
  cases e <;> rfl
theorem sndS_dputA {i : Nat} {x : Str} {e ix : Expr} {pe pk : PEx} {px pt pos : Pos} (hu : X.A.units + 64 < cLine) (hN : X.N[i]? = some x) (hv : Vis X.env.scope x) (hd : (x == ("__debug__" : Str)) = false) (hcd : (x == ("__classdict__" : Str)) = false) (ha : Snd gl Φ ca X W e pe) (hk : Snd gl Φ ca X W ix pk) :
    SndS gl Φ ca X W (.Assign [.Subscript (.Name x px) ix pt] e pos) (.dput i pk pe) := by
  intro Γ P hs σ G H F st D kk
  unfold semS at hs
  refine wS_of (ps_dput (by omega) (pe_var hN hv hd hcd) pe_w pe_w swaps_sub) ?_
  refine ha Γ _ P.ex hs σ G H F st _ (kon_D fun y d Γ1 G1 H1 F1 st1 sp1 r1 hs1 => ?_) (kk.kox σ)
  obtain ⟨⟨ks0, vs0, e0⟩, hs1⟩ := hs1
  rcases st1.env.ent i _ e0 with z | ⟨v', h3, h4⟩
  · cases z
  refine ⟨_, h3, ?_⟩
  refine hk Γ1 _ P.ex hs1 σ G1 H1 F1 st1 _ (fun yk o S Γ2 G2 H2 F2 st2 sp2 rk2 d1 d2 hs2 => ?_) ((kk.step sp1).kox σ)
  obtain ⟨xk, ks, vs, rfl, e2, hl, hs2⟩ := hs2
  obtain ⟨rk3, _⟩ := rk2.sh_inv
  cases rk3
  rcases st2.env.ent i _ e2 with z | ⟨v2, h5, h6⟩
  · cases z
  rw [h3] at h5
  cases h5
  obtain ⟨p, kvs, S1, rfl, eS1, hg1, hh1, en, ra1, nl1⟩ := h6.dct_inv
  have hlen := lt_of_get e2
  have hlF : p ∈ F2 i := by rw [eS1]; exact List.mem_cons_self
  have up : ∀ q u, q ≠ p → H2 q = some u → upd H2 p (.dK (putK kvs (Sum.inr xk : Key) y)) q = some u := fun q u hq e => by rw [upd_ne hq]; exact e
  obtain ⟨S', ra2, hS'⟩ := put_vals (x := xk) (r1.mono sp2.gg) en (ra1.keep (H' := upd H2 p (.dK (putK kvs (Sum.inr xk : Key) y))) (Same.refl _) (fun q hq => (ra1.foot q hq).1) fun q u hq e => up q u (fun z => nl1 (z ▸ hq)) e)
  refine ⟨p, _, rfl, DPut.k (k := Sum.inr xk) hh1 (by rw [len_keys en, sizeLine_eq]; omega), ?_⟩
  have rn : ORep X.K G2 (upd H2 p (.dK (putK kvs (Sum.inr xk : Key) y))) (.ref p) (.dct (putD ks vs xk (.sh d)).1 (putD ks vs xk (.sh d)).2) (p :: S') := .dct hg1 upd_same (putK_keys en) ra2 fun z => nl1 (hS' p z)
  have hS : ∀ q, q ∈ p :: S' → q ∈ F2 i := fun q hq => by
    rw [eS1]
    rcases List.mem_cons.mp hq with rfl | z
    · exact List.mem_cons_self
    · exact List.mem_cons_of_mem _ (hS' q z)
  exact kk.nx σ _ G2 _ _ (st2.mut hlF hlen h3 rn fun q hq => .inl (hS q hq)) ((sp1.trans sp2).mut hlF fun q hq => (sp1.trans sp2).ff i q (hS q hq)) hs2
end
end PW

end
section
set_option Elab.async false
set_option linter.all false
set_option maxRecDepth 100000
set_option maxHeartbeats 4000000
/-! PXK: a checked text is sound: statements, defs. -/
namespace PW
open PySem PySem.Spec PyProof.Rows L2

/-- which own errors are raised, whether _law_word is at hand -/
structure Cfs extends Cfg where
  tn : Bool := false
  us : Bool := false
  n1 : Nat := 0
  ecs : List EC
  lw : Bool
/-- within a try -/
def Cfs.inT (c : Cfs) : Cfs := { c with us := false }
/-- the defs alone that raise errors without a context -/
def Cfs.strict (c : Cfs) : Cfs := { c with lt := false, fns := c.fns.take c.n1, sx := true, us := false }
def isLoc (sc : Scope) (x : Str) : Bool := match sc.names.lookup x with
  | some .local => true
  | _ => false
def asgB (c : Cfg) (x : Str) (px : Pos) : PEx → Expr → Bool
  | .lc _ _ _ _, .ListComp _ [_] scope p2 => (if isLoc c.sc x = true then (px.line == p2.line) && !(scope.names.any fun (n, k) => n == x && (k == .local || k == .cell)) else true)
  | _, v => !isComp v
def ecNames : List Str := ["BadToken", "BadRow", "Again", "BadCall", "BadPaste", "BadIf", "TooMany"]
mutual
def chkS (c : Cfs) : PSt → Stmt → Bool
  | .asg i _ e, st => (match st with
    | .Assign [.Name x px] v _ => ((decide (c.N[i]? = some x) && locB c.st x) && asgB c.toCfg x px e v) && chkE c.toCfg e v
    | _ => false)
  | .asgT is e, st => (match st with
    | .Assign [.Tuple es kk px] v _ => (tgB c.toCfg (.tp is) (.Tuple es kk px) && (!isComp v && !isTupE v)) && chkE c.toCfg e v
    | _ => false)
  | .par2 i j a b, st => (match st with
    | .Assign [.Tuple [.Name x px, .Name y py] kt pt] (.Tuple [v, w] _ _) _ => (((decide (c.N[i]? = some x) && (decide (c.N[j]? = some y) && !decide (i = j))) && parB c.sc x y px py v w) || (tgB c.toCfg (.tp [i, j]) (.Tuple [.Name x px, .Name y py] kt pt) && parN c.sc x y v w)) && (chkE c.toCfg a v && chkE c.toCfg b w)
    | _ => false)
  | .par3 i j l a b d, st => (match st with
    | .Assign [.Tuple [.Name x px, .Name y py, .Name z pz] kt pt] (.Tuple [v, w, u] _ _) _ => (((decide (c.N[i]? = some x) && (decide (c.N[j]? = some y) && (decide (c.N[l]? = some z) && (!decide (i = j) && (!decide (i = l) && !decide (j = l)))))) && parB3 c.sc x y z px py pz v w u) || (tgB c.toCfg (.tp [i, j, l]) (.Tuple [.Name x px, .Name y py, .Name z pz] kt pt) && parN3 c.sc x y z v w u)) && (chkE c.toCfg a v && (chkE c.toCfg b w && chkE c.toCfg d u))
    | _ => false)
  | .exp e, st => (match st with
    | .Expr v _ => !isComp v && chkE c.toCfg e v
    | _ => false)
  | .ret e, st => (match st with
    | .Return (some v) _ => chkE c.toCfg e v
    | _ => false)
  | .ite t a b, st => (match st with
    | .If u x y _ => (noIfx t && chkE c.toCfg t u) && (chkB c a x && chkB c b y)
    | _ => false)
  | .whl t b, st => (match st with
    | .While u x [] _ => (noIfx t && chkE c.toCfg t u) && chkB c b x
    | _ => false)
  | .for_ tg it b, st => (match st with
    | .For tgE itE x [] _ => ((notSetE itE && tgB c.toCfg tg tgE) && chkI c.toCfg it tgE itE) && chkB c b x
    | _ => false)
  | .rse C e, st => (match st with
    | .Raise (some (.Call (.Name x _) [v] [] _)) none _ => ((decide (x = ecW C) && decide (C ∈ c.ecs)) && (glB c.sc x && notStar v)) && chkE c.toCfg e v
    | _ => false)
  | .tryR b i, st => (match st with
    | .Try x [.ExceptHandler (some (.Name pe _)) (some n) [.Return (some (.Call (.Name lw _) [.Name m _] [] _)) _] _] [] [] _ =>
      (((decide (pe = ("PasteError" : Str)) && glB c.sc pe) && (decide (c.N[i]? = some n) && (isLoc c.sc n && plainN n))) && ((decide (lw = ("_law_word" : Str)) && (glB c.sc lw && decide (m = n))) && c.lw)) && chkB c.inT b x
    | _ => false)
  | .tryA b i j, st => (match st with
    | .Try x [.ExceptHandler (some (.Name pe _)) (some n) [.Assign [.Name y _] (.Call (.Name lw _) [.Name m _] [] _) _] _] [] [] _ =>
      ((((decide (pe = ("PasteError" : Str)) && glB c.sc pe) && (decide (c.N[i]? = some n) && (isLoc c.sc n && plainN n))) && ((decide (lw = ("_law_word" : Str)) && (glB c.sc lw && decide (m = n))) && c.lw)) && ((decide (c.N[j]? = some y) && locB c.st y) && decide (i ≠ j))) && chkB c.inT b x
    | _ => false)
  | .pas, st => (match st with
    | .Pass _ => true
    | _ => false)
  | .brk, st => (match st with
    | .Break _ => true
    | _ => false)
  | .cnt, st => (match st with
    | .Continue _ => true
    | _ => false)
  | .seti i k e, st => (match st with
    | .Assign [.Subscript (.Name x _) ix _] v _ => ((nmB c.toCfg i x && ixB k ix) && (plainIxB ix && !isComp v)) && chkE c.toCfg e v
    | _ => false)
  | .setf cn i f e, st => (match st with
    | .Assign [.Attribute (.Name x _) g _] v _ => ((decide (g = f) && c.flds.contains (cn, f)) && (nmB c.toCfg i x && !isComp v)) && chkE c.toCfg e v
    | _ => false)
  | .dput i k e, st => (match st with
    | .Assign [.Subscript (.Name x _) ix _] v _ => nmB c.toCfg i x && (chkE c.toCfg k ix && chkE c.toCfg e v)
    | _ => false)
  | .dputF cn i f j e, st => (match st with
    | .Assign [.Subscript (.Attribute (.Name x _) g _) (.Name y _) _] v _ => ((decide (g = f) && c.flds.contains (cn, f)) && ((nmB c.toCfg i x && nmB c.toCfg j y) && !isComp v)) && chkE c.toCfg e v
    | _ => false)
  | .tryN b, st => (match st with
    | .Try x [.ExceptHandler (some (.Name pe _)) none (_ :: _) _] [] [] _ => (ecNames.contains pe && (glB c.sc pe && (plainN pe && c.tn))) && chkB c.inT b x
    | _ => false)
  | .tryU b C i k, st => (match st with
    | .Try x [.ExceptHandler (some (.Name pe _)) none [.Raise (some (.Call (.Name y _) [.Subscript (.Name v _) ix _] [] _)) none _] _] [] [] _ =>
      (((decide (pe = ecW C) && decide (y = ecW C)) && (glB c.sc pe && (c.tn && (c.us && (!c.sx && decide (C ∈ c.ecs)))))) && (nmB c.toCfg i v && (ixB k ix && plainIxB ix))) && chkB c.strict b x
    | _ => false)
  | .jnk, _ => true
def chkB (c : Cfs) : List PSt → List Stmt → Bool
  | [], [] => true
  | p :: ps, s :: b => chkS c p s && chkB c ps b
  | _, _ => false
end
/-- what the check of statements leans on -/
structure SOk (gl : List D) (Φ : Fns) (ca : EC → Addr) (c : Cfs) (X : Cx) : Prop where
  cok : COk gl Φ ca c.toCfg X
  pas : PassesOwn (model X.prog X.w) X.A X.env X.xe
  stk : X.stack = X.env :: X.outer
  frm : X.env.frame = some X.env.locals
  knd : X.env.scope.kind = .function
  exc : ∀ C, C ∈ c.ecs → Gl X (ecW C) → ∀ pn xe, MkOk (X.tr pn xe) ca C
  pe : c.lw = true → ∃ cv, X.mg "PasteError" = some cv ∧ ∀ C : EC, PySem.W.exmOne X.K (.ref (ca C)) cv = some true
  lw : c.lw = true → Gl X "_law_word" → LwOk X ca
  ecm : c.tn = true → ∀ x, x ∈ ecNames → ∃ cv, X.mg x = some cv
  exm : c.tn = true → ∀ C : EC, X.mg (ecW C) = some (.ref (ca C)) ∧ ∀ C0 : EC, PySem.W.exmOne X.K (.ref (ca C0)) (.ref (ca C)) = some (decide (C0 = C))
  exh : c.us = true → ∀ C, C ∈ c.ecs → Gl X (ecW C) → ∀ a pn, L2H.HotC (L2H.suiteX X a pn) → MkOk (L2H.suiteX X a pn) ca C
  paa : c.us = true → ∀ hd : Option Value, PassesOwnAt (model X.prog X.w) (X.A.mark hd) X.A X.env X.xe
  sfn : c.us = true → ∀ (f : Nat) (x : FnN), (c.fns.take c.n1)[f]? = some x → FnHas true Φ ca X f x
section
variable {gl : List D} {Φ : Fns} {ca : EC → Addr} {c : Cfs} {X : Cx} {W : WX}
theorem COk.tr {c : Cfg} (k : COk gl Φ ca c X) (pn : List (Addr × Obj)) (xe : Value → Shared → Prop) : COk gl Φ ca c (X.tr pn xe) := ⟨k.N, k.sc, k.nd, k.calm, k.un, k.blt, k.gls, k.fns, k.flds, k.fnx, k.lam⟩
theorem SOk.tr (k : SOk gl Φ ca c X) (pn : List (Addr × Obj)) {xe : Value → Shared → Prop} (h : PassesOwn (model X.prog X.w) X.A X.env xe) : SOk gl Φ ca c.inT (X.tr pn xe) :=
  ⟨k.cok.tr pn xe, h, k.stk, k.frm, k.knd, fun C hC hg pn' xe' => k.exc C hC hg pn' xe', k.pe, fun h => k.lw h, k.ecm, k.exm, fun z => (nomatch z), fun z => (nomatch z), fun z => (nomatch z)⟩
theorem SOk.strict (k : SOk gl Φ ca c X) (hu : c.us = true) (pn : List (Addr × Obj)) {xe : Value → Shared → Prop} (h : PassesOwn (model X.prog X.w) X.A X.env xe) : SOk gl Φ ca c.strict (X.tr pn xe) :=
  ⟨⟨k.cok.N, k.cok.sc, k.cok.nd, k.cok.calm, k.cok.un, k.cok.blt, k.cok.gls, k.sfn hu, k.cok.flds, k.cok.fnx, fun z => nomatch z⟩, h, k.stk, k.frm, k.knd, fun C hC hg pn' xe' => k.exc C hC hg pn' xe', k.pe, fun h => k.lw h, k.ecm, k.exm, fun z => (nomatch z), fun z => (nomatch z), fun z => (nomatch z)⟩
theorem isLoc_ok {sc : Scope} {x : Str} (h : isLoc sc x = true) : sc.names.lookup x = some .local := by
  unfold isLoc at h
  split at h
  · rename_i e; exact e
  · cases h
theorem plainN_ok2 {x : Str} (h : plainN x = true) : (x == ("__classdict__" : Str)) = false := by
  obtain ⟨_, h1⟩ := ba h
  simpa using h1
theorem asg_snd (k : SOk gl Φ ca c X) (hW : ∀ σ, PassesAt (CXx c.sx X) X σ (WE W σ)) {i : Nat} {pub : Bool} {x : Str} {px pos : Pos} {e : PEx} {v : Expr} (h1 : decide (c.N[i]? = some x) = true) (h2 : locB c.st x = true) (h3 : asgB c.toCfg x px e v = true) (h4 : chkE c.toCfg e v = true) :
    SndS gl Φ ca X W (.Assign [.Name x px] v pos) (.asg i pub e) := by
  have hN : X.N[i]? = some x := by rw [k.cok.N]; exact of_decide_eq_true h1
  have nd : X.N.Nodup := by rw [k.cok.N]; exact k.cok.nd
  obtain ⟨l1, l2⟩ := k.cok.fnx x h2
  unfold asgB at h3
  split at h3
  · rename_i elt tg it t el cmp scope p2
    split at h3
    · rename_i hl
      obtain ⟨h5, h6⟩ := ba h3
      have hl' := isLoc_ok hl
      obtain ⟨tgE, itE, ifs, kk⟩ := cmp
      have h4' := h4
      simp only [chkE] at h4'
      obtain ⟨g1, g2⟩ := ba h4'
      obtain ⟨g1, g3⟩ := ba g1
      obtain ⟨g3, g4⟩ := ba g3
      obtain ⟨g4, g5⟩ := ba g4
      obtain ⟨g5, g6⟩ := ba g5
      obtain ⟨g7, g8⟩ := ba g2
      obtain ⟨g8, g9⟩ := ba g8
      have z := of_decide_eq_true g1
      subst z
      exact sndS_lc k.cok.calm nd hN (by rw [k.cok.sc]; exact hl') k.knd h5 (by simpa using h6) g3 (sndII it k.cok hW g7) (by rw [k.cok.N, k.cok.sc]; exact blkOk_by g6) (of_decide_eq_true g5) (fun s H C cl fp => (k.cok.blk s H C cl fp).pg g4) (sndTs t k.cok g8) (fun s H C cl fp => (sndE elt (k.cok.blk s H C cl fp) passes0 g9).1)
    · rename_i hl
      refine sndS_asg nd hN l1 l2 (fun l => sw_cell fun z => hl ?_) (sndE _ k.cok hW h4).1
      unfold isLoc
      rw [← k.cok.sc, z]
  · exact sndS_asg nd hN l1 l2 (fun l => swaps_no (by simpa using h3)) (sndE _ k.cok hW h4).1
mutual
theorem sndSS : ∀ (p : PSt) {c : Cfs} {X : Cx} {W : WX} {s : Stmt}, SOk gl Φ ca c X → L2M.Takes c.sx X W → chkS c p s = true → SndS gl Φ ca X W s p
  | .asg i pub e, c, X, W, s, k, tk, h => by
    simp only [chkS] at h
    split at h
    · obtain ⟨h1, h2⟩ := ba h
      obtain ⟨h1, h3⟩ := ba h1
      obtain ⟨h1, h4⟩ := ba h1
      exact asg_snd k (L2M.passAt tk) h1 h4 h3 h2
    · cases h
  | .asgT is e, c, X, W, s, k, tk, h => by
    simp only [chkS] at h
    split at h
    · obtain ⟨h1, h2⟩ := ba h
      obtain ⟨h1, h3⟩ := ba h1
      obtain ⟨h3, h4⟩ := ba h3
      exact sndS_asgT (k.cok.pg h1) (by simpa using h3) (by simpa using h4) (sndE e k.cok (L2M.passAt tk) h2).1
    · cases h
  | .par2 i j a b, c, X, W, s, k, tk, h => by
    simp only [chkS] at h
    split at h
    · obtain ⟨h1, h2⟩ := ba h
      obtain ⟨h6, h7⟩ := ba h2
      rw [Bool.or_eq_true] at h1
      rcases h1 with h1 | h1
      case inr =>
        obtain ⟨g1, g2⟩ := ba h1
        exact sndS_par2N (k.cok.pg g1) (by rw [k.cok.sc]; exact g2) (sndE a k.cok (L2M.passAt tk) h6).1 (sndE b k.cok (L2M.passAt tk) h7).1
      obtain ⟨h1, h3⟩ := ba h1
      obtain ⟨h1, h4⟩ := ba h1
      obtain ⟨h4, h5⟩ := ba h4
      exact sndS_par2 k.cok.calm (by rw [k.cok.N]; exact k.cok.nd) (by rw [k.cok.N]; exact of_decide_eq_true h1) (by rw [k.cok.N]; exact of_decide_eq_true h4) (by simpa using h5) (by rw [k.cok.sc]; exact h3) (sndE a k.cok (L2M.passAt tk) h6).1 (sndE b k.cok (L2M.passAt tk) h7).1
    · cases h
  | .par3 i j l a b d, c, X, W, s, k, tk, h => by
    simp only [chkS] at h
    split at h
    · obtain ⟨h1, h2⟩ := ba h
      obtain ⟨h6, h7⟩ := ba h2
      obtain ⟨h7, h11⟩ := ba h7
      rw [Bool.or_eq_true] at h1
      rcases h1 with h1 | h1
      case inr =>
        obtain ⟨g1, g2⟩ := ba h1
        exact sndS_par3N (k.cok.pg g1) (by rw [k.cok.sc]; exact g2) (sndE a k.cok (L2M.passAt tk) h6).1 (sndE b k.cok (L2M.passAt tk) h7).1 (sndE d k.cok (L2M.passAt tk) h11).1
      obtain ⟨h1, h3⟩ := ba h1
      obtain ⟨h1, h4⟩ := ba h1
      obtain ⟨h4, h5⟩ := ba h4
      obtain ⟨h5, h8⟩ := ba h5
      obtain ⟨h8, h9⟩ := ba h8
      obtain ⟨h9, h10⟩ := ba h9
      exact sndS_par3 k.cok.calm (by rw [k.cok.N]; exact k.cok.nd) (by rw [k.cok.N]; exact of_decide_eq_true h1) (by rw [k.cok.N]; exact of_decide_eq_true h4) (by rw [k.cok.N]; exact of_decide_eq_true h5) (by simpa using h8) (by simpa using h9) (by simpa using h10) (by rw [k.cok.sc]; exact h3) (sndE a k.cok (L2M.passAt tk) h6).1 (sndE b k.cok (L2M.passAt tk) h7).1 (sndE d k.cok (L2M.passAt tk) h11).1
    · cases h
  | .exp e, c, X, W, s, k, tk, h => by
    simp only [chkS] at h
    split at h
    · obtain ⟨h1, h2⟩ := ba h
      exact sndS_exp (by simpa using h1) (sndE e k.cok (L2M.passAt tk) h2).1
    · cases h
  | .ret e, c, X, W, s, k, tk, h => by
    simp only [chkS] at h
    split at h
    · exact sndS_ret (sndE e k.cok (L2M.passAt tk) h).1
    · cases h
  | .ite t a b, c, X, W, s, k, tk, h => by
    simp only [chkS] at h
    split at h
    · obtain ⟨h1, h2⟩ := ba h
      obtain ⟨h1, h3⟩ := ba h1
      obtain ⟨h4, h5⟩ := ba h2
      exact sndS_ite ((sndE t k.cok (L2M.passAt tk) h3).2 h1) (sndBB a k tk h4) (sndBB b k tk h5)
    · cases h
  | .whl t b, c, X, W, s, k, tk, h => by
    simp only [chkS] at h
    split at h
    · obtain ⟨h1, h2⟩ := ba h
      obtain ⟨h1, h3⟩ := ba h1
      exact sndS_whl k.pas ((sndE t k.cok (L2M.passAt tk) h3).2 h1) (sndBB b k tk h2)
    · cases h
  | .for_ tg it b, c, X, W, s, k, tk, h => by
    simp only [chkS] at h
    split at h
    · obtain ⟨h1, h2⟩ := ba h
      obtain ⟨h1, h3⟩ := ba h1
      obtain ⟨h1, h4⟩ := ba h1
      exact sndS_for k.pas k.cok.calm h1 (sndII it k.cok (L2M.passAt tk) h3) (k.cok.pg h4) (sndBB b k tk h2)
    · cases h
  | .rse C e, c, X, W, s, k, tk, h => by
    simp only [chkS] at h
    split at h
    · obtain ⟨h1, h2⟩ := ba h
      obtain ⟨h1, h3⟩ := ba h1
      obtain ⟨h1, h4⟩ := ba h1
      obtain ⟨h3, h5⟩ := ba h3
      have z := of_decide_eq_true h1
      subst z
      exact sndS_rse k.cok.calm tk (k.exc C (of_decide_eq_true h4) (k.cok.glo h3) X.pn X.xe) h5 (sndE e k.cok (L2M.passAt tk) h2).1
    · cases h
  | .tryR b i, c, X, W, s, k, tk, h => by
    simp only [chkS] at h
    split at h
    · obtain ⟨h1, h2⟩ := ba h
      obtain ⟨h1, h3⟩ := ba h1
      obtain ⟨h1, h4⟩ := ba h1
      obtain ⟨h1, h5⟩ := ba h1
      obtain ⟨h4, h6⟩ := ba h4
      obtain ⟨h6, h7⟩ := ba h6
      obtain ⟨h3, h8⟩ := ba h3
      obtain ⟨h3, h9⟩ := ba h3
      obtain ⟨hq, h9⟩ := ba h9
      have z1 := of_decide_eq_true h1
      have z2 := of_decide_eq_true h3
      have z3 := of_decide_eq_true h9
      subst z1
      subst z2
      subst z3
      obtain ⟨cv, e1, e2⟩ := k.pe h8
      exact sndS_tryR k.stk k.frm (by rw [k.cok.N]; exact k.cok.nd) (by rw [k.cok.N]; exact of_decide_eq_true h4) (by unfold Env.kindOf; rw [k.cok.sc]; exact isLoc_ok h6) (plainN_ok h7) (plainN_ok2 h7)
        ⟨k.cok.glo h5, by decide +kernel, .inl e1⟩ tk e2 (k.lw h8 (k.cok.glo hq)) (fun W' pn xe tk' po => sndBB b (k.tr pn po) tk' h2)
    · cases h
  | .tryA b i j, c, X, W, s, k, tk, h => by
    simp only [chkS] at h
    split at h
    · obtain ⟨h1, h2⟩ := ba h
      obtain ⟨h1, g1⟩ := ba h1
      obtain ⟨g1, g2⟩ := ba g1
      obtain ⟨g1, g3⟩ := ba g1
      obtain ⟨h1, h3⟩ := ba h1
      obtain ⟨h1, h4⟩ := ba h1
      obtain ⟨h1, h5⟩ := ba h1
      obtain ⟨h4, h6⟩ := ba h4
      obtain ⟨h6, h7⟩ := ba h6
      obtain ⟨h3, h8⟩ := ba h3
      obtain ⟨h3, h9⟩ := ba h3
      obtain ⟨hq, h9⟩ := ba h9
      have z1 := of_decide_eq_true h1
      have z2 := of_decide_eq_true h3
      have z3 := of_decide_eq_true h9
      subst z1
      subst z2
      subst z3
      obtain ⟨cv, e1, e2⟩ := k.pe h8
      obtain ⟨l1, l2⟩ := k.cok.fnx _ g3
      exact sndS_tryA k.stk k.frm (by rw [k.cok.N]; exact k.cok.nd) (by rw [k.cok.N]; exact of_decide_eq_true h4) (by unfold Env.kindOf; rw [k.cok.sc]; exact isLoc_ok h6) (plainN_ok h7) (plainN_ok2 h7)
        ⟨k.cok.glo h5, by decide +kernel, .inl e1⟩ tk (by rw [k.cok.N]; exact of_decide_eq_true g1) l1 l2 (of_decide_eq_true g2) e2 (k.lw h8 (k.cok.glo hq)) (fun W' pn xe tk' po => sndBB b (k.tr pn po) tk' h2)
    · cases h
  | .pas, c, X, W, s, k, tk, h => by
    simp only [chkS] at h
    split at h
    · exact sndS_pas
    · cases h
  | .brk, c, X, W, s, k, tk, h => by
    simp only [chkS] at h
    split at h
    · exact sndS_brk
    · cases h
  | .cnt, c, X, W, s, k, tk, h => by
    simp only [chkS] at h
    split at h
    · exact sndS_cnt
    · cases h
  | .seti i m e, c, X, W, s, k, tk, h => by
    simp only [chkS] at h
    split at h
    · obtain ⟨h1, h2⟩ := ba h
      obtain ⟨h1, h3⟩ := ba h1
      obtain ⟨h1, h4⟩ := ba h1
      obtain ⟨h3, h5⟩ := ba h3
      obtain ⟨a1, a2, a3, a4⟩ := k.cok.vis h1
      exact sndS_seti a1 a2 a3 a4 h4 h3 (by simpa using h5) (sndE e k.cok (L2M.passAt tk) h2).1
    · cases h
  | .setf cn i f e, c, X, W, s, k, tk, h => by
    simp only [chkS] at h
    split at h
    · obtain ⟨g1, g2⟩ := ba h
      obtain ⟨g3, g4⟩ := ba g1
      obtain ⟨g5, g6⟩ := ba g3
      obtain ⟨g7, g8⟩ := ba g4
      have z := of_decide_eq_true g5
      subst z
      obtain ⟨a1, a2, a3, a4⟩ := k.cok.vis g7
      exact sndS_setf (k.cok.flds _ _ (mem_contains g6)) a1 a2 a3 a4 (by simpa using g8) (sndE e k.cok (L2M.passAt tk) g2).1
    · cases h
  | .dput i j e, c, X, W, s, k, tk, h => by
    simp only [chkS] at h
    split at h
    · obtain ⟨g1, g2⟩ := ba h
      obtain ⟨g5, g6⟩ := ba g2
      obtain ⟨a1, a2, a3, a4⟩ := k.cok.vis g1
      exact sndS_dputA k.cok.un a1 a2 a3 a4 (sndE e k.cok (L2M.passAt tk) g6).1 (sndE j k.cok (L2M.passAt tk) g5).1
    · cases h
  | .dputF cn i f j e, c, X, W, s, k, tk, h => by
    simp only [chkS] at h
    split at h
    · obtain ⟨g1, g2⟩ := ba h
      obtain ⟨g3, g4⟩ := ba g1
      obtain ⟨g5, g6⟩ := ba g3
      obtain ⟨g7, g8⟩ := ba g4
      obtain ⟨g9, g10⟩ := ba g7
      have z := of_decide_eq_true g5
      subst z
      obtain ⟨a1, a2, a3, a4⟩ := k.cok.vis g9
      obtain ⟨b1, b2, b3, b4⟩ := k.cok.vis g10
      exact sndS_dputF k.cok.un (k.cok.flds _ _ (mem_contains g6)) a1 a2 a3 a4 b1 b2 b3 b4 (by simpa using g8) (sndE e k.cok (L2M.passAt tk) g2).1
    · cases h
  | .tryN b, c, X, W, s, k, tk, h => by
    simp only [chkS] at h
    split at h
    · obtain ⟨g1, g2⟩ := ba h
      obtain ⟨g3, g4⟩ := ba g1
      obtain ⟨g5, g6⟩ := ba g4
      obtain ⟨g7, g8⟩ := ba g6
      obtain ⟨cv, e1⟩ := k.ecm g8 _ (by simpa using g3)
      exact sndS_tryN k.stk k.frm ⟨k.cok.glo g5, plainN_ok g7, .inl e1⟩ fun pn xe po => sndBB b (k.tr pn po) takesN0 g2
    · cases h
  | .tryU b C i m, c, X, W, s, k, tk, h => by
    simp only [chkS] at h
    split at h
    · obtain ⟨h1, h2⟩ := ba h
      obtain ⟨h1, h3⟩ := ba h1
      obtain ⟨h1, h4⟩ := ba h1
      obtain ⟨h1, h5⟩ := ba h1
      obtain ⟨h4, h6⟩ := ba h4
      obtain ⟨h6, h7⟩ := ba h6
      obtain ⟨h7, h8⟩ := ba h7
      obtain ⟨h8, h9⟩ := ba h8
      obtain ⟨h3, g1⟩ := ba h3
      obtain ⟨g1, g2⟩ := ba g1
      have z1 := of_decide_eq_true h1
      have z2 := of_decide_eq_true h5
      subst z1
      subst z2
      have hsx : c.sx = false := by simpa using h8
      rw [hsx] at tk
      obtain ⟨a1, a2, a3, a4⟩ := k.cok.vis h3
      obtain ⟨e1, e2⟩ := k.exm h6 C
      exact sndS_tryU k.stk k.frm (k.paa h7) ⟨k.cok.glo h4, by cases C <;> decide, .inl e1⟩ tk k.cok.un a1 a2 a3 a4 g1 g2 e2 (k.exh h7 C (of_decide_eq_true h9) (k.cok.glo h4)) (fun W' pn xe tk' po => sndBB b (c := c.strict) (k.strict h7 pn po) tk' h2)
    · cases h
  | .jnk, c, X, W, s, k, tk, h => fun Γ P hs => by
    unfold semS at hs
    exact hs.elim
theorem sndBB : ∀ (ps : List PSt) {c : Cfs} {X : Cx} {W : WX} {b : List Stmt}, SOk gl Φ ca c X → L2M.Takes c.sx X W → chkB c ps b = true → SndB gl Φ ca X W b ps
  | [], c, X, W, b, k, tk, h => by
    cases b with
    | nil => exact sndB_nil
    | cons _ _ => simp [chkB] at h
  | p :: ps, c, X, W, b, k, tk, h => by
    cases b with
    | nil => simp [chkB] at h
    | cons s b =>
      simp only [chkB] at h
      obtain ⟨h1, h2⟩ := ba h
      exact sndB_cons (sndSS p k tk h1) (sndBB ps k tk h2)
end
end
end PW

end
section
set_option Elab.async false
set_option linter.all false
set_option maxRecDepth 100000
set_option maxHeartbeats 4000000
/-! PXL: a def of a checked text keeps its promise. -/
namespace PW
open PySem PySem.Spec PyProof.Rows L2

def InP (P : Program) (w : World) (K : PySem.W.Frag) (mg : Str → Option Value) (base : Heap) (X : Cx) : Prop := X.prog = P ∧ X.w = w ∧ X.K = K ∧ X.mg = mg ∧ X.base = base
/-- an own def that is at hand, at most at level k -/
def FnAt (sx : Bool) (P : Program) (w : World) (K : PySem.W.Frag) (mg : Str → Option Value) (base : Heap) (ca : EC → Addr) (k : Nat) (x : Str) (s : FSpec) : Prop :=
  ∃ (fa : Addr) (fd : FuncData) (ps : List Str) (j : Nat), j ≤ k ∧ FnOk P w K mg base (L2M.CX sx P w) j fa fd ps (spOf K ca s) ∧ mg x = some (.ref fa) ∧ PySem.W.keepIn K (.ref fa) = true ∧ Binds K fd ps []
def MeAt (sx : Bool) (P : Program) (w : World) (K : PySem.W.Frag) (mg : Str → Option Value) (base : Heap) (k : Nat) (cn m : Str) (sp : Sp) : Prop :=
  ∃ (fa : Addr) (fd : FuncData) (ps : List Str) (j : Nat), j ≤ k ∧ Cls K (clA K cn) ∧ Meth K (clA K cn) m fa ∧ FnOk P w K mg base (L2M.CX sx P w) j fa fd ps sp ∧ Binds K fd ps []
def InAt (sx : Bool) (P : Program) (w : World) (K : PySem.W.Frag) (mg : Str → Option Value) (base : Heap) (k : Nat) (cn : Str) (sp : Sp) : Prop :=
  ∃ (fa : Addr) (fd : FuncData) (ps : List Str) (j : Nat), j + 1 ≤ k ∧ Mk K (clA K cn) fa ∧ FnOk P w K mg base (L2M.CX sx P w) j fa fd ps sp ∧ mg cn = some (.ref (clA K cn)) ∧ Binds K fd ps []
def HasAt (sx : Bool) (P : Program) (w : World) (K : PySem.W.Frag) (mg : Str → Option Value) (base : Heap) (ca : EC → Addr) (Φ : Fns) (k : Nat) (j : Nat) : FnN → Prop
  | .fn x => ∃ s : FSpec, Φ j = some s ∧ FnAt sx P w K mg base ca k x s
  | .me cn m => ∃ s : FSpec, Φ j = some s ∧ MeAt sx P w K mg base k cn m (spOf K ca s)
  | .mu cn m => ∃ s : MSpec, Φ.m j = some s ∧ MeAt sx P w K mg base k cn m (spOfM K ca s)
  | .ini cn => ∃ s : MSpec, Φ.m j = some s ∧ InAt sx P w K mg base k cn (spOfM K ca s)
/-- what all defs of a text lean on -/
structure Wld (P : Program) (w : World) (K : PySem.W.Frag) (mg : Str → Option Value) (base : Heap) (ca : EC → Addr) (gl : List D) (gls : List Str) (flds : List (Str × Str)) (ecs : List EC) (lw tn : Bool) : Prop where
  blt : ∀ x, x ∈ bltNames → mg x = none
  gls : ∀ (k : Nat) (x : Str), gls[k]? = some x → ∃ v u, mg x = some u ∧ RelV v u ∧ ∀ d, gl[k]? = some d → ∀ G, Rep K G v d
  exc : ∀ C, C ∈ ecs → ∀ X : Cx, InP P w K mg base X → Room 3 X.A → X.calm = true → Gl X (ecW C) → MkOk X ca C
  pe : lw = true → ∃ cv, mg "PasteError" = some cv ∧ ∀ C : EC, PySem.W.exmOne K (.ref (ca C)) cv = some true
  flds : ∀ cn f : Str, (cn, f) ∈ flds → Cls K (clA K cn) ∧ NoAttr K (clA K cn) f
  ecm : tn = true → ∀ x, x ∈ ecNames → ∃ cv, mg x = some cv
  exm : tn = true → ∀ C : EC, mg (ecW C) = some (.ref (ca C)) ∧ ∀ C0 : EC, PySem.W.exmOne K (.ref (ca C0)) (.ref (ca C)) = some (decide (C0 = C))
  exh : ∀ C, C ∈ ecs → ∀ X : Cx, InP P w K mg base X → L2H.RoomH 3 X.A → L2H.HotC X → Gl X (ecW C) → MkOk X ca C
  lw : lw = true → ∀ X : Cx, InP P w K mg base X → Room 5 X.A → X.calm = true → Gl X "_law_word" → LwOk X ca
/-- the slots at the entry -/
def gam0 (n : Nat) (ds : List D) : List O := ds.map .sh ++ List.replicate (n - ds.length) .un
theorem start_sta {K : PySem.W.Frag} {G H : Hp} {N : List Str} {vs : List V} {ds : List D} (gh : Same G H) (r : RepAll K G vs ds) : Sta K (L2.start N vs) (gam0 N.length ds) G H (fun _ => []) := by
  refine ⟨⟨?_, fun i o e => ?_, fun _ _ z => (nomatch z), fun _ _ _ z => (nomatch z)⟩, gh⟩
  · unfold L2.start gam0
    rw [List.length_append, List.length_append, List.length_map, List.length_map, List.length_replicate, List.length_replicate, r.len]
  · unfold gam0 at e
    by_cases q : i < ds.length
    · rw [List.getElem?_append_left (by rw [List.length_map]; exact q), List.getElem?_map] at e
      cases z : ds[i]? with
      | none => rw [z] at e; simp at e
      | some d =>
        rw [z] at e
        simp only [Option.map_some, Option.some.injEq] at e
        subst e
        obtain ⟨v, h1, h2⟩ := r.get z
        refine .inr ⟨v, ?_, .sh h2⟩
        unfold L2.start
        rw [List.getElem?_append_left (by rw [List.length_map, r.len]; exact q), List.getElem?_map, h1] <;> rfl
    · rw [List.getElem?_append_right (by rw [List.length_map]; omega), List.getElem?_replicate] at e
      split at e
      · simp only [Option.some.injEq] at e
        exact .inl e.symm
      · cases e
/-- .. of a method -/
def gamM (n : Nat) (o : O) (ds : List D) : List O := o :: ds.map .sh ++ List.replicate (n - (ds.length + 1)) .un
theorem startM_sta {K : PySem.W.Frag} {G H : Hp} {N : List Str} {v : V} {o : O} {S : List Addr} {vs : List V} {ds : List D} (gh : Same G H) (ro : ORep K G H v o S) (r : RepAll K G vs ds) (hl : vs.length + 1 ≤ N.length) : Sta K (L2.start N (v :: vs)) (gamM N.length o ds) G H (fun i => if i = 0 then S else []) := by
  have s0 := start_sta (N := N.tail) gh r
  have hL : N.tail.length = N.length - 1 := by simp
  have e1 : L2.start N (v :: vs) = some v :: L2.start N.tail vs := by
    unfold L2.start
    rw [List.map_cons, List.length_cons, hL]
    simp only [List.cons_append]
    congr 3
    omega
  have e2 : gamM N.length o ds = o :: gam0 N.tail.length ds := by
    unfold gamM gam0
    rw [hL, List.cons_append]
    congr 3
    omega
  rw [e1, e2]
  refine ⟨⟨by rw [List.length_cons, List.length_cons, s0.env.len], fun i o' e => ?_, fun i q hq => ?_, fun i j q h1 h2 => ?_⟩, gh⟩
  · cases i with
    | zero =>
      simp only [List.getElem?_cons_zero, Option.some.injEq] at e
      subst e
      exact .inr ⟨v, rfl, by rw [if_pos rfl]; exact ro⟩
    | succ i =>
      rw [List.getElem?_cons_succ] at e ⊢
      rcases s0.env.ent i o' e with z | ⟨w, h1, h2⟩
      · exact .inl z
      · exact .inr ⟨w, h1, by rw [if_neg (Nat.succ_ne_zero i)]; exact h2⟩
  · by_cases z : i = 0
    · rw [if_pos z] at hq; exact ro.foot q hq
    · rw [if_neg z] at hq; exact nomatch hq
  · by_cases z : i = 0
    · by_cases y : j = 0
      · rw [z, y]
      · rw [if_neg y] at h2; exact nomatch h2
    · rw [if_neg z] at h1; exact nomatch h1
section
variable {P : Program} {w : World} {K : PySem.W.Frag} {mg : Str → Option Value} {base : Heap} {ca : EC → Addr} {gl : List D} {Φ : Fns} {c : Cfs}
/-- THE RULE: its body's meaning over data -/
theorem fn_snd {x qual : Str} {params : Arguments} {body : List Stmt} {f : Addr} {fd : FuncData} {ps : List Str} {k : Nat} {s : FSpec} {pb : List PSt} (wl : Wld P w K mg base ca gl c.gls c.flds c.ecs c.lw c.tn) (F : FunD K x qual params body c.sc [] [] f fd) (S : FnScope c.N ps c.sc) (hst : c.st = c.sc) (hk : 5 ≤ k) (hnp : s.np = ps.length)
    (hchk : chkB c pb body = true) (hf : ∀ (j : Nat) (y : FnN), c.fns[j]? = some y → HasAt c.sx P w K mg base ca Φ k j y)
    (hst2 : c.us = true → ∀ (j : Nat) (y : FnN), (c.fns.take c.n1)[j]? = some y → HasAt true P w K mg base ca Φ k j y)
    (hsem : ∀ ds, ds.length = s.np → s.pre ds → semB gl Φ pb (gam0 c.N.length ds) { nx := fun _ => s.out ds = .ok (.sh .non), rt := fun o _ => s.out ds = .ok o, ex := fun C n _ => s.out ds = .error (C, n) }) (hlt : c.lt = false := by first | rfl | assumption) :
    FnOk P w K mg base (L2M.CX c.sx P w) (k + 1) f fd ps (spOf K ca s) := by
  refine F.ok S (fun vs H Q E h => ?_) (fun cdv A outer sh H vs Q E hr h => ⟨wB _ body, pss_w, ?_⟩)
  · obtain ⟨G, ds, _, r, hl, _⟩ := h
    rw [r.len, hl, hnp]
  · obtain ⟨G, ds, gh, r, hl, hp, ho, he⟩ := h
    have hm : ∀ {j}, j ≤ k → Room j _ := fun h => hr.mono h
    have inp : ∀ pn xe, InP P w K mg base ((cxOf (L2M.CX c.sx P w) P w K mg base c.N qual c.sc f cdv A outer sh H E).tr pn xe) := fun _ _ => ⟨rfl, rfl, rfl, rfl, rfl⟩
    have k0 : COk gl Φ ca c.toCfg (cxOf (L2M.CX c.sx P w) P w K mg base c.N qual c.sc f cdv A outer sh H E) := {
      N := rfl
      sc := rfl
      nd := S.nd
      calm := rfl
      un := hr.units
      blt := wl.blt
      gls := wl.gls
      fns := fun j y e => by
        have hh := hf j y e
        cases y with
        | fn x =>
          obtain ⟨s', e1, fa, fd', ps', j', hj, F', a1, a2, a3⟩ := hh
          exact ⟨s', e1, fa, fd', ps', j', F', hm hj, a1, a2, a3⟩
        | me cn m =>
          obtain ⟨s', e1, fa, fd', ps', j', hj, a1, a2, F', a3⟩ := hh
          exact ⟨s', e1, fa, fd', ps', j', a1, a2, F', hm hj, a3⟩
        | mu cn m =>
          obtain ⟨s', e1, fa, fd', ps', j', hj, a1, a2, F', a3⟩ := hh
          exact ⟨s', e1, fa, fd', ps', j', a1, a2, F', hm hj, a3⟩
        | ini cn =>
          obtain ⟨s', e1, fa, fd', ps', j', hj, a1, F', a2, a3⟩ := hh
          exact ⟨s', e1, fa, fd', ps', j', a1, F', hm hj, a2, a3⟩
      flds := wl.flds
      lam := fun z => nomatch hlt.symm.trans z
      fnx := fun x h => ⟨by rw [hst] at h; exact loc_ok h, .inl rfl⟩ }
    have k1 : SOk gl Φ ca c (cxOf (L2M.CX c.sx P w) P w K mg base c.N qual c.sc f cdv A outer sh H E) := {
      cok := k0
      pas := passes_of rfl
      stk := rfl
      frm := rfl
      knd := S.kind
      exc := fun C hC hg pn xe => wl.exc C hC _ (inp pn xe) (hm (by omega)) rfl hg
      pe := wl.pe
      lw := fun h hg => wl.lw h _ ⟨rfl, rfl, rfl, rfl, rfl⟩ (hm hk) rfl hg
      ecm := wl.ecm
      exm := wl.exm
      exh := fun hu C hC hg a pn hot => wl.exh C hC _ ⟨rfl, rfl, rfl, rfl, rfl⟩ (L2H.roomH_mark (hm (by omega)) _) hot hg
      paa := fun _ => L2H.passesAt_of rfl
      sfn := fun hu j y e => by
        have hh := hst2 hu j y e
        cases y with
        | fn x =>
          obtain ⟨s', e1, fa, fd', ps', j', hj, F', a1, a2, a3⟩ := hh
          exact ⟨s', e1, fa, fd', ps', j', F', hm hj, a1, a2, a3⟩
        | me cn m =>
          obtain ⟨s', e1, fa, fd', ps', j', hj, a1, a2, F', a3⟩ := hh
          exact ⟨s', e1, fa, fd', ps', j', a1, a2, F', hm hj, a3⟩
        | mu cn m =>
          obtain ⟨s', e1, fa, fd', ps', j', hj, a1, a2, F', a3⟩ := hh
          exact ⟨s', e1, fa, fd', ps', j', a1, a2, F', hm hj, a3⟩
        | ini cn =>
          obtain ⟨s', e1, fa, fd', ps', j', hj, a1, F', a2, a3⟩ := hh
          exact ⟨s', e1, fa, fd', ps', j', a1, F', hm hj, a2, a3⟩ }
    refine sndBB pb k1 (L2M.takes_of rfl rfl rfl rfl) hchk _ _ (hsem ds hl hp) (L2.start c.N vs) G H _ (start_sta gh r) _ ⟨?_, ?_, ?_, ?_, ?_⟩
    · intro σ' Γ' G' H' F' st sp h
      exact ho _ h .non _ [] G' H' sp.gg st.gh (fun a o e => sp.hh a o (fun _ z => nomatch z) e) (fun p h1 h2 => sp.gn p h1 h2 fun _ z => nomatch z) (.sh .non) (fun _ z => nomatch z) rfl
    · intro v o S' σ' Γ' G' H' F' st sp r' d1 d2 h
      refine ho o h v o S' G' H' sp.gg st.gh (fun a o e => sp.hh a o (fun _ z => nomatch z) e) (fun p h1 h2 => sp.gn p h1 h2 fun _ z => nomatch z) r' (fun p hp => ?_) rfl
      rcases d2 p hp with ⟨_, z⟩ | z
      · exact nomatch z
      · exact z
    · intro _ _ _ _ _ _ _ h
      exact h.elim
    · intro _ _ _ _ _ _ _ h
      exact h.elim
    · intro C n σ' Γ' G' H' F' dd st sp hx h
      exact he C n h dd G' H' sp.gg st.gh (fun a o e => sp.hh a o (fun _ z => nomatch z) e) (fun p h1 h2 => sp.gn p h1 h2 fun _ z => nomatch z) hx
/-- .. of a method of what is lent -/
theorem fn_sndM {x qual : Str} {params : Arguments} {body : List Stmt} {f : Addr} {fd : FuncData} {ps : List Str} {k : Nat} {s : MSpec} {pb : List PSt} (wl : Wld P w K mg base ca gl c.gls c.flds c.ecs c.lw c.tn) (F : FunD K x qual params body c.sc [] [] f fd) (S : FnScope c.N ps c.sc) (hst : c.st = c.sc) (hk : 5 ≤ k) (hnp : s.np + 1 = ps.length)
    (hchk : chkB c pb body = true) (hf : ∀ (j : Nat) (y : FnN), c.fns[j]? = some y → HasAt c.sx P w K mg base ca Φ k j y)
    (hst2 : c.us = true → ∀ (j : Nat) (y : FnN), (c.fns.take c.n1)[j]? = some y → HasAt true P w K mg base ca Φ k j y)
    (hsem : ∀ p cn fs os ds, ds.length = s.np → s.pre (.ins p cn fs os) ds → semB gl Φ pb (gamM c.N.length (.ins p cn fs os) ds) { nx := fun Γ => ∃ fs' os', Γ[0]? = some (.ins p cn fs' os') ∧ s.out (.ins p cn fs os) ds = (.ok (.sh .non), .ins p cn fs' os'), rt := fun r Γ => ∃ fs' os', Γ[0]? = some (.ins p cn fs' os') ∧ s.out (.ins p cn fs os) ds = (.ok r, .ins p cn fs' os'), ex := fun C n Γ => ∃ fs' os', Γ[0]? = some (.ins p cn fs' os') ∧ s.out (.ins p cn fs os) ds = (.error (C, n), .ins p cn fs' os') })
    (hins : ∀ o ds, s.pre o ds → ∃ p cn fs os, o = .ins p cn fs os) (hlt : c.lt = false := by first | rfl | assumption) :
    FnOk P w K mg base (L2M.CX c.sx P w) (k + 1) f fd ps (spOfM K ca s) := by
  refine F.ok S (fun vs H Q E h => ?_) (fun cdv A outer sh H vs Q E hr h => ⟨wB _ body, pss_w, ?_⟩)
  · obtain ⟨G, p, o, S, us, ds, rfl, _, _, r, hl, _⟩ := h
    rw [List.length_cons, r.len, hl, hnp]
  · obtain ⟨G, p, o, S0, us, ds, rfl, gh, ro, r, hl, hp, ho, he⟩ := h
    obtain ⟨p', cn, fs, os, rfl⟩ := hins o ds hp
    have epp : p' = p := by
      obtain ⟨_, _, _, ev, _⟩ := ro.ins_inv
      cases ev
      rfl
    subst epp
    have hm : ∀ {j}, j ≤ k → Room j _ := fun h => hr.mono h
    have inp : ∀ pn xe, InP P w K mg base ((cxOf (L2M.CX c.sx P w) P w K mg base c.N qual c.sc f cdv A outer sh H E).tr pn xe) := fun _ _ => ⟨rfl, rfl, rfl, rfl, rfl⟩
    have k0 : COk gl Φ ca c.toCfg (cxOf (L2M.CX c.sx P w) P w K mg base c.N qual c.sc f cdv A outer sh H E) := {
      N := rfl
      sc := rfl
      nd := S.nd
      calm := rfl
      un := hr.units
      blt := wl.blt
      gls := wl.gls
      fns := fun j y e => by
        have hh := hf j y e
        cases y with
        | fn x =>
          obtain ⟨s', e1, fa, fd', ps', j', hj, F', a1, a2, a3⟩ := hh
          exact ⟨s', e1, fa, fd', ps', j', F', hm hj, a1, a2, a3⟩
        | me cn m =>
          obtain ⟨s', e1, fa, fd', ps', j', hj, a1, a2, F', a3⟩ := hh
          exact ⟨s', e1, fa, fd', ps', j', a1, a2, F', hm hj, a3⟩
        | mu cn m =>
          obtain ⟨s', e1, fa, fd', ps', j', hj, a1, a2, F', a3⟩ := hh
          exact ⟨s', e1, fa, fd', ps', j', a1, a2, F', hm hj, a3⟩
        | ini cn =>
          obtain ⟨s', e1, fa, fd', ps', j', hj, a1, F', a2, a3⟩ := hh
          exact ⟨s', e1, fa, fd', ps', j', a1, F', hm hj, a2, a3⟩
      flds := wl.flds
      lam := fun z => nomatch hlt.symm.trans z
      fnx := fun x h => ⟨by rw [hst] at h; exact loc_ok h, .inl rfl⟩ }
    have k1 : SOk gl Φ ca c (cxOf (L2M.CX c.sx P w) P w K mg base c.N qual c.sc f cdv A outer sh H E) := {
      cok := k0
      pas := passes_of rfl
      stk := rfl
      frm := rfl
      knd := S.kind
      exc := fun C hC hg pn xe => wl.exc C hC _ (inp pn xe) (hm (by omega)) rfl hg
      pe := wl.pe
      lw := fun h hg => wl.lw h _ ⟨rfl, rfl, rfl, rfl, rfl⟩ (hm hk) rfl hg
      ecm := wl.ecm
      exm := wl.exm
      exh := fun hu C hC hg a pn hot => wl.exh C hC _ ⟨rfl, rfl, rfl, rfl, rfl⟩ (L2H.roomH_mark (hm (by omega)) _) hot hg
      paa := fun _ => L2H.passesAt_of rfl
      sfn := fun hu j y e => by
        have hh := hst2 hu j y e
        cases y with
        | fn x =>
          obtain ⟨s', e1, fa, fd', ps', j', hj, F', a1, a2, a3⟩ := hh
          exact ⟨s', e1, fa, fd', ps', j', F', hm hj, a1, a2, a3⟩
        | me cn m =>
          obtain ⟨s', e1, fa, fd', ps', j', hj, a1, a2, F', a3⟩ := hh
          exact ⟨s', e1, fa, fd', ps', j', a1, a2, F', hm hj, a3⟩
        | mu cn m =>
          obtain ⟨s', e1, fa, fd', ps', j', hj, a1, a2, F', a3⟩ := hh
          exact ⟨s', e1, fa, fd', ps', j', a1, a2, F', hm hj, a3⟩
        | ini cn =>
          obtain ⟨s', e1, fa, fd', ps', j', hj, a1, F', a2, a3⟩ := hh
          exact ⟨s', e1, fa, fd', ps', j', a1, F', hm hj, a2, a3⟩ }
    have st0 := startM_sta (N := c.N) gh ro r (by have e := congrArg List.length S.pre; rw [List.length_take] at e; rw [r.len, hl]; omega)
    have same0 : ∀ {G' H' : Hp} {F' : Nat → List Addr}, Stp G H (fun i => if i = 0 then S0 else []) G' H' F' → (∀ a u, a ∉ S0 → H a = some u → H' a = some u) ∧ (∀ q, H q ≠ none → G q = none → q ∉ S0 → G' q = none) := fun sp =>
      ⟨fun a u ha e => sp.hh a u (fun i hi => by
        by_cases z : i = 0
        · rw [if_pos z] at hi; exact ha hi
        · rw [if_neg z] at hi; exact nomatch hi) e, fun q h1 h2 h3 => sp.gn q h1 h2 fun i hi => by
        by_cases z : i = 0
        · rw [if_pos z] at hi; exact h3 hi
        · rw [if_neg z] at hi; exact nomatch hi⟩
    have back0 : ∀ {H : Hp} {q : Addr}, ((∃ j, q ∈ (fun i : Nat => if i = 0 then S0 else []) j) ∨ H q = none) → q ∈ S0 ∨ H q = none := fun h => by
      rcases h with ⟨j, hj⟩ | h
      · by_cases z : j = 0
        · simp only [z, if_true] at hj; exact .inl hj
        · simp only [z, if_false] at hj; exact nomatch hj
      · exact .inr h
    have self0 : ∀ {σ' : L2.St} {Γ' : List O} {G' H' : Hp} {F' : Nat → List Addr} {fs' : List Str} {os' : List O}, Sta K σ' Γ' G' H' F' → Γ'[0]? = some (.ins p' cn fs' os') → ORep K G' H' (.ref p') (.ins p' cn fs' os') (F' 0) := fun st e => by
      rcases st.env.ent 0 _ e with z | ⟨v, h1, h2⟩
      · cases z
      · obtain ⟨_, _, _, ev, _⟩ := h2.ins_inv
        rw [ev] at h2
        exact h2
    refine sndBB pb k1 (L2M.takes_of rfl rfl rfl rfl) hchk _ _ (hsem p' cn fs os ds hl hp) (L2.start c.N (.ref p' :: us)) G H _ st0 _ ⟨?_, ?_, ?_, ?_, ?_⟩
    · intro σ' Γ' G' H' F' st sp h
      obtain ⟨fs', os', e0, eo⟩ := h
      exact ho _ _ eo .non [] (F' 0) G' H' sp.gg st.gh (same0 sp).1 (same0 sp).2 (.sh .non) (self0 st e0) (fun _ z => nomatch z) (fun _ z => nomatch z) (fun q hq => back0 (sp.ff 0 q hq))
    · intro v o S' σ' Γ' G' H' F' st sp r' d1 d2 h
      obtain ⟨fs', os', e0, eo⟩ := h
      exact ho _ _ eo v S' (F' 0) G' H' sp.gg st.gh (same0 sp).1 (same0 sp).2 r' (self0 st e0) (fun q hq => d1 q hq 0) (fun q hq => back0 (d2 q hq)) (fun q hq => back0 (sp.ff 0 q hq))
    · intro _ _ _ _ _ _ _ h
      exact h.elim
    · intro _ _ _ _ _ _ _ h
      exact h.elim
    · intro C n σ' Γ' G' H' F' dd st sp hx h
      obtain ⟨fs', os', e0, eo⟩ := h
      exact he C n _ eo dd (F' 0) G' H' sp.gg st.gh (same0 sp).1 (same0 sp).2 (self0 st e0) (fun q hq => back0 (sp.ff 0 q hq)) hx
end
end PW

end
section
set_option Elab.async false
set_option linter.all false
set_option maxRecDepth 100000
set_option maxHeartbeats 4000000
/-! PXX: lists walked while an error is handled. -/
namespace PW
open PySem PySem.Spec PyProof.Rows L2 HotX L2H
section
variable {prog : Program} {w : World} {A : Around} {E : Value → Shared → Prop} {s : Shared}
theorem hot_ne {x1 x2 it l : Addr} {i : Nat} (hot : HotA A x1 x2 s.heap) (hit : s.heap.IsListIter it l i) : x1 ≠ it ∧ x2 ≠ it := by
  obtain ⟨_, o, vs, o2, h1, d1, h2, ⟨v2, e2, c2⟩, c1⟩ := hot
  obtain ⟨o', hi, _, d'⟩ := hit
  constructor
  · rintro rfl
    rw [h1] at hi
    cases hi
    rw [d1] at d'
    cases d'
    simp at c1
  · rintro rfl
    rw [h2] at hi
    cases hi
    rw [e2] at d'
    cases d'
    simp at c2
/-- a list's end, while x1 is handled -/
theorem next_end_hot {it l x1 x2 : Addr} {i : Nat} {items : Array Value} {Q : Option Value → Shared → Prop} (hot : HotA A x1 x2 s.heap) (hit : s.heap.IsListIter it l i) (hl : s.heap.IsList l items) (hx : items[i]? = none)
    (hQ : ∀ h', Heap.ExtBut it s.heap h' → Q none { s with heap := h' }) : wpAny (model prog w) A (pyNext (.ref it)) Q E s := by
  obtain ⟨hne, hne2⟩ := hot_ne hot hit
  obtain ⟨oi, hoi, hci, hdi⟩ := id hit
  obtain ⟨ol, hol, _, nl, hdl⟩ := hl
  obtain ⟨hh, o1, vs1, o2, h1, d1, h2, z2, c1⟩ := hot
  unfold pyNext
  refine wpAny_bind (wpAny_attempt (wpAny_callSpecial?_slot (name := Str.ofString "__next__") hit.typeIs slot_listiter_next (wpAny_call_entry slot_listiter_next hit.typeIs entry_listiter_next ?_ (args_listiter_next _))))
  show wpAny _ _ (field (.ref it) 0 >>= _) _ _ s
  refine wpAny_bind (wpAny_field hoi hdi (x := .ref l) rfl ?_)
  show wpAny _ _ (if (Value.ref l == Value.none) = true then _ else _) _ _ s
  rw [if_neg (show ¬ (Value.ref l == Value.none) = true from Bool.false_ne_true)]
  show wpAny _ _ (field (.ref it) 1 >>= _) _ _ s
  refine wpAny_bind (wpAny_field hoi hdi (x := .int i 0) rfl ?_)
  show wpAny _ _ (seqItems? (.ref l) >>= _) _ _ s
  refine wpAny_bind (wpAny_seqItems hol hdl ?_)
  simp only [Int.toNat_natCast, hx]
  refine wpAny_bind (wpAny_rule (wpAny_bind (wpAny_setField hoi hdi (by simp) ?_)))
  show wpAny _ _ (newExc (.type "StopIteration") [] >>= _) _ _ _
  refine wpAny_bind ?_
  simp only [newExc, newTuple]
  refine wpAny_bind (wpAny_newObj_type ?_ (by size_fits))
  refine wpAny_bind (m := firstArgMember _ _) (wpAny_of_eq (a := Value.none) (by first | rfl | (simp only [firstArgMember]; rfl)) ?_)
  refine wpAny_newObj_type ?_ (by size_fits)
  have k1 : ∀ f, (s.heap.update it f).get? x1 = some o1 := fun f => by rw [Heap.get?_update_other _ _ hne.symm]; exact h1
  have k2 := fun f => Heap.get?_push_of_some (h := s.heap.update it f) { cls := .type "tuple", data := .seq ([] : List Value).toArray } (k1 f)
  have k3 : ∀ f, (s.heap.update it f).get? x2 = some o2 := fun f => by rw [Heap.get?_update_other _ _ hne2.symm]; exact h2
  have k4 := fun f => Heap.get?_push_of_some (h := s.heap.update it f) { cls := .type "tuple", data := .seq ([] : List Value).toArray } (k3 f)
  refine raiseNew_hotA ⟨hh, o1, vs1, o2, Heap.get?_push_of_some _ (k2 _), d1, Heap.get?_push_of_some _ (k4 _), z2, c1⟩ (Nat.ne_of_lt (Heap.lt_size (k2 _))) (Nat.ne_of_lt (Heap.lt_size (k4 _))) (Heap.get?_push_size _ rfl) rfl (by first | (simp; done) | (simp; omega) | (simp only [Array.size_append]; simp; omega)) ?_
  refine wpAny_bind (wpAny_isInstance (T := "StopIteration") (b := true) ⟨_, Heap.get?_update_self _ (Heap.get?_push_size _ rfl) rfl, rfl⟩ isSubtype_stop ?_)
  refine wpAny_pure (hQ _ fun b o hb e => ?_)
  have e1 : ∀ f, (s.heap.update it f).get? b = some o := fun f => by rw [Heap.get?_update_other _ _ (Ne.symm hb)]; exact e
  have e2 := fun f => Heap.get?_push_of_some (h := s.heap.update it f) { cls := .type "tuple", data := .seq ([] : List Value).toArray } (e1 f)
  exact (Heap.get?_update_other _ _ (Nat.ne_of_gt (Heap.lt_size (e2 _)))).trans (Heap.get?_push_of_some _ (e2 _))
theorem HotA.kept {x1 x2 : Addr} {h h' : Heap} (hot : HotA A x1 x2 h) (k : ∀ o, h.get? x1 = some o → h'.get? x1 = some o) (k2 : ∀ o, h.get? x2 = some o → h'.get? x2 = some o) : HotA A x1 x2 h' := by
  obtain ⟨a, o, vs, o2, b, c, d, e, f⟩ := hot
  exact ⟨a, o, vs, o2, k o b, c, k2 o2 d, e, f⟩
theorem HotA.in1 {x1 x2 : Addr} {h : Heap} (hot : HotA A x1 x2 h) : HotA A.in1 x1 x2 h := hot
theorem walks_hot {x1 x2 : Addr} (hd : A.handled = some (.ref x1)) (I ax : Addr) (hne : ax ≠ I) (items : Array Value) :
    Walks prog w A I [I, ax, x1, x2] [I] items.size (fun i v => items[i]? = some v) (fun i h => h.IsListIter I ax i ∧ h.IsList ax items ∧ HotA A x1 x2 h) where
  sub := fun b hb => by simp at hb; simp [hb]
  frame := fun _ _ _ st hk => ⟨st.1.at fun o e => hk I (by simp) o e, st.2.1.at fun o e => hk ax (by simp) o e, HotA.kept st.2.2 (fun o e => hk x1 (by simp) o e) fun o e => hk x2 (by simp) o e⟩
  item := fun i s Q E hi st hQ => by
    obtain ⟨hx, hx2⟩ := hot_ne st.2.2 st.1
    refine wpAny_pyNext_list_item st.1 st.2.1 (x := items[i]) (by simp [hi]) fun h' hit' hs' => ?_
    exact hQ _ h' s.toks (by simp [hi]) ⟨hit', st.2.1.extBut hs'.extBut hne, HotA.kept st.2.2 (fun o e => (hs'.2 x1 hx).trans e) fun o e => (hs'.2 x2 hx2).trans e⟩ fun b o hb e => hs'.extBut b o (fun h => hb (by simp [h])) e
  done := fun s Q E st hQ => next_end_hot st.2.2 st.1 st.2.1 (by simp) fun h' he' => hQ h' s.toks fun b o hb e => he' b o (fun h => hb (by simp [h])) e
  self := fun _ _ _ _ st hQ => wpAny_pyIter_listiter st.1 hQ
/-- sum of a list of ints, while x1 is handled -/
theorem sum_hot {l x1 x2 : Addr} {its : List Value} {ns : List Int} {Q : Value → Shared → Prop} (hot : HotA A x1 x2 s.heap) (hl : s.heap.IsList l its.toArray) (hi : IntsAre its ns)
    (h : ∀ h' tk t', (∀ b o, s.heap.get? b = some o → h'.get? b = some o) → Q (.int ns.sum t') { s with heap := h', toks := tk }) : wpAny (model prog w) A (call (.builtin "sum") [.ref l]) Q E s := by
  obtain ⟨xs, e⟩ := hi.allInts.items
  have hn : numsOf (intItems xs).toList = ns := by rw [← e]; exact hi.numsOf
  rw [nums_intItems] at hn
  rw [e] at hl
  refine call_sum_walkG (iter_intList hl fun s2 e2 st hfp hlI => ?_)
  subst e2
  have hx : x1 < s.heap.objs.size := by
    obtain ⟨_, o, _, _, b, _⟩ := hot
    exact Heap.lt_size b
  have hx2 : x2 < s.heap.objs.size := by
    obtain ⟨_, o, _, _, _, _, b, _⟩ := hot
    exact Heap.lt_size b
  refine ⟨_, _, _, _, _, _, numAt xs, rfl, walks_hot (A := A.in1) hot.1 _ l hlI (intItems xs), ⟨st.1, st.2, HotA.kept hot (fun o e => Heap.get?_push_of_some _ e) fun o e => Heap.get?_push_of_some _ e⟩, fun b hb => ?_, (fun _ _ => intItems_at), fun h' tk t' hk => ?_⟩
  · rcases List.mem_cons.mp hb with rfl | hb
    · exact hfp _ List.mem_cons_self
    · rcases List.mem_cons.mp hb with rfl | hb
      · exact hfp _ (List.mem_cons_of_mem _ List.mem_cons_self)
      · show _ < (s.heap.push _).objs.size
        rw [Heap.size_push]
        rcases List.mem_cons.mp hb with rfl | hb
        · exact Nat.lt_succ_of_lt hx
        · rw [List.mem_singleton] at hb
          subst hb
          exact Nat.lt_succ_of_lt hx2
  · have z := h h' tk t' (old_kept hk)
    have e3 : preSum (numAt xs) (intItems xs).size = ns.sum := by
      rw [preSum_eq, List.take_of_length_le (by simp [intItems]), hn]
    rw [e3]
    exact z
end
end PW

end
section
set_option Elab.async false
set_option linter.all false
set_option maxRecDepth 100000
set_option maxHeartbeats 4000000
/-! PXY: a comprehension over a list while an error is handled. -/
namespace PW
open PySem PySem.Spec PyProof.Rows L2 HotX L2H
section
variable {X : Cx} {pins : List (Addr × Obj)} {σ : L2.St} {H : Hp} {s : Shared} {E : Value → Shared → Prop}
theorem item_l {it a : Addr} {i : Nat} {xs : List V} {x : V} {tg : Expr} (I : Inv X pins σ H s) (hf : FpOk X pins H it) (st : s.heap.IsListIter it a i) (hq : SqL X.K H a xs) (hx : xs[i]? = some x) :
    wpAny (model X.prog X.w) X.A (pyNext (.ref it)) (fun r s1 => ∃ u, r = some u ∧ wpAny (model X.prog X.w) X.A (letOwnedTupleGo tg (.ref it) u) (fun _ s2 => Inv X pins σ H s2 ∧ RelV x u ∧ s2.heap.IsListIter it a (i + 1)) E s1) E s := by
  obtain ⟨its, rv, pl, _⟩ := I.list hq
  obtain ⟨u, hu, ru⟩ := rv.get hx
  obtain ⟨f0, f1, f2, f3, f4, f5⟩ := hf
  refine wpAny_pyNext_list_item st pl.isList (x := u) (by simpa using hu) fun h' st' sb => ⟨u, rfl, ?_⟩
  obtain ⟨o, e, c, d⟩ := id st'
  exact go_of (s := { s with heap := h' }) e c d (by decide) ⟨I.turned (t' := s.toks) (fun b o hb e => (sb.2 b hb).trans e) f0 f1 f3 f4 f5, ru, st'⟩
theorem done_l {it a x1 x2 : Addr} {i : Nat} {xs : List V} (hot : HotA X.A x1 x2 s.heap) (I : Inv X pins σ H s) (hf : FpOk X pins H it) (st : s.heap.IsListIter it a i) (hq : SqL X.K H a xs) (hx : xs.length ≤ i) :
    wpAny (model X.prog X.w) X.A (pyNext (.ref it)) (fun r s1 => r = none ∧ Inv X pins σ H s1) E s := by
  obtain ⟨its, rv, pl, _⟩ := I.list hq
  obtain ⟨f0, f1, f2, f3, f4, f5⟩ := hf
  have hl := rv.length
  exact next_end_hot hot st pl.isList (by simp; omega) fun h' eb => ⟨rfl, I.turned (t' := s.toks) (fun b o hb e => eb b o hb e) f0 f1 f3 f4 f5⟩
end
section
variable {X : Cx}
/-- [elt for x in a list], the list stands at a, its items xs; Pv by the turn and the heap -/
theorem lc_hot {elt tg iter : Expr} {scope : Scope} {own : List (Str × Nat)} {pos : Pos} {g : TG} {te : TE} {pins : List (Addr × Obj)} {σ : L2.St} {H : Hp} {s : Shared} {Q : VK} {tl : TE} (hc : HotP X) (hN : X.N.Nodup) (hi : PE X iter tl) (ok : BlkOk X.N X.env.scope scope own)
    (hg : ∀ (s : Shared) (H : Hp) (C : Addr) (cl : List (Str × Addr)) (fp : List Addr), PG (X.blk s H scope (compEnvC scope cl C X.env) fp) tg g)
    (he : ∀ (s : Shared) (H : Hp) (C : Addr) (cl : List (Str × Addr)) (fp : List Addr), PE (X.blk s H scope (compEnvC scope cl C X.env) fp) elt te) (hs : ∀ x, foldedSetIterable iter X.env x = pure x) (I : Inv X pins σ H s)
    (h : tl σ H fun v H1 => ∃ a xs, v = .ref a ∧ SqL X.K H1 a xs ∧ ∀ Dl, H1 Dl = none → ∃ Pv : Nat → Hp → Prop, Pv 0 (upd H1 Dl (.lst [])) ∧ (∀ i H2, Pv i H2 → SqL X.K H2 a xs) ∧
      (∀ i x H2, xs[i]? = some x → Pv i H2 → g x (wipe σ (own.map (·.2))) H2 fun σ2 H3 => wipe σ2 (own.map (·.2)) = wipe σ (own.map (·.2)) ∧ te σ2 H3 fun y H4 => ∃ acc, H4 Dl = some (.lst acc) ∧ acc.length < sizeLine ∧ Pv (i + 1) (upd H4 Dl (.lst (acc ++ [y])))) ∧
      ∀ H2, Pv xs.length H2 → Q (.ref Dl) H2) :
    wpAny (model X.prog X.w) X.A (eval (.ListComp elt [⟨tg, iter, [], 0⟩] scope pos) X.env) (EP X pins σ Q) X.xe s := by
  rw [eval_ListComp]
  have hfree : ∀ y ∈ scope.names, y.2 = .free → ∃ c, X.env.cells.lookup y.1 = some c := fun y hy ey => (ok.free y hy ey).elim (fun k => I.ok.has _ (.inl k)) fun k => I.ok.has _ (.inr k)
  refine wpAny_comprehension_free (use := none) rfl hs (closure_ok hfree) ok.kind (fun y hy ey => by rw [ok.uniq y hy, ey]) (thn (hi.run pins s σ H _ I h) fun v1 s1 hv => ?_)
  obtain ⟨x1, H1, I1, r1, a, xs, ex, hq, hD⟩ := hv
  subst ex
  cases r1
  obtain ⟨its, rv, pl, _⟩ := I1.list hq
  refine wpAny_pyIter_list pl.isList ?_
  generalize hit : s1.heap.objs.size = it
  generalize hs2 : ({ s1 with heap := s1.heap.push { cls := .type "list_iterator", data := .fields #[.ref a, .int 0 0] } } : Shared) = s2
  have I2 : Inv X pins σ H1 s2 := by
    rw [← hs2]
    exact I1.kept (t' := s1.toks) fun b o e => Heap.get?_push_of_some _ e
  have st2 : s2.heap.IsListIter it a 0 := by
    rw [← hs2, ← hit]
    exact ⟨_, Heap.get?_push_size _ rfl, rfl, rfl⟩
  have f2 : FpOk X pins H1 it := I1.fpOk (Nat.le_of_eq hit) (I1.hok.fresh (Nat.le_of_eq hit))
  refine wpAny_newObj_type (newEnv_comp ?_) (by show 0 ≤ sizeLine; decide)
  generalize hDl : s2.heap.objs.size = Dl
  have hDn : H1 Dl = none := I2.hok.fresh (Nat.le_of_eq hDl)
  obtain ⟨Pv, p0, pq, ps, pd⟩ := hD Dl hDn
  generalize hs3 : ({ s2 with heap := s2.heap.push { cls := .type "list", data := .seq ([] : List Value).toArray } } : Shared) = s3
  have h3 : s3.heap = s2.heap.push { cls := .type "list", data := .seq ([] : List Value).toArray } := by rw [← hs3]
  have I3 : Inv X pins σ (upd H1 Dl (.lst [])) s3 := by
    rw [← hs3]
    refine I2.laid (t' := s2.toks) (fun b o e => Heap.get?_push_of_some _ e) (Nat.le_of_eq hDl) ⟨Nat.zero_le _, [], 0, .nil, ?_⟩
    rw [← hDl]
    exact Heap.get?_push_size _ rfl
  have ltI : it < s2.heap.objs.size := by
    obtain ⟨o, e, _⟩ := st2
    exact Heap.lt_size e
  have f3 : ∀ b ∈ [it], FpOk X pins (upd H1 Dl (.lst [])) b ∧ b < s3.heap.objs.size := fun b hb => by
    rw [List.mem_singleton] at hb
    subst hb
    refine ⟨⟨?_, f2.2⟩, by rw [h3, Heap.size_push]; exact Nat.lt_succ_of_lt ltI⟩
    rw [upd_ne (by rw [← hDl]; exact Nat.ne_of_lt ltI)]
    exact f2.1
  have st3 : s3.heap.IsListIter it a 0 := st2.at fun o e => by rw [h3]; exact Heap.get?_push_of_some _ e
  have I4 := block_start I3 ok hN f3
  have pg := hg s3 (upd H1 Dl (.lst [])) s3.heap.objs.size (cellsFrom (s3.heap.objs.size + 1) scope.names (cloFrom X.env.cells scope.names [])) [it]
  have pe := he s3 (upd H1 Dl (.lst [])) s3.heap.objs.size (cellsFrom (s3.heap.objs.size + 1) scope.names (cloFrom X.env.cells scope.names [])) [it]
  show codeAny _ _ (.compStart (.ListComp elt [⟨tg, iter, [], 0⟩] scope pos) 0 (.ref it) (.ref Dl) (compEnvC scope (cellsFrom (s3.heap.objs.size + 1) scope.names (cloFrom X.env.cells scope.names [])) s3.heap.objs.size X.env)) (compPost (model X.prog X.w) X.A X.xe none (EP X pins σ Q) (.ref Dl) s3.heap.objs.size) { s3 with heap := pushCells (s3.heap.push { cls := .type "dict", data := .dict #[] }) scope.names }
  have n3 : (upd H1 Dl (.lst [])) it = none := (f3 it List.mem_cons_self).1.1
  -- the error that is handled, at the block's start
  obtain ⟨p, pq2, hot1, hpn, hpn2⟩ := id hc
  obtain ⟨e1, e2, e3, e4, _⟩ := I3.pin p (List.mem_append_left _ hpn)
  obtain ⟨d1, d2, d3, d4, _⟩ := I3.pin pq2 (List.mem_append_left _ hpn2)
  have e5 : p.1 ∉ frs X.stack := fun z => (List.mem_cons.mp (I3.stkSub p.1 z)).elim e3 e4
  have d5 : pq2.1 ∉ frs X.stack := fun z => (List.mem_cons.mp (I3.stkSub pq2.1 z)).elim d3 d4
  have hot3 : HotA X.A p.1 pq2.1 s3.heap := hotA_of (X := X) hot1 e1 d1
  obtain ⟨e6, d6⟩ := hot_ne hot3 st3
  generalize hce : compEnvC scope (cellsFrom (s3.heap.objs.size + 1) scope.names (cloFrom X.env.cells scope.names [])) s3.heap.objs.size X.env = ce at I4 pg pe ⊢
  have cL : ce.locals = s3.heap.objs.size := by subst hce; rfl
  generalize hH3 : upd H1 Dl (.lst []) = H3 at I3 I4 pg pe p0 n3 f3 e2 d2
  generalize hs4 : ({ s3 with heap := pushCells (s3.heap.push { cls := .type "dict", data := .dict #[] }) scope.names } : Shared) = s4 at I4 ⊢
  have st4 : s4.heap.IsListIter it a 0 := st3.at fun o e => by rw [← hs4]; exact pushCells_keeps _ _ _ _ (Heap.get?_push_of_some _ e)
  have stat : ∀ {σ' : L2.St} {H' : Hp} {s' : Shared}, Inv (X.blk s3 H3 scope ce [it]) [] σ' H' s' → H' it = none → FpOk (X.blk s3 H3 scope ce [it]) [] H' it := fun {σ' H' s'} I' hn =>
    ⟨hn, (I'.ok.exf it List.mem_cons_self).1, I'.ok.exfs it List.mem_cons_self, .inl List.mem_cons_self, fun x c e => (I'.ok.exf it List.mem_cons_self).2 x c e, fun q hq => absurd (show q ∈ ([] : List (Addr × Obj)) ++ [] from hq) (by simp)⟩
  have hotB : ∀ {σ' : L2.St} {H' : Hp} {s' : Shared}, Inv (X.blk s3 H3 scope ce [it]) [] σ' H' s' → HotA X.A p.1 pq2.1 s'.heap := fun {σ' H' s'} I' => hotA_of (X := X) hot1 (I'.base.keep p.1 p.2 e1 e2 e5 (by simpa using e6)) (I'.base.keep pq2.1 pq2.2 d1 d2 d5 (by simpa using d6))
  have loop : codeAny (model X.prog X.w) X.A (.compLoop (.ListComp elt [⟨tg, iter, [], 0⟩] scope pos) 0 (.ref it) (.ref Dl) ce) (compPost (model X.prog X.w) X.A X.xe none (EP X pins σ Q) (.ref Dl) s3.heap.objs.size) s4 := by
    refine compLoop_any (fun n s' => ∃ i H', n = xs.length - i ∧ i ≤ xs.length ∧ Inv (X.blk s3 H3 scope ce [it]) [] (wipe σ (own.map (·.2))) H' s' ∧ s'.heap.IsListIter it a i ∧ H' it = none ∧ Pv i H') ?_ xs.length ⟨0, H3, rfl, Nat.zero_le _, I4, st4, n3, p0⟩
    rintro n s5 ⟨i, H5, en, hle, I5, st5, n5, w5⟩
    have hq5 : SqL (X.blk s3 H3 scope ce [it]).K H5 a xs := pq i H5 w5
    by_cases hlt : i < xs.length
    · obtain ⟨x, hx⟩ : ∃ x, xs[i]? = some x := ⟨xs[i], by simp [hlt]⟩
      refine thnF (item_l (X := X.blk s3 H3 scope ce [it]) (tg := tg) (E := fun _ _ => False) I5 (stat I5 n5) st5 hq5 hx) fun r s6 hr => ?_
      obtain ⟨u, er, h6⟩ := hr
      subst er
      refine thnF h6 fun _ s7 h7 => ?_
      obtain ⟨I7, r7, st7⟩ := h7
      have I7' := I7.pinned (fp := [it]) (fun b hb => by rw [List.mem_singleton] at hb; subst hb; exact stat I7 n5) (fun b hb => by
        rw [List.mem_singleton] at hb
        subst hb
        obtain ⟨o, e, _, d⟩ := st7
        exact ⟨o, e, fun v z => by rw [d] at z; cases z⟩)
      refine thnF (pg.run _ s7 _ H5 x u _ I7' r7 (ps i x H5 hx w5)) fun _ s8 h8 => ?_
      obtain ⟨σ8, H8, I8, hw8, q8⟩ := h8
      refine wpAny_pure ?_
      simp only [if_true]
      refine thnF (pe.run _ s8 σ8 H8 _ I8 q8) fun z s9 h9 => ?_
      obtain ⟨yv, H9, I9, r9, acc, hD9, hz9, nx⟩ := h9
      refine app_ok (X := X.blk s3 H3 scope ce [it]) I9 hD9 hz9 r9 fun s10 I10 => ⟨xs.length - (i + 1), by omega, i + 1, _, rfl, hlt, ?_, ?_, ?_, nx⟩
      · refine (I10.unpinned (pins := [])).weak (by rw [← hw8, wipe_length]) fun j v e => ?_
        rw [← hw8] at e
        exact (wipe_some e).1
      · obtain ⟨o, e, c, d⟩ := id st7
        have z := I10.pin (it, o) (List.mem_append_right _ (List.mem_append_right _ (mem_pinsAt List.mem_cons_self e)))
        exact ⟨o, z.1, c, d⟩
      · obtain ⟨o, e, c, d⟩ := id st7
        exact (I10.pin (it, o) (List.mem_append_right _ (List.mem_append_right _ (mem_pinsAt List.mem_cons_self e)))).2.1
    · have ei : i = xs.length := by omega
      subst ei
      refine thnF (done_l (E := fun _ _ => False) (X := X.blk s3 H3 scope ce [it]) (hotB I5) I5 (stat I5 n5) st5 hq5 (Nat.le_refl _)) fun r s6 h6 => ?_
      obtain ⟨er, I6⟩ := h6
      subst er
      have I7 : Inv X pins σ H5 s6 := I3.call' (ch := [it]) I6.os I6.base I6.hok I6.bare fun b hb => ⟨(f3 b hb).1.2.2.2.1, (f3 b hb).1.2.1, (f3 b hb).1.2.2.2.2.1, (f3 b hb).1.2.2.2.2.2⟩
      have nC : H5 s3.heap.objs.size = none := by
        have z : H5 ce.locals = none := I6.free
        rw [cL] at z
        exact z
      obtain ⟨m, hn, _⟩ := I6.loc
      have hn : s6.heap.Ns ce.locals m := hn
      rw [cL] at hn
      obtain ⟨g0, g1, g2, g3, g4, g5⟩ := I3.fpOk (Nat.le_refl _) nC
      exact ⟨m, hn, fun h'' sb => ⟨.ref Dl, H5, I7.turned (t' := s6.toks) (fun b o hb e => (sb.2 b hb).trans e) g0 g1 g3 g4 g5, rfl, pd H5 w5⟩⟩
  exact codeAny_compStart_list loop (wpAny_pyIter_listiter st4 loop)
end
end PW

end
section
set_option Elab.async false
set_option linter.all false
set_option maxRecDepth 100000
set_option maxHeartbeats 4000000
/-! PXM: an own error is made by C(e). -/
namespace PW
open PySem PySem.Spec PyProof.Rows L2
section
variable {X : Cx} {e : Expr} {es : List Expr} {ta : TA} {p pos : Pos}
theorem pmk_oexN {CX : CXT} {x : Str} {C fI : Addr} {k : Nat} {fd : FuncData} {ps : List Str} {sp : Sp} {ds : List Value} {dvs : List V} (T : OexC X.K C) (iC : PySem.W.findIn X.K (.ref C) "__init__" = some (some (.ref fI))) (tI : PySem.W.typeIn X.K (.ref fI) = some (.type "function"))
    (F1 : FnOk X.prog X.w X.K X.mg X.base CX k fI fd ps sp) (hr : Room (k + 1) X.A) (hb : Binds X.K fd ps ds) (hd : Vals dvs ds) (hx : Passes CX X (fun _ _ _ => False)) (hg : Gl X x) (hm : X.mg x = some (.ref C)) (ha : PA X (e :: es) ta)
    (hdb : (x == ("__debug__" : Str)) = false) (he : starEach (e :: es) X.env = (false, eval e X.env) :: starEach es X.env) (hpl : (backTo pos (starEach es X.env)).any (·.1) = false) :
    L2N.PMk X (.Call (.Name x p) (e :: es) [] pos) (tMkO C sp dvs ta) := by
  intro pins s σ H Q I h
  obtain ⟨nm, q, N, bs, bm, sn, sub, ab, col, dd, k0, k1, k2, k3, k5, hC, hbm⟩ := T.cls
  refine wpAny_Call_Name_kw (ld_glob I hg hm ?_ hdb)
  refine PySem.W.callWith_K (h₀ := X.base) I.ok.mod.kin T.kC (thn (ha.run pos pins s σ H _ I h) fun us s1 ⟨vs, H1, I1, r1, hz, q1⟩ => ⟨I1.kIn, ?_⟩) he hpl
  show wpAny _ _ (call (.ref C) us) _ _ _
  obtain ⟨hp, g, dr, tk, os⟩ := s1
  have hsz : hp.objs.size ≤ hp.objs.size + 1 := Nat.le_succ _
  have hn : H1 (hp.objs.size + 1) = none := I1.hok.fresh hsz
  have hq := q1 (hp.objs.size + 1) hn
  have kk : ∀ b o, hp.get? b = some o → ((hp.push (PySem.W.kdv_tup us)).push (PySem.HandSPX.excO C hp.objs.size)).get? b = some o := fun b o e => Heap.get?_push_of_some _ (Heap.get?_push_of_some _ e)
  have hget : ((hp.push (PySem.W.kdv_tup us)).push (PySem.HandSPX.excO C hp.objs.size)).get? (hp.objs.size + 1) = some (PySem.HandSPX.excO C hp.objs.size) := by heap_get
  have I2 : Inv X pins σ (upd H1 (hp.objs.size + 1) (exo (hp.objs.size + 1) C none)) ⟨(hp.push (PySem.W.kdv_tup us)).push (PySem.HandSPX.excO C hp.objs.size), g, dr, tk, os⟩ :=
    I1.laid (t' := tk) (a := hp.objs.size + 1) (o := exo (hp.objs.size + 1) C none) (h' := (hp.push (PySem.W.kdv_tup us)).push (PySem.HandSPX.excO C hp.objs.size)) kk hsz (exo_ok hget)
  have r2 : Vals (V.ref (hp.objs.size + 1) :: (vs ++ dvs)) (Value.ref (hp.objs.size + 1) :: (us ++ ds)) := .cons rfl (r1.append hd)
  have hl : (Value.ref (hp.objs.size + 1) :: us ++ ds).length = ps.length := by
    have e := r2.length
    rw [F1.len _ _ _ _ hq] at e
    exact e.symm
  have hus : us.length ≤ sizeLine := by
    rw [← Paired.length r1, sizeLine_eq]
    omega
  refine wpAny_call (PySem.HandSPX.call_own F.excBase_ValueError (fun Y => PySem.HandSPX.refsVE_contains Y bm hbm) (I1.kIn _ _ hC) (PySem.W.looks_findIn I1.kIn iC) (fun self => PySem.W.bind_fn I1.kIn self tI) hus
    (codeAny_mono (F1.run _ X.stack _ _ ⟨Value.ref (hp.objs.size + 1) :: us, []⟩ (Value.ref (hp.objs.size + 1) :: (us ++ ds)) _ _ (fun _ _ _ => False) (hr.make C us []) (I2.env0.make C us []) (hb _ (Value.ref (hp.objs.size + 1) :: us) I2.kIn hl) r2 hq) fun r s' hq' => ?_))
  cases r with
  | error er => exact hx pins σ _ _ er s' I2 hq'
  | ok fl =>
    cases fl with
    | ret u =>
      obtain ⟨v, H2, os2, bare2, un2, hok2, rv, ev, d, fs, ea, ed, hd1, q2⟩ := hq'
      subst ev
      obtain ⟨h2, g2, d2, t2, os'⟩ := s'
      obtain ⟨t0, G, J, kG, ge, hoe, na⟩ := mk_end0 (d2 := d2) (t2 := t2) I1 hsz kk un2 hok2 os2 bare2 ea ed hd1
      refine ⟨rv, ⟨_, _, _, ⟨G, g2, d2, t2, os'⟩, _, .ref C, some d, rfl, J, kG, ge, hoe, ⟨rfl, rfl, fun vs hv => ?_⟩, rfl, rfl, na, rfl, bare2, raises_own T.exC T.tyC, q2⟩⟩
      cases hv
      rfl
    | next => exact False.elim hq'
    | brk => exact False.elim hq'
    | cont => exact False.elim hq'
end
/-- what self.line = line keeps -/
def spInit (K : PySem.W.Frag) : Sp := fun vs H Q _ => ∃ (a C : Addr) (y : V), vs = [.ref a, y] ∧ OexC K C ∧ PySem.W.findIn K (.ref C) "line" = some none ∧ H a = some (exo a C none) ∧
  ∀ dx, H dx = none → dx ≠ a → Q .non (upd (upd H dx (exd dx [(("line" : Str), y)])) a (exo a C (some dx)))
section
variable {P : Program} {w : World} {K : PySem.W.Frag} {mg : Str → Option Value} {base : Heap} {ca : EC → Addr}
theorem init_ok {sx : Bool} {x qual : Str} {params : Arguments} {p1 p2 p3 p4 : Pos} {sc : Scope} {f : Addr} {fd : FuncData} {k : Nat} (F : FunD K x qual params [.Assign [.Attribute (.Name "self" p1) "line" p2] (.Name "line" p3) p4] sc [] [] f fd) (S : FnScope ["self", "line"] ["self", "line"] sc) :
    FnOk P w K mg base (L2M.CX sx P w) (k + 1) f fd ["self", "line"] (spInit K) := by
  refine F.ok S (fun vs H Q E h => ?_) (fun cdv A outer sh H vs Q E hr h => ?_)
  · obtain ⟨a, C, y, rfl, _⟩ := h
    rfl
  · obtain ⟨a, C, y, rfl, T, hno, ha, q⟩ := h
    have v0 : sc.names.lookup ("self" : Str) = some .local ∨ sc.names.lookup ("self" : Str) = some .cell := S.par _ (by decide)
    have v1 : sc.names.lookup ("line" : Str) = some .local ∨ sc.names.lookup ("line" : Str) = some .cell := S.par _ (by decide)
    refine ⟨_, pss_cons (ps_ost (pe_var (i := 0) rfl (by first | exact v0 | (rcases v0 with h | h; exact .inl h; exact .inr (.inl h)))) (pe_var (i := 1) rfl (by first | exact v1 | (rcases v1 with h | h; exact .inl h; exact .inr (.inl h))))) pss_nil, ?_⟩
    exact ⟨y, rfl, .ref a, rfl, a, C, rfl, T, hno, .inl ⟨ha, fun dx h1 h2 => q dx h1 h2⟩⟩
/-- the facts by which C(e) is made -/
structure MkC (K : PySem.W.Frag) (mg : Str → Option Value) (ca : EC → Addr) (fI : Addr) (C : EC) : Prop where
  T : OexC K (ca C)
  iC : PySem.W.findIn K (.ref (ca C)) "__init__" = some (some (.ref fI))
  ln : PySem.W.findIn K (.ref (ca C)) "line" = some none
  mg : mg (ecW C) = some (.ref (ca C))
theorem mk_ok {sx : Bool} {fI : Addr} {fd : FuncData} {k : Nat} {C : EC} {X : Cx} (ix : InP P w K mg base X) (c : MkC K mg ca fI C) (tI : PySem.W.typeIn K (.ref fI) = some (.type "function")) (F1 : FnOk P w K mg base (L2M.CX sx P w) k fI fd ["self", "line"] (spInit K))
    (hb : Binds K fd ["self", "line"] []) (hr : Room (k + 1) X.A) (hg : Gl X (ecW C)) : MkOk X ca C := by
  obtain ⟨e1, e2, e3, e4, e5⟩ := ix
  subst e1 e2 e3 e4 e5
  intro e p pos hn pins s σ H Q I h
  refine pmk_oexN (ta := tCons (wE X e) tNil) (dvs := []) c.T c.iC tI F1 hr hb .nil (fun pins σ H s e s' I q => ?_) hg c.mg (pa_cons pe_w pa_nil (star_ok hn)) (by cases C <;> decide) (star_ok hn) (by rfl) pins s σ H Q I ?_
  · obtain ⟨_, _, _, _, _, _, _, _, _, _, _, _, _, _, z⟩ := q
    exact z.elim
  · refine fun pins s I => wpAny_mono (h pins s I) (fun u s1 hu => ?_) fun _ _ z => z
    obtain ⟨v, H1, I1, r, n, rfl, hq⟩ := hu
    refine ⟨_, H1, I1, r, by show 1 ≤ 1000; omega, fun a ha => ⟨a, ca C, .int n, rfl, c.T, c.ln, upd_same, fun dx h1 h2 => ⟨rfl, dx, [(("line" : Str), .int n)], upd_same, ?_, ?_, ?_⟩⟩⟩
    · rw [upd_ne h2, upd_same]
    · rw [upd_ne h2] at h1
      exact h1
    · rw [upd_ne h2] at h1
      have z := hq dx h1
      have ez : upd (del (upd (upd (upd H1 a (exo a (ca C) none)) dx (exd dx [(("line" : Str), .int n)])) a (exo a (ca C) (some dx))) a) dx (.xd [(("line" : Str), .int n)]) = upd H1 dx (.xd [(("line" : Str), .int n)]) := by
        funext b
        by_cases hb : b = dx
        · rw [hb, upd_same, upd_same]
        · rw [upd_ne hb, upd_ne hb]
          by_cases hba : b = a
          · rw [hba, del_same, ha]
          · rw [del_ne hba, upd_ne hba, upd_ne hb, upd_ne hba]
      rw [ez]
      exact z
/-- .. called while an error is handled -/
theorem init_okH {CX : CXT} {x qual : Str} {params : Arguments} {p1 p2 p3 p4 : Pos} {sc : Scope} {f : Addr} {fd : FuncData} {k : Nat} (F : FunD K x qual params [.Assign [.Attribute (.Name "self" p1) "line" p2] (.Name "line" p3) p4] sc [] [] f fd) (S : FnScope ["self", "line"] ["self", "line"] sc) :
    L2H.FnH P w K mg base CX (k + 1) f fd ["self", "line"] (spInit K) := by
  obtain ⟨oc, od, dV, kV, doc, pm, an, cdv, ct, osl, rfl, lk, hcd, _, _⟩ := F.ex
  refine L2H.fn_ofH lk hcd S (fun vs H Q E h => ?_) (fun A outer sh H vs Q E p hot hr h => ?_)
  · obtain ⟨a, C, y, rfl, _⟩ := h
    rfl
  · obtain ⟨a, C, y, rfl, T, hno, ha, q⟩ := h
    have v0 : sc.names.lookup ("self" : Str) = some .local ∨ sc.names.lookup ("self" : Str) = some .cell := S.par _ (by decide)
    have v1 : sc.names.lookup ("line" : Str) = some .local ∨ sc.names.lookup ("line" : Str) = some .cell := S.par _ (by decide)
    refine ⟨_, pss_cons (ps_ost (pe_var (i := 0) rfl (by first | exact v0 | (rcases v0 with h | h; exact .inl h; exact .inr (.inl h)))) (pe_var (i := 1) rfl (by first | exact v1 | (rcases v1 with h | h; exact .inl h; exact .inr (.inl h))))) pss_nil, ?_⟩
    exact ⟨y, rfl, .ref a, rfl, a, C, rfl, T, hno, .inl ⟨ha, fun dx h1 h2 => q dx h1 h2⟩⟩
theorem mkh_ok {fI : Addr} {fd : FuncData} {k : Nat} {C : EC} {X : Cx} (ix : InP P w K mg base X) (c : MkC K mg ca fI C) (tI : PySem.W.typeIn K (.ref fI) = some (.type "function")) (F1 : L2H.FnH P w K mg base (L2M.CX false P w) k fI fd ["self", "line"] (spInit K))
    (hb : Binds K fd ["self", "line"] []) (hr : L2H.RoomH (k + 1) X.A) (hc : L2H.HotC X) (hg : Gl X (ecW C)) : MkOk X ca C := by
  obtain ⟨e1, e2, e3, e4, e5⟩ := ix
  subst e1 e2 e3 e4 e5
  intro e p pos hn pins s σ H Q I h
  refine wpAny_mono (L2H.pmk5_oexH (ta := tCons (wE X e) tNil) c.T c.iC tI F1 hr hc hb (fun pins σ H s e s' I q => ?_) hg c.mg (pa_cons pe_w pa_nil (star_ok hn)) (by cases C <;> decide) (star_ok hn) (by rfl) pins s σ H Q I ?_) (fun _ _ z => z.1) fun _ _ z => z
  · obtain ⟨_, _, _, _, _, _, _, _, _, _, _, _, _, _, z⟩ := q
    exact z.elim
  · refine fun pins s I => wpAny_mono (h pins s I) (fun u s1 hu => ?_) fun _ _ z => z
    obtain ⟨v, H1, I1, r, n, rfl, hq⟩ := hu
    refine ⟨_, H1, I1, r, by show 1 ≤ 1000; omega, fun a ha => ⟨a, ca C, .int n, rfl, c.T, c.ln, upd_same, fun dx h1 h2 => ⟨rfl, dx, [(("line" : Str), .int n)], upd_same, ?_, ?_, ?_⟩⟩⟩
    · rw [upd_ne h2, upd_same]
    · rw [upd_ne h2] at h1
      exact h1
    · rw [upd_ne h2] at h1
      have z := hq dx h1
      have ez : upd (del (upd (upd (upd H1 a (exo a (ca C) none)) dx (exd dx [(("line" : Str), .int n)])) a (exo a (ca C) (some dx))) a) dx (.xd [(("line" : Str), .int n)]) = upd H1 dx (.xd [(("line" : Str), .int n)]) := by
        funext b
        by_cases hb : b = dx
        · rw [hb, upd_same, upd_same]
        · rw [upd_ne hb, upd_ne hb]
          by_cases hba : b = a
          · rw [hba, del_same, ha]
          · rw [del_ne hba, upd_ne hba, upd_ne hb, upd_ne hba]
      rw [ez]
      exact z
end
end PW

end
section
set_option Elab.async false
set_option linter.all false
set_option maxRecDepth 100000
set_option maxHeartbeats 4000000
/-! PXN: _law_word, called in an except suite. -/
namespace PW
open PySem PySem.Spec PyProof.Rows L2 HotX L2H

/-! ### a def called while p is handled -/
def cxH2 (CX : CXT) (P : Program) (w : World) (K : PySem.W.Frag) (mg : Str → Option Value) (base : Heap) (N : List Str) (qual : Str) (scope : Scope) (f : Addr) (cd : Value) (A : Around) (outer : List Env) (s : Shared) (H : Hp) (E : XK) (p q : Addr × Obj) : Cx :=
  { cxH CX P w K mg base N qual scope f cd A outer s H E p with pn := [p, q] }
theorem inv_startH2 {CX : CXT} {P : Program} {w : World} {K : PySem.W.Frag} {mg : Str → Option Value} {base : Heap} {N ps : List Str} {qual : Str} {scope : Scope} {f : Addr} {cd : Value} {A : Around} {outer : List Env} {s s1 : Shared} {H : Hp} {E : XK} {us : List Value} {vs : List V} (S : FnScope N ps scope) {p q : Addr × Obj}
    (hp : PinOk outer H s p) (hq : PinOk outer H s q) (e0 : Env0 P w K mg base A outer s H) (hl : vs.length = ps.length) (r : Vals vs us) (x : InCallC s s.heap.objs.size (bindL (envOfC qual scope s.heap.objs.size f cd).kindOf (ps.zip us) fun _ => none) (cellsFrom (s.heap.objs.size + 1) scope.names []) (bindC (envOfC qual scope s.heap.objs.size f cd).kindOf (ps.zip us) fun _ => none) s1) :
    Inv (cxH2 CX P w K mg base N qual scope f cd A outer s H E p q) [] (L2.start N vs) H s1 := by
  have I1 := inv_startH (CX := CX) (E := E) S hp e0 hl r x
  have I2 := inv_startH (CX := CX) (E := E) S hq e0 hl r x
  have k := I1.ok
  refine ⟨⟨k.mod, k.kind, k.glob, k.blt, k.above, k.inj, k.has, k.cab, k.hd, k.frames, k.stk, k.exf, k.bs, k.bsz, k.noex, k.exfs, k.funs, k.frf⟩, I1.os, I1.bare, I1.base, I1.loc, I1.cell, I1.free, I1.freeC, fun z hz => ?_, I1.hok, I1.len⟩
  have hz' : z ∈ [p, q] ++ ([] : List (Addr × Obj)) := hz
  rw [List.append_nil] at hz'
  rcases List.mem_cons.mp hz' with rfl | hz'
  · exact I1.pin z (by show z ∈ [z] ++ _; simp)
  · rw [List.mem_singleton] at hz'
    subst hz'
    exact I2.pin z (by show z ∈ [z] ++ _; simp)
structure FnHp (P : Program) (w : World) (K : PySem.W.Frag) (mg : Str → Option Value) (base : Heap) (CX : CXT) (k : Nat) (f : Addr) (fd : FuncData) (ps : List Str) (sp : Addr × Obj → Sp) : Prop where
  len : ∀ p vs H Q E, sp p vs H Q E → vs.length = ps.length
  run : ∀ (A : Around) (outer : List Env) (s : Shared) (H : Hp) (args : Args) (us : List Value) (vs : List V) (Q : VK) (E : XK) (p q : Addr × Obj), RoomH k A → Hot2 A p q → PinOk outer H s p → PinOk outer H s q → Env0 P w K mg base A outer s H → BindsTo s fd args (ps.zip us) → Vals vs us → sp p vs H Q E →
    codeAny (model P w) A (.call (.ref f) args) (CR CX outer P w H s Q E) s
theorem fn_ofHp {CX : CXT} {P : Program} {w : World} {K : PySem.W.Frag} {mg : Str → Option Value} {base : Heap} {k : Nat} {f : Addr} {name qual : Str} {params : Arguments} {body : List Stmt} {scope : Scope} {fd : FuncData}
    {N ps : List Str} {sp : Addr × Obj → Sp} (F : FunD K name qual params body scope [] [] f fd) (S : FnScope N ps scope)
    (len : ∀ p vs H Q E, sp p vs H Q E → vs.length = ps.length)
    (hbody : ∀ (cdv : Value) (A : Around) (outer : List Env) (s : Shared) (H : Hp) (vs : List V) (Q : VK) (E : XK) (p q : Addr × Obj), Hot2 A p q → RoomH k (A.deeper (envOfC qual scope s.heap.objs.size f cdv)) → sp p vs H Q E →
      ∃ t, PSs (cxH2 CX P w K mg base N qual scope f cdv A outer s H E p q) body t ∧ t { nx := fun _ H' => Q .non H', rt := Q } (L2.start N vs) H) :
    FnHp P w K mg base CX (k + 1) f fd ps sp := by
  obtain ⟨oc, od, dV, kV, doc, pm, an, cdv, ct, osl, rfl, lk, hcd, _, _⟩ := F.ex
  refine ⟨len, fun A outer s H args us vs Q E p q hr hot hpin hpin2 e0 hb r hsp => ?_⟩
  have hl := len _ _ _ _ _ hsp
  have KX : K.In s.heap := e0.mod.kin.keeps fun b o e => (e0.bs b o e).1
  have lim : s.heap.NoLimit := e0.mod.nolimit.keeps fun b o e => (e0.bs b o e).1
  have hkind : ∀ y ∈ ps.zip us, scope.names.lookup y.1 = some .local ∨ (scope.names.lookup y.1 = some .cell ∧ ((cellsFrom (s.heap.objs.size + 1) scope.names []).lookup y.1).isSome = true) := fun ⟨n, v⟩ hy => by
    rcases S.par n (List.of_mem_zip hy).1 with q | q
    · exact .inl q
    · exact .inr ⟨q, PySem.W.cellsFrom_some _ _ _ (.inl q)⟩
  refine codeAny_call_function hr.depth (KX _ _ lk) rfl S.co S.gen rfl (PySem.W.codeRec_of KX hcd) (hb _ _ _ _ ?_)
  refine wpAny_newFunctionEnv_cells S.kind hkind fun env he s1 x => ?_
  subst he
  refine ⟨lim.keeps x.toInCall.keep, codeAny_func ?_⟩
  obtain ⟨t, ht, hq⟩ := hbody cdv A outer s H vs Q E p q hot (hr.deeper _) hsp
  have I : Inv (cxH2 CX P w K mg base N qual scope f cdv A outer s H E p q) [] (L2.start N vs) H s1 := inv_startH2 S hpin hpin2 e0 hl r x
  refine wpAny_mono (ht.run [] s1 (L2.start N vs) H _ I hq) (fun fl s' hs => ?_) fun e s' hs => hs
  have fin : ∀ {σ' : L2.St} {H' : Hp} {v : V} {u : Value}, Inv (cxH2 CX P w K mg base N qual scope f cdv A outer s H E p q) [] σ' H' s' → RelV v u → Q v H' → CE outer P w H s Q u s' :=
    fun {σ' H' v u} J rv q => ⟨v, H', J.os, J.bare, J.base, J.hok, rv, q⟩
  cases fl with
  | ret u =>
    obtain ⟨v, σ', H', J, rv, q⟩ := hs
    exact fin J rv q
  | next =>
    obtain ⟨σ', H', J, q⟩ := hs
    exact fin (v := V.non) (u := Value.none) J rfl q
  | brk =>
    obtain ⟨_, _, _, q⟩ := hs
    exact False.elim q
  | cont =>
    obtain ⟨_, _, _, q⟩ := hs
    exact False.elim q
section
variable {X : Cx} {CX : CXT} {k : Nat} {f C : Addr} {fd : FuncData} {ps : List Str} {sp : Addr × Obj → Sp} {E : XK} {x m : Str} {q pos apos : Pos} {e o : Expr} {es : List Expr} {ta : TE} {t : TA}
theorem run_fnHp {pins : List (Addr × Obj)} {σ : L2.St} {H : Hp} {s : Shared} {Q : VK} {us : List Value} {vs : List V} {p q : Addr × Obj} (F : FnHp X.prog X.w X.K X.mg X.base CX k f fd ps sp) (hr : RoomH k X.A) (hot : Hot2 X.A p q) (hp : p ∈ X.pn) (hq : q ∈ X.pn) (hb : Binds X.K fd ps []) (hx : PassesAt CX X σ E)
    (I : Inv X pins σ H s) (r : Vals vs us) (h : sp p vs H Q E) : wpAny (model X.prog X.w) X.A (call (.ref f) us) (EP X pins σ Q) X.xe s := by
  have hl : us.length = ps.length := by rw [← r.length]; exact F.len _ _ _ _ _ h
  have b := hb s us I.kIn (by rw [List.append_nil]; exact hl)
  rw [List.append_nil] at b
  have P1 := I.pin p (List.mem_append_left _ hp)
  have hpin : PinOk X.stack H s p := ⟨P1.1, P1.2.1, fun hm => (List.mem_cons.mp (I.stkSub p.1 hm)).elim P1.2.2.1 P1.2.2.2.1, P1.2.2.2.2⟩
  have P2 := I.pin q (List.mem_append_left _ hq)
  have hpin2 : PinOk X.stack H s q := ⟨P2.1, P2.2.1, fun hm => (List.mem_cons.mp (I.stkSub q.1 hm)).elim P2.2.2.1 P2.2.2.2.1, P2.2.2.2.2⟩
  refine wpAny_call (codeAny_mono (F.run X.A X.stack s H ⟨us, []⟩ us vs Q E p q hr hot hpin hpin2 I.env0 b r h) fun r s' hq => ?_)
  cases r with
  | error e => exact hx pins H s e s' I hq
  | ok fl =>
    cases fl with
    | ret u => exact I.after hq
    | next => exact False.elim hq
    | brk => exact False.elim hq
    | cont => exact False.elim hq
theorem pe_callHp {p q2 : Addr × Obj} (F : FnHp X.prog X.w X.K X.mg X.base CX k f fd ps sp) (hr : RoomH k X.A) (hot : Hot2 X.A p q2) (hp : p ∈ X.pn) (hq : q2 ∈ X.pn) (hg : Gl X x) (hm : X.mg x = some (.ref f)) (hk : PySem.W.keepIn X.K (.ref f) = true) (hb : Binds X.K fd ps []) (hx : ∀ σ, PassesAt CX X σ E)
    (ha : PA X (e :: es) t) (hdb : (x == ("__debug__" : Str)) = false := by decide) (he : starEach (e :: es) X.env = (false, eval e X.env) :: starEach es X.env := by rfl) (hpl : (backTo pos (starEach es X.env)).any (·.1) = false := by rfl) :
    PE X (.Call (.Name x q) (e :: es) [] pos) (fun σ H Q => t σ H fun vs H1 => sp p vs H1 Q E) := by
  refine ⟨fun pins s σ H Q I h => ?_⟩
  refine wpAny_Call_Name_kw (ld_glob I hg hm ?_ hdb)
  refine PySem.W.callWith_K (h₀ := X.base) I.ok.mod.kin hk (thn (ha.run pos pins s σ H _ I h) fun us s1 ⟨vs, H1, I1, r, q⟩ => ⟨I1.kIn, ?_⟩) he hpl
  exact run_fnHp F hr hot hp hq hb (hx σ) I1 r q
end

/-! ### isinstance(e, C), e.line, e held by a pin -/
section
variable {X : Cx} {a D dd : Addr} {oe : Obj} {fs : List (Str × V)}
theorem inst_at {pins : List (Addr × Obj)} {σ : L2.St} {H : Hp} {s : Shared} (hz : Zc (.ref D) (some dd) oe) (hf : ∃ vs, oe.data = .fields vs) (hp : (a, oe) ∈ X.pn) (I : Inv X pins σ H s) (hd : H dd = some (.xd fs)) :
    ∃ od, PySem.W.InstAt s.heap a oe D (some od) ∧ ∀ f v, fs.lookup f = some v → ∃ u, RelV v u ∧ PySem.W.lookIn f od = some (some u) := by
  obtain ⟨ha, _⟩ := I.pin (a, oe) (List.mem_append_left _ hp)
  obtain ⟨vs, hd1⟩ := hf
  have hx : ObjOk X.prog X.w H s.heap dd (.xd fs) := I.hok dd _ hd
  obtain ⟨mA, hns, hr⟩ := hx
  obtain ⟨od, ho, hl⟩ := lookIn_ns hns
  refine ⟨od, ⟨ha, hz.1, by unfold PySem.W.notCls; rw [hd1] <;> rfl, by rw [hz.2]; exact ho⟩, fun f v l => ?_⟩
  obtain ⟨u, hu, ru⟩ := RelO.some_of (v := v) (o := mA f) (by rw [← l]; exact hr f)
  exact ⟨u, ru, by rw [hl, hu]⟩
/-- isinstance(e, c) -/
def rIsD (K : PySem.W.Frag) (D a dd : Addr) : List V → Hp → VK → Prop := fun xs H Q => ∃ (c : V) (cv : Value) (b : Bool) (fs : List (Str × V)), xs = [.ref a, c] ∧ (∀ u, RelV c u → u = cv) ∧ PySem.W.kitOne K (.ref D) cv = some b ∧ H dd = some (.xd fs) ∧ Q (.bl b) H
theorem call_isD (C : ExcC X.K D) (hz : Zc (.ref D) (some dd) oe) (hf : ∃ vs, oe.data = .fields vs) (hp : (a, oe) ∈ X.pn) : CallR X (.builtin "isinstance") (rIsD X.K D a dd) := by
  intro pins s σ H xs us Q I r h
  obtain ⟨c, cv, b, fs, rfl, hcv, e, hd, q⟩ := h
  cases r with
  | cons rx rr =>
    cases rr with
    | cons rt rr =>
      cases rr
      cases rx
      have ec := hcv _ rt
      subst ec
      obtain ⟨od, J, _⟩ := inst_at hz hf hp I hd
      obtain ⟨cd, hc, _⟩ := PySem.W.any_some C.hd
      exact PySem.W.kia_one (PySem.W.kitx_exc (by rw [hc]; rfl) C.hg C.hk C.hs C.ha C.hn C.ht C.hm) I.kIn J e (fun z => nomatch z) fun tk => ⟨.bl b, H, I.kept (t' := tk) fun _ _ z => z, rfl, q⟩
/-- e.f -/
def tXg (a dd : Addr) (f : Str) (te : TE) : TE := fun σ H Q => te σ H fun x H1 => x = .ref a ∧ ∃ (fs : List (Str × V)) (v : V), H1 dd = some (.xd fs) ∧ fs.lookup f = some v ∧ Q v H1
theorem pe_xg {e : Expr} {te : TE} {pos : Pos} {n : Str} (C : ExcC X.K D) (hno : PySem.W.findIn X.K (.ref D) n = some none) (hz : Zc (.ref D) (some dd) oe) (hf : ∃ vs, oe.data = .fields vs) (hp : (a, oe) ∈ X.pn) (he : PE X e te)
    (hb : attributeBase e n X.env (eval e X.env) = eval e X.env := by rfl) : PE X (.Attribute e n pos) (tXg a dd n te) := by
  refine ⟨fun pins s σ H Q I h => ?_⟩
  refine attr_of hb (thn (he.run pins s σ H _ I h) fun u s1 hh => ?_)
  obtain ⟨x, H1, I1, rx, ex, fs, v, ea, l, q⟩ := hh
  subst ex
  obtain rfl : u = Value.ref a := rx
  obtain ⟨od, J, hl⟩ := inst_at hz hf hp I1 ea
  obtain ⟨u, ru, hu⟩ := hl n v l
  exact HandSPX.exc_get I1.kIn J C.hg C.hk C.hs (PySem.W.findObj_own C.hd hno rfl hu) (handed_of ru) ⟨v, H1, I1.tok _, ru, q⟩
/-- sum, while an error is handled -/
def rSumH (K : PySem.W.Frag) : List V → Hp → VK → Prop := fun xs H Q => ∃ (l : Addr) (ns : List Int), xs = [.ref l] ∧ SqL K H l (ns.map V.int) ∧ Q (.int ns.sum) H
theorem call_sumH (hc : HotP X) : CallR X (.builtin "sum") (rSumH X.K) := by
  intro pins s σ H xs us Q I r h
  obtain ⟨l, ns, rfl, hq, q⟩ := h
  cases r with
  | cons rx rr =>
    cases rr
    cases rx
    obtain ⟨x1, x2, hot⟩ := hc.at I
    obtain ⟨its, rv, pl, _⟩ := I.list hq
    exact sum_hot hot pl.isList (intsAre_of rv) fun h' tk t' k => ⟨.int ns.sum, H, I.kept (t' := tk) k, ⟨t', rfl⟩, q⟩
end
end PW

end
section
set_option Elab.async false
set_option linter.all false
set_option maxRecDepth 100000
set_option maxHeartbeats 4000000
/-! PXU: _law_word's body. -/
namespace PW
open PySem PySem.Spec PyProof.Rows L2 HotX L2H
def lwComp : Scope := { kind := PySem.ScopeKind.function, names := [ (PySem.Str.ofString ".0", PySem.NameKind.local), (PySem.Str.ofString "flag", PySem.NameKind.local), (PySem.Str.ofString "int", PySem.NameKind.globalImplicit)], isGenerator := false, isCoroutine := false, more := [] : PySem.Scope }
def lwScope : Scope := { kind := PySem.ScopeKind.function, names := [ (PySem.Str.ofString "e", PySem.NameKind.local), (PySem.Str.ofString "flags", PySem.NameKind.local), (PySem.Str.ofString "words", PySem.NameKind.local), (PySem.Str.ofString "isinstance", PySem.NameKind.globalImplicit), (PySem.Str.ofString "BadToken", PySem.NameKind.globalImplicit), (PySem.Str.ofString "BadRow", PySem.NameKind.globalImplicit), (PySem.Str.ofString "Again", PySem.NameKind.globalImplicit), (PySem.Str.ofString "BadCall", PySem.NameKind.globalImplicit), (PySem.Str.ofString "BadPaste", PySem.NameKind.globalImplicit), (PySem.Str.ofString "BadIf", PySem.NameKind.globalImplicit), (PySem.Str.ofString "TooMany", PySem.NameKind.globalImplicit), (PySem.Str.ofString "sum", PySem.NameKind.globalImplicit), (PySem.Str.ofString "ValueError", PySem.NameKind.globalImplicit)], isGenerator := false, isCoroutine := false, more := [ (PySem.Str.ofString "fast", (PySem.Const.str "e")), (PySem.Str.ofString "fast", (PySem.Const.str "flags")), (PySem.Str.ofString "fast", (PySem.Const.str "words")), (PySem.Str.ofString "fast", (PySem.Const.str "flag"))] : PySem.Scope }
def lwBody (q : Nat → Pos) : List Stmt := [ (PySem.Stmt.Assign (targets := [(PySem.Expr.Name "flags" (q 0))]) (value := (PySem.Expr.List (elts := [ (PySem.Expr.Call (func := (PySem.Expr.Name "isinstance" (q 1))) (args := [(PySem.Expr.Name "e" (q 2)), (PySem.Expr.Name "BadToken" (q 3))]) (keywords := []) (pos := (q 4))), (PySem.Expr.Call (func := (PySem.Expr.Name "isinstance" (q 5))) (args := [(PySem.Expr.Name "e" (q 6)), (PySem.Expr.Name "BadRow" (q 7))]) (keywords := []) (pos := (q 8))), (PySem.Expr.Call (func := (PySem.Expr.Name "isinstance" (q 9))) (args := [(PySem.Expr.Name "e" (q 10)), (PySem.Expr.Name "Again" (q 11))]) (keywords := []) (pos := (q 12))), (PySem.Expr.Call (func := (PySem.Expr.Name "isinstance" (q 13))) (args := [(PySem.Expr.Name "e" (q 14)), (PySem.Expr.Name "BadCall" (q 15))]) (keywords := []) (pos := (q 16)))]) (pos := (q 17)))) (pos := (q 18))), (PySem.Stmt.Assign (targets := [(PySem.Expr.Name "flags" (q 19))]) (value := (PySem.Expr.BinOp (left := (PySem.Expr.Name "flags" (q 20))) (op := PySem.Operator.Add) (right := (PySem.Expr.List (elts := [ (PySem.Expr.Call (func := (PySem.Expr.Name "isinstance" (q 21))) (args := [(PySem.Expr.Name "e" (q 22)), (PySem.Expr.Name "BadPaste" (q 23))]) (keywords := []) (pos := (q 24))), (PySem.Expr.Call (func := (PySem.Expr.Name "isinstance" (q 25))) (args := [(PySem.Expr.Name "e" (q 26)), (PySem.Expr.Name "BadIf" (q 27))]) (keywords := []) (pos := (q 28))), (PySem.Expr.Call (func := (PySem.Expr.Name "isinstance" (q 29))) (args := [(PySem.Expr.Name "e" (q 30)), (PySem.Expr.Name "TooMany" (q 31))]) (keywords := []) (pos := (q 32)))]) (pos := (q 33)))) (pos := (q 34)))) (pos := (q 35))), (PySem.Stmt.Assign (targets := [(PySem.Expr.Name "words" (q 36))]) (value := (PySem.Expr.List (elts := [ (PySem.Expr.Constant (PySem.Const.str "BadToken") 0 (q 37)), (PySem.Expr.Constant (PySem.Const.str "BadRow") 0 (q 38)), (PySem.Expr.Constant (PySem.Const.str "Again") 0 (q 39)), (PySem.Expr.Constant (PySem.Const.str "BadCall") 0 (q 40)), (PySem.Expr.Constant (PySem.Const.str "BadPaste") 0 (q 41)), (PySem.Expr.Constant (PySem.Const.str "BadIf") 0 (q 42)), (PySem.Expr.Constant (PySem.Const.str "TooMany") 0 (q 43))]) (pos := (q 44)))) (pos := (q 45))), (PySem.Stmt.If (test := (PySem.Expr.BoolOp (op := PySem.BoolOp.Or) (values := [ (PySem.Expr.Compare (left := (PySem.Expr.Call (func := (PySem.Expr.Name "sum" (q 46))) (args := [ (PySem.Expr.ListComp (elt := (PySem.Expr.Call (func := (PySem.Expr.Name "int" (q 47))) (args := [(PySem.Expr.Name "flag" (q 48))]) (keywords := []) (pos := (q 49)))) (generators := [ { target := (PySem.Expr.Name "flag" (q 50)), iter := (PySem.Expr.Name "flags" (q 51)), ifs := [], is_async := 0 : PySem.Comprehension }]) (scope := lwComp) (pos := (q 52)))]) (keywords := []) (pos := (q 53)))) (ops := [PySem.CmpOp.NotEq]) (comparators := [(PySem.Expr.Constant (PySem.Const.int 1) 0 (q 54))]) (pos := (q 55))), (PySem.Expr.UnaryOp (op := PySem.UnaryOp.Not) (operand := (PySem.Expr.Call (func := (PySem.Expr.Name "isinstance" (q 56))) (args := [(PySem.Expr.Name "e" (q 57)), (PySem.Expr.Name "ValueError" (q 58))]) (keywords := []) (pos := (q 59)))) (pos := (q 60)))]) (pos := (q 61)))) (body := [ (PySem.Stmt.Return (value := (some (PySem.Expr.Tuple (elts := [ (PySem.Expr.Constant (PySem.Const.str "other") 0 (q 62)), (PySem.Expr.Attribute (PySem.Expr.Name "e" (q 63)) "line" (q 64))]) (k := 0) (pos := (q 65))))) (pos := (q 66)))]) (orelse := []) (pos := (q 67))), (PySem.Stmt.Return (value := (some (PySem.Expr.Tuple (elts := [ (PySem.Expr.Subscript (value := (PySem.Expr.Name "words" (q 68))) (slice := (PySem.Expr.Call (func := (PySem.Expr.Attribute (PySem.Expr.Name "flags" (q 69)) "index" (q 70))) (args := [(PySem.Expr.Constant (PySem.Const.bool true) 0 (q 71))]) (keywords := []) (pos := (q 72)))) (pos := (q 73))), (PySem.Expr.Attribute (PySem.Expr.Name "e" (q 74)) "line" (q 75))]) (k := 0) (pos := (q 76))))) (pos := (q 77)))]
def lwN : List Str := ["e", "flags", "words", "flag"]
/-- what the classes say of their instances -/
structure LwC (K : PySem.W.Frag) (mg : Str → Option Value) (ca : EC → Addr) : Prop where
  cn : ∀ C, mg (ecW C) = some (.ref (ca C))
  ex : ∀ C, ExcC K (ca C)
  no : ∀ C, PySem.W.findIn K (.ref (ca C)) "line" = some none
  is : ∀ C C', PySem.W.kitOne K (.ref (ca C)) (.ref (ca C')) = some (decide (C = C'))
  ve : ∀ C, PySem.W.kitOne K (.ref (ca C)) (.type "ValueError") = some true
  b1 : mg "isinstance" = none
  b2 : mg "sum" = none
  b3 : mg "int" = none
  b4 : mg "ValueError" = none
def flg (C : EC) : List Bool := [decide (C = .BadToken), decide (C = .BadRow), decide (C = .Again), decide (C = .BadCall), decide (C = .BadPaste), decide (C = .BadIf), decide (C = .TooMany)]
def ecI : EC → Nat
  | .BadToken => 0 | .BadRow => 1 | .Again => 2 | .BadCall => 3 | .BadPaste => 4 | .BadIf => 5 | .TooMany => 6
def wds : List V := [.str "BadToken", .str "BadRow", .str "Again", .str "BadCall", .str "BadPaste", .str "BadIf", .str "TooMany"]
section
variable {X : Cx} {ca : EC → Addr} {a dd : Addr} {oe : Obj} {C : EC} {n : Int} {σ : L2.St} {H : Hp} {Q : VK}
structure LwX (X : Cx) (ca : EC → Addr) (a dd : Addr) (oe : Obj) (C : EC) : Prop where
  c : LwC X.K X.mg ca
  N : X.N = lwN
  sc : X.env.scope = lwScope
  z : Zc (.ref (ca C)) (some dd) oe
  f : ∃ vs, oe.data = .fields vs
  p : (a, oe) ∈ X.pn
  hot : HotP X
theorem lw_gl {x : Str} (h : lwScope.names.lookup x = some .globalImplicit) (k : LwX X ca a dd oe C) : Gl X x := by
  unfold Gl Env.kindOf
  rw [k.sc]
  exact h
theorem lw_is (k : LwX X ca a dd oe C) {y : Str} {p1 p2 p3 p4 : Pos} (C' : EC) (hy : y = ecW C') (he : σ[0]? = some (some (.ref a))) (hd : H dd = some (.xd [(("line" : Str), .int n)])) (h : Q (.bl (decide (C = C'))) H) :
    wE X (.Call (.Name "isinstance" p1) [.Name "e" p2, .Name y p3] [] p4) σ H Q := by
  subst hy
  refine wE_of (pe_callB (call_isD (k.c.ex C) k.z k.f k.p) (lw_gl (by decide) k) k.c.b1 (by decide +kernel) (pa_cons (pe_var (i := 0) (by rw [k.N] <;> rfl) (by rw [k.sc]; exact .inl (by decide))) (pa_cons (pe_glob (v := .ref (ca C')) (lw_gl (by cases C' <;> decide) k) (k.c.cn C') rfl (by cases C' <;> decide)) pa_nil))) ?_
  exact ⟨_, he, .ref (ca C'), .ref (ca C'), decide (C = C'), _, rfl, fun u r => r, k.c.is C C', hd, h⟩
theorem lw_isv (k : LwX X ca a dd oe C) {p1 p2 p3 p4 : Pos} (he : σ[0]? = some (some (.ref a))) (hd : H dd = some (.xd [(("line" : Str), .int n)])) (h : Q (.bl true) H) :
    wE X (.Call (.Name "isinstance" p1) [.Name "e" p2, .Name "ValueError" p3] [] p4) σ H Q := by
  refine wE_of (pe_callB (call_isD (k.c.ex C) k.z k.f k.p) (lw_gl (by decide) k) k.c.b1 (by decide +kernel) (pa_cons (pe_var (i := 0) (by rw [k.N] <;> rfl) (by rw [k.sc]; exact .inl (by decide))) (pa_cons (pe_bltn (v := .ty "ValueError") (lw_gl (by decide) k) k.c.b4 PyProof.Rows.Boot.«ValueError» rfl) pa_nil))) ?_
  exact ⟨_, he, .ty "ValueError", .type "ValueError", true, _, rfl, fun u r => r, k.c.ve C, hd, h⟩
theorem lw_line (k : LwX X ca a dd oe C) {p1 p2 : Pos} (he : σ[0]? = some (some (.ref a))) (hd : H dd = some (.xd [(("line" : Str), .int n)])) (h : Q (.int n) H) :
    wE X (.Attribute (.Name "e" p1) "line" p2) σ H Q := by
  refine wE_of (pe_xg (k.c.ex C) (k.c.no C) k.z k.f k.p (pe_var (i := 0) (by rw [k.N] <;> rfl) (by rw [k.sc]; exact .inl (by decide)))) ?_
  exact ⟨_, he, rfl, _, _, hd, rfl, h⟩
def lwOwn : List (Str × Nat) := [(("flag" : Str), 3)]
theorem lw_blk : BlkOk lwN lwScope lwComp lwOwn := by
  refine ⟨rfl, by decide, by decide, by decide, by decide⟩
theorem lw_lc (k : LwX X ca a dd oe C) {p1 p2 p3 p4 p5 p6 : Pos} {l : Addr} {bs : List Bool} (hz : bs.length < sizeLine) (hl : σ.length = 4) (hs : σ[1]? = some (some (.ref l))) (hd : H l = some (.lst (bs.map V.bl)))
    (h : ∀ p, H p = none → Q (.ref p) (upd H p (.lst (bs.map fun b => V.int (if b then 1 else 0))))) :
    wE X (.ListComp (.Call (.Name "int" p1) [.Name "flag" p2] [] p3) [⟨.Name "flag" p4, .Name "flags" p5, [], 0⟩] lwComp p6) σ H Q := by
  intro pins s I
  refine lc_hot (own := lwOwn) (g := gName 3) (te := fun σ H Q => ∃ b, σ[3]? = some (some (.bl b)) ∧ Q (.int (if b then 1 else 0)) H) k.hot (by rw [k.N]; decide) (pe_var (i := 1) (by rw [k.N] <;> rfl) (by rw [k.sc]; exact .inl (by decide))) (by rw [k.N, k.sc]; exact lw_blk) (fun s0 H0 C0 cl fp => ?_) (fun s0 H0 C0 cl fp => ?_) (fun x => rfl) I ?_
  · exact pg_name (by show X.N.Nodup; rw [k.N]; decide) (by show X.N[3]? = _; rw [k.N] <;> rfl) (.inl (by show lwComp.names.lookup _ = _; decide)) (.inr (by show lwComp.names.lookup _ = _; decide))
  · refine ⟨fun pins s σ H Q I h => ?_⟩
    obtain ⟨b, e, q⟩ := h
    exact (pe_callTy (X := X.blk s0 H0 lwComp (compEnvC lwComp cl C0 X.env) fp) call_int1 (by show lwComp.names.lookup _ = _; decide) k.c.b3 (by decide +kernel) (pa_cons (pe_var (i := 3) (by show X.N[3]? = _; rw [k.N] <;> rfl) (.inl (by show lwComp.names.lookup _ = _; decide))) pa_nil)).run pins s σ H Q I ⟨_, e, .inr ⟨b, rfl, q⟩⟩
  · refine ⟨_, hs, l, bs.map V.bl, rfl, SqL.of hd, fun Dl hD => ⟨fun i H2 => H2 = upd H Dl (.lst ((bs.take i).map fun b => V.int (if b then 1 else 0))), by show _ = upd H Dl _; rw [List.take_zero] <;> rfl, ?_, ?_, ?_⟩⟩
    · rintro i H2 rfl
      exact SqL.of (by rw [upd_ne (ne_of_none hd hD)]; exact hd)
    · rintro i x H2 hx rfl
      rw [List.getElem?_map] at hx
      cases hb : bs[i]? with
      | none => rw [hb] at hx; cases hx
      | some b =>
        rw [hb] at hx
        simp only [Option.map_some, Option.some.injEq] at hx
        subst hx
        refine ⟨?_, b, ?_, _, upd_same, ?_, ?_⟩
        · show wipe ((wipe σ [3]).set 3 _) [3] = wipe σ [3]
          simp [wipe]
        · show ((wipe σ [3]).set 3 _)[3]? = _
          simp [wipe, hl]
        · rw [List.length_map, List.length_take]
          omega
        · show upd _ Dl _ = upd H Dl _
          rw [upd_upd, List.take_succ, hb]
          simp
    · rintro H2 rfl
      have z := h Dl hD
      rw [List.length_map, List.take_length]
      exact z
theorem wB_step {st : Stmt} {r : List Stmt} {Dp : Ends} (h : wS X st { Dp with nx := wB X r Dp } σ H) : wB X (st :: r) Dp σ H := wB_of (pss_cons ps_w pss_w) h
theorem lw_body {q : Nat → Pos} {Dp : Ends} (k : LwX X ca a dd oe C) (hq : ((q 70).endLine == (q 72).line) = true) (hs : σ = [some (.ref a), none, none, none]) (hd : H dd = some (.xd [(("line" : Str), .int n)]))
    (h : ∀ H' p, (∀ b, H b ≠ none → H' b = H b) → H p = none → H' p = some (.tup [.str (ecW C), .int n]) → Dp.rt (.ref p) H') : wB X (lwBody q) Dp σ H := by
  have nd : X.N.Nodup := by rw [k.N]; decide
  have n1 : X.N[1]? = some ("flags" : Str) := by rw [k.N] <;> rfl
  have n2 : X.N[2]? = some ("words" : Str) := by rw [k.N] <;> rfl
  have l1 : X.env.scope.names.lookup ("flags" : Str) = some .local := by rw [k.sc]; decide
  have l2 : X.env.scope.names.lookup ("words" : Str) = some .local := by rw [k.sc]; decide
  have ne : ∀ {H1 : Hp} {p : Addr} {o : HO}, H1 dd = some (.xd [(("line" : Str), .int n)]) → H1 p = none → upd H1 p o dd = some (.xd [(("line" : Str), .int n)]) := fun e1 e2 => by rw [upd_ne (ne_of_none e1 e2)]; exact e1
  unfold lwBody
  refine wB_step (wS_of (ps_asg (pe_lst (pa_cons pe_w (pa_cons pe_w (pa_cons pe_w (pa_cons pe_w pa_nil))))) (pg_name (i := 1) nd n1 (.inl l1) (.inr l1))) ?_)
  have e0 : σ[0]? = some (some (.ref a)) := by rw [hs] <;> rfl
  refine lw_is k .BadToken rfl e0 hd (lw_is k .BadRow rfl e0 hd (lw_is k .Again rfl e0 hd (lw_is k .BadCall rfl e0 hd ⟨by show 4 ≤ sizeLine; decide, fun p1 f1 => ?_⟩)))
  have d1 := ne (o := .lst [.bl (decide (C = .BadToken)), .bl (decide (C = .BadRow)), .bl (decide (C = .Again)), .bl (decide (C = .BadCall))]) hd f1
  show wB X _ Dp (σ.set 1 (some (.ref p1))) (upd H p1 _)
  refine wB_step (wS_of (ps_asg (pe_op op_cat (pe_var (i := 1) n1 (.inl l1)) (pe_lst (pa_cons pe_w (pa_cons pe_w (pa_cons pe_w pa_nil))))) (pg_name (i := 1) nd n1 (.inl l1) (.inr l1))) ?_)
  have e1 : (σ.set 1 (some (.ref p1)))[0]? = some (some (.ref a)) := by rw [hs] <;> rfl
  refine ⟨.ref p1, by rw [hs] <;> rfl, lw_is k .BadPaste rfl e1 d1 (lw_is k .BadIf rfl e1 d1 (lw_is k .TooMany rfl e1 d1 ⟨by show 3 ≤ sizeLine; decide, fun p2 f2 => ?_⟩))⟩
  have n12 : p1 ≠ p2 := ne_of_none (upd_same (a := p1)) f2
  refine ⟨p1, p2, _, _, rfl, rfl, by rw [upd_ne n12, upd_same], upd_same, by show 4 + 3 ≤ sizeLine; decide, fun p3 f3 => ?_⟩
  have d2 := ne (ne d1 f2) f3 (o := .lst ((flg C).map V.bl))
  generalize hH3 : upd (upd (upd H p1 (.lst [.bl (decide (C = .BadToken)), .bl (decide (C = .BadRow)), .bl (decide (C = .Again)), .bl (decide (C = .BadCall))])) p2 (.lst [.bl (decide (C = .BadPaste)), .bl (decide (C = .BadIf)), .bl (decide (C = .TooMany))])) p3 (.lst ((flg C).map V.bl)) = H3
  have hk3 : ∀ b, H b ≠ none → H3 b = H b := fun b hb => by
    rw [← hH3, upd_ne (fun z => ?_), upd_ne (fun z => ?_), upd_ne (fun z => ?_)]
    · subst z; exact hb f1
    · subst z
      rw [upd_ne (Ne.symm n12)] at f2
      exact hb f2
    · subst z
      have z1 : b ≠ p2 := fun z => by rw [z, upd_same] at f3; cases f3
      rw [upd_ne z1] at f3
      have z2 : b ≠ p1 := fun z => by rw [z, upd_same] at f3; cases f3
      rw [upd_ne z2] at f3
      exact hb f3
  have hf3 : H3 p3 = some (.lst ((flg C).map V.bl)) := by rw [← hH3, upd_same]
  have d3 : H3 dd = some (.xd [(("line" : Str), .int n)]) := by rw [← hH3]; exact d2
  show wB X _ Dp ((σ.set 1 (some (.ref p1))).set 1 (some (.ref p3))) (upd (upd (upd H p1 (.lst [.bl (decide (C = .BadToken)), .bl (decide (C = .BadRow)), .bl (decide (C = .Again)), .bl (decide (C = .BadCall))])) p2 (.lst [.bl (decide (C = .BadPaste)), .bl (decide (C = .BadIf)), .bl (decide (C = .TooMany))])) p3 (.lst ((flg C).map V.bl)))
  rw [hH3]
  refine wB_step (wS_of (ps_asg (pe_lst (pa_cons pe_str (pa_cons pe_str (pa_cons pe_str (pa_cons pe_str (pa_cons pe_str (pa_cons pe_str (pa_cons pe_str pa_nil)))))))) (pg_name (i := 2) nd n2 (.inl l2) (.inr l2))) ⟨by show 7 ≤ sizeLine; decide, fun p4 f4 => ?_⟩)
  have d4 := ne d3 f4 (o := .lst wds)
  have n34 : p3 ≠ p4 := ne_of_none hf3 f4
  generalize hs4 : ((σ.set 1 (some (.ref p1))).set 1 (some (.ref p3))).set 2 (some (.ref p4)) = σ4
  have hs5 : σ4 = [some (.ref a), some (.ref p3), some (.ref p4), none] := by rw [← hs4, hs] <;> rfl
  show wB X _ Dp (((σ.set 1 (some (.ref p1))).set 1 (some (.ref p3))).set 2 (some (.ref p4))) (upd H3 p4 (.lst wds))
  rw [hs4]
  have hf4 : upd H3 p4 (.lst wds) p3 = some (.lst ((flg C).map V.bl)) := by rw [upd_ne n34]; exact hf3
  refine wB_step (wS_of (ps_if (PW.pt (pw_or (pt_cmp (pc_neI (pe_callB (call_sumH k.hot) (lw_gl (by decide) k) k.c.b2 (by decide +kernel) (pa_cons pe_w pa_nil)) pe_int)) (pw_or1 (pt_not (pt_val pe_w))))) pss_w pss_nil) ?_)
  refine lw_lc k (bs := flg C) (by show 7 < sizeLine; decide) (by rw [hs5] <;> rfl) (by rw [hs5] <;> rfl) hf4 fun p5 f5 => ?_
  have n45 : p4 ≠ p5 := ne_of_none (upd_same (a := p4)) f5
  have n35 : p3 ≠ p5 := ne_of_none hf4 f5
  have d5 := ne d4 f5 (o := .lst ((flg C).map fun b => V.int (if b then 1 else 0)))
  have e5 : σ4[0]? = some (some (.ref a)) := by rw [hs5] <;> rfl
  refine ⟨p5, (flg C).map fun b => if b then 1 else 0, rfl, SqL.of (by rw [upd_same, List.map_map] <;> rfl), ?_⟩
  have sm : ((flg C).map fun b => if b then (1 : Int) else 0).sum = 1 := by cases C <;> decide
  rw [sm]
  refine ⟨1, 1, rfl, rfl, _, rfl, ?_⟩
  refine iteF ?_
  refine lw_isv k e5 d5 ⟨true, rfl, ?_⟩
  refine iteF ?_
  show wB X _ Dp σ4 _
  have f4' : upd (upd H3 p4 (.lst wds)) p5 (.lst ((flg C).map fun b => V.int (if b then 1 else 0))) p4 = some (.lst wds) := by rw [upd_ne n45, upd_same]
  have f3' : upd (upd H3 p4 (.lst wds)) p5 (.lst ((flg C).map fun b => V.int (if b then 1 else 0))) p3 = some (.lst ((flg C).map V.bl)) := by rw [upd_ne n35]; exact hf4
  have hk5 : ∀ b, H b ≠ none → upd (upd H3 p4 (.lst wds)) p5 (.lst ((flg C).map fun b => V.int (if b then 1 else 0))) b = H b := fun b hb => by
    have z3 := hk3 b hb
    have z4 : b ≠ p4 := fun z => by rw [z, f4] at z3; exact hb (by rw [z]; exact z3.symm)
    have z5 : b ≠ p5 := fun z => by
      rw [← z, upd_ne z4, z3] at f5
      exact hb f5
    rw [upd_ne z5, upd_ne z4, z3]
  generalize upd (upd H3 p4 (.lst wds)) p5 (.lst ((flg C).map fun b => V.int (if b then 1 else 0))) = H5 at d5 f4' f3' hk5 ⊢
  refine wB_step (wS_of (ps_ret (pe_tup (pa_cons (pe_ix ix_list (pe_var (i := 2) n2 (.inl l2)) (pe_bm PySem.F.plainAttrs_list PySem.F.slot_list_index PySem.F.type_list_index mt_index (pe_var (i := 1) n1 (.inl l1)) (pa_cons pe_bl pa_nil) (hline := hq)) (fun _ _ => rfl)) (pa_cons pe_w pa_nil)))) ?_)
  refine ⟨.ref p4, by rw [hs5] <;> rfl, .ref p3, by rw [hs5] <;> rfl, ?_, p3, (flg C).map V.bl, .bl true, ecI C, .bl true, rfl, rfl, SqL.of f3', rfl, ?_, ?_, ?_, ?_, ?_⟩
  · exact .inl ⟨rfl, _, SqL.of f3'⟩
  · cases C <;> decide
  · cases C <;> rfl
  · decide
  · intro m z hm hz
    have key : ∀ C : EC, ∀ m, m < ecI C → ((flg C).map V.bl)[m]? = some (.bl false) := by
      intro C m hm
      have : m < 7 := Nat.lt_of_lt_of_le hm (by cases C <;> decide)
      match m, this with
      | 0, _ | 1, _ | 2, _ | 3, _ | 4, _ | 5, _ | 6, _ => cases C <;> first | rfl | exact absurd hm (by decide)
    rw [key C m hm] at hz
    cases hz
    rfl
  · refine ⟨p4, wds, (ecI C : Nat), .str (ecW C), rfl, rfl, SqL.of f4', by cases C <;> rfl, lw_line k e5 d5 ⟨by show 2 ≤ sizeLine; decide, fun p6 f6 => ?_⟩⟩
    refine h _ p6 (fun b hb => ?_) ?_ upd_same
    · rw [upd_ne (fun z => ?_)]
      · exact hk5 b hb
      · have := hk5 b hb
        rw [z, f6] at this
        exact hb (by rw [z]; exact this.symm)
    · cases e : H p6 with
      | none => rfl
      | some o =>
        have := hk5 p6 (by rw [e]; simp)
        rw [f6, e] at this
        cases this
end
def spLw (ca : EC → Addr) (p : Addr × Obj) : Sp := fun vs H Q _ => ∃ (C : EC) (dd : Addr) (n : Int), vs = [.ref p.1] ∧ Zc (.ref (ca C)) (some dd) p.2 ∧ (∃ fs, p.2.data = .fields fs) ∧ H dd = some (.xd [(("line" : Str), .int n)]) ∧
  ∀ H' q, (∀ b, H b ≠ none → H' b = H b) → H q = none → H' q = some (.tup [.str (ecW C), .int n]) → Q (.ref q) H'
section
variable {P : Program} {w : World} {K : PySem.W.Frag} {mg : Str → Option Value} {base : Heap} {ca : EC → Addr}
theorem lw_fn {sx : Bool} {x qual : Str} {params : Arguments} {q : Nat → Pos} {f : Addr} {fd : FuncData} {k : Nat} (c : LwC K mg ca) (hq : ((q 70).endLine == (q 72).line) = true) (F : FunD K x qual params (lwBody q) lwScope [] [] f fd) :
    FnHp P w K mg base (L2M.CX sx P w) (k + 1) f fd ["e"] (spLw ca) := by
  have S : FnScope lwN ["e"] lwScope := ⟨rfl, rfl, rfl, by decide, rfl, by decide, by decide⟩
  refine fn_ofHp F S (fun p vs H Q E h => ?_) fun cdv A outer s H vs Q E p q2 hot hr h => ⟨wB _ (lwBody q), pss_w, ?_⟩
  · obtain ⟨_, _, _, rfl, _⟩ := h
    rfl
  · obtain ⟨C, dd, n, rfl, hz, hf, hd, h⟩ := h
    exact lw_body (a := p.1) (oe := p.2) (C := C) (dd := dd) (n := n) ⟨c, rfl, rfl, hz, hf, List.mem_cons_self, ⟨p, q2, hot, List.mem_cons_self, List.mem_cons_of_mem _ List.mem_cons_self⟩⟩ hq rfl hd fun H' p1 h1 h2 h3 => h H' p1 h1 h2 h3
theorem lw_ok {x qual : Str} {params : Arguments} {q : Nat → Pos} {f : Addr} {fd : FuncData} {X : Cx} (ix : InP P w K mg base X) (c : LwC K mg ca) (hq : ((q 70).endLine == (q 72).line) = true) (F : FunD K x qual params (lwBody q) lwScope [] [] f fd)
    (hm : mg "_law_word" = some (.ref f)) (hb : Binds K fd ["e"] []) (hr : Room 5 X.A) (hg : Gl X "_law_word") : LwOk X ca := by
  obtain ⟨e1, e2, e3, e4, e5⟩ := ix
  subst e1 e2 e3 e4 e5
  intro a oe pn C dd n i nm p1 p2 pos σ G H Q cx hz hct hf hN hv hd1 hd2 hs hd gh k
  obtain ⟨q2, hot2, hq2⟩ := hotP_suite (X := X) (a := a) hz hf hct
  refine wE_of (pe_callHp (X := X.suite a ((a, oe) :: pn)) (p := (a, oe)) (q2 := q2) (E := fun _ _ _ => False) (lw_fn (sx := true) (k := 4) c hq F) ⟨hr.dp, hr.un⟩ hot2 List.mem_cons_self hq2 hg hm F.kp hb (fun σ pins H s e s' I z => ?_) (pa_cons (pe_var hN hv hd1 hd2) pa_nil)) ?_
  · obtain ⟨_, _, _, _, _, _, _, _, _, _, _, _, _, _, z⟩ := z
    exact z.elim
  · refine ⟨.ref a, hs, C, dd, n, rfl, ⟨hz.1, hz.2.1⟩, hf, hd, fun H' q k1 k2 k3 => ?_⟩
    have gq : G q = none := by
      cases e : G q with
      | none => rfl
      | some o =>
        rw [gh q o e] at k2
        cases k2
    have sh : Same H H' := fun b o e => by rw [k1 b (by rw [e]; simp)]; exact e
    refine k (.ref q) _ [] (upd G q (.tup [.str (ecW C), .int n])) H' (fun b o e => ?_) (fun b o e => ?_) sh (fun p h1 h2 => ?_) (.sh (.tup (SqT.of upd_same) (.cons (.str _) (.cons (.int n) .nil)))) (fun _ z => nomatch z) rfl
    · rw [upd_ne (ne_of_none e gq)]
      exact e
    · by_cases z : b = q
      · subst z
        rw [upd_same] at e
        cases e
        exact k3
      · rw [upd_ne z] at e
        exact sh b o (gh b o e)
    · rw [upd_ne (fun z => ?_)]
      · exact h2
      · subst z
        exact h1 k2
end
end PW

end
section
set_option Elab.async false
set_option linter.all false
set_option maxRecDepth 100000
set_option maxHeartbeats 4000000
/-! PXV: the head: facts of the own error classes, read by a Hook; Wld from them. -/
namespace PW
open PySem PySem.Spec PyProof.Rows L2
def allC : List EC := [.BadToken, .BadRow, .Again, .BadCall, .BadPaste, .BadIf, .TooMany]
theorem allC_mem (C : EC) : C ∈ allC := by cases C <;> decide
def caK (K : PySem.W.Frag) (C : EC) : Addr := He.ga K (ecW C)
def fIK (K : PySem.W.Frag) : Addr := He.ma K (He.ga K "PasteError") "__init__"
/-- the class object is that of an own error over ValueError -/
def oexO (K : PySem.W.Frag) (C : Addr) : Bool := match K.lookup C with
  | some ⟨.type "type", _, .cls cd, sl⟩ => (match cd.mro, sl.toList with
    | .ref C' :: bm, [_, _, _, _, some (.builtin n), _] => decide (C' = C) && (decide (n = "ValueError.__new__") && (!cd.hasDel && (cd.hasDict && PySem.HandSPX.refsVE bm)))
    | _, _ => false)
  | _ => false
theorem oexO_ok {K : PySem.W.Frag} {C : Addr} (h : oexO K C = true) : ∃ nm q N bs bm sn sub ab col dd k0 k1 k2 k3 k5, K.lookup C = some (excClassObj nm q C N bs bm true sn sub ab col dd k0 k1 k2 k3 k5 "ValueError.__new__") ∧ PySem.HandSPX.refsVE bm = true := by
  unfold oexO at h
  split at h
  · rename_i dd cd sl ho
    split at h
    · rename_i C' bm k0 k1 k2 k3 n k5 hm hs
      obtain ⟨h1, h⟩ := ba h
      obtain ⟨h2, h⟩ := ba h
      obtain ⟨h3, h⟩ := ba h
      obtain ⟨h4, h5⟩ := ba h
      obtain ⟨nm, bs, mro, ns, qn, hd, sn, sub, ab, col, del⟩ := cd
      dsimp only at hm h3 h4
      have e1 : C' = C := of_decide_eq_true h1
      have e2 : n = "ValueError.__new__" := of_decide_eq_true h2
      have e3 : del = false := by simpa using h3
      subst e1 e2 e3 hm h4
      have hsl : sl = #[k0, k1, k2, k3, some (.builtin "ValueError.__new__"), k5] := by
        obtain ⟨l⟩ := sl
        simp only at hs
        rw [hs]
      subst hsl
      exact ⟨nm, qn, ns, bs, bm, sn, sub, ab, col, dd, k0, k1, k2, k3, k5, ho, h5⟩
    · cases h
  · cases h
def oexB (K : PySem.W.Frag) (C : Addr) : Bool := oexO K C && (He.eqO (PySem.W.findIn K (.ref C) "__setattr__") (some (some (.builtin "object.__setattr__"))) && (decide (PySem.W.subIn K (.ref C) (.type "BaseException") = some true) && (decide (PySem.W.typeIn K (.ref C) = some (.type "type")) && PySem.W.keepIn K (.ref C))))
theorem oexB_ok {K : PySem.W.Frag} {C : Addr} (h : oexB K C = true) : OexC K C := by
  obtain ⟨h1, h⟩ := ba h
  obtain ⟨h2, h⟩ := ba h
  obtain ⟨h3, h⟩ := ba h
  obtain ⟨h4, h5⟩ := ba h
  exact ⟨oexO_ok h1, He.eqO_ok h2, of_decide_eq_true h3, of_decide_eq_true h4, h5⟩
def excB (K : PySem.W.Frag) (D : Addr) : Bool := He.eqO (PySem.W.findIn K (.ref D) "__getattribute__") (some (some (.builtin "BaseException.__getattribute__"))) && (He.eqO (PySem.W.findIn K (.ref D) "__getattr__") (some none) && (decide (PySem.W.subIn K (.ref D) (.type "BaseException") = some true) && (PySem.W.hasDictIn K D &&
  (He.eqO (PySem.W.findIn K (.ref D) "__class__") (some (some (.builtin "object.__class__"))) && (He.eqO (PySem.W.specialIn K (.builtin "object.__class__") "__get__") (some (some (.builtin "getset_descriptor.__get__"))) && (decide (PySem.W.takesIn K (.builtin "object.__class__") = some true) && decide (PySem.W.mroIn K D (.type "object") = some true)))))))
theorem excB_ok {K : PySem.W.Frag} {D : Addr} (h : excB K D = true) : ExcC K D := by
  obtain ⟨h1, h⟩ := ba h
  obtain ⟨h2, h⟩ := ba h
  obtain ⟨h3, h⟩ := ba h
  obtain ⟨h4, h⟩ := ba h
  obtain ⟨h5, h⟩ := ba h
  obtain ⟨h6, h⟩ := ba h
  obtain ⟨h7, h8⟩ := ba h
  exact ⟨He.eqO_ok h1, He.eqO_ok h2, of_decide_eq_true h3, h4, He.eqO_ok h5, He.eqO_ok h6, of_decide_eq_true h7, of_decide_eq_true h8⟩
/-- all that is said of one error class -/
def ecB (ecl : List EC) (K : PySem.W.Frag) (C : EC) : Bool := He.eqO (PySem.W.nsIn K mainGlobals (ecW C)) (some (some (.ref (caK K C)))) && (oexB K (caK K C) && (excB K (caK K C) && (He.eqO (PySem.W.findIn K (.ref (caK K C)) "__init__") (some (some (.ref (fIK K)))) && (He.eqO (PySem.W.findIn K (.ref (caK K C)) "line") (some none) &&
  (decide (PySem.W.exmOne K (.ref (caK K C)) (.ref (He.ga K "PasteError")) = some true) && (decide (PySem.W.kitOne K (.ref (caK K C)) (.type "ValueError") = some true) && ecl.all fun C' => decide (PySem.W.kitOne K (.ref (caK K C)) (.ref (caK K C')) = some (decide (C = C'))) && decide (PySem.W.exmOne K (.ref (caK K C)) (.ref (caK K C')) = some (decide (C = C')))))))))
def freeN : List Str := bltNames ++ [("ValueError" : Str)]
def glB1 (K : PySem.W.Frag) (x : Str) (d : D) : Bool := match PySem.W.nsIn K mainGlobals x, d with
  | some (some (.str y _)), .str z => decide (y = z)
  | some (some (.int j _)), .int i => decide (j = i)
  | _, _ => false
def glsB (K : PySem.W.Frag) : List Str → List D → Bool
  | [], [] => true
  | x :: xs, d :: ds => glB1 K x d && glsB K xs ds
  | _, _ => false
/-! classes of the text: their methods, their fields -/
abbrev ClT : Type := Str × List Str × List Str
def clsB (K : PySem.W.Frag) (C : Addr) : Bool := PySem.W.plainGet K C Str.empty && (PySem.W.hasDictIn K C && (PySem.W.plainOver K C && He.eqO (PySem.W.findIn K (.ref C) "__setattr__") (some (some (.builtin "object.__setattr__")))))
def methB (K : PySem.W.Frag) (C : Addr) (m : Str) : Bool := He.eqO (PySem.W.findIn K (.ref C) m) (some (some (.ref (He.ma K C m)))) && (PySem.W.isFn K (.ref (He.ma K C m)) && PySem.W.keepIn K (.ref (He.ma K C m)))
def mkB (K : PySem.W.Frag) (cn : Str) : Bool := PySem.W.makesIn K (clA K cn) && (He.eqO (PySem.W.findIn K (.ref (clA K cn)) "__init__") (some (some (.ref (He.ma K (clA K cn) "__init__")))) && (PySem.W.isFn K (.ref (He.ma K (clA K cn) "__init__")) && (PySem.W.keepIn K (.ref (clA K cn)) && He.eqO (PySem.W.nsIn K mainGlobals cn) (some (some (.ref (clA K cn)))))))
def clB (K : PySem.W.Frag) (c : ClT) : Bool := clsB K (clA K c.1) && (mkB K c.1 && ((c.2.1.all fun m => methB K (clA K c.1) m) && c.2.2.all fun f => He.eqO (PySem.W.findIn K (.ref (clA K c.1)) f) (some none)))
/-- what a head is asked: classes, errors, module constants -/
structure Hds where
  cl : List ClT := []
  ecl : List EC := allC
  gls : List Str
  gl : List D
/-- the head's facts -/
def hdB (hd : Hds) (K : PySem.W.Frag) : Bool := (hd.cl.all (clB K)) && ((hd.ecl.all (ecB hd.ecl K)) && ((freeN.all fun x => He.eqO (PySem.W.nsIn K mainGlobals x) (some none)) && (He.eqO (PySem.W.nsIn K mainGlobals "PasteError") (some (some (.ref (He.ga K "PasteError")))) && (decide (PySem.W.typeIn K (.ref (fIK K)) = some (.type "function")) && glsB K hd.gls hd.gl))))
/-! ### the Hook -/
abbrev AlP : Type := He.AlD × Bool
def gloF (fn : List He.DefD) : List He.Fa := fn.filterMap fun d => match d.at_.2 with
  | none => some (.glo d.at_.1)
  | some _ => none
def obsP (fn : List He.DefD) (hd : Hds) (K : PySem.W.Frag) : AlP := (He.obsD (gloF fn) fn K, hdB hd K)
def valP (fn : List He.DefD) : AlP := (He.valD fn, true)
def SaysP (fn : List He.DefD) (hd : Hds) (K : PySem.W.Frag) : Prop := obsP fn hd K = valP fn
def obsPG (n : Nat) (fn : List He.DefD) (hd : Hds) (g : Addr → Option Obj) : AlP := obsP fn hd (He.frG g (He.asD g n))
def hookP (n : Nat) (fn : List He.DefD) (hd : Hds) : PySem.W.Hook where
  α := AlP
  obs := fun s => obsPG n fn hd s.heap.get?
  val := fun _ => valP fn
  says := fun _ h => ∃ K : PySem.W.Frag, K.In h ∧ SaysP fn hd K
  of := fun _ _ e => ⟨_, He.frG_in, e⟩
  keeps := fun _ _ _ ⟨K, hK, c⟩ k => ⟨K, PySem.W.Frag.In.keeps hK k, c⟩
theorem obsPG_eq {n : Nat} {fn : List He.DefD} {hd : Hds} {g : Addr → Option Obj} {s : Shared} (h : ∀ a, g a = s.heap.get? a) : obsPG n fn hd g = (hookP n fn hd).obs s := by
  have e : g = s.heap.get? := funext h
  rw [e] <;> rfl
section
variable {fn : List He.DefD} {hd : Hds} {K : PySem.W.Frag}
theorem SaysP.d (c : SaysP fn hd K) : He.SaysD (gloF fn) fn K := congrArg (fun z : AlP => z.1) c
theorem SaysP.h (c : SaysP fn hd K) : hdB hd K = true := congrArg (fun z : AlP => z.2) c
theorem SaysP.def_ (c : SaysP fn hd K) (i : Nat) {d : He.DefD} (h : fn[i]? = some d := by rfl) : ∃ fd, FunD K d.name d.qual d.params d.body d.scope (d.dvs K) (d.kws K) (He.fAd K d.at_) fd := c.d.def_ i h
/-- all that a class of the text gives -/
theorem SaysP.cls (c : SaysP fn hd K) (i : Nat) {d : ClT} (h : hd.cl[i]? = some d := by rfl) : Cls K (clA K d.1) ∧ (∀ m, m ∈ d.2.1 → Meth K (clA K d.1) m (He.ma K (clA K d.1) m)) ∧ Mk K (clA K d.1) (He.ma K (clA K d.1) "__init__") ∧ (∀ f, f ∈ d.2.2 → NoAttr K (clA K d.1) f) ∧ PySem.W.nsIn K mainGlobals d.1 = some (some (.ref (clA K d.1))) := by
  have c0 := (ba c.h).1
  have z := List.all_eq_true.mp c0 d (List.mem_of_getElem? h)
  obtain ⟨z1, z⟩ := ba z
  obtain ⟨z2, z⟩ := ba z
  obtain ⟨z3, z4⟩ := ba z
  obtain ⟨a1, a⟩ := ba z1
  obtain ⟨a2, a⟩ := ba a
  obtain ⟨a3, a4⟩ := ba a
  obtain ⟨b1, b⟩ := ba z2
  obtain ⟨b2, b⟩ := ba b
  obtain ⟨b3, b⟩ := ba b
  obtain ⟨b4, b5⟩ := ba b
  refine ⟨⟨a1, a2, a3, He.eqO_ok a4⟩, fun m hm => ?_, ⟨b1, He.eqO_ok b2, b3, b4⟩, fun f hf => He.eqO_ok (List.all_eq_true.mp z4 f hf), He.eqO_ok b5⟩
  obtain ⟨m1, mm⟩ := ba (List.all_eq_true.mp z3 m hm)
  obtain ⟨m2, m3⟩ := ba mm
  exact ⟨He.eqO_ok m1, m2, m3⟩
theorem SaysP.glo (c : SaysP fn hd K) {h : Heap} {mg : Str → Option Value} (X : K.In h) (G : h.Ns mainGlobals mg) (i : Nat) {d : He.DefD} (hd : fn[i]? = some d := by rfl) (hn : d.at_.2 = none := by rfl) : mg d.at_.1 = some (.ref (He.ga K d.at_.1)) := by
  have c1 := (ba (show (((gloF fn).all fun f => f.ok K) && fn.all fun d => d.ok K) = true from congrArg (fun z : He.AlD => z.1) c.d)).1
  refine He.glo_ok X G (List.all_eq_true.mp c1 (.glo d.at_.1) ?_)
  unfold gloF
  rw [List.mem_filterMap]
  exact ⟨d, List.mem_of_getElem? hd, by rw [hn]⟩
end
/-- the first method of a class -/
def clsMth (s : Stmt) : Stmt := match s with
  | .ClassDef _ _ _ (m :: _) _ _ _ _ _ _ _ => m
  | _ => .Pass ⟨0, 0, 0, 0⟩
/-- a class's method -/
def mthOf (s : Stmt) (j : Nat) : Stmt := match s with
  | .ClassDef _ _ _ b _ _ _ _ _ _ _ => b.getD j (.Pass ⟨0, 0, 0, 0⟩)
  | _ => .Pass ⟨0, 0, 0, 0⟩
def inBody (q : Nat → Pos) : List Stmt := [.Assign [.Attribute (.Name "self" (q 0)) "line" (q 1)] (.Name "line" (q 2)) (q 3)]
section
variable {P : Program} {w : World} {K : PySem.W.Frag} {mg : Str → Option Value} {base h : Heap} {hd : Hds}
theorem glsB_ok (X : K.In h) (G : h.Ns mainGlobals mg) : ∀ {gls : List Str} {gl : List D}, glsB K gls gl = true → ∀ (k : Nat) (x : Str), gls[k]? = some x → ∃ v u, mg x = some u ∧ RelV v u ∧ ∀ d, gl[k]? = some d → ∀ G, Rep K G v d
  | [], [], _, k, x, e => by simp at e
  | [], _ :: _, c, _, _, _ => by cases c
  | _ :: _, [], c, _, _, _ => by cases c
  | y :: ys, d :: ds, c, k, x, e => by
    obtain ⟨c1, c2⟩ := ba c
    cases k with
    | succ k =>
      rw [List.getElem?_cons_succ] at e
      obtain ⟨v, u, h1, h2, h3⟩ := glsB_ok X G c2 k x e
      exact ⟨v, u, h1, h2, fun d' e' => h3 d' (by rw [List.getElem?_cons_succ] at e'; exact e')⟩
    | zero =>
      simp only [List.getElem?_cons_zero, Option.some.injEq] at e
      subst e
      unfold glB1 at c1
      split at c1
      · rename_i z t y' e1
        have := of_decide_eq_true c1
        subst this
        refine ⟨.str z, .str z t, PySem.W.mg_of X G e1, ⟨t, rfl⟩, fun d' e' G => ?_⟩
        simp only [List.getElem?_cons_zero, Option.some.injEq] at e'
        subst e'
        exact .str _
      · rename_i z t y' e1
        have := of_decide_eq_true c1
        subst this
        refine ⟨.int z, .int z t, PySem.W.mg_of X G e1, ⟨t, rfl⟩, fun d' e' G => ?_⟩
        simp only [List.getElem?_cons_zero, Option.some.injEq] at e'
        subst e'
        exact .int _
      · cases c1
/-- what all defs lean on, the law's word aside -/
theorem wld_ofN {ecs : List EC} {flds : List (Str × Str)} {nI : Str} {qI : Str} {aI : Arguments} {pI : Nat → Pos} {sI : Scope} {fdI : FuncData} (X : K.In h) (G : h.Ns mainGlobals mg) (c : hdB hd K = true) (hecs : ∀ C, C ∈ ecs → C ∈ hd.ecl)
    (hfl : ∀ cn f : Str, (cn, f) ∈ flds → Cls K (clA K cn) ∧ NoAttr K (clA K cn) f) (tn : Bool) (htn : tn = true → hd.ecl = allC)
    (FI : FunD K nI qI aI (inBody pI) sI [] [] (fIK K) fdI) (SI : FnScope ["self", "line"] ["self", "line"] sI) (bI : Binds K fdI ["self", "line"] []) : Wld P w K mg base (caK K) hd.gl hd.gls flds ecs false tn := by
  obtain ⟨_, c⟩ := ba c
  obtain ⟨c1, c⟩ := ba c
  obtain ⟨c2, c⟩ := ba c
  obtain ⟨c3, c⟩ := ba c
  obtain ⟨c4, c5⟩ := ba c
  have fr : ∀ x, x ∈ freeN → mg x = none := fun x hx => PySem.W.mg_none_of X G (He.eqO_ok (List.all_eq_true.mp c2 x hx))
  have ec : ∀ C : EC, C ∈ hd.ecl → mg (ecW C) = some (.ref (caK K C)) ∧ OexC K (caK K C) ∧ PySem.W.findIn K (.ref (caK K C)) "__init__" = some (some (.ref (fIK K))) ∧ PySem.W.findIn K (.ref (caK K C)) "line" = some none ∧ ∀ C', C' ∈ hd.ecl → PySem.W.exmOne K (.ref (caK K C)) (.ref (caK K C')) = some (decide (C = C')) := fun C hC => by
    have z := List.all_eq_true.mp c1 C hC
    obtain ⟨z1, z⟩ := ba z
    obtain ⟨z2, z⟩ := ba z
    obtain ⟨z3, z⟩ := ba z
    obtain ⟨z4, z⟩ := ba z
    obtain ⟨z5, z⟩ := ba z
    obtain ⟨z6, z⟩ := ba z
    obtain ⟨z7, z8⟩ := ba z
    exact ⟨PySem.W.mg_of X G (He.eqO_ok z1), oexB_ok z2, He.eqO_ok z4, He.eqO_ok z5, fun C' hC' => of_decide_eq_true (ba (List.all_eq_true.mp z8 C' hC')).2⟩
  exact {
    blt := fun x hx => fr x (List.mem_append_left _ hx)
    gls := glsB_ok X G c5
    flds := hfl
    exc := fun C hC Y iy hr _ hg => mk_ok (sx := true) (k := 1) iy ⟨(ec C (hecs C hC)).2.1, (ec C (hecs C hC)).2.2.1, (ec C (hecs C hC)).2.2.2.1, (ec C (hecs C hC)).1⟩ (of_decide_eq_true c4) (init_ok (k := 0) FI SI) bI (hr.mono (by decide)) hg
    exh := fun C hC Y iy hr hot hg => mkh_ok (k := 1) iy ⟨(ec C (hecs C hC)).2.1, (ec C (hecs C hC)).2.2.1, (ec C (hecs C hC)).2.2.2.1, (ec C (hecs C hC)).1⟩ (of_decide_eq_true c4) (init_okH (k := 0) FI SI) bI (hr.mono (by decide)) hot hg
    exm := fun ht C => by
      have e := htn ht
      exact ⟨(ec C (by rw [e]; exact allC_mem C)).1, fun C0 => (ec C0 (by rw [e]; exact allC_mem C0)).2.2.2.2 C (by rw [e]; exact allC_mem C)⟩
    pe := fun h => nomatch h
    lw := fun h => nomatch h
    ecm := fun ht x hx => by
      have e := htn ht
      have key : ∀ C : EC, ∃ cv, mg (ecW C) = some cv := fun C => ⟨_, (ec C (by rw [e]; exact allC_mem C)).1⟩
      have hx' : x = ecW .BadToken ∨ x = ecW .BadRow ∨ x = ecW .Again ∨ x = ecW .BadCall ∨ x = ecW .BadPaste ∨ x = ecW .BadIf ∨ x = ecW .TooMany := by simpa [ecNames, ecW] using hx
      rcases hx' with rfl | rfl | rfl | rfl | rfl | rfl | rfl <;> exact key _ }
theorem wld_of {ecs : List EC} {nI nL : Str} {qI qL : Str} {aI aL : Arguments} {pI pL : Nat → Pos} {sI : Scope} {fL : Addr} {fdI fdL : FuncData} (X : K.In h) (G : h.Ns mainGlobals mg) (c : hdB hd K = true) (hecl : hd.ecl = allC) {flds : List (Str × Str)} (hfl : ∀ cn f : Str, (cn, f) ∈ flds → Cls K (clA K cn) ∧ NoAttr K (clA K cn) f) (tn : Bool)
    (FI : FunD K nI qI aI (inBody pI) sI [] [] (fIK K) fdI) (SI : FnScope ["self", "line"] ["self", "line"] sI) (bI : Binds K fdI ["self", "line"] [])
    (FL : FunD K nL qL aL (lwBody pL) lwScope [] [] fL fdL) (hq : ((pL 70).endLine == (pL 72).line) = true) (mL : mg "_law_word" = some (.ref fL)) (bL : Binds K fdL ["e"] []) (lw : Bool) : Wld P w K mg base (caK K) hd.gl hd.gls flds ecs lw tn := by
  have wn := wld_ofN (P := P) (w := w) (base := base) (ecs := ecs) X G c (fun C _ => by rw [hecl]; exact allC_mem C) hfl tn (fun _ => hecl) FI SI bI
  obtain ⟨_, c⟩ := ba c
  obtain ⟨c1, c⟩ := ba c
  obtain ⟨c2, c⟩ := ba c
  obtain ⟨c3, c⟩ := ba c
  obtain ⟨c4, c5⟩ := ba c
  have fr : ∀ x, x ∈ freeN → mg x = none := fun x hx => PySem.W.mg_none_of X G (He.eqO_ok (List.all_eq_true.mp c2 x hx))
  have ec : ∀ C : EC, mg (ecW C) = some (.ref (caK K C)) ∧ OexC K (caK K C) ∧ ExcC K (caK K C) ∧ PySem.W.findIn K (.ref (caK K C)) "__init__" = some (some (.ref (fIK K))) ∧ PySem.W.findIn K (.ref (caK K C)) "line" = some none ∧ PySem.W.exmOne K (.ref (caK K C)) (.ref (He.ga K "PasteError")) = some true ∧
      PySem.W.kitOne K (.ref (caK K C)) (.type "ValueError") = some true ∧ ∀ C', PySem.W.kitOne K (.ref (caK K C)) (.ref (caK K C')) = some (decide (C = C')) := fun C => by
    have z := List.all_eq_true.mp c1 C (by rw [hecl]; exact allC_mem C)
    obtain ⟨z1, z⟩ := ba z
    obtain ⟨z2, z⟩ := ba z
    obtain ⟨z3, z⟩ := ba z
    obtain ⟨z4, z⟩ := ba z
    obtain ⟨z5, z⟩ := ba z
    obtain ⟨z6, z⟩ := ba z
    obtain ⟨z7, z8⟩ := ba z
    exact ⟨PySem.W.mg_of X G (He.eqO_ok z1), oexB_ok z2, excB_ok z3, He.eqO_ok z4, He.eqO_ok z5, of_decide_eq_true z6, of_decide_eq_true z7, fun C' => of_decide_eq_true (ba (List.all_eq_true.mp z8 C' (by rw [hecl]; exact allC_mem C'))).1⟩
  have lc : LwC K mg (caK K) := ⟨fun C => (ec C).1, fun C => (ec C).2.2.1, fun C => (ec C).2.2.2.2.1, fun C C' => (ec C).2.2.2.2.2.2.2 C', fun C => (ec C).2.2.2.2.2.2.1, fr _ (by decide), fr _ (by decide), fr _ (by decide), fr _ (by decide)⟩
  exact {
    blt := wn.blt
    gls := wn.gls
    flds := wn.flds
    exc := wn.exc
    ecm := wn.ecm
    exm := wn.exm
    exh := wn.exh
    pe := fun _ => ⟨_, PySem.W.mg_of X G (He.eqO_ok c3), fun C => (ec C).2.2.2.2.2.1⟩
    lw := fun _ Y iy hr _ hg => lw_ok iy lc hq FL mL bL hr hg }
end
end PW

end
section
set_option Elab.async false
set_option linter.all false
set_option maxRecDepth 100000
set_option maxHeartbeats 4000000
/-! PX1: the meaning of a text, rule by rule (plain data, no program in sight). -/
namespace PW
open PySem PySem.Spec PyProof.Rows L2
section
variable {gl : List D} {Φ : Fns} {Γ : List O} {R : O → List O → Prop} {E : EXC} {i j k f : Nat} {d x y : D} {o : O} {os ps : List O} {a b t e : PEx} {es : List PEx}
theorem i_c (h : R (.sh d) Γ) : sem gl Φ (.c d) Γ R E := by unfold sem; exact h
theorem i_glb (e : gl[k]? = some d) (h : R (.sh d) Γ) : sem gl Φ (.glb k) Γ R E := by unfold sem; exact ⟨d, e, h⟩
theorem i_var (e : Γ[i]? = some (.sh d)) (h : R (.sh d) Γ) : sem gl Φ (.var i) Γ R E := by unfold sem; rw [e]; exact h
theorem i_varL (e : Γ[i]? = some (.lst os)) (e2 : asD (.lst os) = some d) (h : R (.sh d) (Γ.set i (.sh d))) : sem gl Φ (.var i) Γ R E := by unfold sem; rw [e]; exact ⟨d, e2, h⟩
theorem i_mov (e : Γ[i]? = some (.lst os)) (h : R (.lst os) (Γ.set i .un)) : sem gl Φ (.mov i) Γ R E := by unfold sem; rw [e]; exact h
theorem i_bin {op : Bop} (h : sem gl Φ a Γ (fun o Γ1 => ∃ x, asD o = some x ∧ sem gl Φ b Γ1 (fun o2 Γ2 => ∃ y, asD o2 = some y ∧ semBin op x y fun z => R z Γ2) E) E) : sem gl Φ (.bin op a b) Γ R E := by unfold sem; exact h
theorem i_cmp {op : CmpOp} (h : sem gl Φ a Γ (fun o Γ1 => ∃ x, asD o = some x ∧ sem gl Φ b Γ1 (fun o2 Γ2 => ∃ y, asD o2 = some y ∧ semCmp op x y fun z => R (.sh (.bl z)) Γ2) E) E) : sem gl Φ (.cmp op a b) Γ R E := by unfold sem; exact h
theorem i_and (h : sem gl Φ a Γ (fun o Γ1 => ∃ x, o = .sh (.bl x) ∧ (if x = true then sem gl Φ b Γ1 R E else R (.sh (.bl false)) Γ1)) E) : sem gl Φ (.and a b) Γ R E := by unfold sem; exact h
theorem i_or (h : sem gl Φ a Γ (fun o Γ1 => ∃ x, o = .sh (.bl x) ∧ (if x = true then R (.sh (.bl true)) Γ1 else sem gl Φ b Γ1 R E)) E) : sem gl Φ (.or a b) Γ R E := by unfold sem; exact h
theorem i_not (h : sem gl Φ a Γ (fun o Γ1 => ∃ x, o = .sh (.bl x) ∧ R (.sh (.bl (!x))) Γ1) E) : sem gl Φ (.not a) Γ R E := by unfold sem; exact h
theorem i_neg (h : sem gl Φ a Γ (fun o Γ1 => ∃ x, o = .sh (.int x) ∧ R (.sh (.int (-x))) Γ1) E) : sem gl Φ (.neg a) Γ R E := by unfold sem; exact h
theorem i_ifx (h : sem gl Φ t Γ (fun o Γ1 => ∃ x, o = .sh (.bl x) ∧ (if x = true then sem gl Φ a Γ1 R E else sem gl Φ b Γ1 R E)) E) : sem gl Φ (.ifx t a b) Γ R E := by unfold sem; exact h
theorem i_tup (h : semA gl Φ es Γ (fun ds Γ1 => ds.length ≤ 16777216 ∧ R (.sh (.tup ds)) Γ1) E) : sem gl Φ (.tup es) Γ R E := by unfold sem; exact h
theorem i_lst (h : semA gl Φ es Γ (fun ds Γ1 => ds.length ≤ 16777216 ∧ R (.lst (ds.map .sh)) Γ1) E) : sem gl Φ (.lst es) Γ R E := by unfold sem; exact h
theorem i_lst1 (h : sem gl Φ e Γ (fun o Γ1 => R (.lst [o]) Γ1) E) : sem gl Φ (.lst1 e) Γ R E := by unfold sem; exact h
theorem i_sub (h : sem gl Φ a Γ (fun o Γ1 => ∃ x, asD o = some x ∧ sem gl Φ b Γ1 (fun o2 Γ2 => ∃ y, asD o2 = some y ∧ semSub x y fun z => R z Γ2) E) E) : sem gl Φ (.sub a b) Γ R E := by unfold sem; exact h
theorem i_slc {lo hi : Option PEx} (h : sem gl Φ a Γ (fun o Γ1 => ∃ x, asD o = some x ∧ semO gl Φ lo Γ1 (fun l Γ2 => semO gl Φ hi Γ2 (fun h Γ3 => semSlc x l h fun z => R z Γ3) E) E) E) : sem gl Φ (.slc a lo hi) Γ R E := by unfold sem; exact h
theorem i_cal (h : semA gl Φ es Γ (fun ds Γ1 => ∃ s : FSpec, Φ f = some s ∧ ds.length = s.np ∧ s.pre ds ∧ (match s.out ds with
    | .ok o => R o Γ1
    | .error (C, n) => E C n Γ1)) E) : sem gl Φ (.cal f es) Γ R E := by unfold sem; exact h
theorem i_call {s : FSpec} {ds : List D} {Kk : O → Prop} {Xx : EC → Int → Prop} (e : Φ f = some s) (l : ds.length = s.np) (p : s.pre ds) (e2 : s.out ds = .ok o) (h : Kk o) : ∃ s : FSpec, Φ f = some s ∧ ds.length = s.np ∧ s.pre ds ∧ (match s.out ds with
    | .ok o => Kk o
    | .error (C, n) => Xx C n) := ⟨s, e, l, p, by rw [e2]; exact h⟩
theorem i_callX {s : FSpec} {ds : List D} {C : EC} {n : Int} {Kk : O → Prop} {Xx : EC → Int → Prop} (e : Φ f = some s) (l : ds.length = s.np) (p : s.pre ds) (e2 : s.out ds = .error (C, n)) (h : Xx C n) : ∃ s : FSpec, Φ f = some s ∧ ds.length = s.np ∧ s.pre ds ∧ (match s.out ds with
    | .ok o => Kk o
    | .error (C, n) => Xx C n) := ⟨s, e, l, p, by rw [e2]; exact h⟩
theorem i_prm {p : Prm} (h : semA gl Φ es Γ (fun ds Γ1 => semPrm p ds fun z => R z Γ1) E) : sem gl Φ (.prm p es) Γ R E := by unfold sem; exact h
theorem i_mth {m : Mth} (h : sem gl Φ e Γ (fun o1 Γ1 => ∃ x, asD o1 = some x ∧ mthRc m x = true ∧ semA gl Φ es Γ1 (fun ds Γ2 => semMth m x ds fun z => R z Γ2) E) E) : sem gl Φ (.mth m e es) Γ R E := by unfold sem; exact h
theorem i_isi {t : String} (h : sem gl Φ e Γ (fun o Γ1 => ∃ x b, asD o = some x ∧ isiD x t = some b ∧ R (.sh (.bl b)) Γ1) E) : sem gl Φ (.isi e t) Γ R E := by unfold sem; exact h
theorem i_app (h0 : Γ[i]? = some (.lst os)) (h : sem gl Φ e Γ (fun o Γ1 => ∃ os, Γ1[i]? = some (.lst os) ∧ os.length < 16777216 ∧ R (.sh .non) (Γ1.set i (.lst (os ++ [o])))) E) : sem gl Φ (.app i e) Γ R E := by unfold sem; exact ⟨⟨os, h0⟩, h⟩
theorem i_appL (h0 : Γ[i]? = some (.lst (os ++ [.lst ps]))) (h1 : Γ[j]? = some (.sh d)) (hl : ps.length < 16777216) (h : R (.sh .non) (Γ.set i (.lst (os ++ [.lst (ps ++ [.sh d])])))) : sem gl Φ (.appL i j) Γ R E := by unfold sem; exact ⟨os, ps, d, h0, h1, hl, h⟩
theorem i_ext (h0 : Γ[i]? = some (.lst os)) (h : sem gl Φ e Γ (fun o Γ1 => ∃ ds os, asD o = some (.lst ds) ∧ Γ1[i]? = some (.lst os) ∧ os.length + ds.length ≤ 16777216 ∧ R (.sh .non) (Γ1.set i (.lst (os ++ ds.map .sh)))) E) : sem gl Φ (.ext i e) Γ R E := by unfold sem; exact ⟨⟨os, h0⟩, h⟩
theorem i_peek (h : sem gl Φ e (share Γ) (fun o Γ1 => Γ1 = share Γ ∧ ∃ d, o = .sh d ∧ scalD d = true ∧ R (.sh d) Γ) noX) : sem gl Φ (.peek e) Γ R E := by unfold sem; exact h
theorem i_lc {tg : Tgt} {it : PEx} {t : Option PEx} (h : semI gl Φ it Γ (fun ds Γ1 => ds.length ≤ 16777216 ∧ ∃ f : D → Option D,
      (∀ d, d ∈ ds → ∃ Γ2, setT tg d (wipeO Γ1 (tgtSlots tg)) = some Γ2 ∧ semTo gl Φ t Γ2 (fun b => if b = true then sem gl Φ e Γ2 (fun o Γ4 => Γ4 = Γ2 ∧ ∃ y, asD o = some y ∧ f d = some y) noX else f d = none)) ∧
      R (.lst ((ds.filterMap f).map .sh)) Γ1) E) : sem gl Φ (.lc e tg it t) Γ R E := by unfold sem; exact h
theorem i_a0 {R : List D → List O → Prop} (h : R [] Γ) : semA gl Φ [] Γ R E := by unfold semA; exact h
theorem i_a1 {R : List D → List O → Prop} (h : sem gl Φ e Γ (fun o Γ1 => ∃ d, asD o = some d ∧ semA gl Φ es Γ1 (fun ds Γ2 => R (d :: ds) Γ2) E) E) : semA gl Φ (e :: es) Γ R E := by unfold semA; exact h
theorem i_o0 {R : Option Int → List O → Prop} (h : R none Γ) : semO gl Φ none Γ R E := by unfold semO; exact h
theorem i_o1 {R : Option Int → List O → Prop} (h : sem gl Φ e Γ (fun o Γ1 => ∃ i, o = .sh (.int i) ∧ R (some i) Γ1) E) : semO gl Φ (some e) Γ R E := by unfold semO; exact h
theorem i_t0 {R : Bool → Prop} (h : R true) : semTo gl Φ none Γ R := by unfold semTo; exact h
theorem i_t1 {R : Bool → Prop} (h : sem gl Φ t Γ (fun o Γ1 => Γ1 = Γ ∧ ∃ b, o = .sh (.bl b) ∧ R b) noX) : semTo gl Φ (some t) Γ R := by unfold semTo; exact h
theorem i_T {R : Bool → List O → Prop} (h : sem gl Φ t Γ (fun o Γ1 => ∃ b, o = .sh (.bl b) ∧ R b Γ1) E) : semT gl Φ t Γ R E := h
theorem i_if {c : Bool} {A B : Prop} (h1 : c = true → A) (h2 : c = false → B) : if c = true then A else B := by
  cases c with
  | true => rw [if_pos rfl]; exact h1 rfl
  | false => rw [if_neg (by decide)]; exact h2 rfl
theorem i_ifT {A B : Prop} (h : A) : if true = true then A else B := by rw [if_pos rfl]; exact h
theorem i_ifF {A B : Prop} (h : B) : if false = true then A else B := by rw [if_neg (by decide)]; exact h
/-! things of own classes -/
theorem i_fld {cn fl : Str} (h : sem gl Φ e Γ (fun o Γ1 => ∃ fs ds d, asD o = some (.ins cn fs ds) ∧ lookF fs ds fl = some d ∧ R (.sh d) Γ1) E) : sem gl Φ (.fld cn e fl) Γ R E := by unfold sem; exact h
theorem i_fldv {cn fl : Str} {p : Addr} {fs : List Str} (e : Γ[i]? = some (.ins p cn fs os)) (e2 : lookF fs os fl = some (.sh d)) (h : R (.sh d) Γ) : sem gl Φ (.fldv cn i fl) Γ R E := by unfold sem; exact ⟨p, fs, os, _, d, e, e2, .inl rfl, h⟩
theorem i_fldp {cn fl : Str} {p : Addr} {fs : List Str} {v : V} (e : Γ[i]? = some (.ins p cn fs os)) (e2 : lookF fs os fl = some (.pin v d)) (h : R (.sh d) Γ) : sem gl Φ (.fldv cn i fl) Γ R E := by unfold sem; exact ⟨p, fs, os, _, d, e, e2, .inr ⟨v, rfl⟩, h⟩
theorem i_mcl {cn m : Str} (h : sem gl Φ e Γ (fun o Γ1 => ∃ fs ds, asD o = some (.ins cn fs ds) ∧ fs.contains m = false ∧ semA gl Φ es Γ1 (fun as Γ2 => ∃ s : FSpec, Φ k = some s ∧ as.length + 1 = s.np ∧ s.pre (.ins cn fs ds :: as) ∧ (match s.out (.ins cn fs ds :: as) with
    | .ok o => R o Γ2
    | .error (C, n) => E C n Γ2)) E) E) : sem gl Φ (.mcl k cn m e es) Γ R E := by unfold sem; exact h
theorem i_mcv {cn m : Str} (h0 : ∃ p fs os, Γ[i]? = some (.ins p cn fs os) ∧ fs.contains m = false) (h : semA gl Φ es Γ (fun as Γ1 => ∃ p fs os s, Γ1[i]? = some (.ins p cn fs os) ∧ Φ.m k = some s ∧ as.length = s.np ∧ s.pre (.ins p cn fs os) as ∧ (match s.out (.ins p cn fs os) as with
    | (.ok r, o) => R r (Γ1.set i o)
    | (.error (C, n), o) => E C n (Γ1.set i o))) E) : sem gl Φ (.mcv k cn m i es) Γ R E := by unfold sem; exact ⟨h0, h⟩
theorem i_new {cn : Str} (h : semA gl Φ es Γ (fun as Γ1 => ∃ s, Φ.m k = some s ∧ as.length = s.np ∧ ∀ p, s.pre (.ins p cn [] []) as ∧ (match s.out (.ins p cn [] []) as with
    | (.ok r, o) => r = .sh .non ∧ R o Γ1
    | (.error _, _) => False)) E) : sem gl Φ (.new k cn es) Γ R E := by unfold sem; exact h
theorem i_mct {cn m : Str} (h : sem gl Φ e Γ (fun o Γ1 => ∃ p fs os, o = .ins p cn fs os ∧ fs.contains m = false ∧ semA gl Φ es Γ1 (fun as Γ2 => ∃ s, Φ.m k = some s ∧ as.length = s.np ∧ s.pre (.ins p cn fs os) as ∧ (match s.out (.ins p cn fs os) as with
    | (.ok r, _) => R r Γ2
    | (.error (C, n), _) => E C n Γ2)) E) E) : sem gl Φ (.mct k cn m e es) Γ R E := by unfold sem; exact h
theorem i_mctP {cn m fl : Str} (h : sem gl Φ e Γ (fun o Γ1 => ∃ p fs os M, o = .ins p cn fs os ∧ lookF fs os fl = some (.sh M) ∧ fs.contains m = false ∧ ∀ v, semA gl Φ es Γ1 (fun as Γ2 => ∃ s, Φ.m k = some s ∧ as.length = s.np ∧ s.pre (.ins p cn fs (pinF fs os fl v M)) as ∧ (match s.out (.ins p cn fs (pinF fs os fl v M)) as with
    | (.ok r, _) => R r Γ2
    | (.error (C, n), _) => E C n Γ2)) E) E) : sem gl Φ (.mctP k cn m fl e es) Γ R E := by unfold sem; exact h
theorem i_lenset (h : sem gl Φ e Γ (fun o Γ1 => ∃ xs : List Str, asD o = some (.lst (xs.map .str)) ∧ xs.length ≤ 1000 ∧ R (.sh (.int (ddS xs).length)) Γ1) E) : sem gl Φ (.lenset e) Γ R E := by unfold sem; exact h
theorem i_sortset (h : sem gl Φ e Γ (fun o Γ1 => ∃ xs : List Str, asD o = some (.lst (xs.map .str)) ∧ xs.length ≤ 1000 ∧ R (.lst ((srtS (ddS xs)).map fun k => .sh (.str k))) Γ1) E) : sem gl Φ (.sortset e) Γ R E := by unfold sem; exact h
theorem i_tup2 (h : sem gl Φ a Γ (fun o Γ1 => sem gl Φ b Γ1 (fun o2 Γ2 => R (.tup [o, o2]) Γ2) E) E) : sem gl Φ (.tup2 a b) Γ R E := by unfold sem; exact h
theorem i_dgetv {ks : List Str} (h0 : Γ[i]? = some (.dct ks os)) (h : sem gl Φ e Γ (fun o Γ1 => ∃ x ks os d, o = .sh (.str x) ∧ Γ1[i]? = some (.dct ks os) ∧ lookF ks os x = some (.sh d) ∧ R (.sh d) Γ1) E) : sem gl Φ (.dgetv i e) Γ R E := by unfold sem; exact ⟨⟨ks, os, h0⟩, h⟩
theorem i_lend (e0 : Γ[j]? = some o) (e1 : asD o = some d) (h : sem gl Φ e (Γ.set j (.sh d)) (fun r Γ1 => Γ1[j]? = some (.sh d) ∧ cleanO r = true ∧ LendOk j Γ Γ1 ∧ R r (Γ1.set j o)) (fun C n Γ1 => Γ1[j]? = some (.sh d) ∧ LendOk j Γ Γ1 ∧ E C n (Γ1.set j o))) : sem gl Φ (.lend j e) Γ R E := by unfold sem; exact ⟨o, d, e0, e1, h⟩
theorem i_pinD {ks : List Str} {ds : List D} (e0 : Γ[i]? = some (.dct ks (ds.map .sh))) (h : ∀ vs : List V, vs.length = ds.length → sem gl Φ e (Γ.set i (.dct ks (pins vs ds))) (fun r Γ1 => Γ1[i]? = some (.dct ks (pins vs ds)) ∧ R r (Γ1.set i (.dct ks (ds.map .sh)))) (fun C n Γ1 => Γ1[i]? = some (.dct ks (pins vs ds)) ∧ E C n (Γ1.set i (.dct ks (ds.map .sh))))) : sem gl Φ (.pinD i e) Γ R E := by unfold sem; exact ⟨ks, ds, e0, h⟩
theorem i_dnew (h : R (.dct [] []) Γ) : sem gl Φ .dnew Γ R E := by unfold sem; exact h
theorem i_dpopF {cn fl x : Str} {p : Addr} {fs ks : List Str} {vs : List O} (e1 : Γ[j]? = some (.sh (.str x))) (e2 : Γ[i]? = some (.ins p cn fs os)) (e3 : lookF fs os fl = some (.dct ks vs)) (h : R .un (Γ.set i (.ins p cn (putO fs os fl (.dct (dropO ks vs x).1 (dropO ks vs x).2)).1 (putO fs os fl (.dct (dropO ks vs x).1 (dropO ks vs x).2)).2))) : sem gl Φ (.dpopF cn i fl j) Γ R E := by
  unfold sem; exact ⟨x, p, fs, os, ks, vs, e1, e2, e3, h⟩
theorem i_pop {ds : List D} (e : Γ[i]? = some (.lst ((ds ++ [d]).map .sh))) (h : R (.sh d) (Γ.set i (.lst (ds.map .sh)))) : sem gl Φ (.pop i) Γ R E := by unfold sem; exact ⟨ds, d, e, h⟩
theorem i_dget2 {dx kx : PEx} (h : sem gl Φ dx Γ (fun o Γ1 => ∃ ks ds, asD o = some (.dct ks ds) ∧ sem gl Φ kx Γ1 (fun o2 Γ2 => ∃ x, o2 = .sh (.str x) ∧ sem gl Φ e Γ2 (fun o3 Γ3 => ∃ d3, asD o3 = some d3 ∧ R (.sh ((lookF ks ds x).getD d3)) Γ3) E) E) E) : sem gl Φ (.dget2 dx kx e) Γ R E := by unfold sem; exact h
theorem i_dpop {ks : List Str} (h0 : Γ[i]? = some (.dct ks os)) (h : sem gl Φ e Γ (fun o Γ1 => ∃ x ks vs, o = .sh (.str x) ∧ Γ1[i]? = some (.dct ks vs) ∧ x ∈ ks ∧ R .un (Γ1.set i (.dct (dropO ks vs x).1 (dropO ks vs x).2))) E) : sem gl Φ (.dpop i e) Γ R E := by unfold sem; exact ⟨⟨ks, os, h0⟩, h⟩
theorem i_rpl {y z : Str} (h : sem gl Φ e Γ (fun o Γ1 => ∃ x, o = .sh (.str x) ∧ x.length + (x.length + 1) * z.length ≤ 16777216 ∧ R (.sh (.str (Txt.replace x y z))) Γ1) E) : sem gl Φ (.rpl e y z) Γ R E := by unfold sem; exact h
theorem i_appT (h : sem gl Φ e Γ (fun o Γ1 => ∃ os, o = .lst os ∧ os.length < 16777216 ∧ R (.sh .non) Γ1) E) : sem gl Φ (.appT e) Γ R E := by unfold sem; exact h
/-! iterables -/
section
variable {R : List D → List O → Prop}
theorem i_rng1 (h : sem gl Φ e Γ (fun o Γ1 => ∃ n : Int, o = .sh (.int n) ∧ (-(2 ^ 62) ≤ n ∧ n < 2 ^ 62) ∧ R ((List.range n.toNat).map fun i => .int (i : Nat)) Γ1) E) : semI gl Φ (.rng1 e) Γ R E := by unfold semI; exact h
theorem i_rng2 (h : sem gl Φ a Γ (fun o Γ1 => ∃ m : Int, o = .sh (.int m) ∧ sem gl Φ b Γ1 (fun o2 Γ2 => ∃ n : Int, o2 = .sh (.int n) ∧ (-(2 ^ 62) ≤ m ∧ m < 2 ^ 62 ∧ -(2 ^ 62) ≤ n ∧ n < 2 ^ 62) ∧ R ((List.range (n - m).toNat).map fun i => .int (m + (i : Nat))) Γ2) E) E) : semI gl Φ (.rng2 a b) Γ R E := by unfold semI; exact h
theorem i_itL (h : sem gl Φ e Γ (fun o Γ1 => ∃ l, asD o = some (.lst l) ∧ R l Γ1) E) : semI gl Φ (.itL e) Γ R E := by unfold semI; exact h
theorem i_itT (h : sem gl Φ e Γ (fun o Γ1 => ∃ l, asD o = some (.tup l) ∧ R l Γ1) E) : semI gl Φ (.itT e) Γ R E := by unfold semI; exact h
theorem i_itF {ks : List Str} {ds : List D} {R : List D → List O → Prop} (e : Γ[i]? = some (.sh (.fct ks ds))) (h : R (ks.map .str) Γ) : semI gl Φ (.itD i) Γ R E := by unfold semI; exact ⟨ks, ds, .inr ⟨e, h⟩⟩
theorem i_lapp {cn fl : Str} {p : Addr} {fs : List Str} {d0 : D} {ls : List O} {R : O → List O → Prop} (e0 : Γ[i]? = some (.ins p cn fs os)) (ed : asD (.ins p cn fs os) = some d0) (hl : lookF fs os fl = some (.lst ls)) (h : sem gl Φ e (Γ.set i (.sh d0))
      (fun r Γ1 => Γ1[i]? = some (.sh d0) ∧ cleanO r = true ∧ LendOk i Γ Γ1 ∧ ∃ ls, lookF fs os fl = some (.lst ls) ∧ ls.length < 16777216 ∧ R (.sh .non) (Γ1.set i (.ins p cn (putO fs os fl (.lst (ls ++ [r]))).1 (putO fs os fl (.lst (ls ++ [r]))).2)))
      (fun C n Γ1 => Γ1[i]? = some (.sh d0) ∧ LendOk i Γ Γ1 ∧ E C n (Γ1.set i (.ins p cn fs os)))) : sem gl Φ (.lapp cn i fl e) Γ R E := by unfold sem; exact ⟨p, fs, os, d0, e0, ed, ⟨ls, hl⟩, h⟩
theorem i_lext {cn fl : Str} {p : Addr} {fs : List Str} {d0 : D} {ls : List O} {R : O → List O → Prop} (e0 : Γ[i]? = some (.ins p cn fs os)) (ed : asD (.ins p cn fs os) = some d0) (hl : lookF fs os fl = some (.lst ls)) (h : sem gl Φ e (Γ.set i (.sh d0))
      (fun r Γ1 => ∃ dr, asD r = some dr ∧ ∃ ds ls, dr = .lst ds ∧ Γ1[i]? = some (.sh d0) ∧ cleanDs ds = true ∧ LendOk i Γ Γ1 ∧ lookF fs os fl = some (.lst ls) ∧ ls.length + ds.length ≤ 16777216 ∧ R (.sh .non) (Γ1.set i (.ins p cn (putO fs os fl (.lst (ls ++ ds.map .sh))).1 (putO fs os fl (.lst (ls ++ ds.map .sh))).2)))
      (fun C n Γ1 => Γ1[i]? = some (.sh d0) ∧ LendOk i Γ Γ1 ∧ E C n (Γ1.set i (.ins p cn fs os)))) : sem gl Φ (.lext cn i fl e) Γ R E := by unfold sem; exact ⟨p, fs, os, d0, e0, ed, ⟨ls, hl⟩, h⟩
theorem i_lpop {cn fl : Str} {p : Addr} {fs : List Str} {ls : List O} {R : O → List O → Prop} (e0 : Γ[i]? = some (.ins p cn fs os)) (ef : lookF fs os fl = some (.lst (ls ++ [.sh d]))) (h : R (.sh d) (Γ.set i (.ins p cn (putO fs os fl (.lst ls)).1 (putO fs os fl (.lst ls)).2))) : sem gl Φ (.lpop cn i fl) Γ R E := by unfold sem; exact ⟨p, fs, os, ls, d, e0, ef, h⟩
theorem i_told {q : Str} {R : O → List O → Prop} (h0 : Γ[i]? = some (.tab Φ.tb q)) (h : sem gl Φ e Γ R (fun C n Γ1 => R (.sh (ecD C n)) Γ1)) : sem gl Φ (.told i q e) Γ R E := by unfold sem; exact ⟨h0, h⟩
theorem i_cmp2 {op op2 : CmpOp} {dx : PEx} {R : O → List O → Prop} (h : sem gl Φ a Γ (fun o Γ1 => ∃ x, asD o = some x ∧ sem gl Φ b Γ1 (fun o2 Γ2 => ∃ y, asD o2 = some y ∧ semCmp op x y fun z => if z = true then sem gl Φ dx Γ2 (fun o3 Γ3 => ∃ w, asD o3 = some w ∧ semCmp op2 y w fun z2 => R (.sh (.bl z2)) Γ3) E else R (.sh (.bl false)) Γ2) E) E) : sem gl Φ (.cmp2 op op2 a b dx) Γ R E := by unfold sem; exact h
theorem i_frz {R : O → List O → Prop} (h : sem gl Φ e Γ (fun o Γ1 => ∃ (ks : List Str) (ds : List D), o = .dct ks (ds.map .sh) ∧ R (.sh (.fct ks ds)) Γ1) E) : sem gl Φ (.frz e) Γ R E := by unfold sem; exact h
theorem i_itD {ks : List Str} {ds : List D} {R : List D → List O → Prop} (e : Γ[i]? = some (.dct ks (ds.map .sh))) (h : R (ks.map .str) (Γ.set i (.sh (.dct ks ds)))) : semI gl Φ (.itD i) Γ R E := by unfold semI; exact ⟨ks, ds, .inl ⟨e, h⟩⟩
theorem i_itS (h : sem gl Φ e Γ (fun o Γ1 => ∃ s : Str, o = .sh (.str s) ∧ R (s.cps.toList.map fun c => .str ⟨#[c]⟩) Γ1) E) : semI gl Φ (.itS e) Γ R E := by unfold semI; exact h
theorem i_enm (h : sem gl Φ e Γ (fun o Γ1 => ∃ l, asD o = some (.lst l) ∧ R (enumD 0 l) Γ1) E) : semI gl Φ (.enm e) Γ R E := by unfold semI; exact h
end
/-! operations -/
section
variable {R : O → Prop} {m n : Int} {s u : Str} {l l2 : List D}
theorem b_addI (h : R (.sh (.int (m + n)))) : semBin .add (.int m) (.int n) R := h
theorem b_addS (hz : s.length + u.length ≤ 16777216) (h : R (.sh (.str (s ++ u)))) : semBin .add (.str s) (.str u) R := ⟨hz, h⟩
theorem b_addL (hz : l.length + l2.length ≤ 16777216) (h : R (.lst ((l ++ l2).map .sh))) : semBin .add (.lst l) (.lst l2) R := ⟨hz, h⟩
theorem b_sub (h : R (.sh (.int (m - n)))) : semBin .sub (.int m) (.int n) R := h
theorem b_mul (hz : mulOk m n) (h : R (.sh (.int (m * n)))) : semBin .mul (.int m) (.int n) R := ⟨hz, h⟩
theorem b_mulL (hz : -(2 ^ 63) ≤ n ∧ n < 2 ^ 63 ∧ l.length * n.toNat ≤ 16777216) (h : R (.lst ((List.replicate n.toNat l).flatten.map .sh))) : semBin .mul (.lst l) (.int n) R := ⟨hz, h⟩
theorem b_mulS {k : Int} (hz : 0 ≤ k ∧ k ≤ 1000 ∧ s.length ≤ 1000) (h : R (.sh (.str (repS s k.toNat)))) : semBin .mul (.str s) (.int k) R := ⟨hz, h⟩
theorem b_mod (hz : 0 < n) (h : R (.sh (.int (m % n)))) : semBin .mod (.int m) (.int n) R := ⟨hz, h⟩
theorem b_fdiv (hz : 0 < n ∧ n.natAbs.log2 < 9000) (h : R (.sh (.int (m / n)))) : semBin .fdiv (.int m) (.int n) R := ⟨hz, h⟩
theorem b_pow (hz : 0 ≤ n ∧ n ≤ 1000000 ∧ m.natAbs < 2 ^ 64) (h : R (.sh (.int (m ^ n.toNat)))) : semBin .pow (.int m) (.int n) R := ⟨hz, h⟩
theorem p_lenL (h : R (.sh (.int l.length))) : semPrm .len [.lst l] R := h
theorem p_lenT (h : R (.sh (.int l.length))) : semPrm .len [.tup l] R := h
theorem p_lenR {ns : List Int} (h : R (.sh (.int ns.length))) : semPrm .len [.scr ns] R := h
theorem p_lenD {ks : List Str} (h : R (.sh (.int ks.length))) : semPrm .len [.dct ks l] R := h
theorem p_srtD {ks : List Str} (hz : ks.length < 64) (h : R (.lst ((srtS ks).map fun k => .sh (.str k)))) : semPrm .sorted1 [.dct ks l] R := ⟨hz, h⟩
theorem p_listD {ks : List Str} (h : R (.lst (ks.map fun k => .sh (.str k)))) : semPrm .list1 [.dct ks l] R := h
theorem s_fct {ks : List Str} {x : Str} (e : lookF ks l x = some d) (h : R (.sh d)) : semSub (.fct ks l) (.str x) R := ⟨d, e, h⟩
theorem p_listF {ks : List Str} (h : R (.lst (ks.map fun k => .sh (.str k)))) : semPrm .list1 [.fct ks l] R := h
theorem s_dct {ks : List Str} {x : Str} (e : lookF ks l x = some d) (h : R (.sh d)) : semSub (.dct ks l) (.str x) R := ⟨d, e, h⟩
theorem p_lenS (hz : s.length ≤ 16777216) (h : R (.sh (.int s.length))) : semPrm .len [.str s] R := ⟨hz, h⟩
theorem p_intI (h : R (.sh (.int m))) : semPrm .int1 [.int m] R := h
theorem p_intB {b : Bool} (h : R (.sh (.int (if b then 1 else 0)))) : semPrm .int1 [.bl b] R := h
theorem p_max (h : R (.sh (.int (if n > m then n else m)))) : semPrm .max2 [.int m, .int n] R := h
theorem p_min (h : R (.sh (.int (if n < m then n else m)))) : semPrm .min2 [.int m, .int n] R := h
theorem p_listL (h : R (.lst (l.map .sh))) : semPrm .list1 [.lst l] R := h
theorem p_listT (h : R (.lst (l.map .sh))) : semPrm .list1 [.tup l] R := h
theorem p_tupL (h : R (.sh (.tup l))) : semPrm .tuple1 [.lst l] R := h
theorem z_lst {lo hi : Option Int} (h : R (.lst ((cutL l lo hi).map .sh))) : semSlc (.lst l) lo hi R := h
theorem z_tup {lo hi : Option Int} (h : R (.sh (.tup (cutL l lo hi)))) : semSlc (.tup l) lo hi R := h
theorem z_str {lo hi : Option Int} (hz : s.length ≤ 16777216) (h : R (.sh (.str (cutS s lo hi)))) : semSlc (.str s) lo hi R := ⟨hz, h⟩
theorem s_lst {i : Int} (e : atI l i = some d) (h : R (.sh d)) : semSub (.lst l) (.int i) R := ⟨d, e, h⟩
theorem s_tup {i : Int} (e : atI l i = some d) (h : R (.sh d)) : semSub (.tup l) (.int i) R := ⟨d, e, h⟩
theorem s_str {i : Int} {c : Nat} (hz : s.length ≤ 16777216) (e : atI s.cps.toList i = some c) (h : R (.sh (.str ⟨#[c]⟩))) : semSub (.str s) (.int i) R := ⟨hz, c, e, h⟩
theorem s_scr {i : Int} {ns : List Int} (e : atI ns i = some n) (h : R (.sh (.int n))) : semSub (.scr ns) (.int i) R := ⟨n, e, h⟩
end
section
variable {R : Bool → Prop} {m n : Int} {s u : Str}
theorem eqD_int : eqD (.int m) (.int n) = decide (m = n) := by
  unfold eqD toPy
  rw [Bool.eq_iff_iff]
  simp [PyData.eqv]
theorem eqD_str : eqD (.str s) (.str u) = decide (s = u) := by
  unfold eqD toPy
  rw [Bool.eq_iff_iff]
  simp [PyData.eqv]
theorem eqD_bl {p q : Bool} : eqD (.bl p) (.bl q) = decide (p = q) := by
  unfold eqD toPy
  cases p <;> cases q <;> decide
theorem dep_int : dep (.int m) ≤ 50 := by
  unfold dep toPy
  simp [PyData.depth]
theorem dep_str : dep (.str s) ≤ 50 := by
  unfold dep toPy
  simp [PyData.depth]
theorem c_eqI (h : R (decide (m = n))) : semCmp .Eq (.int m) (.int n) R := ⟨⟨dep_int, dep_int⟩, by rw [eqD_int]; exact h⟩
theorem c_neI (h : R (!decide (m = n))) : semCmp .NotEq (.int m) (.int n) R := ⟨⟨dep_int, dep_int⟩, by rw [eqD_int]; exact h⟩
theorem c_eqS (h : R (decide (s = u))) : semCmp .Eq (.str s) (.str u) R := ⟨⟨dep_str, dep_str⟩, by rw [eqD_str]; exact h⟩
theorem c_neS (h : R (!decide (s = u))) : semCmp .NotEq (.str s) (.str u) R := ⟨⟨dep_str, dep_str⟩, by rw [eqD_str]; exact h⟩
theorem c_eq (hz : dep x ≤ 50 ∧ dep y ≤ 50) (h : R (eqD x y)) : semCmp .Eq x y R := ⟨hz, h⟩
theorem c_ne (hz : dep x ≤ 50 ∧ dep y ≤ 50) (h : R (!eqD x y)) : semCmp .NotEq x y R := ⟨hz, h⟩
theorem c_lt (h : R (decide (m < n))) : semCmp .Lt (.int m) (.int n) R := h
theorem c_le (h : R (decide (m ≤ n))) : semCmp .LtE (.int m) (.int n) R := h
theorem c_gt (h : R (decide (n < m))) : semCmp .Gt (.int m) (.int n) R := h
theorem c_ge (h : R (decide (n ≤ m))) : semCmp .GtE (.int m) (.int n) R := h
theorem c_inS {c : Nat} (h : R (decide (c ∈ u.cps.toList))) : semCmp .In (.str ⟨#[c]⟩) (.str u) R := ⟨c, rfl, h⟩
theorem c_ninS {c : Nat} (h : R (!decide (c ∈ u.cps.toList))) : semCmp .NotIn (.str ⟨#[c]⟩) (.str u) R := ⟨c, rfl, h⟩
theorem dep_nils : dep (.lst []) ≤ 50 := by
  unfold dep
  simp [toPy, toPys, PyData.depth, PyData.depthAll]
theorem depAll_strs : ∀ l : List Str, PyData.depthAll (toPys (l.map D.str)) ≤ 1
  | [] => by simp [toPys, PyData.depthAll]
  | x :: r => by
    have := depAll_strs r
    simp only [List.map_cons, toPys, toPy, PyData.depthAll, PyData.depth]
    omega
theorem dep_lstS {l : List Str} : dep (.lst (l.map D.str)) ≤ 50 := by
  have := depAll_strs l
  unfold dep
  simp only [toPy, PyData.depth]
  omega
theorem dep_tupS {l : List Str} : dep (.tup (l.map D.str)) ≤ 50 := by
  have := depAll_strs l
  unfold dep
  simp only [toPy, PyData.depth]
  omega
theorem any_strs (k : Str) : ∀ l : List Str, ((l.map D.str).any fun y => eqD y (.str k)) = decide (k ∈ l)
  | [] => rfl
  | x :: r => by
    rw [List.map_cons, List.any_cons, any_strs k r, eqD_str]
    by_cases z : x = k
    · simp [z]
    · have : ¬ k = x := fun y => z y.symm
      simp [z, this]
theorem c_inLS {k : Str} {l : List Str} (h : R (decide (k ∈ l))) : semCmp .In (.str k) (.lst (l.map .str)) R := ⟨⟨dep_str, dep_lstS⟩, by rw [any_strs]; exact h⟩
theorem c_inTS {k : Str} {l : List Str} (h : R (decide (k ∈ l))) : semCmp .In (.str k) (.tup (l.map .str)) R := ⟨⟨dep_str, dep_tupS⟩, by rw [any_strs]; exact h⟩
theorem c_ninLS {k : Str} {l : List Str} (h : R (!decide (k ∈ l))) : semCmp .NotIn (.str k) (.lst (l.map .str)) R := ⟨⟨dep_str, dep_lstS⟩, by rw [any_strs]; exact h⟩
theorem c_ninTS {k : Str} {l : List Str} (h : R (!decide (k ∈ l))) : semCmp .NotIn (.str k) (.tup (l.map .str)) R := ⟨⟨dep_str, dep_tupS⟩, by rw [any_strs]; exact h⟩
theorem c_inDc {k : Str} {ks : List Str} {l : List D} (h : R (decide (k ∈ ks))) : semCmp .In (.str k) (.dct ks l) R := h
theorem c_ninDc {k : Str} {ks : List Str} {l : List D} (h : R (!decide (k ∈ ks))) : semCmp .NotIn (.str k) (.dct ks l) R := h
theorem c_isN {x : D} (h : R (isNon x)) : semCmp .Is x .non R := h
theorem c_isnN {x : D} (h : R (!isNon x)) : semCmp .IsNot x .non R := h
theorem c_isB {a b : Bool} (h : R (decide (a = b))) : semCmp .Is (.bl a) (.bl b) R := h
theorem c_isnB {a b : Bool} (h : R (!decide (a = b))) : semCmp .IsNot (.bl a) (.bl b) R := h
theorem c_inL {l : List D} (hz : dep x ≤ 50 ∧ dep (.lst l) ≤ 50) (h : R (l.any fun y => eqD y x)) : semCmp .In x (.lst l) R := by
  cases x <;> exact ⟨hz, h⟩
theorem c_inT {l : List D} (hz : dep x ≤ 50 ∧ dep (.tup l) ≤ 50) (h : R (l.any fun y => eqD y x)) : semCmp .In x (.tup l) R := by
  cases x <;> exact ⟨hz, h⟩
end
/-! statements -/
section
variable {nx bk ct : List O → Prop} {rt : O → List O → Prop} {ex : EXC} {s : PSt} {r bd bd2 : List PSt}
theorem i_b0 (h : nx Γ) : semB gl Φ [] Γ ⟨nx, rt, bk, ct, ex⟩ := by unfold semB; exact h
theorem i_b1 (h : semS gl Φ s Γ ⟨fun Γ1 => semB gl Φ r Γ1 ⟨nx, rt, bk, ct, ex⟩, rt, bk, ct, ex⟩) : semB gl Φ (s :: r) Γ ⟨nx, rt, bk, ct, ex⟩ := by unfold semB; exact h
theorem i_asgT (h : sem gl Φ e Γ (fun o Γ1 => i < Γ1.length ∧ ∃ d, asD o = some d ∧ nx (Γ1.set i (.sh d))) ex) : semS gl Φ (.asg i true e) Γ ⟨nx, rt, bk, ct, ex⟩ := by unfold semS; simpa using h
theorem i_asgF (h : sem gl Φ e Γ (fun o Γ1 => i < Γ1.length ∧ nx (Γ1.set i o)) ex) : semS gl Φ (.asg i false e) Γ ⟨nx, rt, bk, ct, ex⟩ := by unfold semS; simpa using h
theorem i_asg2 {is : List Nat} (h : sem gl Φ e Γ (fun o Γ1 => ∃ d Γ2, asD o = some d ∧ setT (.tp is) d Γ1 = some Γ2 ∧ nx Γ2) ex) : semS gl Φ (.asgT is e) Γ ⟨nx, rt, bk, ct, ex⟩ := by unfold semS; exact h
theorem i_exp (h : sem gl Φ e Γ (fun _ Γ1 => nx Γ1) ex) : semS gl Φ (.exp e) Γ ⟨nx, rt, bk, ct, ex⟩ := by unfold semS; exact h
theorem i_ret (h : sem gl Φ e Γ rt ex) : semS gl Φ (.ret e) Γ ⟨nx, rt, bk, ct, ex⟩ := by unfold semS; exact h
theorem i_ite (h : sem gl Φ t Γ (fun o Γ1 => ∃ x, o = .sh (.bl x) ∧ (if x = true then semB gl Φ bd Γ1 ⟨nx, rt, bk, ct, ex⟩ else semB gl Φ bd2 Γ1 ⟨nx, rt, bk, ct, ex⟩)) ex) : semS gl Φ (.ite t bd bd2) Γ ⟨nx, rt, bk, ct, ex⟩ := by unfold semS; exact h
theorem i_whl (W : Nat → List O → Prop) (m : Nat) (h0 : W m Γ) (h : ∀ m Γ1, W m Γ1 → sem gl Φ t Γ1 (fun o Γ2 => ∃ x, o = .sh (.bl x) ∧ (if x = true then
      semB gl Φ bd Γ2 ⟨fun Γ3 => ∃ m', m' < m ∧ W m' Γ3, rt, nx, fun Γ3 => ∃ m', m' < m ∧ W m' Γ3, ex⟩ else nx Γ2)) ex) : semS gl Φ (.whl t bd) Γ ⟨nx, rt, bk, ct, ex⟩ := by unfold semS; exact ⟨W, ⟨m, h0⟩, h⟩
theorem i_for {tg : Tgt} (h : semI gl Φ e Γ (fun ds Γ1 => ∃ W : Nat → List O → Prop, W 0 Γ1 ∧ (∀ i d Γ2, ds[i]? = some d → W i Γ2 → ∃ Γ3, setT tg d Γ2 = some Γ3 ∧
      semB gl Φ bd Γ3 ⟨W (i + 1), rt, nx, W (i + 1), ex⟩) ∧ ∀ Γ2, W ds.length Γ2 → nx Γ2) ex) : semS gl Φ (.for_ tg e bd) Γ ⟨nx, rt, bk, ct, ex⟩ := by unfold semS; exact h
theorem i_rse {C : EC} (h : sem gl Φ e Γ (fun o Γ1 => ∃ n, o = .sh (.int n) ∧ ex C n Γ1) ex) : semS gl Φ (.rse C e) Γ ⟨nx, rt, bk, ct, ex⟩ := by unfold semS; exact h
theorem i_tryR (h : semB gl Φ bd Γ ⟨nx, rt, bk, ct, fun C n Γ1 => rt (.sh (ecD C n)) Γ1⟩) : semS gl Φ (.tryR bd i) Γ ⟨nx, rt, bk, ct, ex⟩ := by unfold semS; exact h
theorem i_tryA (h : semB gl Φ bd Γ ⟨nx, rt, bk, ct, fun C n Γ1 => j < Γ1.length ∧ nx ((Γ1.set j (.sh (ecD C n))).set i .un)⟩) : semS gl Φ (.tryA bd i j) Γ ⟨nx, rt, bk, ct, ex⟩ := by unfold semS; exact h
theorem i_setf {cn fl : Str} (h : sem gl Φ e Γ (fun o Γ1 => ∃ p fs os, Γ1[i]? = some (.ins p cn fs os) ∧ fs.length < 1000 ∧ nx (Γ1.set i (.ins p cn (putO fs os fl o).1 (putO fs os fl o).2))) ex) : semS gl Φ (.setf cn i fl e) Γ ⟨nx, rt, bk, ct, ex⟩ := by unfold semS; exact h
theorem i_dput {kx : PEx} (h : sem gl Φ e Γ (fun o Γ1 => ∃ d, asD o = some d ∧ (∃ ks vs, Γ1[i]? = some (.dct ks vs)) ∧ sem gl Φ kx Γ1 (fun o2 Γ2 => ∃ x ks vs, o2 = .sh (.str x) ∧ Γ2[i]? = some (.dct ks vs) ∧ ks.length < 1000000 ∧ nx (Γ2.set i (.dct (putD ks vs x (.sh d)).1 (putD ks vs x (.sh d)).2))) ex) ex) : semS gl Φ (.dput i kx e) Γ ⟨nx, rt, bk, ct, ex⟩ := by unfold semS; exact h
theorem i_dputF {cn fl : Str} (h : sem gl Φ e Γ (fun o Γ1 => ∃ x p fs os ks vs, Γ1[j]? = some (.sh (.str x)) ∧ Γ1[i]? = some (.ins p cn fs os) ∧ lookF fs os fl = some (.dct ks vs) ∧ ks.length < 1000000 ∧ (x ∈ ks → ∃ d, o = .sh d) ∧
      nx (Γ1.set i (.ins p cn (putO fs os fl (.dct (putD ks vs x o).1 (putD ks vs x o).2)).1 (putO fs os fl (.dct (putD ks vs x o).1 (putD ks vs x o).2)).2))) ex) : semS gl Φ (.dputF cn i fl j e) Γ ⟨nx, rt, bk, ct, ex⟩ := by unfold semS; exact h
theorem i_tryN (h : semB gl Φ bd Γ ⟨nx, rt, bk, ct, fun _ _ _ => False⟩) : semS gl Φ (.tryN bd) Γ ⟨nx, rt, bk, ct, ex⟩ := by unfold semS; exact h
theorem i_par2 (h : sem gl Φ a Γ (fun o Γ1 => sem gl Φ b Γ1 (fun o2 Γ2 => i < Γ2.length ∧ j < Γ2.length ∧ nx ((Γ2.set i o).set j o2)) ex) ex) : semS gl Φ (.par2 i j a b) Γ ⟨nx, rt, bk, ct, ex⟩ := by unfold semS; exact h
theorem i_par3 (h : sem gl Φ a Γ (fun o Γ1 => sem gl Φ b Γ1 (fun o2 Γ2 => sem gl Φ e Γ2 (fun o3 Γ3 => i < Γ3.length ∧ j < Γ3.length ∧ k < Γ3.length ∧ nx (((Γ3.set i o).set j o2).set k o3)) ex) ex) ex) : semS gl Φ (.par3 i j k a b e) Γ ⟨nx, rt, bk, ct, ex⟩ := by unfold semS; exact h
theorem i_pas (h : nx Γ) : semS gl Φ .pas Γ ⟨nx, rt, bk, ct, ex⟩ := by unfold semS; exact h
theorem i_brk (h : bk Γ) : semS gl Φ .brk Γ ⟨nx, rt, bk, ct, ex⟩ := by unfold semS; exact h
theorem i_cnt (h : ct Γ) : semS gl Φ .cnt Γ ⟨nx, rt, bk, ct, ex⟩ := by unfold semS; exact h
end
end
/-! ### equality of data -/
theorem eqD_refl (x : D) : eqD x x = true := SeqAt.eqv_refl_plain _ (toPy_plain x)
theorem eqD_lnil : eqD (.lst []) (.lst []) = true := eqD_refl _
theorem eqD_lcons {a b : D} {as bs : List D} : eqD (.lst (a :: as)) (.lst (b :: bs)) = (eqD a b && eqD (.lst as) (.lst bs)) := by
  unfold eqD
  simp only [toPy, toPys, PyData.eqv, PyData.eqvAll]
theorem eqD_tcons {a b : D} {as bs : List D} : eqD (.tup (a :: as)) (.tup (b :: bs)) = (eqD a b && eqD (.tup as) (.tup bs)) := by
  unfold eqD
  simp only [toPy, toPys, PyData.eqv, PyData.eqvAll]
theorem eqD_tnil : eqD (.tup []) (.tup []) = true := eqD_refl _
theorem eqD_tn {b : D} {bs : List D} : eqD (.tup []) (.tup (b :: bs)) = false := by
  unfold eqD
  simp only [toPy, toPys, PyData.eqv, PyData.eqvAll]
theorem eqD_nt {b : D} {bs : List D} : eqD (.tup (b :: bs)) (.tup []) = false := by
  unfold eqD
  simp only [toPy, toPys, PyData.eqv, PyData.eqvAll]
theorem eqD_ln {b : D} {bs : List D} : eqD (.lst []) (.lst (b :: bs)) = false := by
  unfold eqD
  simp only [toPy, toPys, PyData.eqv, PyData.eqvAll]
theorem eqD_nl {b : D} {bs : List D} : eqD (.lst (b :: bs)) (.lst []) = false := by
  unfold eqD
  simp only [toPy, toPys, PyData.eqv, PyData.eqvAll]
theorem eqD_lst0 {l : List D} : eqD (.lst l) (.lst []) = decide (l = []) := by
  cases l with
  | nil => rw [eqD_refl] <;> rfl
  | cons a r => rw [eqD_nl] <;> rfl
theorem eqD_scr0 {ns : List Int} : eqD (.scr ns) (.lst []) = decide (ns = []) := by
  unfold eqD
  cases ns with
  | nil => simp [toPy, toPys, PyData.eqv, PyData.eqvAll]
  | cons a r => simp [toPy, toPys, PyData.eqv, PyData.eqvAll]
theorem dep_nil : dep (.lst []) ≤ 50 := by
  unfold dep
  simp [toPy, toPys, PyData.depth, PyData.depthAll]
/-- a method's text means its promise -/
abbrev MeanM (gl : List D) (Φ : Fns) (c : Cfs) (b : List PSt) (s : MSpec) : Prop := (∀ (p : Addr) (cn : Str) (fs : List Str) (os : List O) (ds : List D), ds.length = s.np → s.pre (.ins p cn fs os) ds → semB gl Φ b (gamM c.N.length (.ins p cn fs os) ds)
  ⟨fun Γ => ∃ fs' os', Γ[0]? = some (.ins p cn fs' os') ∧ s.out (.ins p cn fs os) ds = (.ok (.sh .non), .ins p cn fs' os'), fun r Γ => ∃ fs' os', Γ[0]? = some (.ins p cn fs' os') ∧ s.out (.ins p cn fs os) ds = (.ok r, .ins p cn fs' os'), fun _ => False, fun _ => False, fun C n Γ => ∃ fs' os', Γ[0]? = some (.ins p cn fs' os') ∧ s.out (.ins p cn fs os) ds = (.error (C, n), .ins p cn fs' os')⟩) ∧
  ∀ o ds, s.pre o ds → ∃ p cn fs os, o = .ins p cn fs os
/-- a def's text means its promise -/
abbrev Mean (gl : List D) (Φ : Fns) (c : Cfs) (b : List PSt) (s : FSpec) : Prop := ∀ ds : List D, ds.length = s.np → s.pre ds → semB gl Φ b (gam0 c.N.length ds) ⟨fun _ => s.out ds = .ok (.sh .non), fun o _ => s.out ds = .ok o, fun _ => False, fun _ => False, fun C n _ => s.out ds = .error (C, n)⟩
end PW

end
section
set_option Elab.async false
set_option linter.all false
set_option maxRecDepth 100000
set_option maxHeartbeats 400000
/-! PX2: what all laws of this book share: _law_cell, _law_drawn; indices, slices. -/
namespace PW
open PySem PySem.Spec PyProof.Rows L2
theorem atI_in {α : Type} {xs : List α} {i : Int} (h0 : 0 ≤ i) (h1 : i < xs.length) : ∃ v, atI xs i = some v ∧ xs[i.toNat]? = some v := by
  have hl : i.toNat < xs.length := by omega
  have e : xs[i.toNat]? = some xs[i.toNat] := by simp [hl]
  refine ⟨_, ?_, e⟩
  have z := atI_nat e
  rwa [Int.toNat_of_nonneg h0] at z
theorem mulOk_r {a b : Int} (h1 : -(2 ^ 64) < b) (h2 : b < 2 ^ 64) : mulOk a b := .inl (.inr ⟨h1, h2⟩)
theorem mulOk_l {a b : Int} (h1 : -(2 ^ 64) < a) (h2 : a < 2 ^ 64) : mulOk a b := .inl (.inl ⟨h1, h2⟩)
theorem log2_lt {n k : Nat} (h : n < 2 ^ k) (hk : 0 < k) : n.log2 < k := by
  by_cases z : n = 0
  · subst z
    simpa using hk
  · exact (Nat.log2_lt z).mpr h
theorem mulOk_big {a b : Int} (ha : 0 ≤ a) (hb : 0 ≤ b) (h1 : a < 2 ^ 1000) (h2 : b < 2 ^ 1000) : mulOk a b := by
  refine .inr ?_
  have e1 : a.natAbs < 2 ^ 1000 := by
    have : (a.natAbs : Int) = a := Int.natAbs_of_nonneg ha
    have h3 : ((a.natAbs : Nat) : Int) < ((2 ^ 1000 : Nat) : Int) := by rw [this]; simpa using h1
    exact Int.ofNat_lt.mp h3
  have e2 : b.natAbs < 2 ^ 1000 := by
    have : (b.natAbs : Int) = b := Int.natAbs_of_nonneg hb
    have h3 : ((b.natAbs : Nat) : Int) < ((2 ^ 1000 : Nat) : Int) := by rw [this]; simpa using h2
    exact Int.ofNat_lt.mp h3
  have f1 := log2_lt e1 (by decide)
  have f2 := log2_lt e2 (by decide)
  omega
theorem dep_scr {ns : List Int} : dep (.scr ns) ≤ 50 := by
  have : ∀ l : List Int, PyData.depthAll (l.map PyData.int) ≤ 1 := by
    intro l
    induction l with
    | nil => simp [PyData.depthAll]
    | cons a r ih =>
      simp only [List.map_cons, PyData.depthAll, PyData.depth]
      omega
  have := this ns
  unfold dep
  simp only [toPy, PyData.depth]
  omega
theorem ex_eq {α : Type} {o : Option α} {v : α} {P : α → Prop} (e : o = some v) (h : P v) : ∃ x, o = some x ∧ P x := ⟨v, e, h⟩
theorem ex_bl {x : Bool} {P : Bool → Prop} (h : P x) : ∃ b, O.sh (D.bl x) = O.sh (D.bl b) ∧ P b := ⟨x, rfl, h⟩
theorem ex_int {x : Int} {P : Int → Prop} (h : P x) : ∃ b, O.sh (D.int x) = O.sh (D.int b) ∧ P b := ⟨x, rfl, h⟩
theorem ex_str {x : Str} {P : Str → Prop} (h : P x) : ∃ b, O.sh (D.str x) = O.sh (D.str b) ∧ P b := ⟨x, rfl, h⟩
theorem ex_lst {l : List D} {P : List D → Prop} (h : P l) : ∃ b, asD (O.sh (D.lst l)) = some (D.lst b) ∧ P b := ⟨l, rfl, h⟩
theorem ex_lstO {l : List D} {P : List D → Prop} (h : P l) : ∃ b, asD (O.lst (l.map O.sh)) = some (D.lst b) ∧ P b := ⟨l, by unfold asD; rw [asDs_sh] <;> rfl, h⟩
theorem ex_tup {l : List D} {P : List D → Prop} (h : P l) : ∃ b, asD (O.sh (D.tup l)) = some (D.tup b) ∧ P b := ⟨l, rfl, h⟩
theorem ex_asL {l : List D} {P : D → Prop} (h : P (.lst l)) : ∃ x, asD (O.lst (l.map O.sh)) = some x ∧ P x := ⟨_, by unfold asD; rw [asDs_sh] <;> rfl, h⟩
theorem ex_isi {d : D} {t : String} {b : Bool} {P : Bool → Prop} (e : isiD d t = some b) (h : P b) : ∃ x b, asD (O.sh d) = some x ∧ isiD x t = some b ∧ P b := ⟨d, b, rfl, e, h⟩
theorem and_lt {i n : Nat} {P : Prop} (e : Nat.ble (i + 1) n = true) (h : P) : i < n ∧ P := ⟨Nat.le_of_ble_eq_true e, h⟩
theorem and_le {i n : Nat} {P : Prop} (e : Nat.ble i n = true) (h : P) : i ≤ n ∧ P := ⟨Nat.le_of_ble_eq_true e, h⟩
theorem and_val {Γ : List O} {x : Bool} {P : Bool → Prop} (h : P x) : Γ = Γ ∧ ∃ b, O.sh (D.bl x) = O.sh (D.bl b) ∧ P b := ⟨rfl, x, rfl, h⟩
theorem and_b {b : Bool} {P : Prop} (e : b = true) (h : P) : b = true ∧ P := ⟨e, h⟩
local macro_rules | `(tactic| walk_at "pw") => `(tactic| first | with_reducible apply i_for | with_reducible apply i_rng1 | with_reducible apply i_rng2 | with_reducible apply i_itL | with_reducible apply i_itT | with_reducible apply i_itS | with_reducible apply i_enm | with_reducible apply i_lc | with_reducible apply i_t0 | with_reducible apply i_t1 | with_reducible apply i_b1 | with_reducible apply i_b0 | with_reducible apply i_asgT | with_reducible apply i_asgF | with_reducible apply i_exp | with_reducible apply i_ret | with_reducible apply i_ite | with_reducible apply i_rse | with_reducible apply i_tryR | with_reducible apply i_tryA | with_reducible apply i_pas | with_reducible apply i_brk | with_reducible apply i_cnt | with_reducible apply i_c | with_reducible apply i_bin | with_reducible apply i_cmp | with_reducible apply i_not | with_reducible apply i_neg | with_reducible apply i_ifx | with_reducible apply i_tup | with_reducible apply i_lst | with_reducible apply i_lst1 | with_reducible apply i_sub | with_reducible apply i_slc | with_reducible apply i_cal | with_reducible apply i_prm | with_reducible apply i_mth | with_reducible apply i_isi | with_reducible apply i_peek | with_reducible apply i_a1 | with_reducible apply i_a0 | with_reducible apply i_o1 | with_reducible apply i_o0 | with_reducible apply b_addI | with_reducible apply b_sub | with_reducible apply c_eqI | with_reducible apply c_neI | with_reducible apply c_eqS | with_reducible apply c_neS | with_reducible apply c_lt | with_reducible apply c_le | with_reducible apply c_gt | with_reducible apply c_ge | with_reducible apply i_ifT | with_reducible apply i_ifF | with_reducible apply p_lenL | with_reducible apply p_lenT | with_reducible apply p_lenR | with_reducible apply p_intI | with_reducible apply p_intB | with_reducible apply p_max | with_reducible apply p_min | with_reducible apply p_listL | with_reducible apply p_listT | with_reducible apply p_tupL | with_reducible apply z_lst | with_reducible apply z_tup | with_reducible apply ex_bl | with_reducible apply ex_int | with_reducible apply ex_str | with_reducible apply ex_lst | with_reducible apply ex_tup | with_reducible apply ex_lstO | with_reducible apply ex_asL | with_reducible apply and_val | ((with_reducible apply i_var); rfl) | ((with_reducible apply i_glb); rfl) | ((with_reducible apply i_app); rfl) | ((with_reducible apply s_tup); rfl) | ((with_reducible apply s_lst); rfl) | ((with_reducible apply and_lt); rfl) | ((with_reducible apply and_le); rfl) | ((with_reducible apply ex_isi); rfl) | ((with_reducible apply ex_eq); rfl) | ((with_reducible apply and_b); rfl) | with_reducible apply b_mul (mulOk_r (by decide) (by decide)) | with_reducible apply b_mul (mulOk_l (by decide) (by decide)) | with_reducible apply b_mod (by decide) | with_reducible apply b_fdiv ⟨by decide, by decide⟩)
/-! ### _law_cell -/
def cellI (ns : List Int) (k : Int) : Int := if ns = [] then k * 7919 else ns.getD (k % ns.length).toNat 0 + k / ns.length * 104729
def sp_cell : FSpec := { np := 2, pre := fun ds => ∃ ns k, ds = [.scr ns, .int k] ∧ ns.length ≤ 63, out := fun ds => match ds with
  | [.scr ns, .int k] => .ok (.sh (.int (cellI ns k)))
  | _ => .ok (.sh .non) }
def b_cell : List PSt := [(.ite (.cmp .Eq (.var 0) (.lst [])) [(.ret (.bin .mul (.var 1) (.c (.int 7919))))] []),
  (.ret (.bin .add (.sub (.var 0) (.bin .mod (.var 1) (.prm .len [(.var 0)]))) (.bin .mul (.bin .fdiv (.var 1) (.prm .len [(.var 0)])) (.c (.int 104729)))))]
theorem m_cell {gl : List D} {Φ : Fns} {c : Cfs} (hc : c.N.length = 2) : Mean gl Φ c b_cell sp_cell := by
  rintro ds - ⟨ns, k, rfl, hl⟩
  rw [hc]
  unfold b_cell
  repeat walk_at "pw"
  refine c_eq ⟨dep_scr, dep_nil⟩ ?_
  rw [eqD_scr0]
  repeat walk_at "pw"
  refine i_if (fun h => ?_) (fun h => ?_)
  · have e : ns = [] := of_decide_eq_true h
    repeat walk_at "pw"
    subst e
    rfl
  · have e : ns ≠ [] := of_decide_eq_false h
    have hp : 0 < ns.length := List.length_pos_iff.mpr e
    repeat walk_at "pw"
    refine b_mod (by omega) ?_
    repeat walk_at "pw"
    obtain ⟨v, e1, e2⟩ := atI_in (xs := ns) (i := k % ns.length) (Int.emod_nonneg _ (by omega)) (Int.emod_lt_of_pos _ (by omega))
    refine s_scr e1 ?_
    repeat walk_at "pw"
    refine b_fdiv ⟨by omega, ?_⟩ ?_
    · exact Nat.lt_of_lt_of_le (log2_lt (k := 64) (by omega) (by decide)) (by decide)
    repeat walk_at "pw"
    show Except.ok (O.sh (D.int (cellI ns k))) = _
    unfold cellI
    rw [if_neg e, List.getD_eq_getElem?_getD, e2] <;> rfl
/-! ### _law_drawn -/
def dr1 (c k : Int) : Int := (c * 6364136223846793005 + (k + 1) * 1442695040888963407) % 340282366920938463463374607431768211507
def dr2 (c k : Int) : Int := dr1 c k * dr1 c k % 340282366920938463463374607431768211297
def drI (c k : Int) : Int := (dr2 c k % 18446744073709551557 + 1) * (dr2 c k / 18446744073709551557 + 1) * dr2 c k % 340282366920938463463374607431768211507
theorem drI_nn (c k : Int) : 0 ≤ drI c k := Int.emod_nonneg _ (by decide)
theorem drI_lt (c k : Int) : drI c k < 340282366920938463463374607431768211507 := Int.emod_lt_of_pos _ (by decide)
def sp_drawn : FSpec := { np := 2, pre := fun ds => ∃ c k, ds = [.int c, .int k], out := fun ds => match ds with
  | [.int c, .int k] => .ok (.sh (.int (drI c k)))
  | _ => .ok (.sh .non) }
def b_drawn : List PSt := [(.asg 2 true (.bin .mod (.bin .add (.bin .mul (.var 0) (.c (.int 6364136223846793005))) (.bin .mul (.bin .add (.var 1) (.c (.int 1))) (.c (.int 1442695040888963407)))) (.c (.int 340282366920938463463374607431768211507)))),
  (.asg 2 true (.bin .mod (.bin .mul (.var 2) (.var 2)) (.c (.int 340282366920938463463374607431768211297)))),
  (.asg 2 true (.bin .mul (.bin .mul (.bin .add (.bin .mod (.var 2) (.c (.int 18446744073709551557))) (.c (.int 1))) (.bin .add (.bin .fdiv (.var 2) (.c (.int 18446744073709551557))) (.c (.int 1)))) (.var 2))),
  (.ret (.bin .mod (.var 2) (.c (.int 340282366920938463463374607431768211507))))]
theorem m_drawn {gl : List D} {Φ : Fns} {c : Cfs} (hc : c.N.length = 3) : Mean gl Φ c b_drawn sp_drawn := by
  rintro ds - ⟨n, k, rfl⟩
  rw [hc]
  unfold b_drawn
  repeat walk_at "pw"
  have a1 : 0 ≤ dr1 n k := Int.emod_nonneg _ (by decide)
  have a2 : dr1 n k < 340282366920938463463374607431768211507 := Int.emod_lt_of_pos _ (by decide)
  have a3 : 0 ≤ dr2 n k := Int.emod_nonneg _ (by decide)
  have a4 : dr2 n k < 340282366920938463463374607431768211297 := Int.emod_lt_of_pos _ (by decide)
  have big : (340282366920938463463374607431768211507 : Int) < 2 ^ 1000 := by decide +kernel
  have big2 : (340282366920938463463374607431768211507 * 340282366920938463463374607431768211507 : Int) < 2 ^ 1000 := by decide +kernel
  refine b_mul (m := dr1 n k) (n := dr1 n k) (mulOk_big a1 a1 (by omega) (by omega)) ?_
  show ∃ x, asD (O.sh (D.int (dr1 n k * dr1 n k))) = some x ∧ _
  repeat walk_at "pw"
  have q1 : 0 ≤ dr2 n k % 18446744073709551557 := Int.emod_nonneg _ (by decide)
  have q2 : dr2 n k % 18446744073709551557 < 18446744073709551557 := Int.emod_lt_of_pos _ (by decide)
  have q3 : 0 ≤ dr2 n k / 18446744073709551557 := by omega
  have q4 : dr2 n k / 18446744073709551557 < 340282366920938463463374607431768211297 := by omega
  refine b_mul (m := dr2 n k % 18446744073709551557 + 1) (n := dr2 n k / 18446744073709551557 + 1) (mulOk_big (by omega) (by omega) (by omega) (by omega)) ?_
  repeat walk_at "pw"
  have q5 : 0 ≤ (dr2 n k % 18446744073709551557 + 1) * (dr2 n k / 18446744073709551557 + 1) := Int.mul_nonneg (by omega) (by omega)
  have q6 : (dr2 n k % 18446744073709551557 + 1) * (dr2 n k / 18446744073709551557 + 1) ≤ 340282366920938463463374607431768211507 * 340282366920938463463374607431768211507 := Int.mul_le_mul (by omega) (by omega) (by omega) (by omega)
  refine b_mul (n := dr2 n k) (mulOk_big q5 a3 (by omega) (by omega)) ?_
  repeat walk_at "pw"
  rfl
end PW

end
section
set_option Elab.async false
set_option linter.all false
set_option maxRecDepth 100000
set_option maxHeartbeats 4000000
/-! PX3: what is wanted may be weakened; tests joined by and, or, taken as one. -/
namespace PW
open PySem PySem.Spec PyProof.Rows L2
theorem semBin_mono {op : Bop} {x y : D} {R R' : O → Prop} (h : ∀ z, R z → R' z) (q : semBin op x y R) : semBin op x y R' := by
  unfold semBin at q ⊢
  split at q <;> first | exact h _ q | exact ⟨q.1, h _ q.2⟩ | exact q.elim
theorem semCmp_mono {op : CmpOp} {x y : D} {R R' : Bool → Prop} (h : ∀ z, R z → R' z) (q : semCmp op x y R) : semCmp op x y R' := by
  unfold semCmp at q ⊢
  split at q <;> first | exact h _ q | exact ⟨q.1, h _ q.2⟩ | (obtain ⟨c, e, q⟩ := q; exact ⟨c, e, h _ q⟩) | exact q.elim
theorem semSub_mono {x y : D} {R R' : O → Prop} (h : ∀ z, R z → R' z) (q : semSub x y R) : semSub x y R' := by
  unfold semSub at q ⊢
  split at q <;> first | (obtain ⟨c, e, q⟩ := q; exact ⟨c, e, h _ q⟩) | (obtain ⟨z, c, e, q⟩ := q; exact ⟨z, c, e, h _ q⟩) | exact q.elim
theorem semSlc_mono {x : D} {lo hi : Option Int} {R R' : O → Prop} (h : ∀ z, R z → R' z) (q : semSlc x lo hi R) : semSlc x lo hi R' := by
  unfold semSlc at q ⊢
  split at q <;> first | exact h _ q | exact ⟨q.1, h _ q.2⟩ | exact q.elim
theorem semPrm_mono {p : Prm} {ds : List D} {R R' : O → Prop} (h : ∀ z, R z → R' z) (q : semPrm p ds R) : semPrm p ds R' := by
  unfold semPrm at q ⊢
  split at q <;> first | exact h _ q | exact ⟨q.1, h _ q.2⟩ | (obtain ⟨c, e, q⟩ := q; exact ⟨c, e, h _ q⟩) | (obtain ⟨c, e, z, q⟩ := q; exact ⟨c, e, z, h _ q⟩) | exact q.elim
theorem semMth_mono {m : Mth} {x : D} {ds : List D} {R R' : O → Prop} (h : ∀ z, R z → R' z) (q : semMth m x ds R) : semMth m x ds R' := by
  unfold semMth at q ⊢
  split at q <;> first | exact ⟨q.1, h _ q.2⟩ | (obtain ⟨ys, e, z, q⟩ := q; exact ⟨ys, e, z, h _ q⟩) | (obtain ⟨a, j, z, c, d, e, q⟩ := q; exact ⟨a, j, z, c, d, e, h _ q⟩) | exact q.elim
section
variable {gl : List D} {Φ : Fns}
mutual
theorem sem_mono : ∀ (p : PEx) {Γ : List O} {R R' : O → List O → Prop} {E E' : EXC}, (∀ o Γ, R o Γ → R' o Γ) → (∀ C n Γ, E C n Γ → E' C n Γ) → sem gl Φ p Γ R E → sem gl Φ p Γ R' E'
  | .c d, Γ, R, R', E, E', hR, hE, h => by unfold sem at h ⊢; exact hR _ _ h
  | .glb k, Γ, R, R', E, E', hR, hE, h => by unfold sem at h ⊢; obtain ⟨d, e, h⟩ := h; exact ⟨d, e, hR _ _ h⟩
  | .var i, Γ, R, R', E, E', hR, hE, h => by
    unfold sem at h ⊢
    split at h
    · exact hR _ _ h
    · exact hR _ _ h
    · obtain ⟨d, e, h⟩ := h
      exact ⟨d, e, hR _ _ h⟩
    · exact h.elim
  | .mov i, Γ, R, R', E, E', hR, hE, h => by
    unfold sem at h ⊢
    split at h
    · exact h.elim
    · exact hR _ _ h
    · exact h.elim
  | .bin op a b, Γ, R, R', E, E', hR, hE, h => by
    unfold sem at h ⊢
    exact sem_mono a (fun o Γ1 ⟨x, e, h⟩ => ⟨x, e, sem_mono b (fun o2 Γ2 ⟨y, e2, h⟩ => ⟨y, e2, semBin_mono (fun z hz => hR _ _ hz) h⟩) hE h⟩) hE h
  | .cmp op a b, Γ, R, R', E, E', hR, hE, h => by
    unfold sem at h ⊢
    exact sem_mono a (fun o Γ1 ⟨x, e, h⟩ => ⟨x, e, sem_mono b (fun o2 Γ2 ⟨y, e2, h⟩ => ⟨y, e2, semCmp_mono (fun z hz => hR _ _ hz) h⟩) hE h⟩) hE h
  | .and a b, Γ, R, R', E, E', hR, hE, h => by
    unfold sem at h ⊢
    refine sem_mono a (fun o Γ1 ⟨x, e, h⟩ => ⟨x, e, ?_⟩) hE h
    cases x with
    | true => exact i_ifT (sem_mono b hR hE (by simpa using h))
    | false => exact i_ifF (hR _ _ (by simpa using h))
  | .or a b, Γ, R, R', E, E', hR, hE, h => by
    unfold sem at h ⊢
    refine sem_mono a (fun o Γ1 ⟨x, e, h⟩ => ⟨x, e, ?_⟩) hE h
    cases x with
    | true => exact i_ifT (hR _ _ (by simpa using h))
    | false => exact i_ifF (sem_mono b hR hE (by simpa using h))
  | .not a, Γ, R, R', E, E', hR, hE, h => by
    unfold sem at h ⊢
    exact sem_mono a (fun o Γ1 ⟨x, e, h⟩ => ⟨x, e, hR _ _ h⟩) hE h
  | .neg a, Γ, R, R', E, E', hR, hE, h => by
    unfold sem at h ⊢
    exact sem_mono a (fun o Γ1 ⟨x, e, h⟩ => ⟨x, e, hR _ _ h⟩) hE h
  | .ifx t a b, Γ, R, R', E, E', hR, hE, h => by
    unfold sem at h ⊢
    refine sem_mono t (fun o Γ1 ⟨x, e, h⟩ => ⟨x, e, ?_⟩) hE h
    cases x with
    | true => exact i_ifT (sem_mono a hR hE (by simpa using h))
    | false => exact i_ifF (sem_mono b hR hE (by simpa using h))
  | .tup es, Γ, R, R', E, E', hR, hE, h => by
    unfold sem at h ⊢
    exact semA_mono es (fun ds Γ1 ⟨z, h⟩ => ⟨z, hR _ _ h⟩) hE h
  | .lst es, Γ, R, R', E, E', hR, hE, h => by
    unfold sem at h ⊢
    exact semA_mono es (fun ds Γ1 ⟨z, h⟩ => ⟨z, hR _ _ h⟩) hE h
  | .lst1 e, Γ, R, R', E, E', hR, hE, h => by
    unfold sem at h ⊢
    exact sem_mono e (fun o Γ1 h => hR _ _ h) hE h
  | .sub a b, Γ, R, R', E, E', hR, hE, h => by
    unfold sem at h ⊢
    exact sem_mono a (fun o Γ1 ⟨x, e, h⟩ => ⟨x, e, sem_mono b (fun o2 Γ2 ⟨y, e2, h⟩ => ⟨y, e2, semSub_mono (fun z hz => hR _ _ hz) h⟩) hE h⟩) hE h
  | .slc a lo hi, Γ, R, R', E, E', hR, hE, h => by
    unfold sem at h ⊢
    exact sem_mono a (fun o Γ1 ⟨x, e, h⟩ => ⟨x, e, semO_mono lo (fun l Γ2 h => semO_mono hi (fun u Γ3 h => semSlc_mono (fun z hz => hR _ _ hz) h) hE h) hE h⟩) hE h
  | .cal f es, Γ, R, R', E, E', hR, hE, h => by
    unfold sem at h ⊢
    refine semA_mono es (fun ds Γ1 ⟨s, e, l, p, h⟩ => ⟨s, e, l, p, ?_⟩) hE h
    split
    · rename_i o eo
      rw [eo] at h
      exact hR _ _ h
    · rename_i C n eo
      rw [eo] at h
      exact hE _ _ _ h
  | .prm f es, Γ, R, R', E, E', hR, hE, h => by
    unfold sem at h ⊢
    exact semA_mono es (fun ds Γ1 h => semPrm_mono (fun z hz => hR _ _ hz) h) hE h
  | .mth m o es, Γ, R, R', E, E', hR, hE, h => by
    unfold sem at h ⊢
    exact sem_mono o (fun o1 Γ1 ⟨x, e, z, h⟩ => ⟨x, e, z, semA_mono es (fun ds Γ2 h => semMth_mono (fun z hz => hR _ _ hz) h) hE h⟩) hE h
  | .isi e t, Γ, R, R', E, E', hR, hE, h => by
    unfold sem at h ⊢
    exact sem_mono e (fun o Γ1 ⟨x, b, e1, e2, h⟩ => ⟨x, b, e1, e2, hR _ _ h⟩) hE h
  | .app i e, Γ, R, R', E, E', hR, hE, h => by
    unfold sem at h ⊢
    exact ⟨h.1, sem_mono e (fun o Γ1 ⟨os, e1, z, h⟩ => ⟨os, e1, z, hR _ _ h⟩) hE h.2⟩
  | .appL i j, Γ, R, R', E, E', hR, hE, h => by
    unfold sem at h ⊢
    obtain ⟨os, ps, d, h1, h2, h3, h⟩ := h
    exact ⟨os, ps, d, h1, h2, h3, hR _ _ h⟩
  | .ext i e, Γ, R, R', E, E', hR, hE, h => by
    unfold sem at h ⊢
    exact ⟨h.1, sem_mono e (fun o Γ1 ⟨ds, os, e1, e2, z, h⟩ => ⟨ds, os, e1, e2, z, hR _ _ h⟩) hE h.2⟩
  | .peek e, Γ, R, R', E, E', hR, hE, h => by
    unfold sem at h ⊢
    exact sem_mono e (fun o Γ1 ⟨e1, d, e2, e3, h⟩ => ⟨e1, d, e2, e3, hR _ _ h⟩) (fun _ _ _ h => h) h
  | .lc elt tg it t, Γ, R, R', E, E', hR, hE, h => by
    unfold sem at h ⊢
    exact semI_mono it (fun ds Γ1 ⟨z, f, h1, h⟩ => ⟨z, f, h1, hR _ _ h⟩) hE h
  | .fld cn e f, Γ, R, R', E, E', hR, hE, h => by
    unfold sem at h ⊢
    exact sem_mono e (fun o Γ1 ⟨fs, ds, d, e1, e2, h⟩ => ⟨fs, ds, d, e1, e2, hR _ _ h⟩) hE h
  | .fldv cn i f, Γ, R, R', E, E', hR, hE, h => by
    unfold sem at h ⊢
    obtain ⟨p, fs, os, o, d, e1, e2, e3, h⟩ := h
    exact ⟨p, fs, os, o, d, e1, e2, e3, hR _ _ h⟩
  | .mcl k cn m e es, Γ, R, R', E, E', hR, hE, h => by
    unfold sem at h ⊢
    refine sem_mono e (fun o Γ1 ⟨fs, ds, e1, e2, h⟩ => ⟨fs, ds, e1, e2, semA_mono es (fun as Γ2 ⟨s, a1, a2, a3, h⟩ => ⟨s, a1, a2, a3, ?_⟩) hE h⟩) hE h
    split
    · rename_i o eo
      rw [eo] at h
      exact hR _ _ h
    · rename_i C n eo
      rw [eo] at h
      exact hE _ _ _ h
  | .mcv k cn m i es, Γ, R, R', E, E', hR, hE, h => by
    unfold sem at h ⊢
    refine ⟨h.1, semA_mono es (fun as Γ2 ⟨p, fs, os, s, a0, a1, a2, a3, h⟩ => ⟨p, fs, os, s, a0, a1, a2, a3, ?_⟩) hE h.2⟩
    split
    · rename_i o o' eo
      rw [eo] at h
      exact hR _ _ h
    · rename_i C n o' eo
      rw [eo] at h
      exact hE _ _ _ h
  | .new k cn es, Γ, R, R', E, E', hR, hE, h => by
    unfold sem at h ⊢
    refine semA_mono es (fun as Γ2 ⟨s, a1, a2, h⟩ => ⟨s, a1, a2, fun p => ⟨(h p).1, ?_⟩⟩) hE h
    have h := (h p).2
    split
    · rename_i o o' eo
      rw [eo] at h
      exact ⟨h.1, hR _ _ h.2⟩
    · rename_i x o' eo
      rw [eo] at h
      exact h
  | .mct k cn m e es, Γ, R, R', E, E', hR, hE, h => by
    unfold sem at h ⊢
    refine sem_mono e (fun o Γ1 ⟨p, fs, os, e1, e2, h⟩ => ⟨p, fs, os, e1, e2, semA_mono es (fun as Γ2 ⟨s, a1, a2, a3, h⟩ => ⟨s, a1, a2, a3, ?_⟩) hE h⟩) hE h
    split
    · rename_i o o' eo
      rw [eo] at h
      exact hR _ _ h
    · rename_i C n o' eo
      rw [eo] at h
      exact hE _ _ _ h
  | .mctP k cn m f e es, Γ, R, R', E, E', hR, hE, h => by
    unfold sem at h ⊢
    refine sem_mono e (fun o Γ1 ⟨p, fs, os, M, e1, e2, e3, h⟩ => ⟨p, fs, os, M, e1, e2, e3, fun v => semA_mono es (fun as Γ2 ⟨s, a1, a2, a3, h⟩ => ⟨s, a1, a2, a3, ?_⟩) hE (h v)⟩) hE h
    split
    · rename_i o o' eo
      rw [eo] at h
      exact hR _ _ h
    · rename_i C n o' eo
      rw [eo] at h
      exact hE _ _ _ h
  | .lenset e, Γ, R, R', E, E', hR, hE, h => by
    unfold sem at h ⊢
    exact sem_mono e (fun o Γ1 ⟨xs, e1, e2, h⟩ => ⟨xs, e1, e2, hR _ _ h⟩) hE h
  | .sortset e, Γ, R, R', E, E', hR, hE, h => by
    unfold sem at h ⊢
    exact sem_mono e (fun o Γ1 ⟨xs, e1, e2, h⟩ => ⟨xs, e1, e2, hR _ _ h⟩) hE h
  | .dnew, Γ, R, R', E, E', hR, hE, h => by unfold sem at h ⊢; exact hR _ _ h
  | .dpopF cn i f j, Γ, R, R', E, E', hR, hE, h => by
    unfold sem at h ⊢
    obtain ⟨x, p, fs, os, ks, vs, e1, e2, e3, h⟩ := h
    exact ⟨x, p, fs, os, ks, vs, e1, e2, e3, hR _ _ h⟩
  | .tup2 a b, Γ, R, R', E, E', hR, hE, h => by
    unfold sem at h ⊢
    exact sem_mono a (fun o Γ1 h => sem_mono b (fun o2 Γ2 h => hR _ _ h) hE h) hE h
  | .dgetv i k, Γ, R, R', E, E', hR, hE, h => by
    unfold sem at h ⊢
    exact ⟨h.1, sem_mono k (fun o Γ1 ⟨x, ks, os, d, e1, e2, e3, h⟩ => ⟨x, ks, os, d, e1, e2, e3, hR _ _ h⟩) hE h.2⟩
  | .lend j e, Γ, R, R', E, E', hR, hE, h => by
    unfold sem at h ⊢
    obtain ⟨o, d, e0, e1, h⟩ := h
    exact ⟨o, d, e0, e1, sem_mono e (fun r Γ1 ⟨a1, a2, a3, h⟩ => ⟨a1, a2, a3, hR _ _ h⟩) (fun C n Γ1 ⟨a1, a2, h⟩ => ⟨a1, a2, hE _ _ _ h⟩) h⟩
  | .pinD i e, Γ, R, R', E, E', hR, hE, h => by
    unfold sem at h ⊢
    obtain ⟨ks, ds, e0, h⟩ := h
    exact ⟨ks, ds, e0, fun vs l => sem_mono e (fun r Γ1 ⟨a1, h⟩ => ⟨a1, hR _ _ h⟩) (fun C n Γ1 ⟨a1, h⟩ => ⟨a1, hE _ _ _ h⟩) (h vs l)⟩
  | .pop i, Γ, R, R', E, E', hR, hE, h => by
    unfold sem at h ⊢
    obtain ⟨ds, d, e1, h⟩ := h
    exact ⟨ds, d, e1, hR _ _ h⟩
  | .dget2 d k e, Γ, R, R', E, E', hR, hE, h => by
    unfold sem at h ⊢
    exact sem_mono d (fun o Γ1 ⟨ks, ds, e1, h⟩ => ⟨ks, ds, e1, sem_mono k (fun o2 Γ2 ⟨x, e2, h⟩ => ⟨x, e2, sem_mono e (fun o3 Γ3 ⟨d3, e3, h⟩ => ⟨d3, e3, hR _ _ h⟩) hE h⟩) hE h⟩) hE h
  | .dpop i k, Γ, R, R', E, E', hR, hE, h => by
    unfold sem at h ⊢
    exact ⟨h.1, sem_mono k (fun o Γ1 ⟨x, ks, vs, e1, e2, e3, h⟩ => ⟨x, ks, vs, e1, e2, e3, hR _ _ h⟩) hE h.2⟩
  | .orL a b, Γ, R, R', E, E', hR, hE, h => by
    unfold sem at h ⊢
    refine sem_mono a (fun o Γ1 ⟨d, e1, h⟩ => ⟨d, e1, ?_⟩) hE h
    split at h
    · exact sem_mono b hR hE h
    · exact hR _ _ h
    · exact sem_mono b hR hE h
    · exact h.elim
  | .lapp cn i f e, Γ, R, R', E, E', hR, hE, h => by
    unfold sem at h ⊢
    obtain ⟨p, fs, os, d, e0, ed, hl, h⟩ := h
    exact ⟨p, fs, os, d, e0, ed, hl, sem_mono e (fun o Γ1 ⟨a, b, c, ls, d, z, h⟩ => ⟨a, b, c, ls, d, z, hR _ _ h⟩) (fun C n Γ1 ⟨a, b, h⟩ => ⟨a, b, hE _ _ _ h⟩) h⟩
  | .lext cn i f e, Γ, R, R', E, E', hR, hE, h => by
    unfold sem at h ⊢
    obtain ⟨p, fs, os, d, e0, ed, hl, h⟩ := h
    exact ⟨p, fs, os, d, e0, ed, hl, sem_mono e (fun o Γ1 ⟨dr, a0, ds, ls, a1, a, b, c, d, z, h⟩ => ⟨dr, a0, ds, ls, a1, a, b, c, d, z, hR _ _ h⟩) (fun C n Γ1 ⟨a, b, h⟩ => ⟨a, b, hE _ _ _ h⟩) h⟩
  | .lpop cn i f, Γ, R, R', E, E', hR, hE, h => by
    unfold sem at h ⊢
    obtain ⟨p, fs, os, ls, d, e0, ef, h⟩ := h
    exact ⟨p, fs, os, ls, d, e0, ef, hR _ _ h⟩
  | .told i q e, Γ, R, R', E, E', hR, hE, h => by
    unfold sem at h ⊢
    exact ⟨h.1, sem_mono e hR (fun C n Γ1 h => hR _ _ h) h.2⟩
  | .cmp2 op op2 a b d, Γ, R, R', E, E', hR, hE, h => by
    unfold sem at h ⊢
    refine sem_mono a (fun o Γ1 ⟨x, e, h⟩ => ⟨x, e, sem_mono b (fun o2 Γ2 ⟨y, e2, h⟩ => ⟨y, e2, semCmp_mono (fun z hz => ?_) h⟩) hE h⟩) hE h
    cases z with
    | true =>
      rw [if_pos rfl] at hz ⊢
      exact sem_mono d (fun o3 Γ3 ⟨w, e3, h⟩ => ⟨w, e3, semCmp_mono (fun z2 hz2 => hR _ _ hz2) h⟩) hE hz
    | false =>
      rw [if_neg (by decide)] at hz ⊢
      exact hR _ _ hz
  | .frz e, Γ, R, R', E, E', hR, hE, h => by
    unfold sem at h ⊢
    exact sem_mono e (fun o Γ1 ⟨ks, ds, e1, h⟩ => ⟨ks, ds, e1, hR _ _ h⟩) hE h
  | .rpl e y z, Γ, R, R', E, E', hR, hE, h => by
    unfold sem at h ⊢
    exact sem_mono e (fun o Γ1 ⟨x, e1, e2, h⟩ => ⟨x, e1, e2, hR _ _ h⟩) hE h
  | .appT e, Γ, R, R', E, E', hR, hE, h => by
    unfold sem at h ⊢
    exact sem_mono e (fun o Γ1 ⟨os, e1, e2, h⟩ => ⟨os, e1, e2, hR _ _ h⟩) hE h
  | .jnk, Γ, R, R', E, E', hR, hE, h => by unfold sem at h; exact h.elim
  | .rng1 _, Γ, R, R', E, E', hR, hE, h => by unfold sem at h; exact h.elim
  | .rng2 _ _, Γ, R, R', E, E', hR, hE, h => by unfold sem at h; exact h.elim
  | .itL _, Γ, R, R', E, E', hR, hE, h => by unfold sem at h; exact h.elim
  | .itT _, Γ, R, R', E, E', hR, hE, h => by unfold sem at h; exact h.elim
  | .itS _, Γ, R, R', E, E', hR, hE, h => by unfold sem at h; exact h.elim
  | .itD _, Γ, R, R', E, E', hR, hE, h => by unfold sem at h; exact h.elim
  | .enm _, Γ, R, R', E, E', hR, hE, h => by unfold sem at h; exact h.elim
  | .zip _ _, Γ, R, R', E, E', hR, hE, h => by unfold sem at h; exact h.elim
theorem semA_mono : ∀ (es : List PEx) {Γ : List O} {R R' : List D → List O → Prop} {E E' : EXC}, (∀ o Γ, R o Γ → R' o Γ) → (∀ C n Γ, E C n Γ → E' C n Γ) → semA gl Φ es Γ R E → semA gl Φ es Γ R' E'
  | [], Γ, R, R', E, E', hR, hE, h => by unfold semA at h ⊢; exact hR _ _ h
  | e :: es, Γ, R, R', E, E', hR, hE, h => by
    unfold semA at h ⊢
    exact sem_mono e (fun o Γ1 ⟨d, e1, h⟩ => ⟨d, e1, semA_mono es (fun ds Γ2 h => hR _ _ h) hE h⟩) hE h
theorem semO_mono : ∀ (o : Option PEx) {Γ : List O} {R R' : Option Int → List O → Prop} {E E' : EXC}, (∀ o Γ, R o Γ → R' o Γ) → (∀ C n Γ, E C n Γ → E' C n Γ) → semO gl Φ o Γ R E → semO gl Φ o Γ R' E'
  | none, Γ, R, R', E, E', hR, hE, h => by unfold semO at h ⊢; exact hR _ _ h
  | some e, Γ, R, R', E, E', hR, hE, h => by
    unfold semO at h ⊢
    exact sem_mono e (fun o Γ1 ⟨i, e1, h⟩ => ⟨i, e1, hR _ _ h⟩) hE h
theorem semI_mono : ∀ (p : PEx) {Γ : List O} {R R' : List D → List O → Prop} {E E' : EXC}, (∀ o Γ, R o Γ → R' o Γ) → (∀ C n Γ, E C n Γ → E' C n Γ) → semI gl Φ p Γ R E → semI gl Φ p Γ R' E'
  | p, Γ, R, R', E, E', hR, hE, h => by
    cases p with
    | rng1 e => unfold semI at h ⊢; exact sem_mono e (fun o Γ1 ⟨n, e1, z, h⟩ => ⟨n, e1, z, hR _ _ h⟩) hE h
    | rng2 a b => unfold semI at h ⊢; exact sem_mono a (fun o Γ1 ⟨n, e1, h⟩ => ⟨n, e1, sem_mono b (fun o2 Γ2 ⟨m, e2, z, h⟩ => ⟨m, e2, z, hR _ _ h⟩) hE h⟩) hE h
    | itL e => unfold semI at h ⊢; exact sem_mono e (fun o Γ1 ⟨n, e1, h⟩ => ⟨n, e1, hR _ _ h⟩) hE h
    | itT e => unfold semI at h ⊢; exact sem_mono e (fun o Γ1 ⟨n, e1, h⟩ => ⟨n, e1, hR _ _ h⟩) hE h
    | itS e => unfold semI at h ⊢; exact sem_mono e (fun o Γ1 ⟨n, e1, h⟩ => ⟨n, e1, hR _ _ h⟩) hE h
    | itD i => unfold semI at h ⊢; obtain ⟨ks, ds, ⟨e1, h⟩ | ⟨e1, h⟩⟩ := h <;> first | exact ⟨ks, ds, .inl ⟨e1, hR _ _ h⟩⟩ | exact ⟨ks, ds, .inr ⟨e1, hR _ _ h⟩⟩
    | enm e => unfold semI at h ⊢; exact sem_mono e (fun o Γ1 ⟨n, e1, h⟩ => ⟨n, e1, hR _ _ h⟩) hE h
    | zip a b => unfold semI at h ⊢; exact sem_mono a (fun o Γ1 ⟨n, e1, h⟩ => ⟨n, e1, sem_mono b (fun o2 Γ2 ⟨m, e2, h⟩ => ⟨m, e2, hR _ _ h⟩) hE h⟩) hE h
    | _ => unfold semI at h; exact h.elim
end
/-- an expression that changes nothing has the value d -/
abbrev Val (gl : List D) (Φ : Fns) (p : PEx) (Γ : List O) (d : D) : Prop := sem gl Φ p Γ (fun o Γ1 => Γ1 = Γ ∧ o = .sh d) noX
variable {Γ : List O} {R : O → List O → Prop} {E : EXC} {a b : PEx} {x y : Bool} {d : D}
theorem Val.use {p : PEx} (h : Val gl Φ p Γ d) (k : R (.sh d) Γ) : sem gl Φ p Γ R E := sem_mono p (fun o Γ1 ⟨e1, e2⟩ => by rw [e1, e2]; exact k) (fun _ _ _ z => z.elim) h
theorem Val.and (ha : Val gl Φ a Γ (.bl x)) (hb : x = true → Val gl Φ b Γ (.bl y)) : Val gl Φ (.and a b) Γ (.bl (x && y)) := by
  refine i_and (ha.use ⟨x, rfl, ?_⟩)
  cases x with
  | true => exact i_ifT (hb rfl)
  | false => exact i_ifF ⟨rfl, rfl⟩
theorem Val.or (ha : Val gl Φ a Γ (.bl x)) (hb : x = false → Val gl Φ b Γ (.bl y)) : Val gl Φ (.or a b) Γ (.bl (x || y)) := by
  refine i_or (ha.use ⟨x, rfl, ?_⟩)
  cases x with
  | true => exact i_ifT ⟨rfl, rfl⟩
  | false => exact i_ifF (hb rfl)
theorem Val.not (ha : Val gl Φ a Γ (.bl x)) : Val gl Φ (.not a) Γ (.bl (!x)) := i_not (ha.use ⟨x, rfl, rfl, rfl⟩)
/-- a test joined by and -/
theorem i_andV (ha : Val gl Φ a Γ (.bl x)) (hb : x = true → Val gl Φ b Γ (.bl y)) (k : R (.sh (.bl (x && y))) Γ) : sem gl Φ (.and a b) Γ R E := (ha.and hb).use k
theorem i_orV (ha : Val gl Φ a Γ (.bl x)) (hb : x = false → Val gl Φ b Γ (.bl y)) (k : R (.sh (.bl (x || y))) Γ) : sem gl Φ (.or a b) Γ R E := (ha.or hb).use k
end
end PW

end
section
set_option Elab.async false
set_option linter.all false
set_option maxRecDepth 100000
set_option maxHeartbeats 4000000
/-! PX4: the defs of a text one behind another; the end. -/
namespace PW
open PySem PySem.Spec PyProof.Rows L2
section
variable {P : Program} {w : World} {K : PySem.W.Frag} {mg : Str → Option Value} {base : Heap} {ca : EC → Addr} {Φ : Fns} {fns : List FnN} {sx : Bool}
/-- the first n defs are at hand -/
def Av (sx : Bool) (P : Program) (w : World) (K : PySem.W.Frag) (mg : Str → Option Value) (base : Heap) (ca : EC → Addr) (fns : List FnN) (Φ : Fns) (n k : Nat) : Prop := ∀ (j : Nat) (y : FnN), (fns.take n)[j]? = some y → HasAt sx P w K mg base ca Φ k j y
theorem av_nil {k : Nat} : Av sx P w K mg base ca fns Φ 0 k := fun j y e => by
  rw [List.take_zero] at e
  simp at e
theorem FnAt.mono {k k' : Nat} {x : Str} {s : FSpec} (h : FnAt sx P w K mg base ca k x s) (hk : k ≤ k') : FnAt sx P w K mg base ca k' x s := by
  obtain ⟨fa, fd, ps, j, hj, r⟩ := h
  exact ⟨fa, fd, ps, j, Nat.le_trans hj hk, r⟩
theorem HasAt.mono {k k' j : Nat} {y : FnN} (h : HasAt sx P w K mg base ca Φ k j y) (hk : k ≤ k') : HasAt sx P w K mg base ca Φ k' j y := by
  cases y with
  | fn x =>
    obtain ⟨s, e, h⟩ := h
    exact ⟨s, e, h.mono hk⟩
  | me cn m =>
    obtain ⟨s, e, fa, fd, ps, i, hi, r⟩ := h
    exact ⟨s, e, fa, fd, ps, i, Nat.le_trans hi hk, r⟩
  | mu cn m =>
    obtain ⟨s, e, fa, fd, ps, i, hi, r⟩ := h
    exact ⟨s, e, fa, fd, ps, i, Nat.le_trans hi hk, r⟩
  | ini cn =>
    obtain ⟨s, e, fa, fd, ps, i, hi, r⟩ := h
    exact ⟨s, e, fa, fd, ps, i, Nat.le_trans hi hk, r⟩
theorem av_succ {n k k' : Nat} {x : FnN} (h : Av sx P w K mg base ca fns Φ n k) (e : fns[n]? = some x) (hk : k ≤ k') (F : HasAt sx P w K mg base ca Φ k' n x) : Av sx P w K mg base ca fns Φ (n + 1) k' := by
  intro j y q
  rw [List.take_succ, e] at q
  by_cases hj : j < (fns.take n).length
  · rw [List.getElem?_append_left hj] at q
    exact (h j y q).mono hk
  · rw [List.getElem?_append_right (by omega)] at q
    have hl : (fns.take n).length = n := by
      rw [List.length_take]
      have := (List.getElem?_eq_some_iff.mp e).1
      omega
    have e3 : j - (fns.take n).length = 0 := by
      have := (List.getElem?_eq_some_iff.mp q).1
      simp at this
      omega
    have e4 : j = n := by omega
    rw [e3] at q
    simp only [Option.toList, List.getElem?_cons_zero, Option.some.injEq] at q
    subst q e4
    exact F
section
variable {gl : List D} {c : Cfs} {x qual cn m : Str} {params : Arguments} {body : List Stmt} {f : Addr} {fd : FuncData} {ps : List Str} {n k : Nat} {pb : List PSt}
/-- a def joins -/
theorem fn_at {s : FSpec} (e : Φ n = some s) (wl : Wld P w K mg base ca gl c.gls c.flds c.ecs c.lw c.tn) (F : FunD K x qual params body c.sc [] [] f fd) (S : FnScope c.N ps c.sc) (hst : c.st = c.sc) (hk : 5 ≤ k) (hnp : s.np = ps.length)
    (hchk : chkB c pb body = true) (av : Av sx P w K mg base ca fns Φ n k) (hn : c.fns = fns.take n) (hsx : c.sx = sx) (hus : c.us = false) (hb : Binds K fd ps []) (hm : mg x = some (.ref f)) (hsem : Mean gl Φ c pb s) (hlt : c.lt = false := by first | rfl | assumption) : HasAt sx P w K mg base ca Φ (k + 1) n (.fn x) := by
  subst hsx
  exact ⟨s, e, f, fd, ps, k + 1, Nat.le_refl _, fn_snd wl F S hst hk hnp hchk (fun j y e => av j y (by rw [← hn]; exact e)) (fun z => (nomatch hus.symm.trans z)) hsem, hm, F.kp, hb⟩
theorem me_at {s : FSpec} (e : Φ n = some s) (wl : Wld P w K mg base ca gl c.gls c.flds c.ecs c.lw c.tn) (F : FunD K x qual params body c.sc [] [] f fd) (S : FnScope c.N ps c.sc) (hst : c.st = c.sc) (hk : 5 ≤ k) (hnp : s.np = ps.length)
    (hchk : chkB c pb body = true) (av : Av sx P w K mg base ca fns Φ n k) (hn : c.fns = fns.take n) (hsx : c.sx = sx) (hus : c.us = false) (hb : Binds K fd ps []) (hcl : Cls K (clA K cn)) (hme : Meth K (clA K cn) m f) (hsem : Mean gl Φ c pb s) (hlt : c.lt = false := by first | rfl | assumption) : HasAt sx P w K mg base ca Φ (k + 1) n (.me cn m) := by
  subst hsx
  exact ⟨s, e, f, fd, ps, k + 1, Nat.le_refl _, hcl, hme, fn_snd wl F S hst hk hnp hchk (fun j y e => av j y (by rw [← hn]; exact e)) (fun z => (nomatch hus.symm.trans z)) hsem, hb⟩
theorem mu_at {s : MSpec} (e : Φ.m n = some s) (wl : Wld P w K mg base ca gl c.gls c.flds c.ecs c.lw c.tn) (F : FunD K x qual params body c.sc [] [] f fd) (S : FnScope c.N ps c.sc) (hst : c.st = c.sc) (hk : 5 ≤ k) (hnp : s.np + 1 = ps.length)
    (hchk : chkB c pb body = true) (av : Av sx P w K mg base ca fns Φ n k) (hn : c.fns = fns.take n) (hsx : c.sx = sx) (hus : c.us = false) (hb : Binds K fd ps []) (hcl : Cls K (clA K cn)) (hme : Meth K (clA K cn) m f) (hsem : MeanM gl Φ c pb s) (hlt : c.lt = false := by first | rfl | assumption) : HasAt sx P w K mg base ca Φ (k + 1) n (.mu cn m) := by
  subst hsx
  exact ⟨s, e, f, fd, ps, k + 1, Nat.le_refl _, hcl, hme, fn_sndM wl F S hst hk hnp hchk (fun j y e => av j y (by rw [← hn]; exact e)) (fun z => (nomatch hus.symm.trans z)) hsem.1 hsem.2, hb⟩
theorem ini_at {s : MSpec} (e : Φ.m n = some s) (wl : Wld P w K mg base ca gl c.gls c.flds c.ecs c.lw c.tn) (F : FunD K x qual params body c.sc [] [] f fd) (S : FnScope c.N ps c.sc) (hst : c.st = c.sc) (hk : 5 ≤ k) (hnp : s.np + 1 = ps.length)
    (hchk : chkB c pb body = true) (av : Av sx P w K mg base ca fns Φ n k) (hn : c.fns = fns.take n) (hsx : c.sx = sx) (hus : c.us = false) (hb : Binds K fd ps []) (hmk : Mk K (clA K cn) f) (hm : mg cn = some (.ref (clA K cn))) (hsem : MeanM gl Φ c pb s) (hlt : c.lt = false := by first | rfl | assumption) : HasAt sx P w K mg base ca Φ (k + 2) n (.ini cn) := by
  subst hsx
  exact ⟨s, e, f, fd, ps, k + 1, Nat.le_refl _, hmk, fn_sndM wl F S hst hk hnp hchk (fun j y e => av j y (by rw [← hn]; exact e)) (fun z => (nomatch hus.symm.trans z)) hsem.1 hsem.2, hm, hb⟩
end
end
def sp_law1 : FSpec := { np := 1, pre := fun ds => ∃ ns, ds = [.scr ns] ∧ ns.length ≤ 63, out := fun _ => .ok (.sh (.bl true)) }
theorem end_sp {K : PySem.W.Frag} {ca : EC → Addr} {H : Hp} {a : Addr} {ns : List Int} (hl : ns.length ≤ 63) (hS : SqL K H a (ns.map V.int)) : spOf K ca sp_law1 [.ref a] H (fun v _ => v = .bl true) fun _ _ _ => False := by
  refine ⟨H, [.scr ns], fun _ _ e => e, .cons (.scr hS) .nil, rfl, ⟨ns, rfl, hl⟩, fun o e => ?_, fun C n e => ?_⟩
  · have e1 : Except.ok (O.sh (D.bl true)) = Except.ok o := e
    cases e1
    intro v o S G' H' _ _ _ _ r _ e2
    subst e2
    have z := r.sh_inv.1
    cases z
    rfl
  · cases e
theorem end_cx {sx : Bool} {P : Program} {w : World} (H : Hp) (s : Shared) (e : Value) (s' : Shared) (h : L2M.CX sx P w [] H s (fun _ _ _ => False) e s') : False := by
  obtain ⟨_, _, _, _, _, _, _, _, _, _, _, _, _, _, z⟩ := h
  exact z
/-- a law's end: as HandS has it, for calls that let out what L2N tells -/
theorem walk_ofN {sx : Bool} {l : PySem.W.OpenLaw} {n k : Nat} {q : Program} {loose : List Str} {XP : (Str → Option Value) → Heap → Prop} {YP : World → Heap → Prop} {d : DefRec} {x : Str}
    (hn : l.most = some n) (hn2 : n ≤ sizeLine) (hdf : d.params.defaults = []) (hr : Room k callerA)
    (F : ∀ (w : World) (mg : Str → Option Value) (fa : Addr) (h : Heap), YP w h → h.Ns mainGlobals mg → mg d.name = some (.ref fa) →
      ∃ (K : PySem.W.Frag) (fd : FuncData) (sp : Sp), K.In h ∧ (∀ (s : Shared) (u : Value), BindsTo s fd ⟨[u], []⟩ [(x, u)]) ∧
        (∀ (H : Hp) (a : Addr) (ns : List Int), ns.length ≤ n → SqL K H a (ns.map V.int) → sp [.ref a] H (fun v _ => v = .bl true) fun _ _ _ => False) ∧
        ∀ base : Heap, K.In base → base.Ns mainGlobals mg → FnOk l.prog w K mg base (L2M.CX sx l.prog w) k fa fd [x] sp) :
    PySem.W.WalkO q loose XP YP l.row.toRowW d [] (fun f vs => PySem.call f vs) := by
  refine Att.attach_call hn hdf fun w s₀ s₁ mg mb fa o pm cd doc a vs ns G Y ho hd hcd hmg hobj hints hlen hg => ?_
  obtain ⟨K, fd, sp, KX, hb, hsp, hF⟩ := F w mg fa _ Y G.T.g hmg
  exact law_call KX G.T.g G.T.b G.T.builtins G.T.nolimit hg hobj hints (Nat.le_trans hlen hn2) hr hF hb (fun H hO hS => hsp H a ns hlen hS) fun H e s' => end_cx H s₁ e s'
end PW

end
section
set_option Elab.async false
set_option linter.all false
set_option maxRecDepth 100000
set_option maxHeartbeats 4000000
/-! PX5: defs that call fewer than all ahead of them; defs that call one another. -/
namespace PW
open PySem PySem.Spec PyProof.Rows L2
section
variable {P : Program} {w : World} {K : PySem.W.Frag} {mg : Str → Option Value} {base : Heap} {ca : EC → Addr} {Φ : Fns} {fns : List FnN} {sx : Bool}
theorem av_le {m n k : Nat} (h : Av sx P w K mg base ca fns Φ n k) (hm : m ≤ n) : Av sx P w K mg base ca fns Φ m k := fun j y e => h j y (by
  rw [List.getElem?_take] at e ⊢
  split at e
  · rw [if_pos (by omega)]; exact e
  · cases e)
section
variable {gl : List D} {c : Cfs} {x qual cn m : Str} {params : Arguments} {body : List Stmt} {f : Addr} {fd : FuncData} {ps : List Str} {n n' k : Nat} {pb : List PSt}
theorem fn_at2 {s : FSpec} (e : Φ n = some s) (wl : Wld P w K mg base ca gl c.gls c.flds c.ecs c.lw c.tn) (F : FunD K x qual params body c.sc [] [] f fd) (S : FnScope c.N ps c.sc) (hst : c.st = c.sc) (hk : 5 ≤ k) (hnp : s.np = ps.length)
    (hchk : chkB c pb body = true) (av : Av sx P w K mg base ca fns Φ n' k) (hn : c.fns = fns.take n') (hsx : c.sx = sx) (hus : c.us = false) (hb : Binds K fd ps []) (hm : mg x = some (.ref f)) (hsem : Mean gl Φ c pb s) (hlt : c.lt = false := by first | rfl | assumption) : HasAt sx P w K mg base ca Φ (k + 1) n (.fn x) := by
  subst hsx
  exact ⟨s, e, f, fd, ps, k + 1, Nat.le_refl _, fn_snd wl F S hst hk hnp hchk (fun j y e => av j y (by rw [← hn]; exact e)) (fun z => (nomatch hus.symm.trans z)) hsem, hm, F.kp, hb⟩
theorem me_at2 {s : FSpec} (e : Φ n = some s) (wl : Wld P w K mg base ca gl c.gls c.flds c.ecs c.lw c.tn) (F : FunD K x qual params body c.sc [] [] f fd) (S : FnScope c.N ps c.sc) (hst : c.st = c.sc) (hk : 5 ≤ k) (hnp : s.np = ps.length)
    (hchk : chkB c pb body = true) (av : Av sx P w K mg base ca fns Φ n' k) (hn : c.fns = fns.take n') (hsx : c.sx = sx) (hus : c.us = false) (hb : Binds K fd ps []) (hcl : Cls K (clA K cn)) (hme : Meth K (clA K cn) m f) (hsem : Mean gl Φ c pb s) (hlt : c.lt = false := by first | rfl | assumption) : HasAt sx P w K mg base ca Φ (k + 1) n (.me cn m) := by
  subst hsx
  exact ⟨s, e, f, fd, ps, k + 1, Nat.le_refl _, hcl, hme, fn_snd wl F S hst hk hnp hchk (fun j y e => av j y (by rw [← hn]; exact e)) (fun z => (nomatch hus.symm.trans z)) hsem, hb⟩
/-- a method of an owned thing, its promise told by the one that stands behind (Φ') -/
theorem mu_at2 {Φ' : Fns} {s : MSpec} (e : Φ'.m n = some s) (wl : Wld P w K mg base ca gl c.gls c.flds c.ecs c.lw c.tn) (F : FunD K x qual params body c.sc [] [] f fd) (S : FnScope c.N ps c.sc) (hst : c.st = c.sc) (hk : 5 ≤ k) (hnp : s.np + 1 = ps.length)
    (hchk : chkB c pb body = true) (av : Av sx P w K mg base ca fns Φ n' k) (hn : c.fns = fns.take n') (hsx : c.sx = sx) (hus : c.us = false) (hb : Binds K fd ps []) (hcl : Cls K (clA K cn)) (hme : Meth K (clA K cn) m f) (hsem : MeanM gl Φ c pb s) (hlt : c.lt = false := by first | rfl | assumption) : HasAt sx P w K mg base ca Φ' (k + 1) n (.mu cn m) := by
  subst hsx
  exact ⟨s, e, f, fd, ps, k + 1, Nat.le_refl _, hcl, hme, fn_sndM wl F S hst hk hnp hchk (fun j y e => av j y (by rw [← hn]; exact e)) (fun z => (nomatch hus.symm.trans z)) hsem.1 hsem.2, hb⟩
theorem ini_at2 {s : MSpec} (e : Φ.m n = some s) (wl : Wld P w K mg base ca gl c.gls c.flds c.ecs c.lw c.tn) (F : FunD K x qual params body c.sc [] [] f fd) (S : FnScope c.N ps c.sc) (hst : c.st = c.sc) (hk : 5 ≤ k) (hnp : s.np + 1 = ps.length)
    (hchk : chkB c pb body = true) (av : Av sx P w K mg base ca fns Φ n' k) (hn : c.fns = fns.take n') (hsx : c.sx = sx) (hus : c.us = false) (hb : Binds K fd ps []) (hmk : Mk K (clA K cn) f) (hm : mg cn = some (.ref (clA K cn))) (hsem : MeanM gl Φ c pb s) (hlt : c.lt = false := by first | rfl | assumption) : HasAt sx P w K mg base ca Φ (k + 2) n (.ini cn) := by
  subst hsx
  exact ⟨s, e, f, fd, ps, k + 1, Nat.le_refl _, hmk, fn_sndM wl F S hst hk hnp hchk (fun j y e => av j y (by rw [← hn]; exact e)) (fun z => (nomatch hus.symm.trans z)) hsem.1 hsem.2, hm, hb⟩
/-- a promise that asks what is never met -/
theorem vac_at {s : MSpec} (e : Φ.m n = some s) (hv : ∀ o ds, ¬ s.pre o ds) (hb : Binds K fd ps []) (hcl : Cls K (clA K cn)) (hme : Meth K (clA K cn) m f) : HasAt sx P w K mg base ca Φ k n (.mu cn m) :=
  ⟨s, e, f, fd, ps, k, Nat.le_refl _, hcl, hme, ⟨fun vs H Q E h => by
    obtain ⟨G, p, o, S, us, ds, _, _, _, _, _, hp, _⟩ := h
    exact (hv _ _ hp).elim, fun A outer s H args us vs Q E _ _ _ _ h => by
    obtain ⟨G, p, o, S, us, ds, _, _, _, _, _, hp, _⟩ := h
    exact (hv _ _ hp).elim⟩, hb⟩
/-- the promises of other defs do not matter -/
theorem HasAt.of {Φ' : Fns} {j k : Nat} {y : FnN} (h : HasAt sx P w K mg base ca Φ k j y) (e1 : Φ.f j = Φ'.f j) (e2 : Φ.m j = Φ'.m j) : HasAt sx P w K mg base ca Φ' k j y := by
  cases y with
  | fn x => obtain ⟨s, e, h⟩ := h; exact ⟨s, e1.symm.trans e, h⟩
  | me cn m => obtain ⟨s, e, h⟩ := h; exact ⟨s, e1.symm.trans e, h⟩
  | mu cn m => obtain ⟨s, e, h⟩ := h; exact ⟨s, e2.symm.trans e, h⟩
  | ini cn => obtain ⟨s, e, h⟩ := h; exact ⟨s, e2.symm.trans e, h⟩
/-- one def's promise is another one now -/
theorem av_upd {Φ' : Fns} {N i k k' : Nat} {x : FnN} (h : Av sx P w K mg base ca fns Φ N k) (hk : k ≤ k') (he : fns[i]? = some x) (e : ∀ j, j ≠ i → Φ.f j = Φ'.f j ∧ Φ.m j = Φ'.m j) (F : HasAt sx P w K mg base ca Φ' k' i x) : Av sx P w K mg base ca fns Φ' N k' := by
  intro j y q
  by_cases z : j = i
  · subst z
    rw [List.getElem?_take] at q
    split at q
    · rw [he] at q
      cases q
      exact F
    · cases q
  · exact ((h j y q).mono hk).of (e j z).1 (e j z).2
end
end
end PW

end
section
set_option Elab.async false
set_option linter.all false
set_option maxRecDepth 100000
set_option maxHeartbeats 4000000
/-! PM7: the law that hands lambdas to _law_told: its promise, its end. -/
namespace PW
open PySem PySem.Spec PyProof.Rows L2
/-- a slot that no name reads -/
theorem inv_hid {X : Cx} {pins : List (Addr × Obj)} {σ : L2.St} {H : Hp} {s : Shared} {i : Nat} {y : Str} {v : V} (I : Inv X pins σ H s) (hn : X.N[i]? = some y) (hv : X.env.scope.names.lookup y = none) : Inv X pins (σ.set i (some v)) H s := by
  obtain ⟨m, e, hh⟩ := I.loc
  refine { I with loc := ⟨m, e, fun j x u h1 h2 h3 => ?_⟩, len := by rw [List.length_set]; exact I.len }
  by_cases z : j = i
  · subst z
    rw [hn] at h1
    cases h1
    rcases h3 with q | q | q <;> rw [hv] at q <;> cases q
  · rw [List.getElem?_set_ne (fun q => z q.symm)] at h2
    exact hh j x u h1 h2 h3
/-- the start with the table -/
theorem sta_tab {K : PySem.W.Frag} {σ : L2.St} {Γ : List O} {G H : Hp} {i : Nat} {P : Addr} {q : Str} (st : Sta K σ Γ G H (fun _ => [])) (hi : i < Γ.length) (hG : G P = none) (hH : H P = some (.tbl #[])) :
    Sta K (σ.set i (some (.ref P))) (Γ.set i (.tab P q)) G H (setF (fun _ => []) i [P]) := by
  have hl : σ.length = Γ.length := st.env.len
  refine ⟨⟨by rw [List.length_set, List.length_set]; exact st.env.len, fun j o e => ?_, fun j a h => ?_, fun j k a ha hb => ?_⟩, st.gh⟩
  · by_cases z : j = i
    · subst z
      rw [List.getElem?_set_self hi] at e
      cases e
      refine .inr ⟨.ref P, List.getElem?_set_self (by rw [hl]; exact hi), ?_⟩
      rw [setF_same]
      exact .tab hG hH (by first | trivial | (unfold TriplesOk; trivial) | simp [TriplesOk]) (fun pos cv h => by simp [codeAmong] at h) (fun c hc => nomatch hc)
    · rw [List.getElem?_set_ne (fun q => z q.symm)] at e
      rcases st.env.ent j o e with y | ⟨v, a, b⟩
      · exact .inl y
      · refine .inr ⟨v, by rw [List.getElem?_set_ne (fun q => z q.symm)]; exact a, ?_⟩
        rw [setF_ne z]
        exact b
  · by_cases z : j = i
    · subst z
      rw [setF_same] at h
      rcases List.mem_cons.mp h with y | y
      · subst y
        exact ⟨hG, by rw [hH]; simp⟩
      · cases y
    · rw [setF_ne z] at h
      cases h
  · by_cases z : j = i
    · by_cases y : k = i
      · rw [z, y]
      · rw [setF_ne y] at hb
        cases hb
    · rw [setF_ne z] at ha
      cases ha
/-- the law's promise -/
def spT (K : PySem.W.Frag) (Pt : Addr) : Sp := fun vs H Q _ => ∃ (a : Addr) (ns : List Int), vs = [.ref a] ∧ ns.length ≤ 63 ∧ SqL K H a (ns.map V.int) ∧ H Pt = some (.tbl #[]) ∧ ∀ H' : Hp, Q (.bl true) H'
section
variable {P : Program} {w : World} {K : PySem.W.Frag} {mg : Str → Option Value} {base : Heap} {ca : EC → Addr} {gl : List D} {Φ : Fns} {c : Cfs}
theorem HasAt.fnHas {sx : Bool} {k j : Nat} {y : FnN} {X : Cx} (hh : HasAt sx P w K mg base ca Φ k j y) (e : InP P w K mg base X) (hr : Room k X.A) : FnHas sx Φ ca X j y := by
  obtain ⟨e1, e2, e3, e4, e5⟩ := e
  subst e1 e2 e3 e4 e5
  have hm : ∀ {j}, j ≤ k → Room j X.A := fun h => hr.mono h
  cases y with
  | fn x =>
    obtain ⟨s', e1, fa, fd', ps', j', hj, F', a1, a2, a3⟩ := hh
    exact ⟨s', e1, fa, fd', ps', j', F', hm hj, a1, a2, a3⟩
  | me cn m =>
    obtain ⟨s', e1, fa, fd', ps', j', hj, a1, a2, F', a3⟩ := hh
    exact ⟨s', e1, fa, fd', ps', j', a1, a2, F', hm hj, a3⟩
  | mu cn m =>
    obtain ⟨s', e1, fa, fd', ps', j', hj, a1, a2, F', a3⟩ := hh
    exact ⟨s', e1, fa, fd', ps', j', a1, a2, F', hm hj, a3⟩
  | ini cn =>
    obtain ⟨s', e1, fa, fd', ps', j', hj, a1, F', a2, a3⟩ := hh
    exact ⟨s', e1, fa, fd', ps', j', a1, F', hm hj, a2, a3⟩
theorem fn_sndT {qual : Str} {params : Arguments} {body : List Stmt} {f cc : Addr} {fd : FuncData} {x : Str} {k i : Nat} {yh : Str} {pb : List PSt} {g : Addr} {fdg : FuncData} {pg : Arguments} {sg : Scope} {a1 a2 a3 a4 a5 a6 a7 a8 a9 b1 : Pos}
    (wl : Wld P w K mg base ca gl c.gls c.flds c.ecs c.lw c.tn) (hlw : c.lw = true) (F : FunD K "law" qual params body c.sc [] [] f fd) (S : FnScope c.N [x] c.sc) (hst : c.st = c.sc) (hk : 5 ≤ k)
    (hchk : chkB c pb body = true) (hf : ∀ (j : Nat) (y : FnN), c.fns[j]? = some y → HasAt c.sx P w K mg base ca Φ k j y) (hus : c.us = false)
    (hmg : mg "_law_told" = some (.ref g)) (Fg : FunD K "_law_told" "_law_told" pg (toldB a1 a2 a3 a4 a5 a6 a7 a8 a9 b1) sg [] [] g fdg) (bg : Binds K fdg ["deed"] []) (Sg : FnScope ["deed", "e"] ["deed"] sg)
    (vd : Vis sg "deed") (ve : sg.names.lookup ("e" : Str) = some .local) (gpe : sg.names.lookup ("PasteError" : Str) = some .globalImplicit) (glw : sg.names.lookup ("_law_word" : Str) = some .globalImplicit)
    (hcode : fd.code = .ref cc) (TB : LamX.TabB base mg cc Φ.tb) (hq : qual ++ ".<locals>." = c.qual) (hi : c.N[i]? = some yh) (hi0 : 1 ≤ i) (hid : c.sc.names.lookup yh = none)
    (hsem : ∀ ns : List Int, ns.length ≤ 63 → semB gl Φ pb ((gam0 c.N.length [.scr ns]).set i (.tab Φ.tb (c.qual ++ "<lambda>"))) { nx := fun _ => False, rt := fun o _ => o = .sh (.bl true), ex := fun _ _ _ => False }) :
    FnOk P w K mg base (L2M.CX c.sx P w) (k + 3) f fd [x] (spT K Φ.tb) := by
  obtain ⟨oc, od, dV, kV, doc, pm, an, cdv, ct, osl, rfl, lk, hcd, _, _⟩ := F.ex
  have ecd : cdv = .ref cc := hcode
  subst ecd
  refine fn_of lk hcd S (fun vs H Q E h => ?_) fun A outer sh H vs Q E hr h => ?_
  · obtain ⟨a, ns, rfl, _⟩ := h
    rfl
  obtain ⟨a, ns, rfl, hl, hS, hT, hQ⟩ := h
  have hm : ∀ {j}, j ≤ k + 2 → Room j _ := fun h => hr.mono h
  refine ⟨fun D σ H2 => wB (cxOf (L2M.CX c.sx P w) P w K mg base c.N qual c.sc f (.ref cc) A outer sh H E) body D (σ.set i (some (.ref Φ.tb))) H2, ⟨fun pins s σ H2 D I h => h pins s (inv_hid I hi hid)⟩, ?_⟩
  have inp : ∀ pn xe, InP P w K mg base ((cxOf (L2M.CX c.sx P w) P w K mg base c.N qual c.sc f (.ref cc) A outer sh H E).tr pn xe) := fun _ _ => ⟨rfl, rfl, rfl, rfl, rfl⟩
  obtain ⟨cv, mpe, hex⟩ := wl.pe hlw
  have k0 : COk gl Φ ca c.toCfg (cxOf (L2M.CX c.sx P w) P w K mg base c.N qual c.sc f (.ref cc) A outer sh H E) := {
    N := rfl
    sc := rfl
    nd := S.nd
    calm := rfl
    un := hr.units
    blt := wl.blt
    gls := wl.gls
    fns := fun j y e => (hf j y e).fnHas ⟨rfl, rfl, rfl, rfl, rfl⟩ (hm (by omega))
    flds := wl.flds
    lam := fun _ => ⟨k, g, cc, fdg, pg, sg, cv, a1, a2, a3, a4, a5, a6, a7, a8, a9, b1, ⟨hmg, Fg, bg, Sg⟩, ⟨vd, ve, gpe, mpe, hex⟩, fun cdv t H1 E hr1 => wl.lw hlw _ ⟨rfl, rfl, rfl, rfl, rfl⟩ (hr1.mono (by omega)) rfl glw, ⟨TB, rfl, hr, hq⟩, fun X1 e hr1 j y ej => (hf j y ej).fnHas e hr1⟩
    fnx := fun x h => ⟨by rw [hst] at h; exact loc_ok h, .inl rfl⟩ }
  have k1 : SOk gl Φ ca c (cxOf (L2M.CX c.sx P w) P w K mg base c.N qual c.sc f (.ref cc) A outer sh H E) := {
    cok := k0
    pas := passes_of rfl
    stk := rfl
    frm := rfl
    knd := S.kind
    exc := fun C hC hg pn xe => wl.exc C hC _ (inp pn xe) (hm (by omega)) rfl hg
    pe := wl.pe
    lw := fun h hg => wl.lw h _ ⟨rfl, rfl, rfl, rfl, rfl⟩ (hm (by omega)) rfl hg
    ecm := wl.ecm
    exm := wl.exm
    exh := fun hu C hC hg a pn hot => nomatch hus.symm.trans hu
    paa := fun _ => L2H.passesAt_of rfl
    sfn := fun hu j y e => nomatch hus.symm.trans hu }
  have hlen : (gam0 c.N.length [.scr ns]).length = c.N.length := by
    have hp := congrArg List.length S.pre
    rw [List.length_take] at hp
    unfold gam0
    rw [List.length_append, List.length_map, List.length_replicate]
    simp only [List.length_cons, List.length_nil] at hp ⊢
    omega
  have hil : i < (gam0 c.N.length [.scr ns]).length := by
    rw [hlen]
    exact (List.getElem?_eq_some_iff.mp hi).1
  obtain ⟨G, hG0, hG1⟩ : ∃ G : Hp, G Φ.tb = none ∧ ∀ b, b ≠ Φ.tb → G b = H b := ⟨fun b => if b = Φ.tb then none else H b, if_pos rfl, fun b hb => if_neg hb⟩
  have gh : Same G H := fun b u e => by
    by_cases z : b = Φ.tb
    · rw [z, hG0] at e
      cases e
    · rw [← hG1 b z]
      exact e
  have haP : a ≠ Φ.tb ∨ ∃ o, K.lookup a = some o := by
    rcases hS with (z | ⟨o, z⟩) | ⟨o, _, _, z, _⟩
    · refine .inl fun q => ?_
      rw [q, hT] at z
      cases z
    · refine .inl fun q => ?_
      rw [q, hT] at z
      cases z
    · exact .inr ⟨o, z⟩
  have hSG : SqL K G a (ns.map V.int) := by
    rcases hS with (z | ⟨o, z⟩) | z
    · refine .inl (.inl ?_)
      rw [hG1 a (fun q => by rw [q, hT] at z; cases z)]
      exact z
    · refine .inl (.inr ⟨o, ?_⟩)
      rw [hG1 a (fun q => by rw [q, hT] at z; cases z)]
      exact z
    · exact .inr z
  have st0 : Sta K (L2.start c.N [.ref a]) (gam0 c.N.length [.scr ns]) G H (fun _ => []) := start_sta gh (.cons (.scr hSG) .nil)
  have st1 := sta_tab (q := c.qual ++ "<lambda>") st0 hil hG0 hT
  refine sndBB pb k1 (L2M.takes_of rfl rfl rfl rfl) hchk _ _ (hsem ns hl) _ G H _ st1 _ ⟨?_, ?_, ?_, ?_, ?_⟩
  · intro σ' Γ' G' H' F' st sp h
    exact h.elim
  · intro v o S' σ' Γ' G' H' F' st sp r' d1 d2 h
    subst h
    obtain ⟨r1, rfl⟩ := r'.sh_inv
    cases r1
    exact hQ H'
  · intro _ _ _ _ _ _ _ h
    exact h.elim
  · intro _ _ _ _ _ _ _ h
    exact h.elim
  · intro C n σ' Γ' G' H' F' dd st sp hx h
    exact h.elim
end
/-! ### the head, with the law's table -/
def hookT (n : Nat) (fn : List He.DefD) (hd : Hds) : PySem.W.Hook := He.hookX n (gloF fn) fn [] [("law", none)] (fun K => hdB hd K)
def obT (n : Nat) (fn : List He.DefD) (hd : Hds) (g : Addr → Option Obj) : He.AlX := He.obsX n (gloF fn) fn [] [("law", none)] (fun K => hdB hd K) g
theorem obT_eq {n : Nat} {fn : List He.DefD} {hd : Hds} {g : Addr → Option Obj} {s : Shared} (h : ∀ a, g a = s.heap.get? a) : obT n fn hd g = (hookT n fn hd).obs s := He.obsX_eq h
theorem saysT_P {fn : List He.DefD} {hd : Hds} {w : World} {h : Heap} {K : PySem.W.Frag} (c : He.SaysX (gloF fn) fn [] [("law", none)] (fun K => hdB hd K) w h K) : SaysP fn hd K := by
  have e1 : He.obsD (gloF fn) fn K = He.valD fn := congrArg (fun z : He.AlT => z.1) c.t
  have e2 : hdB hd K = true := c.more
  show (_, _) = (_, _)
  rw [e1, e2]
theorem code_of {K : PySem.W.Frag} {x qual : Str} {params : Arguments} {body : List Stmt} {sc : Scope} {dvs : List V} {kws : List (Str × V)} {p : Str × Option Str} {fd : FuncData} (F : FunD K x qual params body sc dvs kws (He.fAd K p) fd) : fd.code = .ref (He.cT K p).1 := by
  obtain ⟨oc, od, dV, kV, doc, pm, an, cdv, ct, osl, rfl, lk, hcd, _, _⟩ := F.ex
  obtain ⟨c0, rfl⟩ := He.codeIn_ref hcd
  exact congrArg Value.ref (He.codeOf_eq (c := c0) lk rfl).symm
/-- such a law's end -/
theorem walk_ofT {sx : Bool} {l : PySem.W.OpenLaw} {k m : Nat} {q : Program} {loose : List Str} {XP : (Str → Option Value) → Heap → Prop} {d : DefRec} {x : Str} {fn : List He.DefD} {hd : Hds}
    (hn : l.most = some 63) (hdf : d.params.defaults = []) (hr : Room k callerA)
    (F : ∀ (w : World) (mg : Str → Option Value) (fa : Addr) (h : Heap) (K : PySem.W.Frag), K.In h → SaysP fn hd K → h.Ns mainGlobals mg → mg d.name = some (.ref fa) →
      ∃ (fd : FuncData), (∀ (s : Shared) (u : Value), BindsTo s fd ⟨[u], []⟩ [(x, u)]) ∧
        ∀ base : Heap, K.In base → base.Ns mainGlobals mg → LamX.TabB base mg (He.cT K ("law", none)).1 (He.cT K ("law", none)).2 → FnOk l.prog w K mg base (L2M.CX sx l.prog w) k fa fd [x] (spT K (He.cT K ("law", none)).2)) :
    PySem.W.WalkO q loose XP (hookT m fn hd).says l.row.toRowW d [] (fun f vs => PySem.call f vs) := by
  refine Att.attach_callB hn hdf fun w s₀ s₁ mg mb fa o pm cd doc a vs ns G Y ho hd2 hcd hmg hobj hints hlen hbits hg => ?_
  obtain ⟨K, KX, c⟩ := Y
  have m0 : (("law", none) : He.Defn) ∈ [(("law", none) : He.Defn)] := List.mem_cons_self
  obtain ⟨fd, hb, hF⟩ := F w mg fa _ K KX (saysT_P c) G.T.g hmg
  refine LamX.law_callTs (cs := [He.cT K ("law", none)]) KX G.T.g G.T.b G.T.builtins G.T.nolimit hg (fun p hp => ?_) (fun p hp => ?_) (fun p hp => ?_) G.T.bmain hobj hints (Nat.le_trans hlen (by decide)) hr (fun base h1 h2 h3 => hF base h1 h2 (h3 _ List.mem_cons_self)) hb (fun H hH hS => ⟨a, ns, rfl, hlen, hS, hH _ List.mem_cons_self, fun _ => rfl⟩) fun H e s' => end_cx H s₁ e s'
  · obtain rfl := List.mem_singleton.mp hp
    exact c.empty _ m0
  · obtain rfl := List.mem_singleton.mp hp
    exact c.out _ m0
  · obtain rfl := List.mem_singleton.mp hp
    exact PySem.W.codeHd_of_K KX (c.hd _ m0)
end PW

end
section
set_option Elab.async false
set_option linter.all false
set_option maxRecDepth 100000
set_option maxHeartbeats 4000000
namespace K28
open PySem PySem.Spec PyProof.Rows L2 PW
/-! printed by gen3.py from the linked text of law_k28_sheets_refused: the small language's texts -/
def top (i : Nat) : Stmt := PySem.Challenge.pw_pasteward_k28_sheets_refused.main.body.getD i (.Pass ⟨0, 0, 0, 0⟩)
def mth (i j : Nat) : Stmt := mthOf (top i) j
def fnsN : List FnN := [.fn "_law_cell", .fn "_law_drawn", .fn "is_row", .ini "Sheet", .mu "Sheet" "become", .mu "Sheet" "need_place", .mu "Sheet" "put_row", .mu "Sheet" "change_row", .mu "Sheet" "drop_row", .mu "Sheet" "undo", .mu "Sheet" "redo", .mu "Sheet" "rows", .mu "Sheet" "known_at", .fn "law"]
def glsN : List Str := ["LETTERS", "FIGURES", "QUOTE", "JOIN", "MOST_MACROS", "MOST_PARAMETERS", "MOST_BODY", "MOST_CALLS", "MOST_TOKENS", "MOST_DEPTH", "MOST_ROWS", "BARRED"]
def fldsN : List (Str × Str) := [("Sheet", "lines"), ("Sheet", "past"), ("Sheet", "ahead")]
def glsD : List D := [.str "abcdefghijklmnopqrstuvwxyzABCDEFGHIJKLMNOPQRSTUVWXYZ_", .str "0123456789", .str "\"", .str "##", .int 40, .int 6, .int 30, .int 2000, .int 1000, .int 50, .int 200, .int 37]
/-! ### _law_cell -/
def f_law_cell_N : List Str := ["script", "k"]
def f_law_cell_ps : List Str := ["script", "k"]
def f_law_cell_b : List PSt := [(.ite (.cmp .Eq (.var 0) (.lst [])) [(.ret (.bin .mul (.var 1) (.c (.int 7919))))] []),
  (.ret (.bin .add (.sub (.var 0) (.bin .mod (.var 1) (.prm .len [(.var 0)]))) (.bin .mul (.bin .fdiv (.var 1) (.prm .len [(.var 0)])) (.c (.int 104729)))))]
def f_law_cell_c : Cfs := { N := f_law_cell_N, sc := defScope (top 58), st := defScope (top 58), fns := fnsN.take 0, gls := glsN, flds := fldsN, ecs := [], lw := false, tn := false }
theorem f_law_cell_k : chkB f_law_cell_c f_law_cell_b (defBody (top 58)) = true := by decide +kernel
theorem f_law_cell_s : FnScope f_law_cell_N f_law_cell_ps (defScope (top 58)) := ⟨rfl, rfl, rfl, by decide +kernel, rfl, by decide +kernel, by decide +kernel⟩
/-! ### _law_drawn -/
def f_law_drawn_N : List Str := ["cell", "k", "more"]
def f_law_drawn_ps : List Str := ["cell", "k"]
def f_law_drawn_b : List PSt := [(.asg 2 true (.bin .mod (.bin .add (.bin .mul (.var 0) (.c (.int 6364136223846793005))) (.bin .mul (.bin .add (.var 1) (.c (.int 1))) (.c (.int 1442695040888963407)))) (.c (.int 340282366920938463463374607431768211507)))),
  (.asg 2 true (.bin .mod (.bin .mul (.var 2) (.var 2)) (.c (.int 340282366920938463463374607431768211297)))),
  (.asg 2 true (.bin .mul (.bin .mul (.bin .add (.bin .mod (.var 2) (.c (.int 18446744073709551557))) (.c (.int 1))) (.bin .add (.bin .fdiv (.var 2) (.c (.int 18446744073709551557))) (.c (.int 1)))) (.var 2))),
  (.ret (.bin .mod (.var 2) (.c (.int 340282366920938463463374607431768211507))))]
def f_law_drawn_c : Cfs := { N := f_law_drawn_N, sc := defScope (top 59), st := defScope (top 59), fns := fnsN.take 0, gls := glsN, flds := fldsN, ecs := [], lw := false, tn := false }
theorem f_law_drawn_k : chkB f_law_drawn_c f_law_drawn_b (defBody (top 59)) = true := by decide +kernel
theorem f_law_drawn_s : FnScope f_law_drawn_N f_law_drawn_ps (defScope (top 59)) := ⟨rfl, rfl, rfl, by decide +kernel, rfl, by decide +kernel, by decide +kernel⟩
/-! ### is_row -/
def f_is_row_N : List Str := ["thing", "sign"]
def f_is_row_ps : List Str := ["thing"]
def f_is_row_b : List PSt := [(.ite (.not (.isi (.var 0) "str")) [(.ret (.c (.bl false)))] []),
  (.ret (.prm .all1 [(.lc (.and (.cmp2 .LtE .LtE (.c (.str " ")) (.var 1) (.c (.str "~"))) (.cmp .NotEq (.prm .ord1 [(.var 1)]) (.glb 11))) (.nm 1) (.itS (.var 0)) none)]))]
def f_is_row_c : Cfs := { N := f_is_row_N, sc := defScope (top 55), st := defScope (top 55), fns := fnsN.take 0, gls := glsN, flds := fldsN, ecs := [], lw := false, tn := false }
theorem f_is_row_k : chkB f_is_row_c f_is_row_b (defBody (top 55)) = true := by decide +kernel
theorem f_is_row_s : FnScope f_is_row_N f_is_row_ps (defScope (top 55)) := ⟨rfl, rfl, rfl, by decide +kernel, rfl, by decide +kernel, by decide +kernel⟩
/-! ### Sheet.__init__ -/
def f_Sheet_ini_N : List Str := ["self"]
def f_Sheet_ini_ps : List Str := ["self"]
def f_Sheet_ini_b : List PSt := [(.setf "Sheet" 0 "lines" (.tup [])),
  (.setf "Sheet" 0 "past" (.lst [])),
  (.setf "Sheet" 0 "ahead" (.lst []))]
def f_Sheet_ini_c : Cfs := { N := f_Sheet_ini_N, sc := defScope (mth 56 0), st := defScope (mth 56 0), fns := fnsN.take 0, gls := glsN, flds := fldsN, ecs := [], lw := false, tn := false }
theorem f_Sheet_ini_k : chkB f_Sheet_ini_c f_Sheet_ini_b (defBody (mth 56 0)) = true := by decide +kernel
theorem f_Sheet_ini_s : FnScope f_Sheet_ini_N f_Sheet_ini_ps (defScope (mth 56 0)) := ⟨rfl, rfl, rfl, by decide +kernel, rfl, by decide +kernel, by decide +kernel⟩
/-! ### Sheet.become -/
def f_Sheet_become_N : List Str := ["self", "lines"]
def f_Sheet_become_ps : List Str := ["self", "lines"]
def f_Sheet_become_b : List PSt := [(.exp (.lapp "Sheet" 0 "past" (.fld "Sheet" (.var 0) "lines"))),
  (.setf "Sheet" 0 "ahead" (.lst [])),
  (.setf "Sheet" 0 "lines" (.var 1))]
def f_Sheet_become_c : Cfs := { N := f_Sheet_become_N, sc := defScope (mth 56 1), st := defScope (mth 56 1), fns := fnsN.take 0, gls := glsN, flds := fldsN, ecs := [], lw := false, tn := false }
theorem f_Sheet_become_k : chkB f_Sheet_become_c f_Sheet_become_b (defBody (mth 56 1)) = true := by decide +kernel
theorem f_Sheet_become_s : FnScope f_Sheet_become_N f_Sheet_become_ps (defScope (mth 56 1)) := ⟨rfl, rfl, rfl, by decide +kernel, rfl, by decide +kernel, by decide +kernel⟩
/-! ### Sheet.need_place -/
def f_Sheet_need_place_N : List Str := ["self", "at", "most"]
def f_Sheet_need_place_ps : List Str := ["self", "at", "most"]
def f_Sheet_need_place_b : List PSt := [(.ite (.or (.not (.isi (.var 1) "int")) (.or (.isi (.var 1) "bool") (.not (.cmp2 .LtE .LtE (.c (.int 0)) (.var 1) (.var 2))))) [(.rse .BadRow (.c (.int 1)))] [])]
def f_Sheet_need_place_c : Cfs := { N := f_Sheet_need_place_N, sc := defScope (mth 56 2), st := defScope (mth 56 2), fns := fnsN.take 0, gls := glsN, flds := fldsN, ecs := [.BadRow], lw := false, tn := false }
theorem f_Sheet_need_place_k : chkB f_Sheet_need_place_c f_Sheet_need_place_b (defBody (mth 56 2)) = true := by decide +kernel
theorem f_Sheet_need_place_s : FnScope f_Sheet_need_place_N f_Sheet_need_place_ps (defScope (mth 56 2)) := ⟨rfl, rfl, rfl, by decide +kernel, rfl, by decide +kernel, by decide +kernel⟩
/-! ### Sheet.put_row -/
def f_Sheet_put_row_N : List Str := ["self", "at", "text"]
def f_Sheet_put_row_ps : List Str := ["self", "at", "text"]
def f_Sheet_put_row_b : List PSt := [(.exp (.mcv 5 "Sheet" "need_place" 0 [(.var 1), (.prm .len [(.fldv "Sheet" 0 "lines")])])),
  (.ite (.or (.not (.cal 2 [(.var 2)])) (.cmp .GtE (.prm .len [(.fldv "Sheet" 0 "lines")]) (.glb 10))) [(.rse .BadRow (.c (.int 1)))] []),
  (.exp (.mcv 4 "Sheet" "become" 0 [(.bin .add (.bin .add (.slc (.fldv "Sheet" 0 "lines") none (some (.var 1))) (.tup [(.var 2)])) (.slc (.fldv "Sheet" 0 "lines") (some (.var 1)) none))]))]
def f_Sheet_put_row_c : Cfs := { N := f_Sheet_put_row_N, sc := defScope (mth 56 3), st := defScope (mth 56 3), fns := fnsN.take 6, gls := glsN, flds := fldsN, ecs := [.BadRow], lw := false, tn := false }
theorem f_Sheet_put_row_k : chkB f_Sheet_put_row_c f_Sheet_put_row_b (defBody (mth 56 3)) = true := by decide +kernel
theorem f_Sheet_put_row_s : FnScope f_Sheet_put_row_N f_Sheet_put_row_ps (defScope (mth 56 3)) := ⟨rfl, rfl, rfl, by decide +kernel, rfl, by decide +kernel, by decide +kernel⟩
/-! ### Sheet.change_row -/
def f_Sheet_change_row_N : List Str := ["self", "at", "text"]
def f_Sheet_change_row_ps : List Str := ["self", "at", "text"]
def f_Sheet_change_row_b : List PSt := [(.exp (.mcv 5 "Sheet" "need_place" 0 [(.var 1), (.bin .sub (.prm .len [(.fldv "Sheet" 0 "lines")]) (.c (.int 1)))])),
  (.ite (.not (.cal 2 [(.var 2)])) [(.rse .BadRow (.c (.int 1)))] []),
  (.exp (.mcv 4 "Sheet" "become" 0 [(.bin .add (.bin .add (.slc (.fldv "Sheet" 0 "lines") none (some (.var 1))) (.tup [(.var 2)])) (.slc (.fldv "Sheet" 0 "lines") (some (.bin .add (.var 1) (.c (.int 1)))) none))]))]
def f_Sheet_change_row_c : Cfs := { N := f_Sheet_change_row_N, sc := defScope (mth 56 4), st := defScope (mth 56 4), fns := fnsN.take 6, gls := glsN, flds := fldsN, ecs := [.BadRow], lw := false, tn := false }
theorem f_Sheet_change_row_k : chkB f_Sheet_change_row_c f_Sheet_change_row_b (defBody (mth 56 4)) = true := by decide +kernel
theorem f_Sheet_change_row_s : FnScope f_Sheet_change_row_N f_Sheet_change_row_ps (defScope (mth 56 4)) := ⟨rfl, rfl, rfl, by decide +kernel, rfl, by decide +kernel, by decide +kernel⟩
/-! ### Sheet.drop_row -/
def f_Sheet_drop_row_N : List Str := ["self", "at"]
def f_Sheet_drop_row_ps : List Str := ["self", "at"]
def f_Sheet_drop_row_b : List PSt := [(.exp (.mcv 5 "Sheet" "need_place" 0 [(.var 1), (.bin .sub (.prm .len [(.fldv "Sheet" 0 "lines")]) (.c (.int 1)))])),
  (.exp (.mcv 4 "Sheet" "become" 0 [(.bin .add (.slc (.fldv "Sheet" 0 "lines") none (some (.var 1))) (.slc (.fldv "Sheet" 0 "lines") (some (.bin .add (.var 1) (.c (.int 1)))) none))]))]
def f_Sheet_drop_row_c : Cfs := { N := f_Sheet_drop_row_N, sc := defScope (mth 56 5), st := defScope (mth 56 5), fns := fnsN.take 6, gls := glsN, flds := fldsN, ecs := [], lw := false, tn := false }
theorem f_Sheet_drop_row_k : chkB f_Sheet_drop_row_c f_Sheet_drop_row_b (defBody (mth 56 5)) = true := by decide +kernel
theorem f_Sheet_drop_row_s : FnScope f_Sheet_drop_row_N f_Sheet_drop_row_ps (defScope (mth 56 5)) := ⟨rfl, rfl, rfl, by decide +kernel, rfl, by decide +kernel, by decide +kernel⟩
/-! ### Sheet.undo -/
def f_Sheet_undo_N : List Str := ["self"]
def f_Sheet_undo_ps : List Str := ["self"]
def f_Sheet_undo_b : List PSt := [(.ite (.peek (.cmp .Eq (.fld "Sheet" (.var 0) "past") (.lst []))) [(.ret (.c (.bl false)))] []),
  (.exp (.lapp "Sheet" 0 "ahead" (.fld "Sheet" (.var 0) "lines"))),
  (.setf "Sheet" 0 "lines" (.lpop "Sheet" 0 "past")),
  (.ret (.c (.bl true)))]
def f_Sheet_undo_c : Cfs := { N := f_Sheet_undo_N, sc := defScope (mth 56 6), st := defScope (mth 56 6), fns := fnsN.take 0, gls := glsN, flds := fldsN, ecs := [], lw := false, tn := false }
theorem f_Sheet_undo_k : chkB f_Sheet_undo_c f_Sheet_undo_b (defBody (mth 56 6)) = true := by decide +kernel
theorem f_Sheet_undo_s : FnScope f_Sheet_undo_N f_Sheet_undo_ps (defScope (mth 56 6)) := ⟨rfl, rfl, rfl, by decide +kernel, rfl, by decide +kernel, by decide +kernel⟩
/-! ### Sheet.redo -/
def f_Sheet_redo_N : List Str := ["self"]
def f_Sheet_redo_ps : List Str := ["self"]
def f_Sheet_redo_b : List PSt := [(.ite (.peek (.cmp .Eq (.fld "Sheet" (.var 0) "ahead") (.lst []))) [(.ret (.c (.bl false)))] []),
  (.exp (.lapp "Sheet" 0 "past" (.fld "Sheet" (.var 0) "lines"))),
  (.setf "Sheet" 0 "lines" (.lpop "Sheet" 0 "ahead")),
  (.ret (.c (.bl true)))]
def f_Sheet_redo_c : Cfs := { N := f_Sheet_redo_N, sc := defScope (mth 56 7), st := defScope (mth 56 7), fns := fnsN.take 0, gls := glsN, flds := fldsN, ecs := [], lw := false, tn := false }
theorem f_Sheet_redo_k : chkB f_Sheet_redo_c f_Sheet_redo_b (defBody (mth 56 7)) = true := by decide +kernel
theorem f_Sheet_redo_s : FnScope f_Sheet_redo_N f_Sheet_redo_ps (defScope (mth 56 7)) := ⟨rfl, rfl, rfl, by decide +kernel, rfl, by decide +kernel, by decide +kernel⟩
/-! ### Sheet.rows -/
def f_Sheet_rows_N : List Str := ["self"]
def f_Sheet_rows_ps : List Str := ["self"]
def f_Sheet_rows_b : List PSt := [(.ret (.prm .list1 [(.fldv "Sheet" 0 "lines")]))]
def f_Sheet_rows_c : Cfs := { N := f_Sheet_rows_N, sc := defScope (mth 56 8), st := defScope (mth 56 8), fns := fnsN.take 0, gls := glsN, flds := fldsN, ecs := [], lw := false, tn := false }
theorem f_Sheet_rows_k : chkB f_Sheet_rows_c f_Sheet_rows_b (defBody (mth 56 8)) = true := by decide +kernel
theorem f_Sheet_rows_s : FnScope f_Sheet_rows_N f_Sheet_rows_ps (defScope (mth 56 8)) := ⟨rfl, rfl, rfl, by decide +kernel, rfl, by decide +kernel, by decide +kernel⟩
/-! ### Sheet.known_at -/
def f_Sheet_known_at_N : List Str := ["self", "at", "made", "place", "line"]
def f_Sheet_known_at_ps : List Str := ["self", "at"]
def f_Sheet_known_at_b : List PSt := [(.exp (.mcv 5 "Sheet" "need_place" 0 [(.var 1), (.prm .len [(.fldv "Sheet" 0 "lines")])])),
  (.jnk),
  (.jnk)]
def f_Sheet_known_at_c : Cfs := { N := f_Sheet_known_at_N, sc := defScope (mth 56 10), st := defScope (mth 56 10), fns := fnsN.take 6, gls := glsN, flds := fldsN, ecs := [], lw := false, tn := true }
theorem f_Sheet_known_at_k : chkB f_Sheet_known_at_c f_Sheet_known_at_b (defBody (mth 56 10)) = true := by decide +kernel
theorem f_Sheet_known_at_s : FnScope f_Sheet_known_at_N f_Sheet_known_at_ps (defScope (mth 56 10)) := ⟨rfl, rfl, rfl, by decide +kernel, rfl, by decide +kernel, by decide +kernel⟩
/-! ### law -/
def f_law_N : List Str := ["script", "k", "more", "sheet", "many", "j", "bad", "found", "$t"]
def f_law_ps : List Str := ["script"]
def f_law_b : List PSt := [(.for_ (.nm 1) (.rng1 (.prm .max2 [(.c (.int 1)), (.prm .min2 [(.c (.int 4)), (.prm .len [(.var 0)])])])) [(.asg 2 true (.cal 1 [(.cal 0 [(.var 0), (.var 1)]), (.var 1)])), (.par2 3 4 (.new 3 "Sheet" []) (.bin .add (.c (.int 1)) (.bin .mod (.var 2) (.c (.int 4))))), (.for_ (.nm 5) (.rng1 (.var 4)) [(.exp (.mcv 6 "Sheet" "put_row" 3 [(.var 5), (.bin .mul (.c (.str "a")) (.var 5))]))]), (.for_ (.nm 6) (.itL (.lst [(.neg (.c (.int 1))), (.bin .add (.var 4) (.c (.int 1))), (.c .non), (.c (.bl true)), (.c (.str "0"))])) [(.asg 7 false (.lst [(.told 8 "law.<locals>.<lambda>" (.mcv 6 "Sheet" "put_row" 3 [(.var 6), (.c (.str ""))]))])), (.exp (.app 7 (.told 8 "law.<locals>.<lambda>" (.mcv 12 "Sheet" "known_at" 3 [(.var 6)])))), (.exp (.app 7 (.told 8 "law.<locals>.<lambda>" (.mcv 7 "Sheet" "change_row" 3 [(.var 6), (.c (.str ""))])))), (.exp (.app 7 (.told 8 "law.<locals>.<lambda>" (.mcv 8 "Sheet" "drop_row" 3 [(.var 6)])))), (.ite (.peek (.cmp .NotEq (.var 7) (.bin .mul (.lst [(.tup [(.c (.str "BadRow")), (.c (.int 1))])]) (.c (.int 4))))) [(.ret (.c (.bl false)))] [])]), (.ite (.cmp .NotEq (.told 8 "law.<locals>.<lambda>" (.mcv 8 "Sheet" "drop_row" 3 [(.var 4)])) (.tup [(.c (.str "BadRow")), (.c (.int 1))])) [(.ret (.c (.bl false)))] []), (.ite (.cmp .NotEq (.told 8 "law.<locals>.<lambda>" (.mcv 7 "Sheet" "change_row" 3 [(.var 4), (.c (.str ""))])) (.tup [(.c (.str "BadRow")), (.c (.int 1))])) [(.ret (.c (.bl false)))] []), (.for_ (.nm 6) (.itL (.lst [(.c .non), (.c (.int 5)), (.lst [(.c (.str "a"))]), (.c (.str "a\n")), (.c (.str "a\tb"))])) [(.asg 7 false (.lst [(.told 8 "law.<locals>.<lambda>" (.mcv 6 "Sheet" "put_row" 3 [(.c (.int 0)), (.var 6)]))])), (.exp (.app 7 (.told 8 "law.<locals>.<lambda>" (.mcv 7 "Sheet" "change_row" 3 [(.c (.int 0)), (.var 6)])))), (.ite (.peek (.cmp .NotEq (.var 7) (.bin .mul (.lst [(.tup [(.c (.str "BadRow")), (.c (.int 1))])]) (.c (.int 2))))) [(.ret (.c (.bl false)))] [])]), (.ite (.or (.cmp .NotEq (.mcv 11 "Sheet" "rows" 3 []) (.lc (.bin .mul (.c (.str "a")) (.var 5)) (.nm 5) (.rng1 (.var 4)) none)) (.cmp .IsNot (.mcv 10 "Sheet" "redo" 3 []) (.c (.bl false)))) [(.ret (.c (.bl false)))] []), (.for_ (.nm 5) (.rng1 (.bin .sub (.c (.int 200)) (.var 4))) [(.exp (.mcv 6 "Sheet" "put_row" 3 [(.var 4), (.c (.str " !~"))]))]), (.ite (.or (.cmp .NotEq (.told 8 "law.<locals>.<lambda>" (.mcv 6 "Sheet" "put_row" 3 [(.c (.int 0)), (.c (.str ""))])) (.tup [(.c (.str "BadRow")), (.c (.int 1))])) (.cmp .NotEq (.prm .len [(.mcv 11 "Sheet" "rows" 3 [])]) (.c (.int 200)))) [(.ret (.c (.bl false)))] []), (.exp (.mcv 7 "Sheet" "change_row" 3 [(.c (.int 199)), (.c (.str "~"))])), (.ite (.or (.cmp .NotEq (.sub (.mcv 11 "Sheet" "rows" 3 []) (.c (.int 199))) (.c (.str "~"))) (.or (.cmp .IsNot (.mcv 9 "Sheet" "undo" 3 []) (.c (.bl true))) (.cmp .NotEq (.sub (.mcv 11 "Sheet" "rows" 3 []) (.c (.int 199))) (.c (.str " !~"))))) [(.ret (.c (.bl false)))] [])]),
  (.ret (.c (.bl true)))]
def f_law_c : Cfs := { N := f_law_N, sc := defScope (top 62), st := defScope (top 62), fns := fnsN.take 13, gls := glsN, flds := fldsN, ecs := [], lw := true, tn := false, lt := true, qual := "law.<locals>." }
theorem f_law_k : chkB f_law_c f_law_b (defBody (top 62)) = true := by decide +kernel
theorem f_law_s : FnScope f_law_N f_law_ps (defScope (top 62)) := ⟨rfl, rfl, rfl, by decide +kernel, rfl, by decide +kernel, by decide +kernel⟩
end K28

end
section
set_option Elab.async false
set_option linter.all false
set_option maxRecDepth 100000
set_option maxHeartbeats 0
namespace K28
open PySem PySem.Spec PyProof.Rows L2 PW
/-! printed by gen4.py: the head of law_k28_sheets_refused -/
def lwQ : List Pos := [⟨456, 4, 456, 9⟩, ⟨456, 13, 456, 23⟩, ⟨456, 24, 456, 25⟩, ⟨456, 27, 456, 35⟩, ⟨456, 13, 456, 36⟩, ⟨456, 38, 456, 48⟩, ⟨456, 49, 456, 50⟩, ⟨456, 52, 456, 58⟩, ⟨456, 38, 456, 59⟩, ⟨456, 61, 456, 71⟩, ⟨456, 72, 456, 73⟩, ⟨456, 75, 456, 80⟩, ⟨456, 61, 456, 81⟩, ⟨456, 83, 456, 93⟩, ⟨456, 94, 456, 95⟩, ⟨456, 97, 456, 104⟩, ⟨456, 83, 456, 105⟩, ⟨456, 12, 456, 106⟩, ⟨456, 4, 456, 106⟩, ⟨457, 4, 457, 9⟩, ⟨457, 12, 457, 17⟩, ⟨457, 21, 457, 31⟩, ⟨457, 32, 457, 33⟩, ⟨457, 35, 457, 43⟩, ⟨457, 21, 457, 44⟩, ⟨457, 46, 457, 56⟩, ⟨457, 57, 457, 58⟩, ⟨457, 60, 457, 65⟩, ⟨457, 46, 457, 66⟩, ⟨457, 68, 457, 78⟩, ⟨457, 79, 457, 80⟩, ⟨457, 82, 457, 89⟩, ⟨457, 68, 457, 90⟩, ⟨457, 20, 457, 91⟩, ⟨457, 12, 457, 91⟩, ⟨457, 4, 457, 91⟩, ⟨458, 4, 458, 9⟩, ⟨458, 13, 458, 23⟩, ⟨458, 25, 458, 33⟩, ⟨458, 35, 458, 42⟩, ⟨458, 44, 458, 53⟩, ⟨458, 55, 458, 65⟩, ⟨458, 67, 458, 74⟩, ⟨458, 76, 458, 85⟩, ⟨458, 12, 458, 86⟩, ⟨458, 4, 458, 86⟩, ⟨459, 7, 459, 10⟩, ⟨459, 12, 459, 15⟩, ⟨459, 16, 459, 20⟩, ⟨459, 12, 459, 21⟩, ⟨459, 26, 459, 30⟩, ⟨459, 34, 459, 39⟩, ⟨459, 11, 459, 40⟩, ⟨459, 7, 459, 41⟩, ⟨459, 45, 459, 46⟩, ⟨459, 7, 459, 46⟩, ⟨459, 54, 459, 64⟩, ⟨459, 65, 459, 66⟩, ⟨459, 68, 459, 78⟩, ⟨459, 54, 459, 79⟩, ⟨459, 50, 459, 79⟩, ⟨459, 7, 459, 79⟩, ⟨460, 16, 460, 23⟩, ⟨460, 25, 460, 26⟩, ⟨460, 25, 460, 31⟩, ⟨460, 15, 460, 32⟩, ⟨460, 8, 460, 32⟩, ⟨459, 4, 460, 32⟩, ⟨461, 12, 461, 17⟩, ⟨461, 18, 461, 23⟩, ⟨461, 18, 461, 29⟩, ⟨461, 30, 461, 34⟩, ⟨461, 18, 461, 35⟩, ⟨461, 12, 461, 36⟩, ⟨461, 38, 461, 39⟩, ⟨461, 38, 461, 44⟩, ⟨461, 11, 461, 45⟩, ⟨461, 4, 461, 45⟩]
def lwq (k : Nat) : Pos := lwQ.getD k ⟨0, 0, 0, 0⟩
def inQ : List Pos := [⟨8, 8, 8, 12⟩, ⟨8, 8, 8, 17⟩, ⟨8, 20, 8, 24⟩, ⟨8, 8, 8, 24⟩]
def inq (k : Nat) : Pos := inQ.getD k ⟨0, 0, 0, 0⟩
def inS : Stmt := clsMth (top 2)
def tdQ : List Pos := [⟨464, 15, 464, 19⟩, ⟨464, 15, 464, 21⟩, ⟨464, 8, 464, 21⟩, ⟨465, 11, 465, 21⟩, ⟨466, 15, 466, 24⟩, ⟨466, 25, 466, 26⟩, ⟨466, 15, 466, 27⟩, ⟨466, 8, 466, 27⟩, ⟨465, 4, 466, 27⟩, ⟨463, 4, 466, 27⟩]
def tdq (k : Nat) : Pos := tdQ.getD k ⟨0, 0, 0, 0⟩
def dd0 : He.DefD := ⟨("PasteError", some "__init__"), "__init__", "PasteError.__init__", defArgs inS, inBody inq, defScope inS, [], []⟩
def dd1 : He.DefD := ⟨("_law_cell", none), "_law_cell", "_law_cell", defArgs (top 58), defBody (top 58), defScope (top 58), [], []⟩
def dd2 : He.DefD := ⟨("_law_drawn", none), "_law_drawn", "_law_drawn", defArgs (top 59), defBody (top 59), defScope (top 59), [], []⟩
def dd3 : He.DefD := ⟨("is_row", none), "is_row", "is_row", defArgs (top 55), defBody (top 55), defScope (top 55), [], []⟩
def dd4 : He.DefD := ⟨("Sheet", some "__init__"), "__init__", "Sheet.__init__", defArgs (mth 56 0), defBody (mth 56 0), defScope (mth 56 0), [], []⟩
def dd5 : He.DefD := ⟨("Sheet", some "become"), "become", "Sheet.become", defArgs (mth 56 1), defBody (mth 56 1), defScope (mth 56 1), [], []⟩
def dd6 : He.DefD := ⟨("Sheet", some "need_place"), "need_place", "Sheet.need_place", defArgs (mth 56 2), defBody (mth 56 2), defScope (mth 56 2), [], []⟩
def dd7 : He.DefD := ⟨("Sheet", some "put_row"), "put_row", "Sheet.put_row", defArgs (mth 56 3), defBody (mth 56 3), defScope (mth 56 3), [], []⟩
def dd8 : He.DefD := ⟨("Sheet", some "change_row"), "change_row", "Sheet.change_row", defArgs (mth 56 4), defBody (mth 56 4), defScope (mth 56 4), [], []⟩
def dd9 : He.DefD := ⟨("Sheet", some "drop_row"), "drop_row", "Sheet.drop_row", defArgs (mth 56 5), defBody (mth 56 5), defScope (mth 56 5), [], []⟩
def dd10 : He.DefD := ⟨("Sheet", some "undo"), "undo", "Sheet.undo", defArgs (mth 56 6), defBody (mth 56 6), defScope (mth 56 6), [], []⟩
def dd11 : He.DefD := ⟨("Sheet", some "redo"), "redo", "Sheet.redo", defArgs (mth 56 7), defBody (mth 56 7), defScope (mth 56 7), [], []⟩
def dd12 : He.DefD := ⟨("Sheet", some "rows"), "rows", "Sheet.rows", defArgs (mth 56 8), defBody (mth 56 8), defScope (mth 56 8), [], []⟩
def dd13 : He.DefD := ⟨("Sheet", some "known_at"), "known_at", "Sheet.known_at", defArgs (mth 56 10), defBody (mth 56 10), defScope (mth 56 10), [], []⟩
def dd14 : He.DefD := ⟨("law", none), "law", "law", defArgs (top 62), defBody (top 62), defScope (top 62), [], []⟩
def dd15 : He.DefD := ⟨("_law_word", none), "_law_word", "_law_word", defArgs (top 60), lwBody lwq, lwScope, [], []⟩
def dd16 : He.DefD := ⟨("_law_told", none), "_law_told", "_law_told", defArgs (top 61), toldB (tdq 0) (tdq 1) (tdq 2) (tdq 3) (tdq 4) (tdq 5) (tdq 6) (tdq 7) (tdq 8) (tdq 9), defScope (top 61), [], []⟩
def fn : List He.DefD := [dd0, dd1, dd2, dd3, dd4, dd5, dd6, dd7, dd8, dd9, dd10, dd11, dd12, dd13, dd14, dd15, dd16]
def hds : Hds := { cl := [("Sheet", ["become", "need_place", "put_row", "change_row", "drop_row", "undo", "redo", "rows", "known_at"], ["lines", "past", "ahead"])], ecl := [.BadToken, .BadRow, .Again, .BadCall, .BadPaste, .BadIf, .TooMany], gls := glsN, gl := glsD }
abbrev R : PySem.W.OpenRow := PySem.W.OpenLaw.row PySem.Challenge.rw_pasteward_k28_sheets_refused
abbrev hk : PySem.W.Hook := hookT 6 fn hds
def ob (s : PySem.W.SharedT) : He.AlX := obT 6 fn hds (HandSHeadRun.getT s)
theorem ob_eq (s : PySem.W.SharedT) : ob s = hk.obs s.abs := obT_eq (HandSHeadRun.getT_eq s)
def loose : List Str := [("_wall" : Str), ("PasteError" : Str), ("BadToken" : Str), ("BadRow" : Str), ("Again" : Str), ("BadCall" : Str), ("BadPaste" : Str), ("BadIf" : Str), ("TooMany" : Str), ("LETTERS" : Str), ("FIGURES" : Str), ("QUOTE" : Str), ("JOIN" : Str), ("run_end" : Str), ("string_end" : Str), ("token_at" : Str), ("tokens_of" : Str), ("text_of" : Str), ("strung" : Str), ("joined" : Str)] ++ [("is_mark" : Str), ("is_name" : Str), ("MOST_MACROS" : Str), ("MOST_PARAMETERS" : Str), ("MOST_BODY" : Str), ("is_name_text" : Str), ("is_parameter" : Str), ("good_parameters" : Str), ("good_joins" : Str), ("good_strings" : Str), ("alike" : Str), ("Macros" : Str), ("arguments" : Str), ("suited" : Str), ("MOST_CALLS" : Str), ("MOST_TOKENS" : Str), ("MOST_DEPTH" : Str), ("Putting" : Str), ("bare" : Str), ("glued" : Str)] ++ [("glue" : Str), ("put_in" : Str), ("CONDITIONS" : Str), ("first_word" : Str), ("parameters_in" : Str), ("Run" : Str), ("MOST_ROWS" : Str), ("BARRED" : Str), ("is_row" : Str), ("Sheet" : Str), ("_law_cell" : Str), ("_law_drawn" : Str), ("_law_word" : Str), ("_law_told" : Str)]
theorem run (w : World) : HandSHeadRun.RunEq R (PySem.W.view R.prog [62]) hk ob 8000 loose w := by
  intro os
  kernel_rfl
end K28

end
section
set_option Elab.async false
set_option linter.all false
set_option maxRecDepth 100000
set_option maxHeartbeats 4000000
namespace K28
open PySem PySem.Spec PyProof.Rows L2 PW
local macro_rules | `(tactic| walk_at "pw") => `(tactic| first | with_reducible apply i_for | with_reducible apply i_rng1 | with_reducible apply i_rng2 | with_reducible apply i_itL | with_reducible apply i_itT | with_reducible apply i_itS | with_reducible apply i_enm | with_reducible apply i_lc | with_reducible apply i_t0 | with_reducible apply i_t1 | with_reducible apply i_b1 | with_reducible apply i_b0 | with_reducible apply i_asgT | with_reducible apply i_asgF | with_reducible apply i_exp | with_reducible apply i_ret | with_reducible apply i_ite | with_reducible apply i_rse | with_reducible apply i_tryR | with_reducible apply i_tryA | with_reducible apply i_tryN | with_reducible apply i_pas | with_reducible apply i_brk | with_reducible apply i_cnt | with_reducible apply i_setf | with_reducible apply i_dput | with_reducible apply i_dputF | with_reducible apply i_c | with_reducible apply i_bin | with_reducible apply i_cmp | with_reducible apply i_not | with_reducible apply i_neg | with_reducible apply i_ifx | with_reducible apply i_tup | with_reducible apply i_lst | with_reducible apply i_lst1 | with_reducible apply i_sub | with_reducible apply i_slc | with_reducible apply i_cal | with_reducible apply i_prm | with_reducible apply i_mth | with_reducible apply i_isi | with_reducible apply i_peek | with_reducible apply i_fld | with_reducible apply i_mcl | with_reducible apply i_new | with_reducible apply i_mct | with_reducible apply i_mctP | with_reducible apply i_lenset | with_reducible apply i_sortset | with_reducible apply i_dnew | with_reducible apply i_tup2 | with_reducible apply i_a1 | with_reducible apply i_a0 | with_reducible apply i_o1 | with_reducible apply i_o0 | with_reducible apply b_addI | with_reducible apply b_sub | with_reducible apply c_eqI | with_reducible apply c_neI | with_reducible apply c_eqS | with_reducible apply c_neS | with_reducible apply c_lt | with_reducible apply c_le | with_reducible apply c_gt | with_reducible apply c_ge | with_reducible apply c_inLS | with_reducible apply c_inTS | with_reducible apply c_ninLS | with_reducible apply c_ninTS | with_reducible apply c_inDc | with_reducible apply c_ninDc | with_reducible apply c_isN | with_reducible apply c_isnN | with_reducible apply i_ifT | with_reducible apply i_ifF | with_reducible apply p_lenL | with_reducible apply p_lenT | with_reducible apply p_lenR | with_reducible apply p_lenD | with_reducible apply p_intI | with_reducible apply p_intB | with_reducible apply p_max | with_reducible apply p_min | with_reducible apply p_listL | with_reducible apply p_listT | with_reducible apply p_listD | with_reducible apply p_tupL | with_reducible apply z_lst | with_reducible apply z_tup | with_reducible apply ex_bl | with_reducible apply ex_int | with_reducible apply ex_str | with_reducible apply ex_lst | with_reducible apply ex_tup | with_reducible apply ex_lstO | with_reducible apply ex_asL | with_reducible apply and_val | ((with_reducible apply i_var); rfl) | ((with_reducible apply i_glb); rfl) | ((with_reducible apply i_app); rfl) | ((with_reducible apply s_tup); rfl) | ((with_reducible apply s_lst); rfl) | ((with_reducible apply and_lt); rfl) | ((with_reducible apply and_le); rfl) | ((with_reducible apply ex_isi); rfl) | ((with_reducible apply ex_eq); rfl) | ((with_reducible apply and_b); rfl) | with_reducible apply b_mul (mulOk_r (by decide) (by decide)) | with_reducible apply b_mul (mulOk_l (by decide) (by decide)) | with_reducible apply b_mod (by decide) | with_reducible apply b_fdiv ⟨by decide, by decide⟩)
theorem asL_ok {l : List D} : asD (.lst (l.map .sh)) = some (.lst l) := by
  unfold asD
  rw [asDs_sh] <;> rfl
/-! ### calls of methods -/
section
variable {Φ : Fns} {k : Nat} {cn : Str} {fs : List Str} {ds as : List D} {o o' r : O}
theorem i_vcall {s : MSpec} {Γ1 : List O} {i : Nat} {pa : Addr} {os : List O} {Kn : O → O → Prop} {Xn : EC → Int → O → Prop} (e0 : Γ1[i]? = some (.ins pa cn fs os)) (e : Φ.m k = some s) (l : as.length = s.np) (p : s.pre (.ins pa cn fs os) as) (e2 : s.out (.ins pa cn fs os) as = (.ok r, o')) (h : Kn r o') :
    ∃ p fs os s, Γ1[i]? = some (.ins p cn fs os) ∧ Φ.m k = some s ∧ as.length = s.np ∧ s.pre (.ins p cn fs os) as ∧ (match s.out (.ins p cn fs os) as with
    | (.ok r, o) => Kn r o
    | (.error (C, n), o) => Xn C n o) := ⟨pa, fs, os, s, e0, e, l, p, by rw [e2]; exact h⟩
theorem i_vcallX {s : MSpec} {Γ1 : List O} {i : Nat} {pa : Addr} {os : List O} {C : EC} {n : Int} {Kn : O → O → Prop} {Xn : EC → Int → O → Prop} (e0 : Γ1[i]? = some (.ins pa cn fs os)) (e : Φ.m k = some s) (l : as.length = s.np) (p : s.pre (.ins pa cn fs os) as) (e2 : s.out (.ins pa cn fs os) as = (.error (C, n), o')) (h : Xn C n o') :
    ∃ p fs os s, Γ1[i]? = some (.ins p cn fs os) ∧ Φ.m k = some s ∧ as.length = s.np ∧ s.pre (.ins p cn fs os) as ∧ (match s.out (.ins p cn fs os) as with
    | (.ok r, o) => Kn r o
    | (.error (C, n), o) => Xn C n o) := ⟨pa, fs, os, s, e0, e, l, p, by rw [e2]; exact h⟩
end
/-! ### is_row -/
def sgnB (c : Nat) : Bool := (!decide ((⟨#[c]⟩ : Str).cps.toList < (" " : Str).cps.toList)) && ((!decide (("~" : Str).cps.toList < (⟨#[c]⟩ : Str).cps.toList)) && !decide ((c : Int) = 37))
def rowB : D → Bool
  | .str s => s.cps.toList.all sgnB
  | _ => false
def txOk : D → Bool
  | .str s => decide (s.length ≤ 1000)
  | .non => true
  | .int _ => true
  | .lst _ => true
  | _ => false
def sp_is_row : FSpec := { np := 1, pre := fun ds => ∃ x, ds = [x] ∧ txOk x = true, out := fun ds => match ds with
  | [x] => .ok (.sh (.bl (rowB x)))
  | _ => .ok (.sh .non) }
def sgD : D → Bool
  | .str x => sgnB (x.cps.toList.headD 0)
  | _ => false
theorem m_is_row (Φ : Fns) : Mean glsD Φ f_is_row_c f_is_row_b sp_is_row := by
  rintro ds - ⟨x, rfl, hx⟩
  unfold f_is_row_b
  have str1 : ∀ s : Str, s.length ≤ 1000 → semB glsD Φ [(.ret (.prm .all1 [(.lc (.and (.cmp2 .LtE .LtE (.c (.str " ")) (.var 1) (.c (.str "~"))) (.cmp .NotEq (.prm .ord1 [(.var 1)]) (.glb 11))) (.nm 1) (.itS (.var 0)) none)]))] (gam0 f_is_row_c.N.length [.str s])
      ⟨fun _ => sp_is_row.out [.str s] = .ok (.sh .non), fun o _ => sp_is_row.out [.str s] = .ok o, fun _ => False, fun _ => False, fun C n _ => sp_is_row.out [.str s] = .error (C, n)⟩ := by
    intro s hs
    have hl : s.cps.toList.length ≤ 1000 := by rw [Array.length_toList]; exact hs
    refine i_b1 (i_ret (i_prm (i_a1 (i_lc (i_itS (i_var rfl ⟨s, rfl, by rw [List.length_map]; omega, fun d => some (.bl (sgD d)), fun d hd => ?_, _, asL_ok, i_a0 ⟨s.cps.toList.map sgnB, ?_, ?_⟩⟩))))))
    · obtain ⟨c, _, rfl⟩ := List.mem_map.mp hd
      refine ⟨_, rfl, i_t0 (i_ifT ?_)⟩
      refine i_and (i_cmp2 (i_c ⟨_, rfl, i_var rfl ⟨_, rfl, ?_⟩⟩))
      show (fun z => if z = true then _ else _) (!decide ((⟨#[c]⟩ : Str).cps.toList < (" " : Str).cps.toList))
      dsimp only
      have es : sgD (.str ⟨#[c]⟩) = sgnB c := rfl
      refine i_if (fun h1 => i_c ⟨_, rfl, ?_⟩) (fun h1 => ?_)
      · show ∃ x, O.sh (.bl (!decide (("~" : Str).cps.toList < (⟨#[c]⟩ : Str).cps.toList))) = .sh (.bl x) ∧ _
        refine ⟨_, rfl, i_if (fun h2 => ?_) (fun h2 => ?_)⟩
        · refine i_cmp (i_prm (i_a1 (i_var rfl ⟨_, rfl, i_a0 ⟨c, rfl, _, rfl, i_glb rfl ⟨_, rfl, c_neI ⟨rfl, _, rfl, ?_⟩⟩⟩⟩)))
          show some (D.bl (sgD (.str ⟨#[c]⟩))) = _
          rw [es]
          unfold sgnB
          rw [h1, h2, Bool.true_and, Bool.true_and]
        · refine ⟨rfl, _, rfl, ?_⟩
          show some (D.bl (sgD (.str ⟨#[c]⟩))) = _
          rw [es]
          unfold sgnB
          rw [h1, h2, Bool.true_and, Bool.false_and]
      · refine ⟨_, rfl, i_ifF ⟨rfl, _, rfl, ?_⟩⟩
        show some (D.bl (sgD (.str ⟨#[c]⟩))) = _
        rw [es]
        unfold sgnB
        rw [h1, Bool.false_and]
    · rw [List.filterMap_map, List.map_map]
      have : (fun d : D => some (D.bl (sgD d))) ∘ (fun c : Nat => D.str ⟨#[c]⟩) = fun c => some (D.bl (sgnB c)) := rfl
      rw [this, List.filterMap_eq_map']
      rfl
    · show sp_is_row.out [.str s] = .ok (.sh (.bl ((s.cps.toList.map sgnB).all id)))
      show Except.ok (O.sh (.bl (s.cps.toList.all sgnB))) = _
      rw [List.all_map]
      rfl
  refine i_b1 (i_ite (i_not (i_isi (i_var rfl ?_))))
  cases x with
  | str s =>
    refine ⟨_, _, rfl, rfl, _, rfl, _, rfl, i_ifF (i_b0 (str1 s (of_decide_eq_true hx)))⟩
  | non => exact ⟨_, _, rfl, rfl, _, rfl, _, rfl, i_ifT (i_b1 (i_ret (i_c rfl)))⟩
  | int i => exact ⟨_, _, rfl, rfl, _, rfl, _, rfl, i_ifT (i_b1 (i_ret (i_c rfl)))⟩
  | lst l => exact ⟨_, _, rfl, rfl, _, rfl, _, rfl, i_ifT (i_b1 (i_ret (i_c rfl)))⟩
  | _ => cases hx
/-! ### Sheet -/
def SF : List Str := ["lines", "past", "ahead"]
theorem lkL {α : Type} {a b c : α} : lookF SF [a, b, c] "lines" = some a := if_pos rfl
theorem lkP {α : Type} {a b c : α} : lookF SF [a, b, c] "past" = some b := by
  show (if ("lines" : Str) = "past" then some a else if ("past" : Str) = "past" then some b else _) = _
  rw [if_neg (by decide), if_pos rfl]
theorem lkA {α : Type} {a b c : α} : lookF SF [a, b, c] "ahead" = some c := by
  show (if ("lines" : Str) = "ahead" then some a else if ("past" : Str) = "ahead" then some b else if ("ahead" : Str) = "ahead" then some c else _) = _
  rw [if_neg (by decide), if_neg (by decide), if_pos rfl]
theorem ptL {α : Type} {a b c x : α} : putO SF [a, b, c] "lines" x = (SF, [x, b, c]) := by
  show putO (("lines" : Str) :: ["past", "ahead"]) [a, b, c] "lines" x = _
  rw [putO, if_pos rfl]
  rfl
theorem ptP {α : Type} {a b c x : α} : putO SF [a, b, c] "past" x = (SF, [a, x, c]) := by
  show putO (("lines" : Str) :: ["past", "ahead"]) [a, b, c] "past" x = _
  rw [putO, if_neg (by decide), putO, if_pos rfl]
  rfl
theorem ptA {α : Type} {a b c x : α} : putO SF [a, b, c] "ahead" x = (SF, [a, b, x]) := by
  show putO (("lines" : Str) :: ["past", "ahead"]) [a, b, c] "ahead" x = _
  rw [putO, if_neg (by decide), putO, if_neg (by decide), putO, if_pos rfl]
  rfl
/-- a sheet: its rows, what was, what lies ahead -/
def sh_ (p : Addr) (ls pa ah : List D) : O := .ins p "Sheet" SF [.sh (.tup ls), .lst (pa.map .sh), .lst (ah.map .sh)]
structure ShOk (ls pa ah : List D) : Prop where
  l : ls.length ≤ 200
  p : pa.length ≤ 1000
  a : ah.length ≤ 1000
  c : cleanDs ls = true
theorem asSh {p : Addr} {ls pa ah : List D} : asD (sh_ p ls pa ah) = some (.ins "Sheet" SF [.tup ls, .lst pa, .lst ah]) := by
  unfold sh_ asD asDs asD
  have e1 : asDs (pa.map O.sh) = some pa := asDs_sh _
  have e2 : asDs (ah.map O.sh) = some ah := asDs_sh _
  simp [asDs, asD, e1, e2]
def sp_sini : MSpec := { np := 0, pre := fun o ds => ∃ p, o = .ins p "Sheet" [] [] ∧ ds = [], out := fun o _ => match o with
  | .ins p _ _ _ => (.ok (.sh .non), sh_ p [] [] [])
  | o => (.ok (.sh .non), o) }
theorem m_sini (Φ : Fns) : MeanM glsD Φ f_Sheet_ini_c f_Sheet_ini_b sp_sini := by
  refine ⟨?_, fun o ds ⟨p, h, _⟩ => ⟨p, _, _, _, h⟩⟩
  rintro p cn fs os ds hl ⟨p', eo, rfl⟩
  cases eo
  unfold f_Sheet_ini_b
  have q0 : ∀ a : O, putO ([] : List Str) [] "lines" a = ((["lines"] : List Str), [a]) := fun a => rfl
  have q1 : ∀ a b : O, putO (["lines"] : List Str) [a] "past" b = ((["lines", "past"] : List Str), [a, b]) := fun a b => by
    unfold putO
    rw [if_neg (by decide)]
    rfl
  have q2 : ∀ a b c : O, putO (["lines", "past"] : List Str) [a, b] "ahead" c = (SF, [a, b, c]) := fun a b c => by
    unfold putO
    rw [if_neg (by decide)]
    unfold putO
    rw [if_neg (by decide)]
    rfl
  repeat walk_at "pw"
  refine ⟨_, _, _, rfl, by decide, ?_⟩
  rw [q0]
  repeat walk_at "pw"
  refine ⟨_, _, _, rfl, show 1 < 1000 by decide, ?_⟩
  rw [q1]
  repeat walk_at "pw"
  refine ⟨_, _, _, rfl, show 2 < 1000 by decide, ?_⟩
  rw [q2]
  repeat walk_at "pw"
  exact ⟨_, _, rfl, rfl⟩
/-- what a sheet becomes -/
def becO (o : O) (nw : List D) : O := match o with
  | .ins p _ _ [.sh (.tup ls), .lst pa, _] => .ins p "Sheet" SF [.sh (.tup nw), .lst (pa ++ [.sh (.tup ls)]), .lst []]
  | o => o
theorem becO_sh {p : Addr} {ls pa ah nw : List D} : becO (sh_ p ls pa ah) nw = sh_ p nw (pa ++ [.tup ls]) [] := by
  unfold sh_ becO
  simp
def sp_bec : MSpec := { np := 1, pre := fun o ds => ∃ p ls pa ah nw, o = sh_ p ls pa ah ∧ ShOk ls pa ah ∧ ds = [.tup nw], out := fun o ds => match ds with
  | [.tup nw] => (.ok (.sh .non), becO o nw)
  | _ => (.ok (.sh .non), o) }
theorem m_bec (Φ : Fns) : MeanM glsD Φ f_Sheet_become_c f_Sheet_become_b sp_bec := by
  refine ⟨?_, fun o ds ⟨p, _, _, _, _, h, _⟩ => ⟨p, _, _, _, h⟩⟩
  rintro p cn fs os ds hl ⟨p', ls, pa, ah, nw, eo, ok, rfl⟩
  cases eo
  unfold f_Sheet_become_b
  refine i_b1 (i_exp (i_lapp rfl asSh lkP (i_fld (i_var rfl ⟨_, _, _, rfl, lkL, rfl, ?_, ?_, _, lkP, ?_, ?_⟩))))
  · show cleanD (.tup ls) = true
    unfold cleanD
    exact ok.c
  · exact ⟨.inl ⟨_, rfl, rfl⟩, trivial⟩
  · rw [List.length_map]
    have := ok.p
    omega
  · rw [ptP]
    refine i_b1 (i_setf (i_lst (i_a0 ⟨by decide, _, _, _, rfl, show 3 < 1000 by decide, ?_⟩)))
    rw [ptA]
    refine i_b1 (i_setf (i_var rfl ⟨_, _, _, rfl, show 3 < 1000 by decide, ?_⟩))
    rw [ptL]
    refine i_b0 ⟨_, _, rfl, ?_⟩
    show (_, becO (sh_ p ls pa ah) nw) = _
    rw [becO_sh]
    unfold sh_
    simp
/-! ### need_place -/
def atOk : D → Bool
  | .int _ => true
  | .non => true
  | .bl _ => true
  | .str _ => true
  | _ => false
def inB (n : Int) : D → Bool
  | .int i => decide (0 ≤ i) && decide (i ≤ n)
  | _ => false
def sp_need : MSpec := { np := 2, pre := fun o ds => ∃ p ls pa ah x, ∃ n : Int, o = sh_ p ls pa ah ∧ ds = [x, .int n] ∧ atOk x = true, out := fun o ds => match ds with
  | [x, .int n] => (if inB n x = true then .ok (.sh .non) else .error (.BadRow, 1), o)
  | _ => (.ok (.sh .non), o) }
theorem m_need (Φ : Fns) : MeanM glsD Φ f_Sheet_need_place_c f_Sheet_need_place_b sp_need := by
  refine ⟨?_, fun o ds ⟨p, _, _, _, _, _, h, _⟩ => ⟨p, _, _, _, h⟩⟩
  rintro p cn fs os ds hl ⟨p', ls, pa, ah, x, n, eo, rfl, hx⟩
  cases eo
  unfold f_Sheet_need_place_b
  have bad : inB n x = false → (sp_need.out (sh_ p ls pa ah) [x, .int n]) = (.error (.BadRow, 1), sh_ p ls pa ah) := fun h => by
    show (if inB n x = true then _ else _, _) = _
    rw [h]
    rfl
  refine i_b1 (i_ite (i_or (i_not (i_isi (i_var rfl ?_)))))
  cases x with
  | non => exact ⟨_, _, rfl, rfl, _, rfl, _, rfl, i_ifT ⟨_, rfl, i_ifT (i_b1 (i_rse (i_c ⟨_, rfl, _, _, rfl, bad rfl⟩)))⟩⟩
  | str s => exact ⟨_, _, rfl, rfl, _, rfl, _, rfl, i_ifT ⟨_, rfl, i_ifT (i_b1 (i_rse (i_c ⟨_, rfl, _, _, rfl, bad rfl⟩)))⟩⟩
  | bl b =>
    refine ⟨_, _, rfl, rfl, _, rfl, _, rfl, i_ifF (i_or (i_isi (i_var rfl ⟨_, _, rfl, rfl, _, rfl, i_ifT ⟨_, rfl, i_ifT ?_⟩⟩)))⟩
    exact i_b1 (i_rse (i_c ⟨_, rfl, _, _, rfl, bad rfl⟩))
  | int i =>
    refine ⟨_, _, rfl, rfl, _, rfl, _, rfl, i_ifF (i_or (i_isi (i_var rfl ⟨_, _, rfl, rfl, _, rfl, i_ifF ?_⟩)))⟩
    refine i_not (i_cmp2 (i_c ⟨_, rfl, i_var rfl ⟨_, rfl, c_le ?_⟩⟩))
    refine i_if (fun h1 => i_var rfl ⟨_, rfl, c_le ?_⟩) (fun h1 => ?_)
    · refine ⟨_, rfl, _, rfl, i_if (fun h2 => ?_) (fun h2 => ?_)⟩
      · refine i_b1 (i_rse (i_c ⟨_, rfl, _, _, rfl, bad ?_⟩))
        show (decide (0 ≤ i) && decide (i ≤ n)) = false
        have h3 : decide (i ≤ n) = false := by simpa using h2
        rw [h3, Bool.and_false]
      · refine i_b0 (i_b0 ⟨_, _, rfl, ?_⟩)
        show (if (decide (0 ≤ i) && decide (i ≤ n)) = true then _ else _, _) = _
        have h3 : decide (i ≤ n) = true := by simpa using h2
        rw [h1, h3]
        rfl
    · refine ⟨_, rfl, _, rfl, i_ifT (i_b1 (i_rse (i_c ⟨_, rfl, _, _, rfl, bad ?_⟩)))⟩
      show (decide (0 ≤ i) && decide (i ≤ n)) = false
      rw [h1, Bool.false_and]
  | _ => cases hx
end K28

end
section
set_option Elab.async false
set_option linter.all false
set_option maxRecDepth 100000
set_option maxHeartbeats 4000000
namespace K28
open PySem PySem.Spec PyProof.Rows L2 PW
local macro_rules | `(tactic| walk_at "pw") => `(tactic| first | with_reducible apply i_for | with_reducible apply i_rng1 | with_reducible apply i_rng2 | with_reducible apply i_itL | with_reducible apply i_itT | with_reducible apply i_itS | with_reducible apply i_enm | with_reducible apply i_lc | with_reducible apply i_t0 | with_reducible apply i_t1 | with_reducible apply i_b1 | with_reducible apply i_b0 | with_reducible apply i_asgT | with_reducible apply i_asgF | with_reducible apply i_exp | with_reducible apply i_ret | with_reducible apply i_ite | with_reducible apply i_rse | with_reducible apply i_tryR | with_reducible apply i_tryA | with_reducible apply i_tryN | with_reducible apply i_pas | with_reducible apply i_brk | with_reducible apply i_cnt | with_reducible apply i_setf | with_reducible apply i_dput | with_reducible apply i_dputF | with_reducible apply i_c | with_reducible apply i_bin | with_reducible apply i_cmp | with_reducible apply i_not | with_reducible apply i_neg | with_reducible apply i_ifx | with_reducible apply i_tup | with_reducible apply i_lst | with_reducible apply i_lst1 | with_reducible apply i_sub | with_reducible apply i_slc | with_reducible apply i_cal | with_reducible apply i_prm | with_reducible apply i_mth | with_reducible apply i_isi | with_reducible apply i_peek | with_reducible apply i_fld | with_reducible apply i_mcl | with_reducible apply i_new | with_reducible apply i_mct | with_reducible apply i_mctP | with_reducible apply i_lenset | with_reducible apply i_sortset | with_reducible apply i_dnew | with_reducible apply i_tup2 | with_reducible apply i_a1 | with_reducible apply i_a0 | with_reducible apply i_o1 | with_reducible apply i_o0 | with_reducible apply b_addI | with_reducible apply b_sub | with_reducible apply c_eqI | with_reducible apply c_neI | with_reducible apply c_eqS | with_reducible apply c_neS | with_reducible apply c_lt | with_reducible apply c_le | with_reducible apply c_gt | with_reducible apply c_ge | with_reducible apply c_inLS | with_reducible apply c_inTS | with_reducible apply c_ninLS | with_reducible apply c_ninTS | with_reducible apply c_inDc | with_reducible apply c_ninDc | with_reducible apply c_isN | with_reducible apply c_isnN | with_reducible apply i_ifT | with_reducible apply i_ifF | with_reducible apply p_lenL | with_reducible apply p_lenT | with_reducible apply p_lenR | with_reducible apply p_lenD | with_reducible apply p_intI | with_reducible apply p_intB | with_reducible apply p_max | with_reducible apply p_min | with_reducible apply p_listL | with_reducible apply p_listT | with_reducible apply p_listD | with_reducible apply p_tupL | with_reducible apply z_lst | with_reducible apply z_tup | with_reducible apply ex_bl | with_reducible apply ex_int | with_reducible apply ex_str | with_reducible apply ex_lst | with_reducible apply ex_tup | with_reducible apply ex_lstO | with_reducible apply ex_asL | with_reducible apply and_val | ((with_reducible apply i_var); rfl) | ((with_reducible apply i_glb); rfl) | ((with_reducible apply i_app); rfl) | ((with_reducible apply s_tup); rfl) | ((with_reducible apply s_lst); rfl) | ((with_reducible apply and_lt); rfl) | ((with_reducible apply and_le); rfl) | ((with_reducible apply ex_isi); rfl) | ((with_reducible apply ex_eq); rfl) | ((with_reducible apply and_b); rfl) | with_reducible apply b_mul (mulOk_r (by decide) (by decide)) | with_reducible apply b_mul (mulOk_l (by decide) (by decide)) | with_reducible apply b_mod (by decide) | with_reducible apply b_fdiv ⟨by decide, by decide⟩)
/-! ### slices -/
theorem cutL_take (l : List D) (a : Nat) : cutL l none (some (a : Int)) = l.take a := by
  unfold cutL
  rw [HT.sIx_nat, HT.sIx_none, List.drop_zero, Nat.sub_zero]
  by_cases q : a ≤ l.length
  · rw [Nat.min_eq_left q]
  · rw [Nat.min_eq_right (by omega), List.take_of_length_le (Nat.le_refl _), List.take_of_length_le (by omega)]
theorem cutL_drop (l : List D) (a : Nat) : cutL l (some (a : Int)) none = l.drop a := by
  unfold cutL
  rw [HT.sIx_nat, HT.sIx_none]
  by_cases q : a ≤ l.length
  · rw [Nat.min_eq_left q, List.take_of_length_le]
    rw [List.length_drop]
    omega
  · rw [Nat.min_eq_right (by omega), List.drop_eq_nil_of_le (Nat.le_refl _), List.drop_eq_nil_of_le (by omega), List.take_nil]
/-! ### put_row, change_row, drop_row -/
def lsO : O → List D
  | .ins _ _ _ (.sh (.tup ls) :: _) => ls
  | _ => []
theorem lsO_sh {p : Addr} {ls pa ah : List D} : lsO (sh_ p ls pa ah) = ls := rfl
def iD : D → Int
  | .int i => i
  | _ => 0
def insD (ls : List D) (i : Int) (y : D) : List D := cutL ls none (some i) ++ [y] ++ cutL ls (some i) none
def chgD (ls : List D) (i : Int) (y : D) : List D := cutL ls none (some i) ++ [y] ++ cutL ls (some (i + 1)) none
def drpD (ls : List D) (i : Int) : List D := cutL ls none (some i) ++ cutL ls (some (i + 1)) none
def putB (ls : List D) (x y : D) : Bool := inB ls.length x && (rowB y && decide ((ls.length : Int) < 200))
def chgB (ls : List D) (x y : D) : Bool := inB ((ls.length : Int) - 1) x && rowB y
def PreS (n : Nat) (o : O) (ds : List D) : Prop := ∃ p ls pa ah x, o = sh_ p ls pa ah ∧ ShOk ls pa ah ∧ atOk x = true ∧ match n with
  | 1 => ds = [x]
  | _ => ∃ y, ds = [x, y] ∧ txOk y = true
def sp_put : MSpec := { np := 2, pre := PreS 2, out := fun o ds => match ds with
  | [x, y] => if putB (lsO o) x y = true then (.ok (.sh .non), becO o (insD (lsO o) (iD x) y)) else (.error (.BadRow, 1), o)
  | _ => (.ok (.sh .non), o) }
def sp_chg : MSpec := { np := 2, pre := PreS 2, out := fun o ds => match ds with
  | [x, y] => if chgB (lsO o) x y = true then (.ok (.sh .non), becO o (chgD (lsO o) (iD x) y)) else (.error (.BadRow, 1), o)
  | _ => (.ok (.sh .non), o) }
def sp_drp : MSpec := { np := 1, pre := PreS 1, out := fun o ds => match ds with
  | [x] => if inB (((lsO o).length : Int) - 1) x = true then (.ok (.sh .non), becO o (drpD (lsO o) (iD x))) else (.error (.BadRow, 1), o)
  | _ => (.ok (.sh .non), o) }
theorem cut_len (ls : List D) (i : Nat) : (cutL ls none (some (i : Int))).length ≤ ls.length ∧ (cutL ls (some (i : Int)) none).length ≤ ls.length := by
  rw [cutL_take, cutL_drop, List.length_take, List.length_drop]
  omega
theorem inB_ok {n : Int} {x : D} (h : inB n x = true) : ∃ i : Nat, x = .int i ∧ (i : Int) ≤ n := by
  cases x with
  | int i =>
    have h2 : (decide (0 ≤ i) && decide (i ≤ n)) = true := h
    simp only [Bool.and_eq_true, decide_eq_true_eq] at h2
    exact ⟨i.toNat, by rw [Int.toNat_of_nonneg h2.1], by omega⟩
  | _ => cases h
section
variable {Φ : Fns} (h4 : Φ.m 4 = some sp_bec) (h5 : Φ.m 5 = some sp_need) (h2 : Φ 2 = some sp_is_row)
include h4 h5 h2
theorem m_put : MeanM glsD Φ f_Sheet_put_row_c f_Sheet_put_row_b sp_put := by
  refine ⟨?_, fun o ds ⟨p, _, _, _, _, h, _⟩ => ⟨p, _, _, _, h⟩⟩
  rintro p cn fs os ds hl ⟨p', ls, pa, ah, x, eo, ok, hx, y, rfl, hy⟩
  cases eo
  unfold f_Sheet_put_row_b
  have hl2 := ok.l
  have bad : putB ls x y = false → sp_put.out (sh_ p ls pa ah) [x, y] = (.error (.BadRow, 1), sh_ p ls pa ah) := fun h => by
    show (if putB ls x y = true then _ else _) = _
    rw [h]
    rfl
  refine i_b1 (i_exp (i_mcv ⟨_, _, _, rfl, by decide⟩ (i_a1 (i_var rfl ⟨_, rfl, i_a1 (i_prm (i_a1 (i_fldv rfl lkL ⟨_, rfl, i_a0 (p_lenT ⟨_, rfl, i_a0 ?_⟩)⟩)))⟩))))
  have eN : sp_need.out (sh_ p ls pa ah) [x, .int ls.length] = (if inB ls.length x = true then .ok (.sh .non) else .error (.BadRow, 1), sh_ p ls pa ah) := rfl
  cases hi : inB ls.length x with
  | false =>
    rw [hi] at eN
    refine i_vcallX (os := [.sh (.tup ls), .lst (pa.map .sh), .lst (ah.map .sh)]) rfl h5 rfl ⟨p, ls, pa, ah, x, _, rfl, rfl, hx⟩ eN ?_
    refine ⟨_, _, rfl, bad ?_⟩
    unfold putB
    rw [hi]
    rfl
  | true =>
    rw [hi] at eN
    refine i_vcall (os := [.sh (.tup ls), .lst (pa.map .sh), .lst (ah.map .sh)]) rfl h5 rfl ⟨p, ls, pa, ah, x, _, rfl, rfl, hx⟩ eN ?_
    obtain ⟨i, rfl, hi2⟩ := inB_ok hi
    refine (show semB glsD Φ _ (gamM 3 (sh_ p ls pa ah) [.int i, y]) ⟨_, _, _, _, _⟩ from ?_)
    refine i_b1 (i_ite (i_or (i_not (i_cal (i_a1 (i_var rfl ⟨_, rfl, i_a0 (i_call h2 rfl ⟨y, rfl, hy⟩ rfl ⟨rowB y, rfl, _, rfl, ?_⟩)⟩))))))
    cases hr : rowB y with
    | false =>
      refine i_ifT ⟨_, rfl, i_ifT (i_b1 (i_rse (i_c ⟨_, rfl, _, _, rfl, bad ?_⟩)))⟩
      unfold putB
      rw [hr, Bool.false_and, Bool.and_false]
    | true =>
      refine i_ifF (i_cmp (i_prm (i_a1 (i_fldv rfl lkL ⟨_, rfl, i_a0 (p_lenT ⟨_, rfl, i_glb rfl ⟨_, rfl, c_ge ⟨_, rfl, i_if (fun h7 => ?_) (fun h7 => ?_)⟩⟩⟩)⟩))))
      · refine i_b1 (i_rse (i_c ⟨_, rfl, _, _, rfl, bad ?_⟩))
        have h8 : ¬ ((ls.length : Int) < 200) := by have := of_decide_eq_true h7; omega
        unfold putB
        rw [decide_eq_false h8, Bool.and_false, Bool.and_false]
      · have h8 : (ls.length : Int) < 200 := by have := of_decide_eq_false h7; omega
        refine i_b0 (i_b1 (i_exp (i_mcv ⟨_, _, _, rfl, by decide⟩ (i_a1 (i_bin (i_bin (i_slc (i_fldv rfl lkL ⟨_, rfl, i_o0 (i_o1 (i_var rfl ⟨_, rfl, z_tup ⟨_, rfl, i_tup (i_a1 (i_var rfl ⟨_, rfl, i_a0 ⟨by show 1 ≤ 16777216; decide, _, rfl, ?_, ?_⟩⟩))⟩⟩))⟩))))))))
        · have := (cut_len ls i).1
          show (cutL ls none (some (i : Int))).length + 1 ≤ 16777216
          omega
        refine ⟨_, rfl, i_slc (i_fldv rfl lkL ⟨_, rfl, i_o1 (i_var rfl ⟨_, rfl, i_o0 (z_tup ⟨_, rfl, ?_, ?_⟩)⟩)⟩)⟩
        · have := (cut_len ls i).1
          have := (cut_len ls i).2
          show (cutL ls none (some (i : Int)) ++ [y]).length + (cutL ls (some (i : Int)) none).length ≤ 16777216
          rw [List.length_append, List.length_singleton]
          omega
        refine ⟨_, rfl, i_a0 (i_vcall (os := [.sh (.tup ls), .lst (pa.map .sh), .lst (ah.map .sh)]) (o' := becO (sh_ p ls pa ah) (insD ls i y)) rfl h4 rfl ⟨p, ls, pa, ah, insD ls i y, rfl, ok, rfl⟩ rfl ?_)⟩
        refine i_b0 ?_
        rw [becO_sh]
        refine ⟨_, _, rfl, ?_⟩
        show (if putB ls (.int i) y = true then _ else _) = _
        have e : putB ls (.int i) y = true := by
          unfold putB
          rw [hi, hr, decide_eq_true h8]
          rfl
        rw [e]
        show (_, becO (sh_ p ls pa ah) (insD ls i y)) = _
        rw [becO_sh]
        rfl
theorem m_chg : MeanM glsD Φ f_Sheet_change_row_c f_Sheet_change_row_b sp_chg := by
  refine ⟨?_, fun o ds ⟨p, _, _, _, _, h, _⟩ => ⟨p, _, _, _, h⟩⟩
  rintro p cn fs os ds hl ⟨p', ls, pa, ah, x, eo, ok, hx, y, rfl, hy⟩
  cases eo
  unfold f_Sheet_change_row_b
  have hl2 := ok.l
  have bad : chgB ls x y = false → sp_chg.out (sh_ p ls pa ah) [x, y] = (.error (.BadRow, 1), sh_ p ls pa ah) := fun h => by
    show (if chgB ls x y = true then _ else _) = _
    rw [h]
    rfl
  refine i_b1 (i_exp (i_mcv ⟨_, _, _, rfl, by decide⟩ (i_a1 (i_var rfl ⟨_, rfl, i_a1 (i_bin (i_prm (i_a1 (i_fldv rfl lkL ⟨_, rfl, i_a0 (p_lenT ⟨_, rfl, i_c ⟨_, rfl, b_sub ⟨_, rfl, i_a0 ?_⟩⟩⟩)⟩))))⟩))))
  have eN : sp_need.out (sh_ p ls pa ah) [x, .int ((ls.length : Int) - 1)] = (if inB ((ls.length : Int) - 1) x = true then .ok (.sh .non) else .error (.BadRow, 1), sh_ p ls pa ah) := rfl
  cases hi : inB ((ls.length : Int) - 1) x with
  | false =>
    rw [hi] at eN
    refine i_vcallX (os := [.sh (.tup ls), .lst (pa.map .sh), .lst (ah.map .sh)]) rfl h5 rfl ⟨p, ls, pa, ah, x, _, rfl, rfl, hx⟩ eN ?_
    refine ⟨_, _, rfl, bad ?_⟩
    unfold chgB
    rw [hi]
    rfl
  | true =>
    rw [hi] at eN
    refine i_vcall (os := [.sh (.tup ls), .lst (pa.map .sh), .lst (ah.map .sh)]) rfl h5 rfl ⟨p, ls, pa, ah, x, _, rfl, rfl, hx⟩ eN ?_
    obtain ⟨i, rfl, hi2⟩ := inB_ok hi
    refine (show semB glsD Φ _ (gamM 3 (sh_ p ls pa ah) [.int i, y]) ⟨_, _, _, _, _⟩ from ?_)
    refine i_b1 (i_ite (i_not (i_cal (i_a1 (i_var rfl ⟨_, rfl, i_a0 (i_call h2 rfl ⟨y, rfl, hy⟩ rfl ⟨rowB y, rfl, _, rfl, ?_⟩)⟩)))))
    cases hr : rowB y with
    | false =>
      refine i_ifT (i_b1 (i_rse (i_c ⟨_, rfl, _, _, rfl, bad ?_⟩)))
      unfold chgB
      rw [hr, Bool.and_false]
    | true =>
      refine i_ifF (i_b0 (i_b1 (i_exp (i_mcv ⟨_, _, _, rfl, by decide⟩ (i_a1 (i_bin (i_bin (i_slc (i_fldv rfl lkL ⟨_, rfl, i_o0 (i_o1 (i_var rfl ⟨_, rfl, z_tup ⟨_, rfl, i_tup (i_a1 (i_var rfl ⟨_, rfl, i_a0 ⟨by show 1 ≤ 16777216; decide, _, rfl, ?_, ?_⟩⟩))⟩⟩))⟩)))))))))
      · have := (cut_len ls i).1
        show (cutL ls none (some (i : Int))).length + 1 ≤ 16777216
        omega
      refine ⟨_, rfl, i_slc (i_fldv rfl lkL ⟨_, rfl, i_o1 (i_bin (i_var rfl ⟨_, rfl, i_c ⟨_, rfl, b_addI ⟨_, rfl, i_o0 (z_tup ⟨_, rfl, ?_, ?_⟩)⟩⟩⟩))⟩)⟩
      · have := (cut_len ls i).1
        have := (cut_len ls (i + 1)).2
        show (cutL ls none (some (i : Int)) ++ [y]).length + (cutL ls (some ((i : Int) + 1)) none).length ≤ 16777216
        rw [List.length_append, List.length_singleton]
        have e1 : ((i : Int) + 1) = ((i + 1 : Nat) : Int) := by omega
        rw [e1]
        omega
      refine ⟨_, rfl, i_a0 (i_vcall (os := [.sh (.tup ls), .lst (pa.map .sh), .lst (ah.map .sh)]) (o' := becO (sh_ p ls pa ah) (chgD ls i y)) rfl h4 rfl ⟨p, ls, pa, ah, chgD ls i y, rfl, ok, rfl⟩ rfl ?_)⟩
      refine i_b0 ?_
      rw [becO_sh]
      refine ⟨_, _, rfl, ?_⟩
      show (if chgB ls (.int i) y = true then _ else _) = _
      have e : chgB ls (.int i) y = true := by
        unfold chgB
        rw [hi, hr]
        rfl
      rw [e]
      show (_, becO (sh_ p ls pa ah) (chgD ls i y)) = _
      rw [becO_sh]
      rfl
omit h2
theorem m_drp : MeanM glsD Φ f_Sheet_drop_row_c f_Sheet_drop_row_b sp_drp := by
  refine ⟨?_, fun o ds ⟨p, _, _, _, _, h, _⟩ => ⟨p, _, _, _, h⟩⟩
  rintro p cn fs os ds hl ⟨p', ls, pa, ah, x, eo, ok, hx, rfl⟩
  cases eo
  unfold f_Sheet_drop_row_b
  have hl2 := ok.l
  refine i_b1 (i_exp (i_mcv ⟨_, _, _, rfl, by decide⟩ (i_a1 (i_var rfl ⟨_, rfl, i_a1 (i_bin (i_prm (i_a1 (i_fldv rfl lkL ⟨_, rfl, i_a0 (p_lenT ⟨_, rfl, i_c ⟨_, rfl, b_sub ⟨_, rfl, i_a0 ?_⟩⟩⟩)⟩))))⟩))))
  have eN : sp_need.out (sh_ p ls pa ah) [x, .int ((ls.length : Int) - 1)] = (if inB ((ls.length : Int) - 1) x = true then .ok (.sh .non) else .error (.BadRow, 1), sh_ p ls pa ah) := rfl
  cases hi : inB ((ls.length : Int) - 1) x with
  | false =>
    rw [hi] at eN
    refine i_vcallX (os := [.sh (.tup ls), .lst (pa.map .sh), .lst (ah.map .sh)]) rfl h5 rfl ⟨p, ls, pa, ah, x, _, rfl, rfl, hx⟩ eN ?_
    refine ⟨_, _, rfl, ?_⟩
    show (if inB ((ls.length : Int) - 1) x = true then _ else _) = _
    rw [hi]
    rfl
  | true =>
    rw [hi] at eN
    refine i_vcall (os := [.sh (.tup ls), .lst (pa.map .sh), .lst (ah.map .sh)]) rfl h5 rfl ⟨p, ls, pa, ah, x, _, rfl, rfl, hx⟩ eN ?_
    obtain ⟨i, rfl, hi2⟩ := inB_ok hi
    refine (show semB glsD Φ _ (gamM 2 (sh_ p ls pa ah) [.int i]) ⟨_, _, _, _, _⟩ from ?_)
    refine i_b1 (i_exp (i_mcv ⟨_, _, _, rfl, by decide⟩ (i_a1 (i_bin (i_slc (i_fldv rfl lkL ⟨_, rfl, i_o0 (i_o1 (i_var rfl ⟨_, rfl, z_tup ⟨_, rfl, i_slc (i_fldv rfl lkL ⟨_, rfl, i_o1 (i_bin (i_var rfl ⟨_, rfl, i_c ⟨_, rfl, b_addI ⟨_, rfl, i_o0 (z_tup ⟨_, rfl, ?_, ?_⟩)⟩⟩⟩))⟩)⟩⟩))⟩))))))
    · have := (cut_len ls i).1
      have := (cut_len ls (i + 1)).2
      show (cutL ls none (some (i : Int))).length + (cutL ls (some ((i : Int) + 1)) none).length ≤ 16777216
      have e1 : ((i : Int) + 1) = ((i + 1 : Nat) : Int) := by omega
      rw [e1]
      omega
    refine ⟨_, rfl, i_a0 (i_vcall (os := [.sh (.tup ls), .lst (pa.map .sh), .lst (ah.map .sh)]) (o' := becO (sh_ p ls pa ah) (drpD ls i)) rfl h4 rfl ⟨p, ls, pa, ah, drpD ls i, rfl, ok, rfl⟩ rfl ?_)⟩
    refine i_b0 ?_
    rw [becO_sh]
    refine ⟨_, _, rfl, ?_⟩
    show (if inB ((ls.length : Int) - 1) (.int i) = true then _ else _) = _
    rw [hi]
    show (_, becO (sh_ p ls pa ah) (drpD ls i)) = _
    rw [becO_sh]
    rfl
/-! ### known_at, where it is refused -/
omit h4
def sp_kno : MSpec := { np := 1, pre := fun o ds => ∃ p ls pa ah x, o = sh_ p ls pa ah ∧ ds = [x] ∧ atOk x = true ∧ inB ls.length x = false, out := fun o _ => (.error (.BadRow, 1), o) }
theorem m_kno : MeanM glsD Φ f_Sheet_known_at_c f_Sheet_known_at_b sp_kno := by
  refine ⟨?_, fun o ds ⟨p, _, _, _, _, h, _⟩ => ⟨p, _, _, _, h⟩⟩
  rintro p cn fs os ds hl ⟨p', ls, pa, ah, x, eo, rfl, hx, hi⟩
  cases eo
  unfold f_Sheet_known_at_b
  refine i_b1 (i_exp (i_mcv ⟨_, _, _, rfl, by decide⟩ (i_a1 (i_var rfl ⟨_, rfl, i_a1 (i_prm (i_a1 (i_fldv rfl lkL ⟨_, rfl, i_a0 (p_lenT ⟨_, rfl, i_a0 ?_⟩)⟩)))⟩))))
  have eN : sp_need.out (sh_ p ls pa ah) [x, .int ls.length] = (if inB ls.length x = true then .ok (.sh .non) else .error (.BadRow, 1), sh_ p ls pa ah) := rfl
  rw [hi] at eN
  exact i_vcallX (os := [.sh (.tup ls), .lst (pa.map .sh), .lst (ah.map .sh)]) rfl h5 rfl ⟨p, ls, pa, ah, x, _, rfl, rfl, hx⟩ eN ⟨_, _, rfl, rfl⟩
end
end K28

end
section
set_option Elab.async false
set_option linter.all false
set_option maxRecDepth 100000
set_option maxHeartbeats 4000000
namespace K28
open PySem PySem.Spec PyProof.Rows L2 PW
local macro_rules | `(tactic| walk_at "pw") => `(tactic| first | with_reducible apply i_for | with_reducible apply i_rng1 | with_reducible apply i_rng2 | with_reducible apply i_itL | with_reducible apply i_itT | with_reducible apply i_itS | with_reducible apply i_enm | with_reducible apply i_lc | with_reducible apply i_t0 | with_reducible apply i_t1 | with_reducible apply i_b1 | with_reducible apply i_b0 | with_reducible apply i_asgT | with_reducible apply i_asgF | with_reducible apply i_exp | with_reducible apply i_ret | with_reducible apply i_ite | with_reducible apply i_rse | with_reducible apply i_tryR | with_reducible apply i_tryA | with_reducible apply i_tryN | with_reducible apply i_pas | with_reducible apply i_brk | with_reducible apply i_cnt | with_reducible apply i_setf | with_reducible apply i_dput | with_reducible apply i_dputF | with_reducible apply i_c | with_reducible apply i_bin | with_reducible apply i_cmp | with_reducible apply i_not | with_reducible apply i_neg | with_reducible apply i_ifx | with_reducible apply i_tup | with_reducible apply i_lst | with_reducible apply i_lst1 | with_reducible apply i_sub | with_reducible apply i_slc | with_reducible apply i_cal | with_reducible apply i_prm | with_reducible apply i_mth | with_reducible apply i_isi | with_reducible apply i_peek | with_reducible apply i_fld | with_reducible apply i_mcl | with_reducible apply i_new | with_reducible apply i_mct | with_reducible apply i_mctP | with_reducible apply i_lenset | with_reducible apply i_sortset | with_reducible apply i_dnew | with_reducible apply i_tup2 | with_reducible apply i_a1 | with_reducible apply i_a0 | with_reducible apply i_o1 | with_reducible apply i_o0 | with_reducible apply b_addI | with_reducible apply b_sub | with_reducible apply c_eqI | with_reducible apply c_neI | with_reducible apply c_eqS | with_reducible apply c_neS | with_reducible apply c_lt | with_reducible apply c_le | with_reducible apply c_gt | with_reducible apply c_ge | with_reducible apply c_inLS | with_reducible apply c_inTS | with_reducible apply c_ninLS | with_reducible apply c_ninTS | with_reducible apply c_inDc | with_reducible apply c_ninDc | with_reducible apply c_isN | with_reducible apply c_isnN | with_reducible apply i_ifT | with_reducible apply i_ifF | with_reducible apply p_lenL | with_reducible apply p_lenT | with_reducible apply p_lenR | with_reducible apply p_lenD | with_reducible apply p_intI | with_reducible apply p_intB | with_reducible apply p_max | with_reducible apply p_min | with_reducible apply p_listL | with_reducible apply p_listT | with_reducible apply p_listD | with_reducible apply p_tupL | with_reducible apply z_lst | with_reducible apply z_tup | with_reducible apply ex_bl | with_reducible apply ex_int | with_reducible apply ex_str | with_reducible apply ex_lst | with_reducible apply ex_tup | with_reducible apply ex_lstO | with_reducible apply ex_asL | with_reducible apply and_val | ((with_reducible apply i_var); rfl) | ((with_reducible apply i_glb); rfl) | ((with_reducible apply i_app); rfl) | ((with_reducible apply s_tup); rfl) | ((with_reducible apply s_lst); rfl) | ((with_reducible apply and_lt); rfl) | ((with_reducible apply and_le); rfl) | ((with_reducible apply ex_isi); rfl) | ((with_reducible apply ex_eq); rfl) | ((with_reducible apply and_b); rfl) | with_reducible apply b_mul (mulOk_r (by decide) (by decide)) | with_reducible apply b_mul (mulOk_l (by decide) (by decide)) | with_reducible apply b_mod (by decide) | with_reducible apply b_fdiv ⟨by decide, by decide⟩)
/-! ### undo, redo, rows -/
def undO (o : O) : O := match o with
  | .ins p c f [.sh (.tup ls), .lst pa, .lst ah] => (match pa.getLast? with
    | some (.sh d) => .ins p c f [.sh d, .lst pa.dropLast, .lst (ah ++ [.sh (.tup ls)])]
    | _ => .ins p c f [.sh (.tup ls), .lst pa, .lst ah])
  | o => o
def pastO : O → List O
  | .ins _ _ _ [_, .lst pa, _] => pa
  | _ => []
def ahO : O → List O
  | .ins _ _ _ [_, _, .lst ah] => ah
  | _ => []
def sp_undo : MSpec := { np := 0, pre := fun o ds => ds = [] ∧ ∃ p ls pa ah l0, o = sh_ p ls (pa ++ [.tup l0]) ah ∧ ShOk ls (pa ++ [.tup l0]) ah ∧ ∀ d, d ∈ pa ++ [.tup l0] → dep d ≤ 40, out := fun o _ => (.ok (.sh (.bl true)), undO o) }
theorem undO_sh {p : Addr} {ls pa ah : List D} {d : D} : undO (sh_ p ls (pa ++ [d]) ah) = .ins p "Sheet" SF [.sh d, .lst (pa.map .sh), .lst ((ah ++ [D.tup ls]).map .sh)] := by
  unfold sh_ undO
  simp
theorem share_sh {p : Addr} {ls pa ah : List D} : share [sh_ p ls pa ah] = [.sh (.ins "Sheet" SF [.tup ls, .lst pa, .lst ah])] := by
  have e : asD (sh_ p ls pa ah) = some (.ins "Sheet" SF [.tup ls, .lst pa, .lst ah]) := asSh
  unfold share
  rw [List.map_cons, e]
  rfl
theorem depAll_le {n : Nat} : ∀ {l : List D}, (∀ d, d ∈ l → dep d ≤ n) → PyData.depthAll (toPys l) ≤ n
  | [], _ => by simp [toPys, PyData.depthAll]
  | x :: r, h => by
    have h1 := depAll_le (l := r) fun d hd => h d (List.mem_cons_of_mem _ hd)
    have h2 := h x List.mem_cons_self
    unfold dep at h2
    simp only [toPys, PyData.depthAll]
    omega
theorem dep_lst_le {n : Nat} {l : List D} (h : ∀ d, d ∈ l → dep d ≤ n) : dep (.lst l) ≤ n + 1 := by
  have := depAll_le h
  unfold dep
  simp only [toPy, PyData.depth]
  omega
theorem eq_nil_app {l : List D} {d : D} : eqD (.lst (l ++ [d])) (.lst []) = false := by
  unfold eqD
  simp only [toPy, toPys]
  cases l <;> simp [toPys, PyData.eqv, PyData.eqvAll]
theorem m_undo (Φ : Fns) : MeanM glsD Φ f_Sheet_undo_c f_Sheet_undo_b sp_undo := by
  refine ⟨?_, fun o ds ⟨_, p, _, _, _, _, h, _⟩ => ⟨p, _, _, _, h⟩⟩
  rintro p cn fs os ds hl ⟨rfl, p', ls, pa, ah, l0, eo, ok, hd⟩
  cases eo
  unfold f_Sheet_undo_b
  have es : share (gamM f_Sheet_undo_c.N.length (sh_ p ls (pa ++ [.tup l0]) ah) []) = [.sh (.ins "Sheet" SF [.tup ls, .lst (pa ++ [.tup l0]), .lst ah])] := share_sh
  refine i_b1 (i_ite (i_peek ?_))
  refine (show sem glsD Φ _ (share (gamM f_Sheet_undo_c.N.length (sh_ p ls (pa ++ [.tup l0]) ah) [])) _ _ from ?_)
  rw [es]
  refine i_cmp (i_fld (i_var rfl ⟨_, _, _, rfl, lkP, _, rfl, i_lst (i_a0 ⟨by decide, _, rfl, c_eq ⟨?_, by decide⟩ ⟨es.symm, _, rfl, rfl, _, rfl, ?_⟩⟩)⟩))
  · have := dep_lst_le hd
    omega
  rw [eq_nil_app]
  refine i_ifF (i_b0 (i_b1 (i_exp (i_lapp (ls := ah.map .sh) rfl asSh lkA (i_fld (i_var rfl ⟨_, _, _, rfl, lkL, rfl, ?_, trivial, _, lkA, ?_, ?_⟩))))))
  · show cleanD (.tup ls) = true
    unfold cleanD
    exact ok.c
  · rw [List.length_map]
    have := ok.a
    omega
  rw [ptA]
  refine i_b1 (i_setf (i_lpop (ls := pa.map .sh) (d := .tup l0) rfl ?_ ?_))
  · rw [lkP, List.map_append]
    rfl
  rw [ptP]
  refine ⟨_, _, _, rfl, show 3 < 1000 by decide, ?_⟩
  rw [ptL]
  refine i_b1 (i_ret (i_c ⟨_, _, rfl, ?_⟩))
  show (_, undO (sh_ p ls (pa ++ [.tup l0]) ah)) = _
  rw [undO_sh, List.map_append]
  rfl
/-- redo, when there is nothing to do again -/
def sp_redo : MSpec := { np := 0, pre := fun o ds => ds = [] ∧ ∃ p ls pa, o = sh_ p ls pa [], out := fun o _ => (.ok (.sh (.bl false)), o) }
theorem m_redo (Φ : Fns) : MeanM glsD Φ f_Sheet_redo_c f_Sheet_redo_b sp_redo := by
  refine ⟨?_, fun o ds ⟨_, p, _, _, h⟩ => ⟨p, _, _, _, h⟩⟩
  rintro p cn fs os ds hl ⟨rfl, p', ls, pa, eo⟩
  cases eo
  unfold f_Sheet_redo_b
  have es : share (gamM f_Sheet_redo_c.N.length (sh_ p ls pa []) []) = [.sh (.ins "Sheet" SF [.tup ls, .lst pa, .lst []])] := share_sh
  refine i_b1 (i_ite (i_peek ?_))
  refine (show sem glsD Φ _ (share (gamM f_Sheet_redo_c.N.length (sh_ p ls pa []) [])) _ _ from ?_)
  rw [es]
  refine i_cmp (i_fld (i_var rfl ⟨_, _, _, rfl, lkA, _, rfl, i_lst (i_a0 ⟨by decide, _, rfl, c_eq ⟨by decide, by decide⟩ ⟨es.symm, _, rfl, rfl, _, rfl, ?_⟩⟩)⟩))
  have e : eqD (.lst []) (.lst (([] : List D))) = true := by decide
  rw [e]
  exact i_ifT (i_b1 (i_ret (i_c ⟨_, _, rfl, rfl⟩)))
def sp_rows : MSpec := { np := 0, pre := fun o ds => ds = [] ∧ ∃ p ls pa ah, o = sh_ p ls pa ah, out := fun o _ => (.ok (.lst ((lsO o).map .sh)), o) }
theorem m_rows (Φ : Fns) : MeanM glsD Φ f_Sheet_rows_c f_Sheet_rows_b sp_rows := by
  refine ⟨?_, fun o ds ⟨_, p, _, _, _, h⟩ => ⟨p, _, _, _, h⟩⟩
  rintro p cn fs os ds hl ⟨rfl, p', ls, pa, ah, eo⟩
  cases eo
  unfold f_Sheet_rows_b
  exact i_b1 (i_ret (i_prm (i_a1 (i_fldv rfl lkL ⟨_, rfl, i_a0 (p_listT ⟨_, _, rfl, rfl⟩)⟩))))
end K28

end
section
set_option Elab.async false
set_option linter.all false
set_option maxRecDepth 100000
set_option maxHeartbeats 4000000
namespace K28
open PySem PySem.Spec PyProof.Rows L2 PW
local macro_rules | `(tactic| walk_at "pw") => `(tactic| first | with_reducible apply i_for | with_reducible apply i_rng1 | with_reducible apply i_rng2 | with_reducible apply i_itL | with_reducible apply i_itT | with_reducible apply i_itS | with_reducible apply i_enm | with_reducible apply i_lc | with_reducible apply i_t0 | with_reducible apply i_t1 | with_reducible apply i_b1 | with_reducible apply i_b0 | with_reducible apply i_asgT | with_reducible apply i_asgF | with_reducible apply i_exp | with_reducible apply i_ret | with_reducible apply i_ite | with_reducible apply i_rse | with_reducible apply i_tryR | with_reducible apply i_tryA | with_reducible apply i_tryN | with_reducible apply i_pas | with_reducible apply i_brk | with_reducible apply i_cnt | with_reducible apply i_setf | with_reducible apply i_dput | with_reducible apply i_dputF | with_reducible apply i_c | with_reducible apply i_bin | with_reducible apply i_cmp | with_reducible apply i_not | with_reducible apply i_neg | with_reducible apply i_ifx | with_reducible apply i_tup | with_reducible apply i_lst | with_reducible apply i_lst1 | with_reducible apply i_sub | with_reducible apply i_slc | with_reducible apply i_cal | with_reducible apply i_prm | with_reducible apply i_mth | with_reducible apply i_isi | with_reducible apply i_peek | with_reducible apply i_fld | with_reducible apply i_mcl | with_reducible apply i_new | with_reducible apply i_mct | with_reducible apply i_mctP | with_reducible apply i_lenset | with_reducible apply i_sortset | with_reducible apply i_dnew | with_reducible apply i_tup2 | with_reducible apply i_a1 | with_reducible apply i_a0 | with_reducible apply i_o1 | with_reducible apply i_o0 | with_reducible apply b_addI | with_reducible apply b_sub | with_reducible apply c_eqI | with_reducible apply c_neI | with_reducible apply c_eqS | with_reducible apply c_neS | with_reducible apply c_lt | with_reducible apply c_le | with_reducible apply c_gt | with_reducible apply c_ge | with_reducible apply c_inLS | with_reducible apply c_inTS | with_reducible apply c_ninLS | with_reducible apply c_ninTS | with_reducible apply c_inDc | with_reducible apply c_ninDc | with_reducible apply c_isN | with_reducible apply c_isnN | with_reducible apply i_ifT | with_reducible apply i_ifF | with_reducible apply p_lenL | with_reducible apply p_lenT | with_reducible apply p_lenR | with_reducible apply p_lenD | with_reducible apply p_intI | with_reducible apply p_intB | with_reducible apply p_max | with_reducible apply p_min | with_reducible apply p_listL | with_reducible apply p_listT | with_reducible apply p_listD | with_reducible apply p_tupL | with_reducible apply z_lst | with_reducible apply z_tup | with_reducible apply ex_bl | with_reducible apply ex_int | with_reducible apply ex_str | with_reducible apply ex_lst | with_reducible apply ex_tup | with_reducible apply ex_lstO | with_reducible apply ex_asL | with_reducible apply and_val | ((with_reducible apply i_var); rfl) | ((with_reducible apply i_glb); rfl) | ((with_reducible apply i_app); rfl) | ((with_reducible apply s_tup); rfl) | ((with_reducible apply s_lst); rfl) | ((with_reducible apply and_lt); rfl) | ((with_reducible apply and_le); rfl) | ((with_reducible apply ex_isi); rfl) | ((with_reducible apply ex_eq); rfl) | ((with_reducible apply and_b); rfl) | with_reducible apply b_mul (mulOk_r (by decide) (by decide)) | with_reducible apply b_mul (mulOk_l (by decide) (by decide)) | with_reducible apply b_mod (by decide) | with_reducible apply b_fdiv ⟨by decide, by decide⟩)
/-! ### sheets of texts -/
def ft (y : List Str) : D := .tup (y.map .str)
def SH (p : Addr) (xs : List Str) (ps : List (List Str)) : O := sh_ p (xs.map .str) (ps.map ft) []
theorem clean_strs : ∀ xs : List Str, cleanDs (xs.map .str) = true
  | [] => rfl
  | x :: r => by
    rw [List.map_cons]
    unfold cleanDs
    rw [clean_strs r]
    rfl
theorem shOk {xs : List Str} {ps : List (List Str)} (h1 : xs.length ≤ 200) (h2 : ps.length ≤ 1000) : ShOk (xs.map .str) (ps.map ft) [] :=
  ⟨by rw [List.length_map]; exact h1, by rw [List.length_map]; exact h2, by decide, clean_strs xs⟩
theorem dep_ft (y : List Str) : dep (ft y) ≤ 40 := by
  have := depAll_strs y
  unfold dep ft
  simp only [toPy, PyData.depth]
  omega
theorem eqs_refl : ∀ l : List Str, PyData.eqvAll (toPys (l.map D.str)) (toPys (l.map D.str)) = true
  | [] => by simp [toPys, PyData.eqvAll]
  | x :: r => by
    have := eqs_refl r
    simp only [List.map_cons, toPys, toPy, PyData.eqvAll, this, Bool.and_true]
    simp [PyData.eqv]
theorem eqL_refl (l : List Str) : eqD (.lst (l.map .str)) (.lst (l.map .str)) = true := by
  unfold eqD
  simp only [toPy, PyData.eqv, eqs_refl]
section
variable {p : Addr} {xs : List Str} {ps : List (List Str)} {i : Nat} {y : Str} {x d : D}
theorem inB_int {n j : Int} : inB n (.int j) = (decide (0 ≤ j) && decide (j ≤ n)) := rfl
theorem ft_snoc : ps.map ft ++ [.tup (xs.map .str)] = (ps ++ [xs]).map ft := by
  rw [List.map_append]
  rfl
theorem put_ok (hi : i ≤ xs.length) (hl : xs.length < 200) (hr : rowB (.str y) = true) : sp_put.out (SH p xs ps) [.int (i : Int), .str y] = (.ok (.sh .non), SH p (xs.take i ++ [y] ++ xs.drop i) (ps ++ [xs])) := by
  have e : putB (xs.map .str) (.int (i : Int)) (.str y) = true := by
    unfold putB
    rw [hr, List.length_map, inB_int, decide_eq_true (by omega : (0 : Int) ≤ i), decide_eq_true (by omega : (i : Int) ≤ (xs.length : Int)), decide_eq_true (by omega : (xs.length : Int) < 200)]
    rfl
  show (if putB (xs.map .str) (.int (i : Int)) (.str y) = true then (Except.ok (O.sh .non), becO (sh_ p (xs.map .str) (ps.map ft) []) (insD (xs.map .str) i (.str y))) else _) = _
  rw [e, if_pos rfl, becO_sh]
  have e2 : insD (xs.map .str) i (.str y) = (xs.take i ++ [y] ++ xs.drop i).map .str := by
    unfold insD
    rw [cutL_take, cutL_drop, List.map_append, List.map_append, List.map_take, List.map_drop]
    rfl
  rw [e2, ft_snoc]
  rfl
theorem put_bad (h : putB (xs.map .str) x d = false) : sp_put.out (SH p xs ps) [x, d] = (.error (.BadRow, 1), SH p xs ps) := by
  show (if putB (xs.map .str) x d = true then _ else _) = _
  rw [h]
  rfl
theorem chg_ok (hi : i + 1 ≤ xs.length) (hr : rowB (.str y) = true) : sp_chg.out (SH p xs ps) [.int (i : Int), .str y] = (.ok (.sh .non), SH p (xs.take i ++ [y] ++ xs.drop (i + 1)) (ps ++ [xs])) := by
  have e : chgB (xs.map .str) (.int (i : Int)) (.str y) = true := by
    unfold chgB
    rw [hr, List.length_map, inB_int, decide_eq_true (by omega : (0 : Int) ≤ i), decide_eq_true (by omega : (i : Int) ≤ (xs.length : Int) - 1)]
    rfl
  show (if chgB (xs.map .str) (.int (i : Int)) (.str y) = true then (Except.ok (O.sh .non), becO (sh_ p (xs.map .str) (ps.map ft) []) (chgD (xs.map .str) i (.str y))) else _) = _
  rw [e, if_pos rfl, becO_sh]
  have e2 : chgD (xs.map .str) i (.str y) = (xs.take i ++ [y] ++ xs.drop (i + 1)).map .str := by
    unfold chgD
    have e3 : (i : Int) + 1 = ((i + 1 : Nat) : Int) := by omega
    rw [e3, cutL_take, cutL_drop, List.map_append, List.map_append, List.map_take, List.map_drop]
    rfl
  rw [e2, ft_snoc]
  rfl
theorem chg_bad (h : chgB (xs.map .str) x d = false) : sp_chg.out (SH p xs ps) [x, d] = (.error (.BadRow, 1), SH p xs ps) := by
  show (if chgB (xs.map .str) x d = true then _ else _) = _
  rw [h]
  rfl
theorem drp_bad (h : inB (((xs.map D.str).length : Int) - 1) x = false) : sp_drp.out (SH p xs ps) [x] = (.error (.BadRow, 1), SH p xs ps) := by
  show (if inB (((xs.map D.str).length : Int) - 1) x = true then _ else _) = _
  rw [h]
  rfl
theorem preS2 (h1 : xs.length ≤ 200) (h2 : ps.length ≤ 1000) (ha : atOk x = true) (ht : txOk d = true) : PreS 2 (SH p xs ps) [x, d] := ⟨p, _, _, _, x, rfl, shOk h1 h2, ha, d, rfl, ht⟩
theorem preS1 (h1 : xs.length ≤ 200) (h2 : ps.length ≤ 1000) (ha : atOk x = true) : PreS 1 (SH p xs ps) [x] := ⟨p, _, _, _, x, rfl, shOk h1 h2, ha, rfl⟩
end
/-! ### the law's suite -/
/-- more = _law_drawn(_law_cell(script, k), k) -/
def lw0 : PSt := .asg 2 true (.cal 1 [(.cal 0 [(.var 0), (.var 1)]), (.var 1)])
/-- sheet, many = (Sheet(), 1 + more % 4) -/
def lw1 : PSt := .par2 3 4 (.new 3 "Sheet" []) (.bin .add (.c (.int 1)) (.bin .mod (.var 2) (.c (.int 4))))
/-- for j in range(many): -/
def lw2 : PSt := .for_ (.nm 5) (.rng1 (.var 4)) [(.exp (.mcv 6 "Sheet" "put_row" 3 [(.var 5), (.bin .mul (.c (.str "a")) (.var 5))]))]
/-- for bad in [-1, many + 1, None, True, '0']: -/
def lw3 : PSt := .for_ (.nm 6) (.itL (.lst [(.neg (.c (.int 1))), (.bin .add (.var 4) (.c (.int 1))), (.c .non), (.c (.bl true)), (.c (.str "0"))])) [(.asg 7 false (.lst [(.told 8 "law.<locals>.<lambda>" (.mcv 6 "Sheet" "put_row" 3 [(.var 6), (.c (.str ""))]))])), (.exp (.app 7 (.told 8 "law.<locals>.<lambda>" (.mcv 12 "Sheet" "known_at" 3 [(.var 6)])))), (.exp (.app 7 (.told 8 "law.<locals>.<lambda>" (.mcv 7 "Sheet" "change_row" 3 [(.var 6), (.c (.str ""))])))), (.exp (.app 7 (.told 8 "law.<locals>.<lambda>" (.mcv 8 "Sheet" "drop_row" 3 [(.var 6)])))), (.ite (.peek (.cmp .NotEq (.var 7) (.bin .mul (.lst [(.tup [(.c (.str "BadRow")), (.c (.int 1))])]) (.c (.int 4))))) [(.ret (.c (.bl false)))] [])]
/-- if _law_told(lambda: sheet.drop_row(many)) != ('BadRow', 1): -/
def lw4 : PSt := .ite (.cmp .NotEq (.told 8 "law.<locals>.<lambda>" (.mcv 8 "Sheet" "drop_row" 3 [(.var 4)])) (.tup [(.c (.str "BadRow")), (.c (.int 1))])) [(.ret (.c (.bl false)))] []
/-- if _law_told(lambda: sheet.change_row(many, '')) != ('BadRow', 1): -/
def lw5 : PSt := .ite (.cmp .NotEq (.told 8 "law.<locals>.<lambda>" (.mcv 7 "Sheet" "change_row" 3 [(.var 4), (.c (.str ""))])) (.tup [(.c (.str "BadRow")), (.c (.int 1))])) [(.ret (.c (.bl false)))] []
/-- for bad in [None, 5, ['a'], 'a\n', 'a\tb']: -/
def lw6 : PSt := .for_ (.nm 6) (.itL (.lst [(.c .non), (.c (.int 5)), (.lst [(.c (.str "a"))]), (.c (.str "a\n")), (.c (.str "a\tb"))])) [(.asg 7 false (.lst [(.told 8 "law.<locals>.<lambda>" (.mcv 6 "Sheet" "put_row" 3 [(.c (.int 0)), (.var 6)]))])), (.exp (.app 7 (.told 8 "law.<locals>.<lambda>" (.mcv 7 "Sheet" "change_row" 3 [(.c (.int 0)), (.var 6)])))), (.ite (.peek (.cmp .NotEq (.var 7) (.bin .mul (.lst [(.tup [(.c (.str "BadRow")), (.c (.int 1))])]) (.c (.int 2))))) [(.ret (.c (.bl false)))] [])]
/-- if sheet.rows() != ['a' * j for j in range(many)] or sheet.redo() is not False: -/
def lw7 : PSt := .ite (.or (.cmp .NotEq (.mcv 11 "Sheet" "rows" 3 []) (.lc (.bin .mul (.c (.str "a")) (.var 5)) (.nm 5) (.rng1 (.var 4)) none)) (.cmp .IsNot (.mcv 10 "Sheet" "redo" 3 []) (.c (.bl false)))) [(.ret (.c (.bl false)))] []
/-- for j in range(200 - many): -/
def lw8 : PSt := .for_ (.nm 5) (.rng1 (.bin .sub (.c (.int 200)) (.var 4))) [(.exp (.mcv 6 "Sheet" "put_row" 3 [(.var 4), (.c (.str " !~"))]))]
/-- if _law_told(lambda: sheet.put_row(0, '')) != ('BadRow', 1) or len(sheet.rows()) != 200: -/
def lw9 : PSt := .ite (.or (.cmp .NotEq (.told 8 "law.<locals>.<lambda>" (.mcv 6 "Sheet" "put_row" 3 [(.c (.int 0)), (.c (.str ""))])) (.tup [(.c (.str "BadRow")), (.c (.int 1))])) (.cmp .NotEq (.prm .len [(.mcv 11 "Sheet" "rows" 3 [])]) (.c (.int 200)))) [(.ret (.c (.bl false)))] []
/-- sheet.change_row(199, '~') -/
def lw10 : PSt := .exp (.mcv 7 "Sheet" "change_row" 3 [(.c (.int 199)), (.c (.str "~"))])
/-- if sheet.rows()[199] != '~' or sheet.undo() is not True or sheet.rows()[199] != ' !~': -/
def lw11 : PSt := .ite (.or (.cmp .NotEq (.sub (.mcv 11 "Sheet" "rows" 3 []) (.c (.int 199))) (.c (.str "~"))) (.or (.cmp .IsNot (.mcv 9 "Sheet" "undo" 3 []) (.c (.bl true))) (.cmp .NotEq (.sub (.mcv 11 "Sheet" "rows" 3 []) (.c (.int 199))) (.c (.str " !~"))))) [(.ret (.c (.bl false)))] []
def bw : D := .tup [.str "BadRow", .int 1]
def aL (n : Nat) : List Str := (List.range n).map fun j => repS "a" j
def bt : Str := " !~"
def rowsL (n : Nat) : List Str := aL n ++ List.replicate (200 - n) bt
theorem aL_len (n : Nat) : (aL n).length = n := by
  unfold aL
  rw [List.length_map, List.length_range]
theorem aL_succ (n : Nat) : aL (n + 1) = aL n ++ [repS "a" n] := by
  unfold aL
  rw [List.range_succ, List.map_append]
  rfl
theorem rowA : ∀ i : Fin 5, rowB (.str (repS "a" i)) = true ∧ txOk (.str (repS "a" i)) = true := by decide +kernel
theorem rowBt : rowB (.str bt) = true ∧ txOk (.str bt) = true := by decide +kernel
theorem rowTl : rowB (.str "~") = true ∧ txOk (.str "~") = true := by decide +kernel
abbrev stG (t : O) (ns : List Int) (a1 a2 S : O) (n : Nat) (a5 a6 a7 : O) : List O := [.sh (.scr ns), a1, a2, S, .sh (.int (n : Int)), a5, a6, a7, t]
section
variable {Φ : Fns} {ns : List Int} {a1 a2 a5 a6 a7 t : O} {p : Addr} {xs : List Str} {ps : List (List Str)} {n : Nat} {nx bk ct : List O → Prop} {rt : O → List O → Prop} {ex : EXC}
theorem w2 (h6 : Φ.m 6 = some sp_put) (hn : n ≤ 4) (h : ∀ a5 ps, ps.length = n → nx (stG t ns a1 a2 (SH p (aL n) ps) n a5 a6 a7)) : semS glsD Φ lw2 (stG t ns a1 a2 (SH p [] []) n a5 a6 a7) ⟨nx, rt, bk, ct, ex⟩ := by
  unfold lw2
  refine i_for (i_rng1 (i_var rfl ⟨_, rfl, ⟨by omega, by omega⟩, fun i Γ => ∃ a5 ps, ps.length = i ∧ Γ = stG t ns a1 a2 (SH p (aL i) ps) n a5 a6 a7, ⟨a5, [], rfl, rfl⟩, ?_, ?_⟩))
  · rintro i d Γ2 hd ⟨a5, ps, hp, rfl⟩
    rw [List.getElem?_map, Int.toNat_natCast] at hd
    by_cases z : i < n
    · rw [List.getElem?_range z] at hd
      cases hd
      have ra := rowA ⟨i, by omega⟩
      refine ⟨_, rfl, i_b1 (i_exp (i_mcv ⟨_, _, _, rfl, by decide⟩ (i_a1 (i_var rfl ⟨_, rfl, i_a1 (i_bin (i_c ⟨_, rfl, i_var rfl ⟨_, rfl, b_mulS ⟨by omega, by omega, by decide⟩ ⟨_, rfl, i_a0 (i_vcall (os := [.sh (.tup ((aL i).map .str)), .lst ((ps.map ft).map .sh), .lst []]) rfl h6 rfl (preS2 (by rw [aL_len]; omega) (by omega) rfl ra.2) (put_ok (by rw [aL_len]; omega) (by rw [aL_len]; omega) ra.1) (i_b0 ⟨.sh (.int (i : Int)), ps ++ [aL i], by rw [List.length_append, List.length_singleton, hp], ?_⟩))⟩⟩⟩))⟩))))⟩
      rw [List.take_of_length_le (by rw [aL_len]; omega), List.drop_of_length_le (by rw [aL_len]; omega), List.append_nil, aL_succ]
      rfl
    · rw [List.getElem?_eq_none (by rw [List.length_range]; omega)] at hd
      cases hd
  · rintro Γ2 ⟨a5, ps, hp, rfl⟩
    rw [List.length_map, List.length_range, Int.toNat_natCast] at hp ⊢
    exact h _ _ hp
/-- found != [("BadRow", 1)] * k -/
theorem w_cmp {k : Int} {l : List D} {Γ : List O} (hk : (-(2 ^ 63) ≤ k ∧ k < 2 ^ 63 ∧ [bw].length * k.toNat ≤ 16777216)) (e0 : Γ[7]? = some (.lst (l.map .sh))) (el : (List.replicate k.toNat [bw]).flatten = l) (hd : dep (.lst l) ≤ 50) (he : eqD (.lst l) (.lst l) = true) (h : nx Γ) :
    semS glsD Φ (.ite (.peek (.cmp .NotEq (.var 7) (.bin .mul (.lst [(.tup [(.c (.str "BadRow")), (.c (.int 1))])]) (.c (.int k))))) [(.ret (.c (.bl false)))] []) Γ ⟨nx, rt, bk, ct, ex⟩ := by
  have e1 : (share Γ)[7]? = some (.sh (.lst l)) := by
    unfold share
    rw [List.getElem?_map, e0]
    show some (match asD (.lst (l.map .sh)) with | some d => O.sh d | none => _) = _
    rw [asL_ok]
  refine i_ite (i_peek (i_cmp (i_var e1 ⟨_, rfl, i_bin (i_lst (i_a1 (i_tup (i_a1 (i_c ⟨_, rfl, i_a1 (i_c ⟨_, rfl, i_a0 ⟨by show 2 ≤ 16777216; decide, _, rfl, i_a0 ⟨by show 1 ≤ 16777216; decide, _, asL_ok, i_c ⟨_, rfl, b_mulL hk ⟨_, asL_ok, ?_⟩⟩⟩⟩⟩)⟩)))))⟩)))
  rw [show (List.replicate k.toNat [D.tup [.str "BadRow", .int 1]]).flatten = l from el]
  refine c_ne ⟨hd, hd⟩ ⟨rfl, _, rfl, rfl, _, rfl, ?_⟩
  rw [he]
  exact i_ifF (i_b0 h)
theorem bads : ∀ d, d ∈ ([.int (-1), .int ((n : Int) + 1), .non, .bl true, .str "0"] : List D) → atOk d = true ∧ inB (n : Int) d = false ∧ inB ((n : Int) - 1) d = false := by
  intro d hd
  simp only [List.mem_cons, List.not_mem_nil, or_false] at hd
  rcases hd with rfl | rfl | rfl | rfl | rfl
  · exact ⟨rfl, rfl, rfl⟩
  · refine ⟨rfl, ?_, ?_⟩
    · show (decide ((0 : Int) ≤ (n : Int) + 1) && decide ((n : Int) + 1 ≤ n)) = false
      rw [decide_eq_false (by omega : ¬ (n : Int) + 1 ≤ n), Bool.and_false]
    · show (decide ((0 : Int) ≤ (n : Int) + 1) && decide ((n : Int) + 1 ≤ (n : Int) - 1)) = false
      rw [decide_eq_false (by omega : ¬ (n : Int) + 1 ≤ (n : Int) - 1), Bool.and_false]
  · exact ⟨rfl, rfl, rfl⟩
  · exact ⟨rfl, rfl, rfl⟩
  · exact ⟨rfl, rfl, rfl⟩
theorem w3 (ht : t = .tab Φ.tb "law.<locals>.<lambda>") (h6 : Φ.m 6 = some sp_put) (h7 : Φ.m 7 = some sp_chg) (h8 : Φ.m 8 = some sp_drp) (h12 : Φ.m 12 = some sp_kno) (hx : xs.length = n) (hn : n ≤ 4) (hp : ps.length ≤ 500) (h : ∀ a6 a7, nx (stG t ns a1 a2 (SH p xs ps) n a5 a6 a7)) : semS glsD Φ lw3 (stG t ns a1 a2 (SH p xs ps) n a5 a6 a7) ⟨nx, rt, bk, ct, ex⟩ := by
  subst ht
  unfold lw3
  refine i_for (i_itL (i_lst (i_a1 (i_neg (i_c ⟨_, rfl, _, rfl, i_a1 (i_bin (i_var rfl ⟨_, rfl, i_c ⟨_, rfl, b_addI ⟨_, rfl, i_a1 (i_c ⟨_, rfl, i_a1 (i_c ⟨_, rfl, i_a1 (i_c ⟨_, rfl, i_a0 ⟨by show 5 ≤ 16777216; decide, _, asL_ok, fun i Γ => ∃ a6 a7, Γ = stG _ ns a1 a2 (SH p xs ps) n a5 a6 a7, ⟨_, _, rfl⟩, ?_, ?_⟩⟩)⟩)⟩)⟩⟩⟩))⟩)))))
  · rintro i d Γ2 hd ⟨a6, a7, rfl⟩
    obtain ⟨b1, b2, b3⟩ := bads (n := n) d (List.mem_of_getElem? hd)
    have hl : ((xs.map D.str).length : Int) = n := by rw [List.length_map, hx]
    refine ⟨_, rfl, i_b1 (i_asgF (i_lst (i_a1 (i_told rfl (i_mcv ⟨_, _, _, rfl, by decide⟩ (i_a1 (i_var rfl ⟨_, rfl, i_a1 (i_c ⟨_, rfl, i_a0 (i_vcallX (os := [.sh (.tup (xs.map .str)), .lst ((ps.map ft).map .sh), .lst []]) rfl h6 rfl (preS2 (by omega) (by omega) b1 rfl) (put_bad ?_) ⟨_, rfl, i_a0 ⟨by show 1 ≤ 16777216; decide, by show 7 < 9; decide, ?_⟩⟩)⟩)⟩)))))))⟩
    · unfold putB
      rw [hl, b2, Bool.false_and]
    refine i_b1 (i_exp (i_app rfl (i_told rfl (i_mcv ⟨_, _, _, rfl, by decide⟩ (i_a1 (i_var rfl ⟨_, rfl, i_a0 (i_vcallX (os := [.sh (.tup (xs.map .str)), .lst ((ps.map ft).map .sh), .lst []]) rfl h12 rfl ⟨p, _, ps.map ft, [], d, rfl, rfl, b1, by rw [hl]; exact b2⟩ rfl ⟨_, rfl, by show 1 < 16777216; decide, ?_⟩)⟩))))))
    refine i_b1 (i_exp (i_app rfl (i_told rfl (i_mcv ⟨_, _, _, rfl, by decide⟩ (i_a1 (i_var rfl ⟨_, rfl, i_a1 (i_c ⟨_, rfl, i_a0 (i_vcallX (os := [.sh (.tup (xs.map .str)), .lst ((ps.map ft).map .sh), .lst []]) rfl h7 rfl (preS2 (by omega) (by omega) b1 rfl) (chg_bad ?_) ⟨_, rfl, by show 2 < 16777216; decide, ?_⟩)⟩)⟩))))))
    · unfold chgB
      rw [hl, b3, Bool.false_and]
    refine i_b1 (i_exp (i_app rfl (i_told rfl (i_mcv ⟨_, _, _, rfl, by decide⟩ (i_a1 (i_var rfl ⟨_, rfl, i_a0 (i_vcallX (os := [.sh (.tup (xs.map .str)), .lst ((ps.map ft).map .sh), .lst []]) rfl h8 rfl (preS1 (by omega) (by omega) b1) (drp_bad (by rw [hl]; exact b3)) ⟨_, rfl, by show 3 < 16777216; decide, ?_⟩)⟩))))))
    exact i_b1 (w_cmp (l := [bw, bw, bw, bw]) (by decide) rfl rfl (by decide +kernel) (by decide +kernel) (i_b0 ⟨_, _, rfl⟩))
  · rintro Γ2 ⟨a6, a7, rfl⟩
    exact h _ _
theorem eq_bw : eqD (ecD .BadRow 1) (.tup [.str "BadRow", .int 1]) = true := by decide +kernel
theorem dep_bw : dep (ecD .BadRow 1) ≤ 50 ∧ dep (.tup [.str "BadRow", .int 1]) ≤ 50 := by decide +kernel
theorem w4 (ht : t = .tab Φ.tb "law.<locals>.<lambda>") (h8 : Φ.m 8 = some sp_drp) (hx : xs.length = n) (hn : n ≤ 4) (hp : ps.length ≤ 500) (h : nx (stG t ns a1 a2 (SH p xs ps) n a5 a6 a7)) : semS glsD Φ lw4 (stG t ns a1 a2 (SH p xs ps) n a5 a6 a7) ⟨nx, rt, bk, ct, ex⟩ := by
  subst ht
  unfold lw4
  have hl : ((xs.map D.str).length : Int) = n := by rw [List.length_map, hx]
  have hb : inB ((n : Int) - 1) (.int (n : Int)) = false := by
    show (decide ((0 : Int) ≤ (n : Int)) && decide ((n : Int) ≤ (n : Int) - 1)) = false
    rw [decide_eq_false (by omega : ¬ (n : Int) ≤ (n : Int) - 1), Bool.and_false]
  refine i_ite (i_cmp (i_told rfl (i_mcv ⟨_, _, _, rfl, by decide⟩ (i_a1 (i_var rfl ⟨_, rfl, i_a0 (i_vcallX (os := [.sh (.tup (xs.map .str)), .lst ((ps.map ft).map .sh), .lst []]) rfl h8 rfl (preS1 (by omega) (by omega) rfl) (drp_bad (by rw [hl]; exact hb)) ⟨_, rfl, i_tup (i_a1 (i_c ⟨_, rfl, i_a1 (i_c ⟨_, rfl, i_a0 ⟨by show 2 ≤ 16777216; decide, _, rfl, c_ne dep_bw ⟨_, rfl, ?_⟩⟩⟩)⟩))⟩)⟩)))))
  rw [eq_bw]
  exact i_ifF (i_b0 h)
theorem w5 (ht : t = .tab Φ.tb "law.<locals>.<lambda>") (h7 : Φ.m 7 = some sp_chg) (hx : xs.length = n) (hn : n ≤ 4) (hp : ps.length ≤ 500) (h : nx (stG t ns a1 a2 (SH p xs ps) n a5 a6 a7)) : semS glsD Φ lw5 (stG t ns a1 a2 (SH p xs ps) n a5 a6 a7) ⟨nx, rt, bk, ct, ex⟩ := by
  subst ht
  unfold lw5
  have hl : ((xs.map D.str).length : Int) = n := by rw [List.length_map, hx]
  have hb : inB ((n : Int) - 1) (.int (n : Int)) = false := by
    show (decide ((0 : Int) ≤ (n : Int)) && decide ((n : Int) ≤ (n : Int) - 1)) = false
    rw [decide_eq_false (by omega : ¬ (n : Int) ≤ (n : Int) - 1), Bool.and_false]
  refine i_ite (i_cmp (i_told rfl (i_mcv ⟨_, _, _, rfl, by decide⟩ (i_a1 (i_var rfl ⟨_, rfl, i_a1 (i_c ⟨_, rfl, i_a0 (i_vcallX (os := [.sh (.tup (xs.map .str)), .lst ((ps.map ft).map .sh), .lst []]) rfl h7 rfl (preS2 (by omega) (by omega) rfl rfl) (chg_bad ?_) ⟨_, rfl, i_tup (i_a1 (i_c ⟨_, rfl, i_a1 (i_c ⟨_, rfl, i_a0 ⟨by show 2 ≤ 16777216; decide, _, rfl, c_ne dep_bw ⟨_, rfl, ?_⟩⟩⟩)⟩))⟩)⟩)⟩)))))
  · unfold chgB
    rw [hl, hb, Bool.false_and]
  rw [eq_bw]
  exact i_ifF (i_b0 h)
theorem bads2 : ∀ d, d ∈ ([.non, .int 5, .lst [.str "a"], .str "a\n", .str "a\tb"] : List D) → txOk d = true ∧ rowB d = false := by
  intro d hd
  simp only [List.mem_cons, List.not_mem_nil, or_false] at hd
  rcases hd with rfl | rfl | rfl | rfl | rfl <;> exact ⟨by decide +kernel, by decide +kernel⟩
theorem w6 (ht : t = .tab Φ.tb "law.<locals>.<lambda>") (h6 : Φ.m 6 = some sp_put) (h7 : Φ.m 7 = some sp_chg) (hx : xs.length ≤ 4) (hp : ps.length ≤ 500) (h : ∀ a6 a7, nx (stG t ns a1 a2 (SH p xs ps) n a5 a6 a7)) : semS glsD Φ lw6 (stG t ns a1 a2 (SH p xs ps) n a5 a6 a7) ⟨nx, rt, bk, ct, ex⟩ := by
  subst ht
  unfold lw6
  refine i_for (i_itL (i_lst (i_a1 (i_c ⟨_, rfl, i_a1 (i_c ⟨_, rfl, i_a1 (i_lst (i_a1 (i_c ⟨_, rfl, i_a0 ⟨by show 1 ≤ 16777216; decide, _, asL_ok, i_a1 (i_c ⟨_, rfl, i_a1 (i_c ⟨_, rfl, i_a0 ⟨by show 5 ≤ 16777216; decide, _, asL_ok, fun i Γ => ∃ a6 a7, Γ = stG _ ns a1 a2 (SH p xs ps) n a5 a6 a7, ⟨_, _, rfl⟩, ?_, ?_⟩⟩)⟩)⟩⟩)))⟩)⟩))))
  · rintro i d Γ2 hd ⟨a6, a7, rfl⟩
    obtain ⟨b1, b2⟩ := bads2 d (List.mem_of_getElem? hd)
    refine ⟨_, rfl, i_b1 (i_asgF (i_lst (i_a1 (i_told rfl (i_mcv ⟨_, _, _, rfl, by decide⟩ (i_a1 (i_c ⟨_, rfl, i_a1 (i_var rfl ⟨_, rfl, i_a0 (i_vcallX (os := [.sh (.tup (xs.map .str)), .lst ((ps.map ft).map .sh), .lst []]) rfl h6 rfl (preS2 (by omega) (by omega) rfl b1) (put_bad ?_) ⟨_, rfl, i_a0 ⟨by show 1 ≤ 16777216; decide, by show 7 < 9; decide, ?_⟩⟩)⟩)⟩)))))))⟩
    · unfold putB
      rw [b2, Bool.false_and, Bool.and_false]
    refine i_b1 (i_exp (i_app rfl (i_told rfl (i_mcv ⟨_, _, _, rfl, by decide⟩ (i_a1 (i_c ⟨_, rfl, i_a1 (i_var rfl ⟨_, rfl, i_a0 (i_vcallX (os := [.sh (.tup (xs.map .str)), .lst ((ps.map ft).map .sh), .lst []]) rfl h7 rfl (preS2 (by omega) (by omega) rfl b1) (chg_bad ?_) ⟨_, rfl, by show 1 < 16777216; decide, ?_⟩)⟩)⟩))))))
    · unfold chgB
      rw [b2, Bool.and_false]
    exact i_b1 (w_cmp (l := [bw, bw]) (by decide) rfl rfl (by decide +kernel) (by decide +kernel) (i_b0 ⟨_, _, rfl⟩))
  · rintro Γ2 ⟨a6, a7, rfl⟩
    exact h _ _
theorem w7 (h10 : Φ.m 10 = some sp_redo) (h11 : Φ.m 11 = some sp_rows) (hn : n ≤ 4) (h : nx (stG t ns a1 a2 (SH p (aL n) ps) n a5 a6 a7)) : semS glsD Φ lw7 (stG t ns a1 a2 (SH p (aL n) ps) n a5 a6 a7) ⟨nx, rt, bk, ct, ex⟩ := by
  unfold lw7
  refine i_ite (i_or (i_cmp (i_mcv ⟨_, _, _, rfl, by decide⟩ (i_a0 (i_vcall (os := [.sh (.tup ((aL n).map .str)), .lst ((ps.map ft).map .sh), .lst []]) rfl h11 rfl ⟨rfl, p, _, ps.map ft, [], rfl⟩ rfl ⟨_, asL_ok, i_lc (i_rng1 (i_var rfl ⟨_, rfl, ⟨by omega, by omega⟩, ?_, fun d => some (.str (repS "a" (iD d).toNat)), fun d hd => ?_, _, asL_ok, ?_⟩))⟩)))))
  · rw [List.length_map, List.length_range]
    omega
  · obtain ⟨i, hi, rfl⟩ := List.mem_map.mp hd
    have hi2 : i < n := by have := List.mem_range.mp hi; omega
    exact ⟨_, rfl, i_t0 (i_ifT (i_bin (i_c ⟨_, rfl, i_var rfl ⟨_, rfl, b_mulS ⟨by omega, by omega, by decide⟩ ⟨rfl, _, rfl, rfl⟩⟩⟩)))⟩
  · have e : ((List.range (n : Int).toNat).map fun i => D.int (i : Nat)).filterMap (fun d => some (D.str (repS "a" (iD d).toNat))) = (aL n).map D.str := by
      rw [Int.toNat_natCast, List.filterMap_eq_map', List.map_map]
      unfold aL
      rw [List.map_map]
      rfl
    rw [e]
    show semCmp .NotEq (.lst ((aL n).map .str)) _ _
    refine c_ne ⟨dep_lstS, dep_lstS⟩ ⟨_, rfl, ?_⟩
    rw [eqL_refl]
    exact i_ifF (i_cmp (i_mcv ⟨_, _, _, rfl, by decide⟩ (i_a0 (i_vcall (os := [.sh (.tup ((aL n).map .str)), .lst ((ps.map ft).map .sh), .lst []]) rfl h10 rfl ⟨rfl, p, _, ps.map ft, rfl⟩ rfl ⟨_, rfl, i_c ⟨_, rfl, c_isnB ⟨_, rfl, i_ifF (i_b0 h)⟩⟩⟩))))
theorem w8 (h6 : Φ.m 6 = some sp_put) (hn : n ≤ 4) (hp : ps.length ≤ 4) (h : ∀ a5 ps, ps.length ≤ 204 → nx (stG t ns a1 a2 (SH p (rowsL n) ps) n a5 a6 a7)) : semS glsD Φ lw8 (stG t ns a1 a2 (SH p (aL n) ps) n a5 a6 a7) ⟨nx, rt, bk, ct, ex⟩ := by
  unfold lw8
  have e0 : ((200 : Int) - (n : Int)).toNat = 200 - n := by omega
  refine i_for (i_rng1 (i_bin (i_c ⟨_, rfl, i_var rfl ⟨_, rfl, b_sub ⟨_, rfl, ⟨by omega, by omega⟩, fun i Γ => i ≤ 200 - n ∧ ∃ a5 ps, ps.length ≤ 4 + i ∧ Γ = stG t ns a1 a2 (SH p (aL n ++ List.replicate i bt) ps) n a5 a6 a7, ⟨by omega, a5, ps, hp, by rw [List.replicate_zero, List.append_nil]⟩, ?_, ?_⟩⟩⟩)))
  · rintro i d Γ2 hd ⟨_, a5, ps, hp, rfl⟩
    rw [List.getElem?_map, e0] at hd
    by_cases z : i < 200 - n
    · refine ⟨_, rfl, i_b1 (i_exp (i_mcv ⟨_, _, _, rfl, by decide⟩ (i_a1 (i_var rfl ⟨_, rfl, i_a1 (i_c ⟨_, rfl, i_a0 (i_vcall (os := [.sh (.tup ((aL n ++ List.replicate i bt).map .str)), .lst ((ps.map ft).map .sh), .lst []]) rfl h6 rfl (preS2 (xs := aL n ++ List.replicate i bt) (by rw [List.length_append, aL_len, List.length_replicate]; omega) (by omega) rfl rowBt.2) (put_ok (xs := aL n ++ List.replicate i bt) (by rw [List.length_append, aL_len]; omega) (by rw [List.length_append, aL_len, List.length_replicate]; omega) rowBt.1) (i_b0 ⟨by omega, .sh d, ps ++ [aL n ++ List.replicate i bt], by rw [List.length_append, List.length_singleton]; omega, ?_⟩))⟩)⟩))))⟩
      have e1 : (aL n ++ List.replicate i bt).take n = aL n := by
        rw [List.take_append_of_le_length (by rw [aL_len]; omega), List.take_of_length_le (by rw [aL_len]; omega)]
      have e2 : (aL n ++ List.replicate i bt).drop n = List.replicate i bt := by
        rw [List.drop_append_of_le_length (by rw [aL_len]; omega), List.drop_of_length_le (by rw [aL_len]; omega), List.nil_append]
      have e3 : aL n ++ [(" !~" : Str)] ++ List.replicate i bt = aL n ++ List.replicate (i + 1) bt := by
        rw [List.append_assoc]
        rfl
      rw [e1, e2, e3]
      rfl
    · rw [List.getElem?_eq_none (by rw [List.length_range]; omega)] at hd
      cases hd
  · rintro Γ2 ⟨_, a5, ps, hp, rfl⟩
    rw [List.length_map, List.length_range, e0] at hp ⊢
    exact h _ _ (by omega)
theorem rowsL_len (hn : n ≤ 4) : (rowsL n).length = 200 := by
  unfold rowsL
  rw [List.length_append, aL_len, List.length_replicate]
  omega
theorem w9 (ht : t = .tab Φ.tb "law.<locals>.<lambda>") (h6 : Φ.m 6 = some sp_put) (h11 : Φ.m 11 = some sp_rows) (hx : xs.length = 200) (hp : ps.length ≤ 500) (h : nx (stG t ns a1 a2 (SH p xs ps) n a5 a6 a7)) : semS glsD Φ lw9 (stG t ns a1 a2 (SH p xs ps) n a5 a6 a7) ⟨nx, rt, bk, ct, ex⟩ := by
  subst ht
  unfold lw9
  refine i_ite (i_or (i_cmp (i_told rfl (i_mcv ⟨_, _, _, rfl, by decide⟩ (i_a1 (i_c ⟨_, rfl, i_a1 (i_c ⟨_, rfl, i_a0 (i_vcallX (os := [.sh (.tup (xs.map .str)), .lst ((ps.map ft).map .sh), .lst []]) rfl h6 rfl (preS2 (by omega) (by omega) rfl rfl) (put_bad ?_) ⟨_, rfl, i_tup (i_a1 (i_c ⟨_, rfl, i_a1 (i_c ⟨_, rfl, i_a0 ⟨by show 2 ≤ 16777216; decide, _, rfl, c_ne dep_bw ⟨_, rfl, ?_⟩⟩⟩)⟩))⟩)⟩)⟩))))))
  · unfold putB
    rw [List.length_map, hx, decide_eq_false (by decide), Bool.and_false, Bool.and_false]
  rw [eq_bw]
  refine i_ifF (i_cmp (i_prm (i_a1 (i_mcv ⟨_, _, _, rfl, by decide⟩ (i_a0 (i_vcall (os := [.sh (.tup (xs.map .str)), .lst ((ps.map ft).map .sh), .lst []]) rfl h11 rfl ⟨rfl, p, _, ps.map ft, [], rfl⟩ rfl ⟨_, asL_ok, i_a0 (p_lenL ⟨_, rfl, i_c ⟨_, rfl, c_neI ⟨_, rfl, ?_⟩⟩⟩)⟩))))))
  show if (!decide (((xs.map D.str).length : Int) = 200)) = true then _ else _
  rw [List.length_map, hx]
  exact i_ifF (i_b0 h)
theorem w10 (h7 : Φ.m 7 = some sp_chg) (hx : xs.length = 200) (hp : ps.length ≤ 500) (h : nx (stG t ns a1 a2 (SH p (xs.take 199 ++ [("~" : Str)] ++ xs.drop 200) (ps ++ [xs])) n a5 a6 a7)) : semS glsD Φ lw10 (stG t ns a1 a2 (SH p xs ps) n a5 a6 a7) ⟨nx, rt, bk, ct, ex⟩ := by
  unfold lw10
  exact i_exp (i_mcv ⟨_, _, _, rfl, by decide⟩ (i_a1 (i_c ⟨_, rfl, i_a1 (i_c ⟨_, rfl, i_a0 (i_vcall (os := [.sh (.tup (xs.map .str)), .lst ((ps.map ft).map .sh), .lst []]) rfl h7 rfl (preS2 (by omega) (by omega) rfl rowTl.2) (chg_ok (i := 199) (by omega) rowTl.1) h)⟩)⟩)))
theorem w11 {l0 : List Str} (h9 : Φ.m 9 = some sp_undo) (h11 : Φ.m 11 = some sp_rows) (e1 : xs[199]? = some ("~" : Str)) (e2 : l0[199]? = some bt) (hx : xs.length ≤ 200) (hp : ps.length ≤ 500) (h : ∀ S, nx (stG t ns a1 a2 S n a5 a6 a7)) : semS glsD Φ lw11 (stG t ns a1 a2 (SH p xs (ps ++ [l0])) n a5 a6 a7) ⟨nx, rt, bk, ct, ex⟩ := by
  unfold lw11
  have eS : SH p xs (ps ++ [l0]) = sh_ p (xs.map .str) (ps.map ft ++ [.tup (l0.map .str)]) [] := by
    unfold SH
    rw [List.map_append]
    rfl
  rw [eS]
  have a1' : atI (xs.map D.str) 199 = some (.str "~") := atI_nat (j := 199) (by rw [List.getElem?_map, e1]; rfl)
  have a2' : atI (l0.map D.str) 199 = some (.str bt) := atI_nat (j := 199) (by rw [List.getElem?_map, e2]; rfl)
  have hk := shOk (xs := xs) (ps := ps ++ [l0]) hx (by rw [List.length_append, List.length_singleton]; omega)
  rw [List.map_append] at hk
  have dp : ∀ d, d ∈ ps.map ft ++ [D.tup (l0.map .str)] → dep d ≤ 40 := fun d hd => by
    rcases List.mem_append.mp hd with z | z
    · obtain ⟨y, _, rfl⟩ := List.mem_map.mp z
      exact dep_ft y
    · obtain rfl := List.mem_singleton.mp z
      exact dep_ft l0
  refine i_ite (i_or (i_cmp (i_sub (i_mcv ⟨_, _, _, rfl, by decide⟩ (i_a0 (i_vcall (os := [.sh (.tup (xs.map .str)), .lst ((ps.map ft ++ [D.tup (l0.map .str)]).map .sh), .lst []]) rfl h11 rfl ⟨rfl, p, _, ps.map ft ++ [D.tup (l0.map .str)], [], rfl⟩ rfl ⟨_, asL_ok, i_c ⟨_, rfl, s_lst a1' ⟨_, rfl, i_c ⟨_, rfl, c_neS ⟨_, rfl, ?_⟩⟩⟩⟩⟩))))))
  refine i_ifF (i_or (i_cmp (i_mcv ⟨_, _, _, rfl, by decide⟩ (i_a0 (i_vcall (os := [.sh (.tup (xs.map .str)), .lst ((ps.map ft ++ [D.tup (l0.map .str)]).map .sh), .lst []]) rfl h9 rfl ⟨rfl, p, _, _, _, _, rfl, hk, dp⟩ rfl ⟨_, rfl, i_c ⟨_, rfl, c_isnB ⟨_, rfl, i_ifF ?_⟩⟩⟩)))))
  have eU : undO (.ins p "Sheet" SF [.sh (.tup (xs.map .str)), .lst ((ps.map ft ++ [D.tup (l0.map .str)]).map .sh), .lst []]) = sh_ p (l0.map .str) (ps.map ft) [.tup (xs.map .str)] := undO_sh (ah := [])
  rw [eU]
  exact i_cmp (i_sub (i_mcv ⟨_, _, _, rfl, by decide⟩ (i_a0 (i_vcall (os := [.sh (.tup (l0.map .str)), .lst ((ps.map ft).map .sh), .lst [.sh (.tup (xs.map .str))]]) rfl h11 rfl ⟨rfl, p, _, ps.map ft, [.tup (xs.map .str)], rfl⟩ rfl ⟨_, asL_ok, i_c ⟨_, rfl, s_lst a2' ⟨_, rfl, i_c ⟨_, rfl, c_neS ⟨_, rfl, i_ifF (i_b0 (h _))⟩⟩⟩⟩⟩))))
end
end K28

end
section
set_option Elab.async false
set_option linter.all false
set_option maxRecDepth 100000
set_option maxHeartbeats 4000000
namespace K28
open PySem PySem.Spec PyProof.Rows L2 PW
local macro_rules | `(tactic| walk_at "pw") => `(tactic| first | with_reducible apply i_for | with_reducible apply i_rng1 | with_reducible apply i_rng2 | with_reducible apply i_itL | with_reducible apply i_itT | with_reducible apply i_itS | with_reducible apply i_enm | with_reducible apply i_lc | with_reducible apply i_t0 | with_reducible apply i_t1 | with_reducible apply i_b1 | with_reducible apply i_b0 | with_reducible apply i_asgT | with_reducible apply i_asgF | with_reducible apply i_exp | with_reducible apply i_ret | with_reducible apply i_ite | with_reducible apply i_rse | with_reducible apply i_tryR | with_reducible apply i_tryA | with_reducible apply i_tryN | with_reducible apply i_pas | with_reducible apply i_brk | with_reducible apply i_cnt | with_reducible apply i_setf | with_reducible apply i_dput | with_reducible apply i_dputF | with_reducible apply i_c | with_reducible apply i_bin | with_reducible apply i_cmp | with_reducible apply i_not | with_reducible apply i_neg | with_reducible apply i_ifx | with_reducible apply i_tup | with_reducible apply i_lst | with_reducible apply i_lst1 | with_reducible apply i_sub | with_reducible apply i_slc | with_reducible apply i_cal | with_reducible apply i_prm | with_reducible apply i_mth | with_reducible apply i_isi | with_reducible apply i_peek | with_reducible apply i_fld | with_reducible apply i_mcl | with_reducible apply i_new | with_reducible apply i_mct | with_reducible apply i_mctP | with_reducible apply i_lenset | with_reducible apply i_sortset | with_reducible apply i_dnew | with_reducible apply i_tup2 | with_reducible apply i_a1 | with_reducible apply i_a0 | with_reducible apply i_o1 | with_reducible apply i_o0 | with_reducible apply b_addI | with_reducible apply b_sub | with_reducible apply c_eqI | with_reducible apply c_neI | with_reducible apply c_eqS | with_reducible apply c_neS | with_reducible apply c_lt | with_reducible apply c_le | with_reducible apply c_gt | with_reducible apply c_ge | with_reducible apply c_inLS | with_reducible apply c_inTS | with_reducible apply c_ninLS | with_reducible apply c_ninTS | with_reducible apply c_inDc | with_reducible apply c_ninDc | with_reducible apply c_isN | with_reducible apply c_isnN | with_reducible apply i_ifT | with_reducible apply i_ifF | with_reducible apply p_lenL | with_reducible apply p_lenT | with_reducible apply p_lenR | with_reducible apply p_lenD | with_reducible apply p_intI | with_reducible apply p_intB | with_reducible apply p_max | with_reducible apply p_min | with_reducible apply p_listL | with_reducible apply p_listT | with_reducible apply p_listD | with_reducible apply p_tupL | with_reducible apply z_lst | with_reducible apply z_tup | with_reducible apply ex_bl | with_reducible apply ex_int | with_reducible apply ex_str | with_reducible apply ex_lst | with_reducible apply ex_tup | with_reducible apply ex_lstO | with_reducible apply ex_asL | with_reducible apply and_val | ((with_reducible apply i_var); rfl) | ((with_reducible apply i_glb); rfl) | ((with_reducible apply i_app); rfl) | ((with_reducible apply s_tup); rfl) | ((with_reducible apply s_lst); rfl) | ((with_reducible apply and_lt); rfl) | ((with_reducible apply and_le); rfl) | ((with_reducible apply ex_isi); rfl) | ((with_reducible apply ex_eq); rfl) | ((with_reducible apply and_b); rfl) | with_reducible apply b_mul (mulOk_r (by decide) (by decide)) | with_reducible apply b_mul (mulOk_l (by decide) (by decide)) | with_reducible apply b_mod (by decide) | with_reducible apply b_fdiv ⟨by decide, by decide⟩)
theorem b_law_eq : f_law_b = [.for_ (.nm 1) (.rng1 (.prm .max2 [(.c (.int 1)), (.prm .min2 [(.c (.int 4)), (.prm .len [(.var 0)])])])) [lw0, lw1, lw2, lw3, lw4, lw5, lw6, lw7, lw8, lw9, lw10, lw11], .ret (.c (.bl true))] := rfl
theorem m_law {Φ : Fns} (h0 : Φ 0 = some sp_cell) (h1 : Φ 1 = some sp_drawn) (h3 : Φ.m 3 = some sp_sini) (h6 : Φ.m 6 = some sp_put) (h7 : Φ.m 7 = some sp_chg) (h8 : Φ.m 8 = some sp_drp) (h9 : Φ.m 9 = some sp_undo) (h10 : Φ.m 10 = some sp_redo) (h11 : Φ.m 11 = some sp_rows) (h12 : Φ.m 12 = some sp_kno) :
    ∀ ns : List Int, ns.length ≤ 63 → semB glsD Φ f_law_b ((gam0 f_law_c.N.length [.scr ns]).set 8 (.tab Φ.tb (f_law_c.qual ++ "<lambda>"))) { nx := fun _ => False, rt := fun o _ => o = .sh (.bl true), ex := fun _ _ _ => False } := by
  intro ns hns
  rw [b_law_eq]
  have eq : f_law_c.qual ++ "<lambda>" = ("law.<locals>.<lambda>" : Str) := by decide +kernel
  rw [eq]
  refine (show semB glsD Φ _ [.sh (.scr ns), .un, .un, .un, .un, .un, .un, .un, .tab Φ.tb "law.<locals>.<lambda>"] _ from ?_)
  refine i_b1 (i_for (i_rng1 (i_prm (i_a1 (i_c ⟨_, rfl, i_a1 (i_prm (i_a1 (i_c ⟨_, rfl, i_a1 (i_prm (i_a1 (i_var rfl ⟨_, rfl, i_a0 (p_lenR ⟨_, rfl, i_a0 (p_min ⟨_, rfl, i_a0 (p_max ⟨_, rfl, ⟨?_, ?_⟩, fun _ Γ => ∃ a1 a2 a3 a4 a5 a6 a7, Γ = [.sh (.scr ns), a1, a2, a3, a4, a5, a6, a7, .tab Φ.tb "law.<locals>.<lambda>"], ⟨_, _, _, _, _, _, _, rfl⟩, ?_, ?_⟩)⟩)⟩)⟩)))⟩)))⟩)))))
  · split <;> split <;> omega
  · split <;> split <;> omega
  · rintro i d Γ2 hd ⟨a1, a2, a3, a4, a5, a6, a7, rfl⟩
    obtain ⟨j, _, rfl⟩ := List.mem_map.mp (List.mem_of_getElem? hd)
    refine ⟨_, rfl, ?_⟩
    refine i_b1 (i_asgT (i_cal (i_a1 (i_cal (i_a1 (i_var rfl ⟨_, rfl, i_a1 (i_var rfl ⟨_, rfl, i_a0 (i_call h0 rfl ⟨ns, (j : Int), rfl, hns⟩ rfl ⟨_, rfl, i_a1 (i_var rfl ⟨_, rfl, i_a0 (i_call h1 rfl ⟨cellI ns j, (j : Int), rfl⟩ rfl ⟨by show 2 < 9; decide, _, rfl, ?_⟩)⟩)⟩)⟩)⟩))))))
    have hex : ∃ n : Nat, 1 + drI (cellI ns j) j % 4 = (n : Int) ∧ 1 ≤ n ∧ n ≤ 4 := ⟨(1 + drI (cellI ns j) j % 4).toNat, by omega, by omega, by omega⟩
    obtain ⟨n, hn, hn1, hn4⟩ := hex
    refine i_b1 (i_par2 (i_new (i_a0 ⟨_, h3, rfl, fun p => ⟨⟨p, rfl, rfl⟩, rfl, i_bin (i_c ⟨_, rfl, i_bin (i_var rfl ⟨_, rfl, i_c ⟨_, rfl, b_mod (by decide) ⟨_, rfl, b_addI ⟨by show 3 < 9; decide, by show 4 < 9; decide, ?_⟩⟩⟩⟩)⟩)⟩⟩)))
    rw [hn]
    refine (show semB glsD Φ _ (stG (.tab Φ.tb "law.<locals>.<lambda>") ns (.sh (.int (j : Nat))) (.sh (.int (drI (cellI ns j) j))) (SH p [] []) n a5 a6 a7) _ from ?_)
    refine i_b1 (w2 h6 hn4 fun a5 ps hp => ?_)
    refine i_b1 (w3 rfl h6 h7 h8 h12 (aL_len n) hn4 (by omega) fun a6 a7 => ?_)
    refine i_b1 (w4 rfl h8 (aL_len n) hn4 (by omega) ?_)
    refine i_b1 (w5 rfl h7 (aL_len n) hn4 (by omega) ?_)
    refine i_b1 (w6 rfl h6 h7 (by rw [aL_len]; omega) (by omega) fun a6 a7 => ?_)
    refine i_b1 (w7 h10 h11 hn4 ?_)
    refine i_b1 (w8 h6 hn4 (by omega) fun a5 ps hp => ?_)
    refine i_b1 (w9 rfl h6 h11 (rowsL_len hn4) (by omega) ?_)
    refine i_b1 (w10 h7 (rowsL_len hn4) (by omega) ?_)
    have hl := rowsL_len hn4
    refine i_b1 (w11 h9 h11 ?_ ?_ ?_ (by omega) fun S => ?_)
    · rw [List.append_assoc, List.getElem?_append_right (by rw [List.length_take]; omega), List.length_take, hl]
      rfl
    · unfold rowsL
      rw [List.getElem?_append_right (by rw [aL_len]; omega), aL_len, List.getElem?_replicate, if_pos (by omega)]
    · rw [List.length_append, List.length_append, List.length_take, List.length_drop, hl]
      decide
    · exact i_b0 ⟨_, _, _, _, _, _, _, rfl⟩
  · rintro Γ2 ⟨a1, a2, a3, a4, a5, a6, a7, rfl⟩
    exact i_b1 (i_ret (i_c rfl))
end K28

end
set_option Elab.async false
set_option linter.all false
set_option maxRecDepth 100000
set_option maxHeartbeats 0
namespace K28
open PySem PySem.Spec PyProof.Rows L2 PW
noncomputable def phF : Nat → Option FSpec := fun j => match j with
    | 0 => some sp_cell
    | 1 => some sp_drawn
    | 2 => some sp_is_row
    | _ => none
noncomputable def phM : Nat → Option MSpec := fun j => match j with
    | 3 => some sp_sini
    | 4 => some sp_bec
    | 5 => some sp_need
    | 6 => some sp_put
    | 7 => some sp_chg
    | 8 => some sp_drp
    | 9 => some sp_undo
    | 10 => some sp_redo
    | 11 => some sp_rows
    | 12 => some sp_kno
    | _ => none
noncomputable def PhT (t : Addr) : Fns where
  f := phF
  m := phM
  tb := t
theorem facts {P : Program} {w : World} {K : PySem.W.Frag} {h : Heap} {mg : Str → Option Value} {f : Addr} (X : K.In h) (G : h.Ns mainGlobals mg) (hfa : mg ("law" : Str) = some (.ref f)) (c : SaysP fn hds K) :
    ∃ fd : FuncData, (∀ (s : Shared) (v : Value), BindsTo s fd ⟨[v], []⟩ [("script", v)]) ∧ ∀ base : Heap, K.In base → base.Ns mainGlobals mg → (LamX.TabB base mg (He.cT K ("law", none)).1 (He.cT K ("law", none)).2 → FnOk P w K mg base (L2M.CX false P w) 11 f fd ["script"] (spT K (He.cT K ("law", none)).2)) := by
  obtain ⟨fdI, FI⟩ := c.def_ 0 (d := dd0) rfl
  obtain ⟨fd0, F0⟩ := c.def_ 1 (d := dd1) rfl
  obtain ⟨fd1, F1⟩ := c.def_ 2 (d := dd2) rfl
  obtain ⟨fd2, F2⟩ := c.def_ 3 (d := dd3) rfl
  obtain ⟨fd3, F3⟩ := c.def_ 4 (d := dd4) rfl
  obtain ⟨fd4, F4⟩ := c.def_ 5 (d := dd5) rfl
  obtain ⟨fd5, F5⟩ := c.def_ 6 (d := dd6) rfl
  obtain ⟨fd6, F6⟩ := c.def_ 7 (d := dd7) rfl
  obtain ⟨fd7, F7⟩ := c.def_ 8 (d := dd8) rfl
  obtain ⟨fd8, F8⟩ := c.def_ 9 (d := dd9) rfl
  obtain ⟨fd9, F9⟩ := c.def_ 10 (d := dd10) rfl
  obtain ⟨fd10, F10⟩ := c.def_ 11 (d := dd11) rfl
  obtain ⟨fd11, F11⟩ := c.def_ 12 (d := dd12) rfl
  obtain ⟨fd12, F12⟩ := c.def_ 13 (d := dd13) rfl
  obtain ⟨fd, FW⟩ := c.def_ 14 (d := dd14) rfl
  obtain ⟨fdL, FL⟩ := c.def_ 15 (d := dd15) rfl
  obtain ⟨fdT, FT⟩ := c.def_ 16 (d := dd16) rfl
  have e := hfa.symm.trans (c.glo X G 14 (d := dd14))
  cases e
  have b := FunD.bindsA (ps := ["script"]) FW fun _ _ _ _ _ _ us hl => match us, hl with | [_], _ => rfl
  refine ⟨fd, fun s v => b s [v] rfl, fun base _ _ => ?_⟩
  intro TB
  have bI : Binds K fdI ["self", "line"] [] := FI.bindsN fun _ _ _ _ _ _ us hl => match us, hl with | [_, _], _ => rfl
  have sI : FnScope ["self", "line"] ["self", "line"] (defScope inS) := ⟨rfl, rfl, rfl, by decide +kernel, rfl, by decide +kernel, by decide +kernel⟩
  have bL : Binds K fdL ["e"] [] := FL.bindsN fun _ _ _ _ _ _ us hl => match us, hl with | [_], _ => rfl
  have bT : Binds K fdT ["deed"] [] := FT.bindsN fun _ _ _ _ _ _ us hl => match us, hl with | [_], _ => rfl
  have q0 := c.cls 0
  have hfl : ∀ cn f : Str, (cn, f) ∈ fldsN → Cls K (clA K cn) ∧ NoAttr K (clA K cn) f := by
    intro cn f hm
    unfold fldsN at hm
    simp only [List.mem_cons, Prod.mk.injEq, List.not_mem_nil, or_false] at hm
    rcases hm with ⟨rfl, rfl⟩ | ⟨rfl, rfl⟩ | ⟨rfl, rfl⟩
    · exact ⟨q0.1, q0.2.2.2.1 _ (by decide)⟩
    · exact ⟨q0.1, q0.2.2.2.1 _ (by decide)⟩
    · exact ⟨q0.1, q0.2.2.2.1 _ (by decide)⟩
  have wl : ∀ (ecs : List EC) (lw tn : Bool), Wld P w K mg base (caK K) glsD glsN fldsN ecs lw tn := fun ecs lw tn => wld_of (hd := hds) X G c.h rfl hfl tn FI sI bI FL (by decide +kernel) (c.glo X G 15 (d := dd15)) bL lw
  have b0 : Binds K fd0 f_law_cell_ps [] := F0.bindsN fun _ _ _ _ _ _ us hl => match us, hl with | [_, _], _ => rfl
  have b1 : Binds K fd1 f_law_drawn_ps [] := F1.bindsN fun _ _ _ _ _ _ us hl => match us, hl with | [_, _], _ => rfl
  have b2 : Binds K fd2 f_is_row_ps [] := F2.bindsN fun _ _ _ _ _ _ us hl => match us, hl with | [_], _ => rfl
  have b3 : Binds K fd3 f_Sheet_ini_ps [] := F3.bindsN fun _ _ _ _ _ _ us hl => match us, hl with | [_], _ => rfl
  have b4 : Binds K fd4 f_Sheet_become_ps [] := F4.bindsN fun _ _ _ _ _ _ us hl => match us, hl with | [_, _], _ => rfl
  have b5 : Binds K fd5 f_Sheet_need_place_ps [] := F5.bindsN fun _ _ _ _ _ _ us hl => match us, hl with | [_, _, _], _ => rfl
  have b6 : Binds K fd6 f_Sheet_put_row_ps [] := F6.bindsN fun _ _ _ _ _ _ us hl => match us, hl with | [_, _, _], _ => rfl
  have b7 : Binds K fd7 f_Sheet_change_row_ps [] := F7.bindsN fun _ _ _ _ _ _ us hl => match us, hl with | [_, _, _], _ => rfl
  have b8 : Binds K fd8 f_Sheet_drop_row_ps [] := F8.bindsN fun _ _ _ _ _ _ us hl => match us, hl with | [_, _], _ => rfl
  have b9 : Binds K fd9 f_Sheet_undo_ps [] := F9.bindsN fun _ _ _ _ _ _ us hl => match us, hl with | [_], _ => rfl
  have b10 : Binds K fd10 f_Sheet_redo_ps [] := F10.bindsN fun _ _ _ _ _ _ us hl => match us, hl with | [_], _ => rfl
  have b11 : Binds K fd11 f_Sheet_rows_ps [] := F11.bindsN fun _ _ _ _ _ _ us hl => match us, hl with | [_], _ => rfl
  have b12 : Binds K fd12 f_Sheet_known_at_ps [] := F12.bindsN fun _ _ _ _ _ _ us hl => match us, hl with | [_, _], _ => rfl
  have a0 : Av false P w K mg base (caK K) fnsN (PhT (He.cT K ("law", none)).2) 0 5 := av_nil
  have a1 : Av false P w K mg base (caK K) fnsN (PhT (He.cT K ("law", none)).2) 1 6 := av_succ a0 rfl (by decide) (HasAt.mono (fn_at2 (Φ := (PhT (He.cT K ("law", none)).2)) (n := 0) (c := f_law_cell_c) (pb := f_law_cell_b) rfl (wl _ false false) F0 f_law_cell_s rfl (by first | decide | omega) rfl f_law_cell_k a0 rfl rfl rfl b0 (c.glo X G 1 (d := dd1)) (m_cell rfl)) (by decide))
  have a2 : Av false P w K mg base (caK K) fnsN (PhT (He.cT K ("law", none)).2) 2 6 := av_succ a1 rfl (by decide) (HasAt.mono (fn_at2 (Φ := (PhT (He.cT K ("law", none)).2)) (n := 1) (c := f_law_drawn_c) (pb := f_law_drawn_b) rfl (wl _ false false) F1 f_law_drawn_s rfl (by first | decide | omega) rfl f_law_drawn_k a0 rfl rfl rfl b1 (c.glo X G 2 (d := dd2)) (m_drawn rfl)) (by decide))
  have a3 : Av false P w K mg base (caK K) fnsN (PhT (He.cT K ("law", none)).2) 3 6 := av_succ a2 rfl (by decide) (HasAt.mono (fn_at2 (Φ := (PhT (He.cT K ("law", none)).2)) (n := 2) (c := f_is_row_c) (pb := f_is_row_b) rfl (wl _ false false) F2 f_is_row_s rfl (by first | decide | omega) rfl f_is_row_k a0 rfl rfl rfl b2 (c.glo X G 3 (d := dd3)) (m_is_row (PhT (He.cT K ("law", none)).2))) (by decide))
  have a4 : Av false P w K mg base (caK K) fnsN (PhT (He.cT K ("law", none)).2) 4 7 := av_succ a3 rfl (by decide) (HasAt.mono (ini_at2 (Φ := (PhT (He.cT K ("law", none)).2)) (n := 3) (c := f_Sheet_ini_c) (pb := f_Sheet_ini_b) rfl (wl _ false false) F3 f_Sheet_ini_s rfl (by first | decide | omega) rfl f_Sheet_ini_k a0 rfl rfl rfl b3 q0.2.2.1 (PySem.W.mg_of X G q0.2.2.2.2) (m_sini (PhT (He.cT K ("law", none)).2))) (by decide))
  have a5 : Av false P w K mg base (caK K) fnsN (PhT (He.cT K ("law", none)).2) 5 7 := av_succ a4 rfl (by decide) (HasAt.mono (mu_at2 (Φ := (PhT (He.cT K ("law", none)).2)) (Φ' := (PhT (He.cT K ("law", none)).2)) (n := 4) (c := f_Sheet_become_c) (pb := f_Sheet_become_b) rfl (wl _ false false) F4 f_Sheet_become_s rfl (by first | decide | omega) rfl f_Sheet_become_k a0 rfl rfl rfl b4 q0.1 (q0.2.1 "become" (by decide)) (m_bec (PhT (He.cT K ("law", none)).2))) (by decide))
  have a6 : Av false P w K mg base (caK K) fnsN (PhT (He.cT K ("law", none)).2) 6 7 := av_succ a5 rfl (by decide) (HasAt.mono (mu_at2 (Φ := (PhT (He.cT K ("law", none)).2)) (Φ' := (PhT (He.cT K ("law", none)).2)) (n := 5) (c := f_Sheet_need_place_c) (pb := f_Sheet_need_place_b) rfl (wl _ false false) F5 f_Sheet_need_place_s rfl (by first | decide | omega) rfl f_Sheet_need_place_k a0 rfl rfl rfl b5 q0.1 (q0.2.1 "need_place" (by decide)) (m_need (PhT (He.cT K ("law", none)).2))) (by decide))
  have a7 : Av false P w K mg base (caK K) fnsN (PhT (He.cT K ("law", none)).2) 7 8 := av_succ a6 rfl (by decide) (HasAt.mono (mu_at2 (Φ := (PhT (He.cT K ("law", none)).2)) (Φ' := (PhT (He.cT K ("law", none)).2)) (n := 6) (c := f_Sheet_put_row_c) (pb := f_Sheet_put_row_b) rfl (wl _ false false) F6 f_Sheet_put_row_s rfl (by first | decide | omega) rfl f_Sheet_put_row_k a6 rfl rfl rfl b6 q0.1 (q0.2.1 "put_row" (by decide)) (m_put (Φ := (PhT (He.cT K ("law", none)).2)) rfl rfl rfl)) (by decide))
  have a8 : Av false P w K mg base (caK K) fnsN (PhT (He.cT K ("law", none)).2) 8 8 := av_succ a7 rfl (by decide) (HasAt.mono (mu_at2 (Φ := (PhT (He.cT K ("law", none)).2)) (Φ' := (PhT (He.cT K ("law", none)).2)) (n := 7) (c := f_Sheet_change_row_c) (pb := f_Sheet_change_row_b) rfl (wl _ false false) F7 f_Sheet_change_row_s rfl (by first | decide | omega) rfl f_Sheet_change_row_k a6 rfl rfl rfl b7 q0.1 (q0.2.1 "change_row" (by decide)) (m_chg (Φ := (PhT (He.cT K ("law", none)).2)) rfl rfl rfl)) (by decide))
  have a9 : Av false P w K mg base (caK K) fnsN (PhT (He.cT K ("law", none)).2) 9 8 := av_succ a8 rfl (by decide) (HasAt.mono (mu_at2 (Φ := (PhT (He.cT K ("law", none)).2)) (Φ' := (PhT (He.cT K ("law", none)).2)) (n := 8) (c := f_Sheet_drop_row_c) (pb := f_Sheet_drop_row_b) rfl (wl _ false false) F8 f_Sheet_drop_row_s rfl (by first | decide | omega) rfl f_Sheet_drop_row_k a6 rfl rfl rfl b8 q0.1 (q0.2.1 "drop_row" (by decide)) (m_drp (Φ := (PhT (He.cT K ("law", none)).2)) rfl rfl)) (by decide))
  have a10 : Av false P w K mg base (caK K) fnsN (PhT (He.cT K ("law", none)).2) 10 8 := av_succ a9 rfl (by decide) (HasAt.mono (mu_at2 (Φ := (PhT (He.cT K ("law", none)).2)) (Φ' := (PhT (He.cT K ("law", none)).2)) (n := 9) (c := f_Sheet_undo_c) (pb := f_Sheet_undo_b) rfl (wl _ false false) F9 f_Sheet_undo_s rfl (by first | decide | omega) rfl f_Sheet_undo_k a0 rfl rfl rfl b9 q0.1 (q0.2.1 "undo" (by decide)) (m_undo (PhT (He.cT K ("law", none)).2))) (by decide))
  have a11 : Av false P w K mg base (caK K) fnsN (PhT (He.cT K ("law", none)).2) 11 8 := av_succ a10 rfl (by decide) (HasAt.mono (mu_at2 (Φ := (PhT (He.cT K ("law", none)).2)) (Φ' := (PhT (He.cT K ("law", none)).2)) (n := 10) (c := f_Sheet_redo_c) (pb := f_Sheet_redo_b) rfl (wl _ false false) F10 f_Sheet_redo_s rfl (by first | decide | omega) rfl f_Sheet_redo_k a0 rfl rfl rfl b10 q0.1 (q0.2.1 "redo" (by decide)) (m_redo (PhT (He.cT K ("law", none)).2))) (by decide))
  have a12 : Av false P w K mg base (caK K) fnsN (PhT (He.cT K ("law", none)).2) 12 8 := av_succ a11 rfl (by decide) (HasAt.mono (mu_at2 (Φ := (PhT (He.cT K ("law", none)).2)) (Φ' := (PhT (He.cT K ("law", none)).2)) (n := 11) (c := f_Sheet_rows_c) (pb := f_Sheet_rows_b) rfl (wl _ false false) F11 f_Sheet_rows_s rfl (by first | decide | omega) rfl f_Sheet_rows_k a0 rfl rfl rfl b11 q0.1 (q0.2.1 "rows" (by decide)) (m_rows (PhT (He.cT K ("law", none)).2))) (by decide))
  have a13 : Av false P w K mg base (caK K) fnsN (PhT (He.cT K ("law", none)).2) 13 8 := av_succ a12 rfl (by decide) (HasAt.mono (mu_at2 (Φ := (PhT (He.cT K ("law", none)).2)) (Φ' := (PhT (He.cT K ("law", none)).2)) (n := 12) (c := f_Sheet_known_at_c) (pb := f_Sheet_known_at_b) rfl (wl _ false true) F12 f_Sheet_known_at_s rfl (by first | decide | omega) rfl f_Sheet_known_at_k a6 rfl rfl rfl b12 q0.1 (q0.2.1 "known_at" (by decide)) (m_kno (Φ := (PhT (He.cT K ("law", none)).2)) rfl)) (by decide))
  exact fn_sndT (Φ := (PhT (He.cT K ("law", none)).2)) (c := f_law_c) (i := 8) (yh := "$t") (g := He.ga K "_law_told") (wl _ true false) rfl FW f_law_s rfl (by decide) f_law_k (fun j y e => a13 j y e) rfl (c.glo X G 16 (d := dd16)) FT bT ⟨rfl, rfl, rfl, by decide +kernel, rfl, by decide +kernel, by decide +kernel⟩ (.inl (by decide +kernel)) (by decide +kernel) (by decide +kernel) (by decide +kernel) (code_of (p := ("law", none)) FW) TB rfl rfl (by decide) (by decide +kernel) (m_law (Φ := (PhT (He.cT K ("law", none)).2)) rfl rfl rfl rfl rfl rfl rfl rfl rfl rfl)
end K28
open PySem PySem.W PySem.Calls PyProof.Rows
theorem PySem.Challenge.cw_pasteward_k28_sheets_refused_holds : PySem.Challenge.rw_pasteward_k28_sheets_refused.Holds := by
  w_on; o_law
  refine HandSHeadRun.head_any (r := OpenLaw.row PySem.Challenge.rw_pasteward_k28_sheets_refused) (q := view (OpenLaw.row PySem.Challenge.rw_pasteward_k28_sheets_refused).prog [62]) (H := K28.hk) (ob := K28.ob) (M := 8000) (loose := K28.loose) (d := HandSHeadRun.topDef (OpenLaw.row PySem.Challenge.rw_pasteward_k28_sheets_refused).prog 62) (kwd := []) K28.ob_eq
    (by kernel_rfl) (fun s => by kernel_rfl) K28.run (by kernel_rfl) (by kernel_rfl) (by kernel_rfl) (by rfl) (by first | assumption | decide +kernel) (by decide +kernel) ⟨rfl, rfl, rfl, rfl, rfl, by decide +kernel⟩ ?hw ?hc
  case hw => w_witness2
  case hc =>
    refine PW.walk_ofT (sx := false) (m := 6) (fn := K28.fn) (hd := K28.hds) (l := PySem.Challenge.rw_pasteward_k28_sheets_refused) (k := 11) (x := "script") rfl (by kernel_rfl) ⟨rfl, by decide, by decide⟩ ?F
    intro w mg fa h K KX c G hmg0
    have hmg : mg ("law" : PySem.Str) = some (.ref fa) := by
      have e : (HandSHeadRun.topDef (OpenLaw.row PySem.Challenge.rw_pasteward_k28_sheets_refused).prog 62).name = ("law" : PySem.Str) := by kernel_rfl
      rw [← e]
      exact hmg0
    exact K28.facts (P := (PySem.Challenge.rw_pasteward_k28_sheets_refused).prog) (w := w) KX G hmg c

