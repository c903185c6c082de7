import PyProof.Rows.All
import Wide.All
import OpenK.AllK
import Wide.FinOn
import HandS.ForMost
import KE.KDictCopyH
import KE.KDictDisplayH
import HandS.TupAny
import HandS.TupMul
import HandS.IsInst
import HandS.Deep
import HandS.Conv
import HandS.Walk
import HandS.NoneIn
import HandS.Style
import KE.GoesEnum
import KE.GoesMore
import HandS.SortRule
import HandS.SortInts
import HandS.More
import PySem.Challenge.RW_settlepages_k48_whole_walks_and_stacks_f
import KE.KStateDown
import Lean
import HandS.Base
import HandS.Call
import HandS.Ends
import HandS.Words
import HandS.WordsExc
import HandS.Defaults
import HandS.Head0
import HandS.Head1
import HandS.Head2
import HandS.HeadEnd
import HandS.HeadHook1
import HandS.HeadHook2
set_option Elab.async false
set_option linter.all false
set_option maxRecDepth 100000
/-! Dict displays with ** : the raw rules -/
namespace K48
open PySem PySem.Spec PyProof.Rows
section
variable {prog : Program} {w : World} {K : Type} [DecidableEq K] {A : Around} {E : Value → Shared → Prop} {s : Shared}

theorem put_heap {knd : HeapKind prog w K} {d a : Addr} {xs : List (K × Addr × Value)} {k : K} {v : Value} {Q : Unit → Shared → Prop} (hu : knd.room A) (hkey : knd.is s.heap k a) (hm : s.heap.DictOfH knd d xs)
    (hQ : ∀ h', h'.DictOfH knd d (storedH xs k a v) → Heap.SameBut d s.heap h' → Q () { s with heap := h' })
    (hsz : xs.length ≤ sizeLine) :
    wpAny (model prog w) A (dictPut d (knd.hash k) (.ref a) v) Q E s := by
  obtain ⟨o, es, ep, ho, hc, hd, he, his, hn⟩ := hm
  unfold dictPut
  refine wpAny_bind (wpAny_dictFind_heap hu hkey ho hd he his hn ?_ ?_)
  · intro hno
    have hnot : k ∉ xs.map (·.1) := not_mem_keys_of_get hno
    refine (wpAny_updateDictKeys (hz := by have e := size_of_entries he; omega) ho hd (hQ _ ⟨_, _, ep + 1, Heap.get?_update_self _ ho (Obj.isFreed_of_dict (Obj.data_mapDictKeys hd _)),
      hc.mapDictKeys _, Obj.data_mapDictKeys hd _, ?_, ?_, ?_⟩ (Heap.SameBut.update ..)))
    · rw [storedH_new (atKey_none_of_get hno)]
      simp [he, entryOfKey]
    · rw [storedH_new (atKey_none_of_get hno)]
      intro x hx
      rcases List.mem_append.mp hx with hx | hx
      · exact knd.keeps (his x hx) ho hd (Heap.SameBut.update ..)
      · simp only [List.mem_singleton] at hx
        subst hx
        exact knd.keeps hkey ho hd (Heap.SameBut.update ..)
    · rw [storedH_new (atKey_none_of_get hno)]
      rw [List.map_append, List.nodup_append]
      refine ⟨hn, by simp, ?_⟩
      intro x hx y hy
      simp only [List.map_cons, List.map_nil, List.mem_singleton] at hy
      subst hy
      exact fun e => hnot (e ▸ hx)
  · intro j p hj
    refine ((wpAny_updateDict ho hd ((hQ _ ⟨_, _, ep, Heap.get?_update_self _ ho (Obj.isFreed_of_dict (Obj.data_mapDict hd _)),
      hc.mapDict _, Obj.data_mapDict hd _, ?_, ?_, ?_⟩ (Heap.SameBut.update ..)))))
    · rw [storedH_old (atKey_of_get hn hj)]
      have := modify_map_putAt (entryOfKey knd) (fun e : DictEntry => { e with val := v }) k v (fun _ _ => rfl) hn hj
      rw [← he] at this
      obtain ⟨l⟩ := es
      simpa using this
    · rw [storedH_old (atKey_of_get hn hj)]
      intro x hx
      obtain ⟨y, hy, rfl⟩ := List.mem_map.mp hx
      unfold putAt
      split <;> exact knd.keeps (his y hy) ho hd (Heap.SameBut.update ..)
    · rw [storedH_old (atKey_of_get hn hj)]
      rw [keys_map_putAt]; exact hn

theorem put_pairs {knd : PySem.KeyKind prog w K} {d : Addr} {kvs : List (K × Value)} {k : K} {key v : Value} {Q : Unit → Shared → Prop} (hkey : knd.is k key = true) (hm : s.heap.DictOf knd d kvs)
    (hQ : ∀ h', h'.DictOf knd d (stored kvs k v) → Heap.SameBut d s.heap h' → Q () { s with heap := h' })
    (hsz : kvs.length ≤ sizeLine) :
    wpAny (model prog w) A (dictPut d (knd.hash k) key v) Q E s := by
  obtain ⟨o, es, ep, ho, hc, hd, hk, hp, hn⟩ := hm
  have hes : es.size ≤ sizeLine := by have e1 := hp.length; have e2 : es.toList.length = es.size := by simp
                                      omega
  unfold dictPut
  refine wpAny_bind (wpAny_dictFind_of hkey ho hd hk ?_)
  have hidx : (es.findIdx? fun e => knd.is k e.key) = kvs.findIdx? fun kv => decide (kv.1 = k) := by
    rw [← hp.findIdx k]; obtain ⟨l⟩ := es; simp
  cases hi : es.findIdx? fun e => knd.is k e.key with
  | some i =>
    refine ((wpAny_updateDict ho hd ((hQ _ ⟨_, _, ep, Heap.get?_update_self _ ho (Obj.isFreed_of_dict (Obj.data_mapDict hd _)),
      hc.mapDict _, Obj.data_mapDict hd _, hk.modify _ _, ?_, ?_⟩ (Heap.SameBut.update ..)))))
    · rw [stored, if_pos (any_of_findIdx_some (hidx ▸ hi))]
      have hl : (es.toList.findIdx? fun e => knd.is k e.key) = some i := by rw [← hi]; obtain ⟨l⟩ := es; simp
      have := hp.modify hn hl v
      obtain ⟨l⟩ := es
      simpa using this
    · rw [stored, if_pos (any_of_findIdx_some (hidx ▸ hi)), keys_map_store]; exact hn
  | none =>
    have hnot : k ∉ kvs.map (·.1) := not_mem_of_findIdx_none (hidx ▸ hi)
    have hany : ¬ (kvs.any fun kv => decide (kv.1 = k)) = true := by
      rw [List.any_eq_true]; rintro ⟨kv, hkv, he⟩
      exact hnot (List.mem_map.mpr ⟨kv, hkv, of_decide_eq_true he⟩)
    refine ((wpAny_updateDictKeys (hz := hes) ho hd (hQ _ ⟨_, _, ep + 1, Heap.get?_update_self _ ho (Obj.isFreed_of_dict (Obj.data_mapDictKeys hd _)),
      hc.mapDictKeys _, Obj.data_mapDictKeys hd _, hk.push hkey _, ?_, ?_⟩ (Heap.SameBut.update ..))))
    · rw [stored, if_neg hany]
      have := hp.append hkey (knd.hash k) v
      obtain ⟨l⟩ := es
      simpa using this
    · rw [stored, if_neg hany, List.map_append, List.nodup_append]
      refine ⟨hn, by simp, ?_⟩
      intro a ha b hb
      simp only [List.map_cons, List.map_nil, List.mem_singleton] at hb
      subst hb
      exact fun e => hnot (e ▸ ha)

/-- a mapping's entries are put one by one -/
theorem merge_core {d o : Addr} {od oo : Obj} {esd eso : Array DictEntry} {epd epo : Nat} {Q : Unit → Shared → Prop} (hT : s.TypeIs (.ref o) "dict") (hoS : (o == sysModules) = false)
    (hod : s.heap.get? d = some od) (hdd : od.data = .dict esd epd) (hoo : s.heap.get? o = some oo) (hdo : oo.data = .dict eso epo)
    (hap : esd.isEmpty = false ∨ ∀ e ∈ eso.toList, (∀ a, e.key ≠ .ref a) ∨ ∃ a, e.key = .ref a ∧ s.TypeIs (.ref a) "tuple" ∧ (eso.filter (·.hash == e.hash)).size ≤ 1)
    (Iv : Nat → Heap → Prop) (h0 : Iv 0 s.heap) (hI : ∀ i h', Iv i h' → h'.get? o = some oo)
    (step : ∀ i h' e, eso[i]? = some e → Iv i h' → wpAny (model prog w) A (dictPut d e.hash e.key e.val) (fun _ s' => ∃ h'', s' = { s with heap := h'' } ∧ Iv (i + 1) h'') E { s with heap := h' })
    (hQ : ∀ h', Iv eso.size h' → Q () { s with heap := h' }) :
    wpAny (model prog w) A (mergeMapping d (.ref o) false) Q E s := by
  unfold mergeMapping
  refine wpAny_bind (wpAny_isInstance hT isSubtype_dict_dict ?_)
  dsimp only
  rw [if_pos rfl]
  refine wpAny_bind (wpAny_specialOf hT F.slot_dict_iter.lookup ?_)
  refine wpAny_bind (wpAny_pure ?_)
  rw [show (some (Value.builtin "dict.__iter__") == some (Value.builtin "dict.__iter__")) = true from by decide]
  dsimp only
  rw [if_neg (by rw [hoS]; exact Bool.false_ne_true)]
  refine wpAny_bind (wpAny_dictEntries hod hdd ?_)
  have loop : wpAny (model prog w) A (do
      let l ← dictEntries o
      let epoch ← dictEpoch o
      forIn (List.range l.size) PUnit.unit fun i (_ : PUnit) => (do
          let l' ← dictEntries o
          match l'[i]? with
            | some e => do
              holding [e.key, e.val] (do dictPut d e.hash e.key e.val)
              let ep' ← dictEpoch o
              if (ep' != epoch) = true then do
                  (unsupported "dict.changed-during-merge" : Sem PUnit)
                  pure (ForInStep.yield PUnit.unit)
                else pure (ForInStep.yield PUnit.unit)
            | _ => do
              (unsupported "dict.changed-during-merge" : Sem PUnit)
              pure (ForInStep.yield PUnit.unit) : Sem (ForInStep PUnit))
      pure ()) Q E s := by
    refine wpAny_bind (wpAny_dictEntries hoo hdo ?_)
    refine wpAny_bind (wpAny_dictEpoch hoo hdo ?_)
    refine wpAny_bind ?_
    rw [List.range_eq_range']
    refine wpAny_forIn_list _
      (fun rest _ s' => ∃ h' i, s' = { s with heap := h' } ∧ rest = List.range' i (eso.size - i) ∧ i ≤ eso.size ∧ Iv i h')
      _ ?_ ?_ _ _ ⟨s.heap, 0, rfl, by simp, Nat.zero_le _, h0⟩
    · rintro x rest b s' ⟨h', i, rfl, hr, hi, hv⟩
      have hlt : i < eso.size := by
        rcases Nat.lt_or_ge i eso.size with h | h
        · exact h
        · rw [Nat.sub_eq_zero_of_le h] at hr; simp at hr
      obtain ⟨rfl, hrest⟩ : x = i ∧ rest = List.range' (i + 1) (eso.size - (i + 1)) := by
        have e : eso.size - i = (eso.size - (i + 1)) + 1 := by omega
        rw [e, List.range'_succ] at hr
        injection hr with h1 h2
        exact ⟨h1, h2⟩
      have hoo' := hI x h' hv
      refine wpAny_bind (wpAny_dictEntries hoo' hdo ?_)
      have hg : eso[x]? = some eso[x] := Array.getElem?_eq_getElem hlt
      rw [hg]
      show wpAny _ _ (holding [eso[x].key, eso[x].val] (dictPut d eso[x].hash eso[x].key eso[x].val) >>= _) _ _ _
      refine wpAny_bind (wpAny_holding (wpAny_mono (step x h' _ hg hv) (fun _ s2 h2 => ?_) fun _ _ z => z))
      obtain ⟨h'', rfl, hv2⟩ := h2
      refine wpAny_bind (wpAny_dictEpoch (hI _ _ hv2) hdo ?_)
      rw [if_neg (by simp)]
      exact wpAny_pure ⟨h'', x + 1, rfl, hrest, hlt, hv2⟩
    · rintro b s' ⟨h', i, rfl, hr, hi, hv⟩
      have hin : i = eso.size := by
        rcases Nat.lt_or_ge i eso.size with h | h
        · have e : eso.size - i = (eso.size - (i + 1)) + 1 := by omega
          rw [e, List.range'_succ] at hr; exact nomatch hr
        · exact Nat.le_antisymm hi h
      subst hin
      exact wpAny_pure (hQ h' hv)
  split
  · rename_i hemp
    have hap' := hap.resolve_left fun h => by rw [hemp] at h; cases h
    refine wpAny_bind (wpAny_dictEntries hoo hdo ?_)
    refine wpAny_bind ?_
    rw [← Array.forIn_toList]
    refine wpAny_forIn_list _ (fun rest _ s' => s' = s ∧ ∀ e ∈ rest, (∀ a, e.key ≠ .ref a) ∨ ∃ a, e.key = .ref a ∧ s.TypeIs (.ref a) "tuple" ∧ (eso.filter (·.hash == e.hash)).size ≤ 1) _ ?_ ?_ _ _ ⟨rfl, hap'⟩
    · rintro e rest b s' ⟨rfl, hall⟩
      have hrest := fun (x : DictEntry) hx => hall x (List.mem_cons_of_mem e hx)
      rcases hall e List.mem_cons_self with hv | ⟨a, hk, hT', h1⟩
      · split
        · rename_i a hk
          exact absurd hk (hv a)
        · exact wpAny_pure ⟨rfl, hrest⟩
      · rw [hk]
        dsimp only
        refine wpAny_bind (wpAny_specialOf hT' F.slot_tuple_eq.lookup ?_)
        refine wpAny_ite_split (fun _ => ?_) (fun _ => wpAny_pure ⟨rfl, hrest⟩)
        rw [if_neg (by omega)]
        exact wpAny_pure ⟨rfl, hrest⟩
    · rintro b s' ⟨rfl, _⟩
      exact loop
  · exact loop
end
end K48
namespace K48
open PySem PySem.Spec PyProof.Rows
section
variable {prog : Program} {w : World} {K : Type} [DecidableEq K] {A : Around} {E : Value → Shared → Prop} {s : Shared}
theorem noRaise1 {m : Sem Unit} {f : Value → Sem Unit} {vs : List Value} {Q : Unit → Shared → Prop} (h : wpAny (model prog w) A m Q (fun _ _ => False) s) :
    wpAny (model prog w) A ((holding vs m).onRaise f) Q E s :=
  wpAny_onRaise (wpAny_mono (wpAny_holding h) (fun _ _ q => q) fun _ _ z => z.elim)
theorem noRaise3 {m : Sem Unit} {f g k : Value → Sem Unit} {vs : List Value} {Q : Unit → Shared → Prop} (h : wpAny (model prog w) A m Q (fun _ _ => False) s) :
    wpAny (model prog w) A ((((holding vs m).onRaise f).tryCatch g).onRaise k) Q E s := by
  refine wpAny_onRaise (m := ((holding vs m).onRaise f).tryCatch g) ?_
  refine wpAny_tryCatch (m := (holding vs m).onRaise f) (k := g) ?_
  exact wpAny_mono (noRaise1 (E := fun _ _ => False) h) (fun _ _ q => q) fun _ _ z => z.elim
/-- {**m, k: v} -/
theorem disp_sp {m k v : Sem Value} {Q : Value → Shared → Prop}
    (h : wpAny (model prog w) A m (fun mv s1 => wpAny (model prog w) A (mergeMapping s.heap.objs.size mv false) (fun _ s2 =>
      wpAny (model prog w) A (subDict [(k, v)]) (fun sub s3 => wpAny (model prog w) A (mergeMapping s.heap.objs.size (.ref sub) false) (fun _ s4 => Q (.ref s.heap.objs.size) s4) (fun _ _ => False) s3) E s2) (fun _ _ => False) s1) E
      { s with heap := s.heap.push { cls := .type "dict", data := .dict #[] } }) :
    wpAny (model prog w) A (dictDisplay [(none, m), (some k, v)]) Q E s := by
  unfold dictDisplay
  dsimp only
  rw [List.forIn_cons]
  dsimp only
  refine wpAny_bind ?_
  refine wpAny_bind ?_
  refine wpAny_bind ?_
  rw [if_pos List.isEmpty_nil]
  refine wpAny_pure ?_
  dsimp only
  refine wpAny_bind (wpAny_alloc ?_)
  refine wpAny_bind (wpAny_holding (wpAny_mono h (fun mv s1 h1 => ?_) fun _ _ z => z))
  refine wpAny_bind (noRaise3 (wpAny_mono h1 (fun _ s2 h2 => ?_) fun _ _ z => z))
  refine wpAny_pure ?_
  dsimp only
  rw [List.forIn_cons]
  dsimp only
  refine wpAny_bind ?_
  rw [if_neg (by simp)]
  refine wpAny_pure ?_
  dsimp only
  rw [List.forIn_nil]
  refine wpAny_pure ?_
  refine wpAny_bind ?_
  rw [if_neg (by simp)]
  dsimp only
  refine wpAny_bind (wpAny_holding (wpAny_mono h2 (fun sub s3 h3 => ?_) fun _ _ z => z))
  refine wpAny_bind (noRaise1 (wpAny_mono h3 (fun _ s4 h4 => ?_) fun _ _ z => z))
  exact wpAny_pure (wpAny_pure h4)
/-- {**m, **n} -/
theorem disp_ss {m n : Sem Value} {Q : Value → Shared → Prop}
    (h : wpAny (model prog w) A m (fun mv s1 => wpAny (model prog w) A (mergeMapping s.heap.objs.size mv false) (fun _ s2 =>
      wpAny (model prog w) A n (fun nv s3 => wpAny (model prog w) A (mergeMapping s.heap.objs.size nv false) (fun _ s4 => Q (.ref s.heap.objs.size) s4) (fun _ _ => False) s3) E s2) (fun _ _ => False) s1) E
      { s with heap := s.heap.push { cls := .type "dict", data := .dict #[] } }) :
    wpAny (model prog w) A (dictDisplay [(none, m), (none, n)]) Q E s := by
  unfold dictDisplay
  dsimp only
  rw [List.forIn_cons]
  dsimp only
  refine wpAny_bind ?_
  refine wpAny_bind ?_
  refine wpAny_bind ?_
  rw [if_pos List.isEmpty_nil]
  refine wpAny_pure ?_
  dsimp only
  refine wpAny_bind (wpAny_alloc ?_)
  refine wpAny_bind (wpAny_holding (wpAny_mono h (fun mv s1 h1 => ?_) fun _ _ z => z))
  refine wpAny_bind (noRaise3 (wpAny_mono h1 (fun _ s2 h2 => ?_) fun _ _ z => z))
  refine wpAny_pure ?_
  dsimp only
  rw [List.forIn_cons]
  dsimp only
  refine wpAny_bind ?_
  refine wpAny_bind ?_
  rw [if_pos List.isEmpty_nil]
  refine wpAny_pure ?_
  dsimp only
  refine wpAny_bind (wpAny_pure ?_)
  refine wpAny_bind (wpAny_holding (wpAny_mono h2 (fun nv s3 h3 => ?_) fun _ _ z => z))
  refine wpAny_bind (noRaise3 (wpAny_mono h3 (fun _ s4 h4 => ?_) fun _ _ z => z))
  refine wpAny_pure ?_
  dsimp only
  rw [List.forIn_nil]
  refine wpAny_pure ?_
  refine wpAny_bind ?_
  rw [if_pos List.isEmpty_nil]
  exact wpAny_pure (wpAny_pure h4)
end

section
variable {prog : Program} {w : World} {K : Type} [DecidableEq K] {A : Around} {E : Value → Shared → Prop} {s : Shared}
/-- tuple keys -/
theorem merge_heap {knd : HeapKind prog w K} {d o : Addr} {kvs more : List (K × Addr × Value)} {Q : Unit → Shared → Prop} (hu : knd.room A) (hdo : d ≠ o) (hoS : (o == sysModules) = false)
    (hd : s.heap.DictOfH knd d kvs) (ho : s.heap.DictOfH knd o more) (hap : kvs ≠ [] ∨ ((∀ x ∈ more, s.TypeIs (.ref x.2.1) "tuple") ∧ (more.map fun x => knd.hash x.1).Nodup))
    (hQ : ∀ h', h'.DictOfH knd d (storedAllH kvs more) → h'.DictOfH knd o more → Heap.SameBut d s.heap h' → Q () { s with heap := h' })
    (hsz : kvs.length + more.length ≤ sizeLine) :
    wpAny (model prog w) A (mergeMapping d (.ref o) false) Q E s := by
  obtain ⟨od, esd, epd, hod, hcd, hdd, hed, hisd, hnd⟩ := id hd
  obtain ⟨oo, eso, epo, hoo, hco, hdo', heo, hiso, hno⟩ := id ho
  have hlen : eso.size = more.length := size_of_entries heo
  refine merge_core ⟨oo, hoo, hco.1⟩ hoS hod hdd hoo hdo' ?_
    (fun i h' => h'.DictOfH knd d (storedAllH kvs (more.take i)) ∧ h'.DictOfH knd o more ∧ h'.get? o = some oo ∧ Heap.SameBut d s.heap h')
    ⟨by simpa [storedAllH] using hd, ho, hoo, Heap.SameBut.refl _ _⟩ (fun i h' z => z.2.2.1) ?_ ?_
  · rcases hap with h | ⟨h1, h2⟩
    · refine .inl ?_
      rw [Bool.eq_false_iff]
      intro e
      refine h ?_
      have h0 : esd = #[] := Array.isEmpty_iff.mp e
      have := size_of_entries hed
      rw [h0] at this
      exact List.length_eq_zero_iff.mp (by simpa using this.symm)
    · refine .inr fun e he => ?_
      rw [heo] at he
      obtain ⟨x, hx, rfl⟩ := List.mem_map.mp he
      refine .inr ⟨x.2.1, rfl, h1 x hx, ?_⟩
      have : (eso.toList.map (·.hash)).Nodup := by
        rw [heo, List.map_map]
        exact h2
      have q := filter_le_one (fun e : DictEntry => e.hash) (entryOfKey knd x).hash eso.toList this
      have e2 : (eso.filter fun z => z.hash == (entryOfKey knd x).hash).size = (eso.toList.filter fun z => z.hash == (entryOfKey knd x).hash).length := by
        obtain ⟨l⟩ := eso
        simp
      rw [e2]
      exact q
  · rintro i h' e he ⟨hd', ho', hoo', hs'⟩
    have he' : eso.toList[i]? = some e := by obtain ⟨l⟩ := eso; simpa using he
    rw [heo, List.getElem?_map] at he'
    cases hkv : more[i]? with
    | none => rw [hkv] at he'; cases he'
    | some kv =>
      obtain ⟨k, a, v⟩ := kv
      rw [hkv] at he'
      cases he'
      have hmx : (storedAllH kvs (more.take i)).length ≤ sizeLine := by
        have e1 := storedAllH_length (more.take i) kvs
        have e2 : (more.take i).length ≤ more.length := by rw [List.length_take]; omega
        omega
      have hkey : knd.is h' k a := by
        obtain ⟨_, _, _, _, _, _, _, his', _⟩ := ho'
        exact his' (k, a, v) (List.mem_of_getElem? hkv)
      refine put_heap (s := { s with heap := h' }) hu hkey hd' (fun h'' hd'' hs'' => ?_) hmx
      have hoo'' : h''.get? o = some oo := (hs''.2 o (Ne.symm hdo)).trans hoo'
      exact ⟨h'', rfl, by rw [storedAllH_take_succ kvs more i (k, a, v) hkv]; exact hd'', ho'.notHere hd' hdo hs'', hoo'', hs'.trans hs''⟩
  · rintro h' ⟨hd', ho', hoo', hs'⟩
    refine hQ h' ?_ ho' hs'
    rw [hlen, List.take_length] at hd'; exact hd'
/-- keys that are carried by value -/
theorem merge_pairs {knd : PySem.KeyKind prog w K} {d o : Addr} {kvs more : List (K × Value)} {Q : Unit → Shared → Prop} (hdo : d ≠ o) (hoS : (o == sysModules) = false)
    (hd : s.heap.DictOf knd d kvs) (ho : s.heap.DictOf knd o more)
    (hQ : ∀ h', h'.DictOf knd d (merged kvs more) → h'.DictOf knd o more → Heap.SameBut d s.heap h' → Q () { s with heap := h' })
    (hsz : kvs.length + more.length ≤ sizeLine) :
    wpAny (model prog w) A (mergeMapping d (.ref o) false) Q E s := by
  obtain ⟨od, esd, epd, hod, hcd, hdd, hkd, hpd, hnd⟩ := id hd
  obtain ⟨oo, eso, epo, hoo, hco, hdo', hko, hpo, hno⟩ := id ho
  have hlen : more.length = eso.size := by rw [← hpo.length]; simp
  refine merge_core ⟨oo, hoo, hco.1⟩ hoS hod hdd hoo hdo' (.inr fun e he => .inl fun a ha => ?_)
    (fun i h' => h'.DictOf knd d (merged kvs (more.take i)) ∧ h'.get? o = some oo ∧ Heap.SameBut d s.heap h')
    ⟨by simpa [merged] using hd, hoo, Heap.SameBut.refl _ _⟩ (fun i h' z => z.2.1) ?_ ?_
  · obtain ⟨k, hk, _⟩ := hko e (by simpa using he)
    have := knd.byValue _ _ hk
    rw [ha] at this
    cases this
  · rintro i h' e he ⟨hd', hoo', hs'⟩
    have hlt : i < eso.size := by
      rcases Nat.lt_or_ge i eso.size with h | h
      · exact h
      · rw [Array.getElem?_eq_none h] at he; cases he
    rw [Array.getElem?_eq_getElem hlt] at he
    cases he
    obtain ⟨kv, hkv⟩ : ∃ kv, more[i]? = some kv := ⟨more[i]'(by rw [hlen]; exact hlt), List.getElem?_eq_getElem _⟩
    obtain ⟨k, v⟩ := kv
    obtain ⟨hkey, hval⟩ := hpo.get? (e := eso[i]) (by simp [hlt]) hkv
    obtain ⟨k', hkey', hhash⟩ := hko eso[i] (Array.getElem_mem hlt)
    obtain rfl : k' = k := knd.inj _ _ _ hkey' hkey
    rw [hhash, hval]
    have hmx : (merged kvs (more.take i)).length ≤ sizeLine := by
      have e1 := merged_length_le kvs (more.take i)
      have e2 : (more.take i).length ≤ more.length := by rw [List.length_take]; omega
      omega
    refine put_pairs (s := { s with heap := h' }) hkey hd' (fun h'' hd'' hs'' => ?_) hmx
    exact ⟨h'', rfl, by rw [merged_take_succ kvs more i (k', v) hkv]; exact hd'', (hs''.2 o (Ne.symm hdo)).trans hoo', hs'.trans hs''⟩
  · rintro h' ⟨hd', hoo', hs'⟩
    refine hQ h' ?_ ⟨oo, eso, epo, hoo', hco, hdo', hko, hpo, hno⟩ hs'
    rw [← hlen, List.take_length] at hd'; exact hd'
end
end K48
namespace K48
open PySem PySem.Spec PyProof.Rows L2

/-! ### keys whose hashes are apart -/
def gk (k : List Key) : Prop := ∃ a b : Int, -1 ≤ a ∧ a ≤ 5 ∧ 0 ≤ b ∧ b ≤ 9 ∧ k = [.inl a, .inl b]
def hash2 (a b : Int) : Int := reduceHash (Builtin.Tuple.tupleHashOf [hashInt a, hashInt b])
theorem hash2_inj : ∀ (a c : Fin 7) (b d : Fin 10), hash2 ((a.val : Int) - 1) (b.val : Int) = hash2 ((c.val : Int) - 1) (d.val : Int) → a = c ∧ b = d := by decide +kernel
theorem gk_inj {P : Program} {w : World} {k l : List Key} (hk : gk k) (hl : gk l) (e : (tupleKind (mixKind P w)).hash k = (tupleKind (mixKind P w)).hash l) : k = l := by
  obtain ⟨a, b, a1, a2, b1, b2, rfl⟩ := hk
  obtain ⟨c, d, c1, c2, d1, d2, rfl⟩ := hl
  have e' : hash2 a b = hash2 c d := e
  have q := hash2_inj ⟨(a + 1).toNat, by omega⟩ ⟨(c + 1).toNat, by omega⟩ ⟨b.toNat, by omega⟩ ⟨d.toNat, by omega⟩
  have ea : (((a + 1).toNat : Nat) : Int) - 1 = a := by omega
  have ec : (((c + 1).toNat : Nat) : Int) - 1 = c := by omega
  have eb : ((b.toNat : Nat) : Int) = b := by omega
  have ed : ((d.toNat : Nat) : Int) = d := by omega
  dsimp only at q
  rw [ea, ec, eb, ed] at q
  obtain ⟨q1, q2⟩ := q e'
  have q1 := congrArg Fin.val q1
  have q2 := congrArg Fin.val q2
  dsimp only at q1 q2
  have h1 : a = c := by omega
  have h2 : b = d := by omega
  rw [h1, h2]
theorem gk_nodup {P : Program} {w : World} : ∀ {xs : List (List Key × Addr × Value)}, (∀ x ∈ xs, gk x.1) → (xs.map (·.1)).Nodup → (xs.map fun x => (tupleKind (mixKind P w)).hash x.1).Nodup
  | [], _, _ => List.nodup_nil
  | x :: xs, h, n => by
    rw [List.map_cons, List.nodup_cons] at n ⊢
    refine ⟨fun hm => ?_, gk_nodup (fun y hy => h y (List.mem_cons_of_mem _ hy)) n.2⟩
    obtain ⟨y, hy, e⟩ := List.mem_map.mp hm
    have e2 := gk_inj (h y (List.mem_cons_of_mem _ hy)) (h x List.mem_cons_self) e
    exact n.1 (List.mem_map.mpr ⟨y, hy, e2⟩)

/-! ### tables of tuple keys -/
def mergeT (kvs more : List (List Key × V)) : List (List Key × V) := more.foldl (fun acc kv => putK acc kv.1 kv.2) kvs
theorem length_mergeT : ∀ (more kvs : List (List Key × V)), (mergeT kvs more).length ≤ kvs.length + more.length
  | [], kvs => by show kvs.length ≤ kvs.length + 0; omega
  | p :: r, kvs => by
    have h1 := length_mergeT r (putK kvs p.1 p.2)
    have h2 := length_putK kvs p.1 p.2
    show (mergeT (putK kvs p.1 p.2) r).length ≤ _
    rw [List.length_cons]; omega
theorem KT.merge {H : Hp} : ∀ {more : List (List Key × V)} {ys : List (List Key × Addr × Value)}, KT H more ys → ∀ {kvs : List (List Key × V)} {xs : List (List Key × Addr × Value)}, KT H kvs xs → KT H (mergeT kvs more) (storedAllH xs ys) := by
  intro more ys r
  induction r with
  | nil => intro kvs xs q; exact q
  | @cons p q ps qs h t ih =>
    intro kvs xs r0
    obtain ⟨h1, h2, h3⟩ := h
    have e : KT H (putK kvs p.1 p.2) (storedH xs q.1 q.2.1 q.2.2) := by
      have := r0.put p.1 h2 h3
      rw [← h1]; exact this
    exact ih e
theorem KT.keys {H : Hp} {kvs : List (List Key × V)} {xs : List (List Key × Addr × Value)} (r : KT H kvs xs) : kvs.map (·.1) = xs.map (·.1) := by
  induction r with
  | nil => rfl
  | cons h t ih => rw [List.map_cons, List.map_cons, ih, h.1]
theorem KT.gk {H : Hp} {kvs : List (List Key × V)} {xs : List (List Key × Addr × Value)} (r : KT H kvs xs) (g : ∀ kv ∈ kvs, K48.gk kv.1) : ∀ x ∈ xs, K48.gk x.1 := fun x hx => by
  have e := KT.keys r
  have : x.1 ∈ kvs.map (·.1) := by rw [e]; exact List.mem_map.mpr ⟨x, hx, rfl⟩
  obtain ⟨kv, h1, h2⟩ := List.mem_map.mp this
  rw [← h2]; exact g kv h1
theorem KT.tys {X : Cx} {pins : List (Addr × Obj)} {σ : L2.St} {H : Hp} {s : Shared} (I : Inv X pins σ H s) {kvs : List (List Key × V)} {xs : List (List Key × Addr × Value)} (r : KT H kvs xs) : ∀ x ∈ xs, s.TypeIs (.ref x.2.1) "tuple" := by
  induction r with
  | nil => intro x hx; exact nomatch hx
  | @cons p q ps qs h t ih =>
    intro x hx
    rcases List.mem_cons.mp hx with rfl | hx
    · obtain ⟨_, its, _, o, h1, h2, _⟩ := (show ObjOk X.prog X.w H s.heap x.2.1 (.tup (p.1.map kV)) from I.hok _ _ h.2.1)
      exact ⟨o, h1, h2⟩
    · exact ih x hx
theorem dt_new {P : Program} {w : World} {H' : Hp} {h' : Heap} {a : Addr} {kvs : List (List Key × V)} {xs : List (List Key × Addr × Value)} (z : kvs.length ≤ sizeLine) (hd : (a == sysModules) = false) (rel : KT H' kvs xs) (dd : h'.DictOfH (tupleKind (mixKind P w)) a xs) :
    ObjOk P w H' h' a (.dT kvs) := by
  obtain ⟨q, es, ep, hq, h2, h3, h4, _, h5⟩ := dd
  exact ⟨z, hd, xs, rel, q, es, ep, hq, h2, h3, h4, h5⟩

section
variable {X : Cx} {pins : List (Addr × Obj)} {σ : L2.St} {H : Hp} {s : Shared}
theorem KT.upd {kvs : List (List Key × V)} {xs : List (List Key × Addr × Value)} (r : KT H kvs xs) {p : Addr} {ws : List (List Key × V)} (hp : H p = some (.dT ws)) (o : HO) : KT (upd H p o) kvs xs :=
  r.keeps fun c ys ec => by rw [upd_ne (ne_of ec hp (fun z => nomatch z))]; exact ec
/-- a tracked dict is merged into another, both with tuple keys -/
theorem m_dT {a p : Addr} {kvs ws : List (List Key × V)} {E : Value → Shared → Prop} {Q : Unit → Shared → Prop} (hu : X.A.units < cLine) (I : Inv X pins σ H s) (ha : Rd H a (.dT kvs)) (hp : H p = some (.dT ws)) (hne : p ≠ a)
    (hl : ws.length + kvs.length ≤ 1000000) (g : ws ≠ [] ∨ ∀ kv ∈ kvs, gk kv.1) (h : ∀ s', Inv X pins σ (upd H p (.dT (mergeT ws kvs))) s' → Q () s') :
    wpAny (model X.prog X.w) X.A (mergeMapping p (.ref a) false) Q E s := by
  obtain ⟨z, hd, xs, rel, dd⟩ := dt_rd I.hok ha
  obtain ⟨z', hd', ys, rel', dd'⟩ := dt_of I.hok hp
  have l1 := Paired.length rel
  have l2 := Paired.length rel'
  have hsz : ys.length + xs.length ≤ sizeLine := by rw [← l1, ← l2, sizeLine_eq]; omega
  refine merge_heap (knd := tupleKind (mixKind X.prog X.w)) hu hne hd dd' dd ?_ (fun h' d1 d2 hs => h _ ?_) hsz
  · rcases g with g | g
    · refine .inl fun e => g ?_
      rw [e] at l2
      exact List.length_eq_zero_iff.mp (by simpa using l2)
    · exact .inr ⟨KT.tys I rel, gk_nodup (KT.gk rel g) dd.nodup⟩
  · have hz : (mergeT ws kvs).length ≤ sizeLine := Nat.le_trans (length_mergeT kvs ws) (by rw [sizeLine_eq]; omega)
    have he : ∃ q, h'.get? p = some q := let ⟨q, _, _, hq, _⟩ := d1; ⟨q, hq⟩
    exact d_write (t' := s.toks) I (by rw [hp]; exact True.intro) hs he (dt_new hz hd' (KT.upd (KT.merge rel rel') hp _) d1)
/-- .. with int and text keys -/
theorem m_dK {a p : Addr} {kvs ws : List (Key × V)} {E : Value → Shared → Prop} {Q : Unit → Shared → Prop} (I : Inv X pins σ H s) (ha : Rd H a (.dK kvs)) (hp : H p = some (.dK ws)) (hne : p ≠ a)
    (hl : ws.length + kvs.length ≤ 1000000) (h : ∀ s', Inv X pins σ (upd H p (.dK (mergeK ws kvs))) s' → Q () s') :
    wpAny (model X.prog X.w) X.A (mergeMapping p (.ref a) false) Q E s := by
  obtain ⟨z, hd, xs, rel, dd⟩ := dk_rd I.hok ha
  obtain ⟨z', hd', ys, rel', dd'⟩ := dk_of I.hok hp
  have l1 := rel.length
  have l2 := rel'.length
  have hsz : ys.length + xs.length ≤ sizeLine := by rw [← l1, ← l2, sizeLine_eq]; omega
  refine merge_pairs (knd := mixKind X.prog X.w) hne hd dd' dd (fun h' d1 d2 hs => h _ ?_) hsz
  have hz : (mergeK ws kvs).length ≤ sizeLine := Nat.le_trans (length_mergeK kvs ws) (by rw [sizeLine_eq]; omega)
  have he : ∃ q, h'.get? p = some q := let ⟨q, _, _, hq, _⟩ := d1; ⟨q, hq⟩
  exact d_write (t' := s.toks) I (by rw [hp]; exact True.intro) hs he (dk_new hz hd' (KV.merge rel rel') d1)
end

section
variable {X : Cx} {e k v e2 : Expr} {te tk tv te2 : TE} {pos : Pos}
theorem inv_dT0 {pins : List (Addr × Obj)} {σ : L2.St} {H : Hp} {s : Shared} (I : Inv X pins σ H s) : Inv X pins σ (upd H s.heap.objs.size (.dT [])) { s with heap := s.heap.push { cls := .type "dict", data := .dict #[] } } :=
  I.laid (a := s.heap.objs.size) (o := .dT []) (t' := s.toks) (fun _ _ q => Heap.get?_push_of_some _ q) (Nat.le_refl _) (dt_empty s.heap I.big)
theorem inv_dK0 {pins : List (Addr × Obj)} {σ : L2.St} {H : Hp} {s : Shared} (I : Inv X pins σ H s) : Inv X pins σ (upd H s.heap.objs.size (.dK [])) { s with heap := s.heap.push { cls := .type "dict", data := .dict #[] } } :=
  I.laid (a := s.heap.objs.size) (o := .dK []) (t' := s.toks) (fun _ _ q => Heap.get?_push_of_some _ q) (Nat.le_refl _) (dk_empty s.heap I.big)

theorem one_le : 1 ≤ sizeLine := by decide
/-- {**e, k: v}, tuple keys -/
def tSpT (te tk tv : TE) : TE := fun σ H Q => ∀ p, H p = none → te σ (upd H p (.dT [])) fun x H1 => ∃ a kvs, x = .ref a ∧ p ≠ a ∧ Rd H1 a (.dT kvs) ∧ H1 p = some (.dT []) ∧ kvs.length ≤ 100000 ∧ (∀ kv ∈ kvs, gk kv.1) ∧
  ∀ q, upd H1 p (.dT kvs) q = none → tk σ (upd (upd H1 p (.dT kvs)) q (.dT [])) fun y H2 => tv σ H2 fun z H3 => ∃ k b, y = .ref b ∧ H3 b = some (.tup (k.map kV)) ∧ gk k ∧ H3 p = some (.dT kvs) ∧ H3 q = some (.dT []) ∧
    Q (.ref p) (upd (upd H3 q (.dT [(k, z)])) p (.dT (putK kvs k z)))
theorem mergeT_nil {kvs : List (List Key × V)} (h : (kvs.map (·.1)).Nodup) : mergeT [] kvs = kvs := by
  have gen : ∀ (more acc : List (List Key × V)), ((acc ++ more).map (·.1)).Nodup → mergeT acc more = acc ++ more := by
    intro more
    induction more with
    | nil => intro acc _; simp [mergeT]
    | cons kv rest ih =>
      intro acc hn
      have hf : ¬ (acc.any fun x => decide (x.1 = kv.1)) = true := by
        rw [List.any_eq_true]; rintro ⟨x, hx, he⟩
        rw [List.map_append, List.map_cons, List.nodup_append] at hn
        exact hn.2.2 x.1 (List.mem_map.mpr ⟨x, hx, rfl⟩) kv.1 List.mem_cons_self (of_decide_eq_true he)
      have e : putK acc kv.1 kv.2 = acc ++ [kv] := by unfold putK; rw [if_neg hf]
      show mergeT (putK acc kv.1 kv.2) rest = _
      rw [e, ih (acc ++ [kv]) (by simpa using hn)]
      simp
  have := gen kvs [] (by simpa using h)
  simpa using this
theorem mergeK_nil {kvs : List (Key × V)} (h : (kvs.map (·.1)).Nodup) : mergeK [] kvs = kvs := by
  have gen : ∀ (more acc : List (Key × V)), ((acc ++ more).map (·.1)).Nodup → mergeK acc more = acc ++ more := by
    intro more
    induction more with
    | nil => intro acc _; simp [mergeK]
    | cons kv rest ih =>
      intro acc hn
      have hf : ¬ (acc.any fun x => decide (x.1 = kv.1)) = true := by
        rw [List.any_eq_true]; rintro ⟨x, hx, he⟩
        rw [List.map_append, List.map_cons, List.nodup_append] at hn
        exact hn.2.2 x.1 (List.mem_map.mpr ⟨x, hx, rfl⟩) kv.1 List.mem_cons_self (of_decide_eq_true he)
      have e : putK acc kv.1 kv.2 = acc ++ [kv] := by unfold putK; rw [if_neg hf]
      show mergeK (putK acc kv.1 kv.2) rest = _
      rw [e, ih (acc ++ [kv]) (by simpa using hn)]
      simp
  have := gen kvs [] (by simpa using h)
  simpa using this
theorem ev1 {prog : Program} {w : World} {A : Around} {E : Value → Shared → Prop} {s : Shared} {a b : Sem Value} {Q : List (Value × Value) → Shared → Prop}
    (h : wpAny (model prog w) A a (fun x s1 => wpAny (model prog w) A b (fun y s2 => Q [(x, y)] s2) E s1) E s) : wpAny (model prog w) A (evalPairs [(a, b)]) Q E s := by
  unfold evalPairs
  refine wpAny_bind (wpAny_mono h (fun x s1 h1 => ?_) fun _ _ z => z)
  refine wpAny_bind (wpAny_holding (wpAny_mono h1 (fun y s2 h2 => ?_) fun _ _ z => z))
  refine wpAny_bind (wpAny_holding ?_)
  unfold evalPairs
  exact wpAny_pure (wpAny_pure h2)
theorem stood {prog : Program} {w : World} {A : Around} {E : Value → Shared → Prop} {s : Shared} {a : Sem Value} {Q : Value → Shared → Prop} (h : wpAny (model prog w) A a Q E s) :
    wpAny (model prog w) A (do let x ← a; standAt pos; pure x) Q E s :=
  wpAny_bind (wpAny_mono h (fun _ _ q => wpAny_bind (wpAny_standAt (wpAny_pure q))) fun _ _ z => z)
theorem pe_spT (hu : X.A.units < cLine) (he : PE X e te) (hk : PE X k tk) (hv : PE X v tv) : PE X (.Dict [none, some k] [e, v] pos) (tSpT te tk tv) := by
  refine ⟨fun pins s σ H Q I q => ?_⟩
  rw [arm_eval_Dict]
  refine wpAny_bind (wpAny_standAt ?_)
  show wpAny _ _ (dictDisplay [(none, do let x ← eval e X.env; standAt pos; pure x), (some (eval k X.env), do let x ← eval v X.env; standAt pos; pure x)]) _ _ _
  have hn := I.hok.fresh (Nat.le_refl s.heap.objs.size)
  refine disp_sp (stood (thn (he.run pins _ σ _ _ (inv_dT0 I) (q _ hn)) fun u s1 ⟨x, H1, I1, rx, a, kvs, ex, hpa, ha, hp, hl, hg, q1⟩ => ?_))
  subst ex
  obtain rfl : u = Value.ref a := rx
  obtain ⟨_, hdp, _, _, _⟩ := dt_of I1.hok hp
  obtain ⟨_, _, xs, rel, dd⟩ := dt_rd I1.hok ha
  have hnd : (kvs.map (·.1)).Nodup := by rw [KT.keys rel]; exact dd.nodup
  refine m_dT hu I1 ha hp hpa (by simpa using Nat.le_trans hl (by decide)) (.inr hg) fun s2 I2 => ?_
  rw [mergeT_nil hnd] at I2
  have hn2 := I2.hok.fresh (Nat.le_refl s2.heap.objs.size)
  refine wpAny_subDictH (knd := tupleKind (mixKind X.prog X.w)) hu (by show 1 ≤ 15; decide) (ev1 (thn (hk.run pins _ σ _ _ (inv_dT0 I2) (q1 _ hn2)) fun iv s3 ⟨y, H2, I3, ry, q2⟩ => stood (thn (hv.run pins s3 σ H2 _ I3 q2) fun vv s4 ⟨z, H3, I4, rz, kk, b, ey, hb, hgk, hp4, hq4, q3⟩ => ?_)))
  subst ey
  obtain rfl : iv = Value.ref b := ry
  obtain ⟨_, hdq, ys, rely, ddy⟩ := dt_of I4.hok hq4
  cases rely
  refine ⟨[(kk, b, vv)], ⟨rfl, rfl, key_of I4.hok hb, True.intro⟩, ddy, fun h' tk' dd' hs => ?_⟩
  have hqz : ∃ o, h'.get? s2.heap.objs.size = some o := let ⟨o, _, _, ho, _⟩ := dd'; ⟨o, ho⟩
  have K1 : KT H3 [(kk, z)] [(kk, b, vv)] := .cons ⟨rfl, hb, rz⟩ .nil
  have I5 := d_write (t' := tk') I4 (by rw [hq4]; exact True.intro) hs hqz (dt_new (a := s2.heap.objs.size) (kvs := [(kk, z)]) (xs := [(kk, b, vv)]) one_le hdq (KT.upd K1 hq4 _) dd')
  have npq : s.heap.objs.size ≠ s2.heap.objs.size := fun e' => by
    rw [e', upd_same] at hn2
    cases hn2
  refine m_dT hu I5 (.inl upd_same) (p := s.heap.objs.size) (ws := kvs) (by rw [upd_ne npq]; exact hp4) npq (by show kvs.length + 1 ≤ 1000000; omega) (.inr fun kv hkv => by rw [List.mem_singleton.mp hkv]; exact hgk) fun s6 I6 => ?_
  exact ⟨.ref s.heap.objs.size, _, I6, rfl, q3⟩

/-- {**e, k: v}, int and text keys -/
def tSpK (te tk tv : TE) : TE := fun σ H Q => ∀ p, H p = none → te σ (upd H p (.dK [])) fun x H1 => ∃ a kvs, x = .ref a ∧ p ≠ a ∧ Rd H1 a (.dK kvs) ∧ H1 p = some (.dK []) ∧ kvs.length ≤ 100000 ∧
  ∀ q, upd H1 p (.dK kvs) q = none → tk σ (upd (upd H1 p (.dK kvs)) q (.dK [])) fun y H2 => tv σ H2 fun z H3 => ∃ k, y = kV k ∧ H3 p = some (.dK kvs) ∧ H3 q = some (.dK []) ∧
    Q (.ref p) (upd (upd H3 q (.dK [(k, z)])) p (.dK (putK kvs k z)))
theorem pe_spK (he : PE X e te) (hk : PE X k tk) (hv : PE X v tv) : PE X (.Dict [none, some k] [e, v] pos) (tSpK te tk tv) := by
  refine ⟨fun pins s σ H Q I q => ?_⟩
  rw [arm_eval_Dict]
  refine wpAny_bind (wpAny_standAt ?_)
  show wpAny _ _ (dictDisplay [(none, do let x ← eval e X.env; standAt pos; pure x), (some (eval k X.env), do let x ← eval v X.env; standAt pos; pure x)]) _ _ _
  have hn := I.hok.fresh (Nat.le_refl s.heap.objs.size)
  refine disp_sp (stood (thn (he.run pins _ σ _ _ (inv_dK0 I) (q _ hn)) fun u s1 ⟨x, H1, I1, rx, a, kvs, ex, hpa, ha, hp, hl, q1⟩ => ?_))
  subst ex
  obtain rfl : u = Value.ref a := rx
  obtain ⟨_, hdp, _, _, _⟩ := dk_of I1.hok hp
  obtain ⟨_, _, xs, rel, dd⟩ := dk_rd I1.hok ha
  have hnd : (kvs.map (·.1)).Nodup := by rw [rel.keys]; obtain ⟨_, _, _, _, _, _, _, _, hn⟩ := dd; exact hn
  refine m_dK I1 ha hp hpa (by simpa using Nat.le_trans hl (by decide)) fun s2 I2 => ?_
  rw [mergeK_nil hnd] at I2
  have hn2 := I2.hok.fresh (Nat.le_refl s2.heap.objs.size)
  refine wpAny_subDict (knd := mixKind X.prog X.w) (by show 1 ≤ 15; decide) (ev1 (thn (hk.run pins _ σ _ _ (inv_dK0 I2) (q1 _ hn2)) fun iv s3 ⟨y, H2, I3, ry, q2⟩ => stood (thn (hv.run pins s3 σ H2 _ I3 q2) fun vv s4 ⟨z, H3, I4, rz, kk, ey, hp4, hq4, q3⟩ => ?_)))
  subst ey
  obtain ⟨_, hdq, ys, rely, ddy⟩ := dk_of I4.hok hq4
  cases rely
  refine ⟨[(kk, vv)], ⟨kV_is ry, rfl, True.intro⟩, ddy, fun h' dd' hs => ?_⟩
  have hqz : ∃ o, h'.get? s2.heap.objs.size = some o := let ⟨o, _, _, ho, _⟩ := dd'; ⟨o, ho⟩
  have K1 : KV [(kk, z)] [(kk, vv)] := .cons ⟨rfl, rz⟩ .nil
  have em : merged ([] : List (Key × Value)) [(kk, vv)] = [(kk, vv)] := by simp [merged, stored]
  rw [em] at dd'
  have I5 := d_write (t' := s4.toks + 1) I4 (by rw [hq4]; exact True.intro) hs hqz (dk_new (a := s2.heap.objs.size) (kvs := [(kk, z)]) (vs := [(kk, vv)]) one_le hdq K1 dd')
  have npq : s.heap.objs.size ≠ s2.heap.objs.size := fun e' => by
    rw [e', upd_same] at hn2
    cases hn2
  refine m_dK I5 (.inl upd_same) (p := s.heap.objs.size) (ws := kvs) (by rw [upd_ne npq]; exact hp4) npq (by show kvs.length + 1 ≤ 1000000; omega) fun s6 I6 => ?_
  exact ⟨.ref s.heap.objs.size, _, I6, rfl, q3⟩
/-- {**e, **f}, tuple keys -/
def tSsT (te tf : TE) : TE := fun σ H Q => ∀ p, H p = none → te σ (upd H p (.dT [])) fun x H1 => ∃ a kvs, x = .ref a ∧ p ≠ a ∧ Rd H1 a (.dT kvs) ∧ H1 p = some (.dT []) ∧ kvs.length ≤ 100000 ∧ (∀ kv ∈ kvs, gk kv.1) ∧
  tf σ (upd H1 p (.dT kvs)) fun y H2 => ∃ b ws, y = .ref b ∧ p ≠ b ∧ Rd H2 b (.dT ws) ∧ H2 p = some (.dT kvs) ∧ ws.length ≤ 100000 ∧ (∀ kv ∈ ws, gk kv.1) ∧ Q (.ref p) (upd H2 p (.dT (mergeT kvs ws)))
theorem pe_ssT (hu : X.A.units < cLine) (he : PE X e te) (hf : PE X e2 te2) : PE X (.Dict [none, none] [e, e2] pos) (tSsT te te2) := by
  refine ⟨fun pins s σ H Q I q => ?_⟩
  rw [arm_eval_Dict]
  refine wpAny_bind (wpAny_standAt ?_)
  show wpAny _ _ (dictDisplay [(none, do let x ← eval e X.env; standAt pos; pure x), (none, do let x ← eval e2 X.env; standAt pos; pure x)]) _ _ _
  have hn := I.hok.fresh (Nat.le_refl s.heap.objs.size)
  refine disp_ss (stood (thn (he.run pins _ σ _ _ (inv_dT0 I) (q _ hn)) fun u s1 ⟨x, H1, I1, rx, a, kvs, ex, hpa, ha, hp, hl, hg, q1⟩ => ?_))
  subst ex
  obtain rfl : u = Value.ref a := rx
  obtain ⟨_, _, xs, rel, dd⟩ := dt_rd I1.hok ha
  have hnd : (kvs.map (·.1)).Nodup := by rw [KT.keys rel]; exact dd.nodup
  refine m_dT hu I1 ha hp hpa (by simpa using Nat.le_trans hl (by decide)) (.inr hg) fun s2 I2 => ?_
  rw [mergeT_nil hnd] at I2
  refine stood (thn (hf.run pins s2 σ _ _ I2 q1) fun iv s3 ⟨y, H2, I3, ry, b, ws, ey, hpb, hb, hp3, hl2, hg2, q2⟩ => ?_)
  subst ey
  obtain rfl : iv = Value.ref b := ry
  exact m_dT hu I3 hb hp3 hpb (by omega) (.inr hg2) fun s4 I4 => ⟨.ref s.heap.objs.size, _, I4, rfl, q2⟩
/-- {k: v}, a tuple key -/
def tD1T (tk tv : TE) : TE := fun σ H Q => ∀ p, H p = none → tk σ (upd H p (.dT [])) fun y H2 => tv σ H2 fun z H3 => ∃ k b, y = .ref b ∧ H3 b = some (.tup (k.map kV)) ∧ H3 p = some (.dT []) ∧ Q (.ref p) (upd H3 p (.dT [(k, z)]))
theorem pe_d1T (hu : X.A.units < cLine) (hk : PE X k tk) (hv : PE X v tv) : PE X (.Dict [some k] [v] pos) (tD1T tk tv) := by
  refine ⟨fun pins s σ H Q I q => ?_⟩
  have hn := I.hok.fresh (Nat.le_refl s.heap.objs.size)
  rw [arm_eval_Dict]
  refine wpAny_bind (wpAny_standAt ?_)
  show wpAny _ _ (dictDisplay [(some (eval k X.env), do let x ← eval v X.env; standAt pos; pure x)]) _ _ _
  have ed := dictDisplay_pairs [(eval k X.env, do let x ← eval v X.env; standAt pos; pure x)] (List.cons_ne_nil _ _) (by show 1 < 17; decide)
  rw [List.map_cons, List.map_nil] at ed
  rw [ed]
  refine wpAny_bind ?_
  refine wpAny_subDictH (knd := tupleKind (mixKind X.prog X.w)) hu (by show 1 ≤ 15; decide) ?_
  refine (ev1 (thn (hk.run pins _ σ _ _ (inv_dT0 I) (q _ hn)) fun iv s3 ⟨y, H2, I3, ry, q2⟩ => stood (thn (hv.run pins s3 σ H2 _ I3 q2) fun vv s4 ⟨z, H3, I4, rz, kk, b, ey, hb, hq4, q3⟩ => ?_)))
  subst ey
  obtain rfl : iv = Value.ref b := ry
  obtain ⟨_, hdq, ys, rely, ddy⟩ := dt_of I4.hok hq4
  cases rely
  refine ⟨[(kk, b, vv)], ⟨rfl, rfl, key_of I4.hok hb, True.intro⟩, ddy, fun h' tk' dd' hs => ?_⟩
  have hqz : ∃ o, h'.get? s.heap.objs.size = some o := let ⟨o, _, _, ho, _⟩ := dd'; ⟨o, ho⟩
  have K1 : KT H3 [(kk, z)] [(kk, b, vv)] := .cons ⟨rfl, hb, rz⟩ .nil
  have I5 := d_write (t' := tk') I4 (by rw [hq4]; exact True.intro) hs hqz (dt_new (a := s.heap.objs.size) (kvs := [(kk, z)]) (xs := [(kk, b, vv)]) one_le hdq (KT.upd K1 hq4 _) dd')
  refine wpAny_pure ?_
  exact ⟨.ref s.heap.objs.size, _, I5, rfl, q3⟩
end
/-! ### dict(xs) of a list of pairs with tuple keys -/
section
variable {X : Cx}
theorem pairsT {pins : List (Addr × Obj)} {σ : L2.St} {H : Hp} {s : Shared} (I : Inv X pins σ H s) : ∀ {ps : List Addr} {kvs : List (List Key × V)},
    Paired (fun p kv => ∃ b, SqT X.K H p [.ref b, kv.2] ∧ H b = some (.tup (kv.1.map kV))) ps kvs →
    ∃ xs : List (List Key × Addr × Value), KT H kvs xs ∧ xs.length = ps.length ∧ ∀ (j : Nat) (x : List Key × Addr × Value), xs[j]? = some x → ∃ p : Addr, ps[j]? = some p ∧ IsTup s.heap p #[.ref x.2.1, x.2.2]
  | _, _, .nil => ⟨[], .nil, rfl, fun j q e => by simp at e⟩
  | _, _, .cons (a := p) (b := kv) h t => by
    obtain ⟨xs, r, hl, hp⟩ := pairsT I t
    obtain ⟨b, h1, h2⟩ := h
    obtain ⟨its, rv, ht, _⟩ := I.tuple h1
    obtain ⟨u, y, ei, ru, ry⟩ := vals2 rv
    subst ei
    obtain rfl : u = Value.ref b := ru
    refine ⟨(kv.1, b, y) :: xs, .cons ⟨rfl, h2, ry⟩ r, by rw [List.length_cons, List.length_cons, hl], fun j q e => ?_⟩
    cases j with
    | zero =>
      have e' : (kv.1, b, y) = q := Option.some.inj e
      subst e'
      exact ⟨p, rfl, ht⟩
    | succ j =>
      obtain ⟨p', e1, e2⟩ := hp j q (by simpa using e)
      exact ⟨p', by simpa using e1, e2⟩
theorem call_dictT (hcalm : X.calm = true) (hu : X.A.units + 2 < cLine) : CallR X (.type "dict") (fun xs H Q => ∃ (a : Addr) (ps : List Addr) (kvs : List (List Key × V)), xs = [.ref a] ∧ SqL X.K H a (ps.map V.ref) ∧
    Paired (fun p kv => ∃ b, SqT X.K H p [.ref b, kv.2] ∧ H b = some (.tup (kv.1.map kV))) ps kvs ∧
    ∀ p, H p = none → Q (.ref p) (upd H p (.dT (mergeT [] kvs)))) := by
  intro pins s σ H xs us Q I r q
  obtain ⟨a, ps, kvs, ex, hq, hp, q⟩ := q
  subst ex
  obtain ⟨u, eu, rx⟩ := vals1 r
  subst eu
  cases rx
  obtain ⟨its, rv, pl, hz⟩ := I.list hq
  have ei := refs_at rv
  subst ei
  rw [List.length_map] at hz
  obtain ⟨zs, rel, hl, hpr⟩ := pairsT I hp
  obtain ⟨o, n, ho, hc, hd, hdat⟩ := pl
  have hn := I.hok.fresh (Nat.le_refl s.heap.objs.size)
  have hall : ∀ x ∈ zs, (tupleKind (mixKind X.prog X.w)).is s.heap x.1 x.2.1 := by
    have all : ∀ {l : List (List Key × V)} {m : List (List Key × Addr × Value)}, KT H l m → ∀ x ∈ m, (tupleKind (mixKind X.prog X.w)).is s.heap x.1 x.2.1 := by
      intro l m q
      induction q with
      | nil => intro x hx; exact nomatch hx
      | @cons p q ps qs hq t ih =>
        intro x hx
        rcases List.mem_cons.mp hx with e | hx
        · subst e
          exact key_of I.hok (by rw [← hq.1]; exact hq.2.1)
        · exact ih x hx
    exact all rel
  let prs : List (Value × Value) := zs.map fun x => (.ref x.2.1, x.2.2)
  have hPI : PairItems s.heap (ps.map Value.ref).toArray (fun j => ps.getD j 0) prs := by
    refine ⟨by simp [prs, hl], fun j k v e => ?_⟩
    rw [List.getElem?_map] at e
    cases hz' : zs[j]? with
    | none => rw [hz'] at e; cases e
    | some x =>
      rw [hz'] at e
      cases e
      obtain ⟨p, e1, e2⟩ := hpr j x hz'
      refine ⟨by simp [e1], ?_⟩
      have : ps.getD j 0 = p := by simp [e1]
      show PairAt s.heap (ps.getD j 0) (.ref x.2.1) x.2.2
      rw [this]
      exact .inl e2
  refine PySem.call_dict_pairsH (knd := tupleKind (mixKind X.prog X.w)) (ps := zs) (n := prs.length) (PairArg.list a (ps.map Value.ref).toArray (fun j => ps.getD j 0) prs) (I.ok.hd hcalm) hu ⟨⟨o, n, ho, hc, hd, hdat⟩, hPI⟩ ⟨by simp [prs], fun i key v e => ?_⟩ (fun h' hk x hx => ?_) (by simp [prs, hl, hz]) fun h' tk' hd' hk => ?_
  · have e' : prs[i]? = some (key, v) := e
    rw [List.getElem?_map] at e'
    cases hz' : zs[i]? with
    | none => rw [hz'] at e'; cases e'
    | some x =>
      rw [hz'] at e'
      cases e'
      exact ⟨x.1, x.2.1, rfl, rfl⟩
  · obtain ⟨o, items, n', e1, e2, e3, e4⟩ := hall x hx
    exact ⟨o, items, n', hk _ _ (Nat.ne_of_lt (Heap.lt_size e1)) (by simp) e1, e2, e3, e4⟩
  · have hm : (s.heap.objs.size == sysModules) = false := beq_eq_false_iff_ne.mpr (Nat.ne_of_gt I.big)
    have hlen : (mergeT [] kvs).length ≤ sizeLine := by
      refine Nat.le_trans (length_mergeT kvs []) ?_
      rw [List.length_nil, Nat.zero_add, Paired.length rel, hl]
      exact hz
    have K1 : KT H (mergeT [] kvs) (storedAllH [] zs) := KT.merge rel .nil
    exact ⟨.ref s.heap.objs.size, upd H s.heap.objs.size (.dT (mergeT [] kvs)), I.laid (t' := tk') (fun b o e => hk b o (by simp) e) (Nat.le_refl _)
      (dt_new hlen hm (K1.keeps fun c ys ec => by rw [upd_ne (ne_of_none ec hn)]; exact ec) hd'), rfl, q _ hn⟩
end
end K48
/-! Data without addresses, and how values in a heap show them -/
namespace K48
open PySem PySem.Spec PyProof.Rows L2

inductive D where
  | non | bl (b : Bool) | int (i : Int) | str (x : Str) | adr (a : Addr)
  | tup (xs : List D) | lst (xs : List D)
  | dT (ks : List (List Key)) (vs : List D) | dK (ks : List Key) (vs : List D)

/-! ### equal data -/
mutual
def D.beq : D → D → Bool
  | .non, .non => true
  | .bl a, .bl b => a == b
  | .int a, .int b => decide (a = b)
  | .str a, .str b => decide (a = b)
  | .adr a, .adr b => decide (a = b)
  | .tup a, .tup b => D.beqL a b
  | .lst a, .lst b => D.beqL a b
  | .dT a b, .dT c d => decide (a = c) && D.beqL b d
  | .dK a b, .dK c d => decide (a = c) && D.beqL b d
  | _, _ => false
def D.beqL : List D → List D → Bool
  | [], [] => true
  | a :: x, b :: y => D.beq a b && D.beqL x y
  | _, _ => false
end
mutual
theorem D.beq_refl : ∀ a : D, D.beq a a = true
  | .non => rfl
  | .bl a => by simp [D.beq]
  | .int a => by simp [D.beq]
  | .str a => by simp [D.beq]
  | .adr a => by simp [D.beq]
  | .tup a => by simp only [D.beq]; exact D.beqL_refl a
  | .lst a => by simp only [D.beq]; exact D.beqL_refl a
  | .dT a b => by simp only [D.beq, decide_true, Bool.true_and]; exact D.beqL_refl b
  | .dK a b => by simp only [D.beq, decide_true, Bool.true_and]; exact D.beqL_refl b
theorem D.beqL_refl : ∀ a : List D, D.beqL a a = true
  | [] => rfl
  | a :: x => by simp only [D.beqL]; rw [D.beq_refl a, D.beqL_refl x]; rfl
end
mutual
theorem D.eq_of_beq : ∀ a b : D, D.beq a b = true → a = b
  | .non, b, h => by cases b <;> first | rfl | (simp [D.beq] at h)
  | .bl a, b, h => by cases b <;> simp [D.beq] at h; rw [h]
  | .int a, b, h => by cases b <;> simp [D.beq] at h; rw [h]
  | .str a, b, h => by cases b <;> simp [D.beq] at h; rw [h]
  | .adr a, b, h => by cases b <;> simp [D.beq] at h; rw [h]
  | .tup a, b, h => by cases b <;> simp only [D.beq] at h <;> first | (rw [D.eqL_of_beq _ _ h]) | (cases h)
  | .lst a, b, h => by cases b <;> simp only [D.beq] at h <;> first | (rw [D.eqL_of_beq _ _ h]) | (cases h)
  | .dT a x, b, h => by
    cases b <;> simp only [D.beq, Bool.and_eq_true, decide_eq_true_eq] at h <;> first | (rw [h.1, D.eqL_of_beq _ _ h.2]) | (cases h)
  | .dK a x, b, h => by
    cases b <;> simp only [D.beq, Bool.and_eq_true, decide_eq_true_eq] at h <;> first | (rw [h.1, D.eqL_of_beq _ _ h.2]) | (cases h)
theorem D.eqL_of_beq : ∀ a b : List D, D.beqL a b = true → a = b
  | [], [], _ => rfl
  | [], _ :: _, h => by simp [D.beqL] at h
  | _ :: _, [], h => by simp [D.beqL] at h
  | a :: x, b :: y, h => by
    simp only [D.beqL, Bool.and_eq_true] at h
    rw [D.eq_of_beq a b h.1, D.eqL_of_beq x y h.2]
end
instance : DecidableEq D := fun a b => decidable_of_iff (D.beq a b = true) ⟨D.eq_of_beq a b, fun e => e ▸ D.beq_refl a⟩
theorem D.beq_eq (a b : D) : D.beq a b = decide (a = b) := by
  by_cases e : a = b
  · rw [e, D.beq_refl]; simp
  · rw [decide_eq_false e]
    cases h : D.beq a b with
    | false => rfl
    | true => exact absurd (D.eq_of_beq a b h) e

/-! ### as the library's data -/
mutual
def D.pd : D → PyData
  | .non => .none
  | .bl b => .bool b
  | .int i => .int i
  | .str x => .str x
  | .tup xs => .tuple (D.pdL xs)
  | .lst xs => .list (D.pdL xs)
  | _ => .none
def D.pdL : List D → List PyData
  | [] => []
  | a :: x => a.pd :: D.pdL x
end
/-- None, ints, texts, tuples and lists of these, at most n deep -/
def Pl : Nat → D → Prop
  | _, .non => True
  | _, .int _ => True
  | _, .str x => PyData.strOk x = true
  | n + 1, .tup xs => ∀ x ∈ xs, Pl n x
  | n + 1, .lst xs => ∀ x ∈ xs, Pl n x
  | _, _ => False
theorem pdL_map : ∀ xs : List D, D.pdL xs = xs.map D.pd
  | [] => rfl
  | x :: xs => by simp only [D.pdL, List.map_cons]; rw [pdL_map xs]
theorem canLay_all : ∀ xs : List D, (∀ x ∈ xs, x.pd.canLay0 = true) → PyData.canLayAll0 (xs.map D.pd) = true
  | [], _ => rfl
  | x :: xs, h => by
    simp only [List.map_cons, PyData.canLayAll0]
    rw [h x List.mem_cons_self, canLay_all xs fun y hy => h y (List.mem_cons_of_mem _ hy)]; rfl
theorem depth_all {n : Nat} : ∀ xs : List D, (∀ x ∈ xs, x.pd.depth ≤ n) → PyData.depthAll (xs.map D.pd) ≤ n
  | [], _ => Nat.zero_le _
  | x :: xs, h => by
    simp only [List.map_cons, PyData.depthAll]
    have h1 := h x List.mem_cons_self
    have h2 := depth_all xs fun y hy => h y (List.mem_cons_of_mem _ hy)
    omega
theorem Pl.lay : ∀ (n : Nat) (d : D), Pl n d → d.pd.canLay0 = true ∧ d.pd.depth ≤ n
  | n, .non, _ => ⟨by simp only [D.pd, PyData.canLay0], by simp only [D.pd, PyData.depth]; omega⟩
  | n, .int _, _ => ⟨by simp only [D.pd, PyData.canLay0], by simp only [D.pd, PyData.depth]; omega⟩
  | n, .str x, h => by
    have h : PyData.strOk x = true := by cases n <;> exact h
    exact ⟨by simp only [D.pd, PyData.canLay0]; exact h, by simp only [D.pd, PyData.depth]; omega⟩
  | n + 1, .tup xs, h => by
    have h : ∀ x ∈ xs, Pl n x := h
    simp only [D.pd, PyData.canLay0, PyData.depth, pdL_map]
    exact ⟨canLay_all xs fun x hx => (Pl.lay n x (h x hx)).1, Nat.succ_le_succ (depth_all xs fun x hx => (Pl.lay n x (h x hx)).2)⟩
  | n + 1, .lst xs, h => by
    have h : ∀ x ∈ xs, Pl n x := h
    simp only [D.pd, PyData.canLay0, PyData.depth, pdL_map]
    exact ⟨canLay_all xs fun x hx => (Pl.lay n x (h x hx)).1, Nat.succ_le_succ (depth_all xs fun x hx => (Pl.lay n x (h x hx)).2)⟩
  | 0, .tup _, h => False.elim h
  | 0, .lst _, h => False.elim h
  | 0, .bl _, h => False.elim h
  | 0, .adr _, h => False.elim h
  | 0, .dT _ _, h => False.elim h
  | 0, .dK _ _, h => False.elim h
  | _ + 1, .bl _, h => False.elim h
  | _ + 1, .adr _, h => False.elim h
  | _ + 1, .dT _ _, h => False.elim h
  | _ + 1, .dK _ _, h => False.elim h
theorem Pl.shaped {n : Nat} {d : D} (h : Pl n d) (hn : n ≤ 64) : SeqAt.shaped d.pd = true := by
  obtain ⟨h1, h2⟩ := Pl.lay n d h
  unfold SeqAt.shaped
  rw [h1, decide_eq_true (Nat.le_trans h2 hn)]; rfl
theorem eqv_all {n : Nat} (ih : ∀ a b : D, Pl n a → Pl n b → PyData.eqv a.pd b.pd = decide (a = b)) : ∀ xs ys : List D, (∀ x ∈ xs, Pl n x) → (∀ y ∈ ys, Pl n y) → PyData.eqvAll (xs.map D.pd) (ys.map D.pd) = decide (xs = ys)
  | [], [], _, _ => by simp [PyData.eqvAll]
  | [], _ :: _, _, _ => by simp [PyData.eqvAll]
  | _ :: _, [], _, _ => by simp [PyData.eqvAll]
  | x :: xs, y :: ys, hx, hy => by
    simp only [List.map_cons, PyData.eqvAll]
    rw [ih x y (hx x List.mem_cons_self) (hy y List.mem_cons_self), eqv_all ih xs ys (fun z hz => hx z (List.mem_cons_of_mem _ hz)) fun z hz => hy z (List.mem_cons_of_mem _ hz)]
    simp
theorem Pl.eqv : ∀ (n : Nat) (a b : D), Pl n a → Pl n b → PyData.eqv a.pd b.pd = decide (a = b)
  | n + 1, .tup xs, .tup ys, ha, hb => by
    have ha : ∀ x ∈ xs, Pl n x := ha
    have hb : ∀ x ∈ ys, Pl n x := hb
    simp only [D.pd, PyData.eqv, pdL_map, eqv_all (Pl.eqv n) xs ys ha hb]
    simp
  | n + 1, .lst xs, .lst ys, ha, hb => by
    have ha : ∀ x ∈ xs, Pl n x := ha
    have hb : ∀ x ∈ ys, Pl n x := hb
    simp only [D.pd, PyData.eqv, pdL_map, eqv_all (Pl.eqv n) xs ys ha hb]
    simp
  | n, .int i, .int j, _, _ => by simp only [D.pd, PyData.eqv]; by_cases e : i = j <;> simp [e]
  | n, .str i, .str j, _, _ => by simp only [D.pd, PyData.eqv]; by_cases e : i = j <;> simp [e]
  | n, .non, b, _, hb => by
    cases n <;> cases b <;> first | exact False.elim hb | simp [D.pd, PyData.eqv]
  | n, .int i, .non, _, _ => by simp [D.pd, PyData.eqv]
  | n, .int i, .str _, _, _ => by simp [D.pd, PyData.eqv]
  | n, .int i, .tup _, _, _ => by simp [D.pd, PyData.eqv]
  | n, .int i, .lst _, _, _ => by simp [D.pd, PyData.eqv]
  | n, .str i, .non, _, _ => by simp [D.pd, PyData.eqv]
  | n, .str i, .int _, _, _ => by simp [D.pd, PyData.eqv]
  | n, .str i, .tup _, _, _ => by simp [D.pd, PyData.eqv]
  | n, .str i, .lst _, _, _ => by simp [D.pd, PyData.eqv]
  | n, .tup i, .non, _, _ => by simp [D.pd, PyData.eqv]
  | n, .tup i, .int _, _, _ => by simp [D.pd, PyData.eqv]
  | n, .tup i, .str _, _, _ => by simp [D.pd, PyData.eqv]
  | n, .tup i, .lst _, _, _ => by simp [D.pd, PyData.eqv]
  | n, .lst i, .non, _, _ => by simp [D.pd, PyData.eqv]
  | n, .lst i, .int _, _, _ => by simp [D.pd, PyData.eqv]
  | n, .lst i, .str _, _, _ => by simp [D.pd, PyData.eqv]
  | n, .lst i, .tup _, _, _ => by simp [D.pd, PyData.eqv]
  | 0, .tup _, .tup _, h, _ => False.elim h
  | 0, .lst _, .lst _, h, _ => False.elim h
  | n, .bl _, _, h, _ => by cases n <;> exact False.elim h
  | n, .adr _, _, h, _ => by cases n <;> exact False.elim h
  | n, .dT _ _, _, h, _ => by cases n <;> exact False.elim h
  | n, .dK _ _, _, h, _ => by cases n <;> exact False.elim h
  | n, _, .bl _, _, h => by cases n <;> exact False.elim h
  | n, _, .adr _, _, h => by cases n <;> exact False.elim h
  | n, _, .dT _ _, _, h => by cases n <;> exact False.elim h
  | n, _, .dK _ _, _, h => by cases n <;> exact False.elim h

/-! ### what a value shows in a heap, apart from the hidden addresses m -/
mutual
def Rep (m : Addr → Prop) (H : Hp) : D → V → Prop
  | .non, v => v = .non
  | .bl b, v => v = .bl b
  | .int i, v => v = .int i
  | .str x, v => v = .str x
  | .adr a, v => v = .ref a
  | .tup ds, v => ∃ a xs, v = .ref a ∧ ¬ m a ∧ H a = some (.tup xs) ∧ RepL m H ds xs
  | .lst ds, v => ∃ a xs, v = .ref a ∧ ¬ m a ∧ H a = some (.lst xs) ∧ RepL m H ds xs
  | .dT ks ds, v => ∃ a ws, v = .ref a ∧ ¬ m a ∧ Rd H a (.dT ws) ∧ ws.map Prod.fst = ks ∧ RepL m H ds (ws.map Prod.snd)
  | .dK ks ds, v => ∃ a ws, v = .ref a ∧ ¬ m a ∧ Rd H a (.dK ws) ∧ ws.map Prod.fst = ks ∧ RepL m H ds (ws.map Prod.snd)
def RepL (m : Addr → Prop) (H : Hp) : List D → List V → Prop
  | [], [] => True
  | d :: ds, v :: vs => Rep m H d v ∧ RepL m H ds vs
  | [], _ :: _ => False
  | _ :: _, [] => False
end
/-- what a showing leans on -/
structure ExtW (m : Addr → Prop) (H H' : Hp) : Prop where
  tup : ∀ a xs, ¬ m a → H a = some (.tup xs) → H' a = some (.tup xs)
  lst : ∀ a xs, ¬ m a → H a = some (.lst xs) → H' a = some (.lst xs)
  dT : ∀ a ws, ¬ m a → Rd H a (.dT ws) → Rd H' a (.dT ws)
  dK : ∀ a ws, ¬ m a → Rd H a (.dK ws) → Rd H' a (.dK ws)
section
variable {m m' : Addr → Prop} {H H1 H2 : Hp}
theorem same_rd {a : Addr} {o : HO} (s : Same H H1) (h : Rd H a o) : Rd H1 a o := by
  rcases h with h | ⟨ob, h⟩
  · exact .inl (s _ _ h)
  · exact .inr ⟨ob, s _ _ h⟩
/-- what is kept from one heap to a later one, apart from m -/
def Ext (m : Addr → Prop) (H H' : Hp) : Prop := ∀ a o, ¬ m a → H a = some o → H' a = some o
theorem Ext.refl : Ext m H H := fun _ _ _ h => h
theorem Ext.trans (a : Ext m H H1) (b : Ext m H1 H2) : Ext m H H2 := fun x o n h => b x o n (a x o n h)
theorem Ext.of (s : Same H H1) : Ext m H H1 := fun _ _ _ h => s _ _ h
theorem Ext.mono (a : Ext m H H1) (h : ∀ x, m x → m' x) : Ext m' H H1 := fun x o n => a x o fun z => n (h x z)
theorem Ext.w (s : Ext m H H1) : ExtW m H H1 := ⟨fun a _ n h => s a _ n h, fun a _ n h => s a _ n h,
  fun a _ n h => h.elim (fun h => .inl (s a _ n h)) fun ⟨ob, h⟩ => .inr ⟨ob, s a _ n h⟩, fun a _ n h => h.elim (fun h => .inl (s a _ n h)) fun ⟨ob, h⟩ => .inr ⟨ob, s a _ n h⟩⟩
mutual
theorem Rep.extW (e : ExtW m H H1) : ∀ (d : D) (v : V), Rep m H d v → Rep m H1 d v
  | .non, _, h => h
  | .bl _, _, h => h
  | .int _, _, h => h
  | .str _, _, h => h
  | .adr _, _, h => h
  | .tup ds, _, ⟨a, xs, e1, n, h, r⟩ => ⟨a, xs, e1, n, e.tup a xs n h, RepL.extW e ds xs r⟩
  | .lst ds, _, ⟨a, xs, e1, n, h, r⟩ => ⟨a, xs, e1, n, e.lst a xs n h, RepL.extW e ds xs r⟩
  | .dT ks ds, _, ⟨a, ws, e1, n, h, k, r⟩ => ⟨a, ws, e1, n, e.dT a ws n h, k, RepL.extW e ds _ r⟩
  | .dK ks ds, _, ⟨a, ws, e1, n, h, k, r⟩ => ⟨a, ws, e1, n, e.dK a ws n h, k, RepL.extW e ds _ r⟩
theorem RepL.extW (e : ExtW m H H1) : ∀ (ds : List D) (vs : List V), RepL m H ds vs → RepL m H1 ds vs
  | [], [], _ => trivial
  | d :: ds, v :: vs, h => ⟨Rep.extW e d v h.1, RepL.extW e ds vs h.2⟩
  | [], _ :: _, h => False.elim h
  | _ :: _, [], h => False.elim h
end
theorem Rep.ext (e : Ext m H H1) (d : D) (v : V) (h : Rep m H d v) : Rep m H1 d v := Rep.extW e.w d v h
theorem RepL.ext (e : Ext m H H1) (ds : List D) (vs : List V) (h : RepL m H ds vs) : RepL m H1 ds vs := RepL.extW e.w ds vs h
mutual
/-- fewer addresses hidden -/
theorem Rep.mono (s : ∀ x, m' x → m x) : ∀ (d : D) (v : V), Rep m H d v → Rep m' H d v
  | .non, _, h => h
  | .bl _, _, h => h
  | .int _, _, h => h
  | .str _, _, h => h
  | .adr _, _, h => h
  | .tup ds, _, ⟨a, xs, e1, n, h, r⟩ => ⟨a, xs, e1, fun z => n (s a z), h, RepL.mono s ds xs r⟩
  | .lst ds, _, ⟨a, xs, e1, n, h, r⟩ => ⟨a, xs, e1, fun z => n (s a z), h, RepL.mono s ds xs r⟩
  | .dT ks ds, _, ⟨a, ws, e1, n, h, k, r⟩ => ⟨a, ws, e1, fun z => n (s a z), h, k, RepL.mono s ds _ r⟩
  | .dK ks ds, _, ⟨a, ws, e1, n, h, k, r⟩ => ⟨a, ws, e1, fun z => n (s a z), h, k, RepL.mono s ds _ r⟩
theorem RepL.mono (s : ∀ x, m' x → m x) : ∀ (ds : List D) (vs : List V), RepL m H ds vs → RepL m' H ds vs
  | [], [], _ => trivial
  | d :: ds, v :: vs, h => ⟨Rep.mono s d v h.1, RepL.mono s ds vs h.2⟩
  | [], _ :: _, h => False.elim h
  | _ :: _, [], h => False.elim h
end
theorem rd_some {a : Addr} {o : HO} (h : Rd H a o) : H a ≠ none := by
  rcases h with h | ⟨ob, h⟩ <;> rw [h] <;> exact fun z => nomatch z
mutual
/-- one more address hidden, that is none of the heap's -/
theorem Rep.hide {p : Addr} (hp : H p = none) : ∀ (d : D) (v : V), Rep m H d v → Rep (fun x => m x ∨ x = p) H d v
  | .non, _, h => h
  | .bl _, _, h => h
  | .int _, _, h => h
  | .str _, _, h => h
  | .adr _, _, h => h
  | .tup ds, _, ⟨a, xs, e1, n, h, r⟩ => ⟨a, xs, e1, (fun z => Or.elim z n fun e => by rw [e, hp] at h; cases h), h, RepL.hide hp ds xs r⟩
  | .lst ds, _, ⟨a, xs, e1, n, h, r⟩ => ⟨a, xs, e1, (fun z => Or.elim z n fun e => by rw [e, hp] at h; cases h), h, RepL.hide hp ds xs r⟩
  | .dT ks ds, _, ⟨a, ws, e1, n, h, k, r⟩ => ⟨a, ws, e1, (fun z => Or.elim z n fun e => rd_some h (by rw [e]; exact hp)), h, k, RepL.hide hp ds _ r⟩
  | .dK ks ds, _, ⟨a, ws, e1, n, h, k, r⟩ => ⟨a, ws, e1, (fun z => Or.elim z n fun e => rd_some h (by rw [e]; exact hp)), h, k, RepL.hide hp ds _ r⟩
theorem RepL.hide {p : Addr} (hp : H p = none) : ∀ (ds : List D) (vs : List V), RepL m H ds vs → RepL (fun x => m x ∨ x = p) H ds vs
  | [], [], _ => trivial
  | d :: ds, v :: vs, h => ⟨Rep.hide hp d v h.1, RepL.hide hp ds vs h.2⟩
  | [], _ :: _, h => False.elim h
  | _ :: _, [], h => False.elim h
end
theorem RepL.len : ∀ {ds : List D} {vs : List V}, RepL m H ds vs → ds.length = vs.length
  | [], [], _ => rfl
  | d :: ds, v :: vs, h => by rw [List.length_cons, List.length_cons, RepL.len h.2]
  | [], _ :: _, h => False.elim h
  | _ :: _, [], h => False.elim h
theorem RepL.get : ∀ {ds : List D} {vs : List V} {i : Nat} {d : D}, RepL m H ds vs → ds[i]? = some d → ∃ v, vs[i]? = some v ∧ Rep m H d v
  | d :: ds, v :: vs, 0, d', h, e => by cases e; exact ⟨v, rfl, h.1⟩
  | d :: ds, v :: vs, i + 1, d', h, e => by
    obtain ⟨v', e', r⟩ := RepL.get (i := i) h.2 (by simpa using e)
    exact ⟨v', by simpa using e', r⟩
  | [], [], _, _, _, e => by simp at e
  | [], _ :: _, _, _, h, _ => False.elim h
  | _ :: _, [], _, _, h, _ => False.elim h
theorem RepL.of_get : ∀ {ds : List D} {vs : List V} {i : Nat} {v : V}, RepL m H ds vs → vs[i]? = some v → ∃ d, ds[i]? = some d ∧ Rep m H d v
  | d :: ds, v :: vs, 0, d', h, e => by cases e; exact ⟨d, rfl, h.1⟩
  | d :: ds, v :: vs, i + 1, d', h, e => by
    obtain ⟨v', e', r⟩ := RepL.of_get (i := i) h.2 (by simpa using e)
    exact ⟨v', by simpa using e', r⟩
  | [], [], _, _, _, e => by simp at e
  | [], _ :: _, _, _, h, _ => False.elim h
  | _ :: _, [], _, _, h, _ => False.elim h
theorem RepL.app : ∀ {ds es : List D} {vs us : List V}, RepL m H ds vs → RepL m H es us → RepL m H (ds ++ es) (vs ++ us)
  | [], _, [], _, _, k => k
  | d :: ds, _, v :: vs, _, h, k => ⟨h.1, RepL.app h.2 k⟩
  | [], _, _ :: _, _, h, _ => False.elim h
  | _ :: _, _, [], _, h, _ => False.elim h
theorem RepL.drop : ∀ (n : Nat) {ds : List D} {vs : List V}, RepL m H ds vs → RepL m H (ds.drop n) (vs.drop n)
  | 0, _, _, h => h
  | n + 1, [], [], h => h
  | n + 1, d :: ds, v :: vs, h => RepL.drop n h.2
  | _ + 1, [], _ :: _, h => False.elim h
  | _ + 1, _ :: _, [], h => False.elim h
theorem RepL.take : ∀ (n : Nat) {ds : List D} {vs : List V}, RepL m H ds vs → RepL m H (ds.take n) (vs.take n)
  | 0, _, _, _ => trivial
  | n + 1, [], [], h => h
  | n + 1, d :: ds, v :: vs, h => ⟨h.1, RepL.take n h.2⟩
  | _ + 1, [], _ :: _, h => False.elim h
  | _ + 1, _ :: _, [], h => False.elim h
theorem RepL.snoc {ds : List D} {vs : List V} {d : D} {v : V} (h : RepL m H ds vs) (k : Rep m H d v) : RepL m H (ds ++ [d]) (vs ++ [v]) := RepL.app h ⟨k, trivial⟩
theorem RepL.rep : ∀ (n : Nat) {ds : List D} {vs : List V}, RepL m H ds vs → RepL m H (List.replicate n ds).flatten (List.replicate n vs).flatten
  | 0, _, _, _ => trivial
  | n + 1, ds, vs, h => by
    rw [List.replicate_succ, List.replicate_succ, List.flatten_cons, List.flatten_cons]
    exact RepL.app h (RepL.rep n h)
/-- as the library's data -/
theorem Rep.dp {K : PySem.W.Frag} : ∀ (n : Nat) (d : D) (v : V), Pl n d → Rep m H d v → Dp K H v d.pd
  | n, .non, _, _, h => by cases h; exact .non
  | n, .int i, _, _, h => by cases h; exact .int i
  | n, .str x, _, _, h => by cases h; exact .str x
  | n + 1, .tup ds, _, p, ⟨a, xs, e1, _, h, r⟩ => by
    subst e1
    have p : ∀ x ∈ ds, Pl n x := p
    have all : ∀ (ds : List D) (xs : List V), (∀ x ∈ ds, Pl n x) → RepL m H ds xs → DpAll K H xs (D.pdL ds) := by
      intro ds
      induction ds with
      | nil => intro xs _ r; cases xs with
        | nil => exact .nil
        | cons => exact False.elim r
      | cons d ds ih => intro xs p r; cases xs with
        | nil => exact False.elim r
        | cons x xs => exact .cons (Rep.dp n d x (p d List.mem_cons_self) r.1) (ih xs (fun y hy => p y (List.mem_cons_of_mem _ hy)) r.2)
    exact .tup (.inl (.inl h)) (all ds xs p r)
  | n + 1, .lst ds, _, p, ⟨a, xs, e1, _, h, r⟩ => by
    subst e1
    have p : ∀ x ∈ ds, Pl n x := p
    have all : ∀ (ds : List D) (xs : List V), (∀ x ∈ ds, Pl n x) → RepL m H ds xs → DpAll K H xs (D.pdL ds) := by
      intro ds
      induction ds with
      | nil => intro xs _ r; cases xs with
        | nil => exact .nil
        | cons => exact False.elim r
      | cons d ds ih => intro xs p r; cases xs with
        | nil => exact False.elim r
        | cons x xs => exact .cons (Rep.dp n d x (p d List.mem_cons_self) r.1) (ih xs (fun y hy => p y (List.mem_cons_of_mem _ hy)) r.2)
    exact .lst (.inl (.inl h)) (all ds xs p r)
  | 0, .tup _, _, p, _ => False.elim p
  | 0, .lst _, _, p, _ => False.elim p
  | n, .bl _, _, p, _ => by cases n <;> exact False.elim p
  | n, .adr _, _, p, _ => by cases n <;> exact False.elim p
  | n, .dT _ _, _, p, _ => by cases n <;> exact False.elim p
  | n, .dK _ _, _, p, _ => by cases n <;> exact False.elim p
end
end K48
/-! A logic of data over the hand layer -/
namespace K48
open PySem PySem.Spec PyProof.Rows L2

/-! ### readings that are what they are -/
structure TeW (X : Cx) (e : Expr) (σ : L2.St) (H : Hp) (K : VK) : Prop where
  run : ∀ pins s, Inv X pins σ H s → wpAny (model X.prog X.w) X.A (eval e X.env) (EP X pins σ K) X.xe s
structure TtW (X : Cx) (e : Expr) (σ : L2.St) (H : Hp) (K : Bool → Hp → Prop) : Prop where
  run : ∀ pins s, Inv X pins σ H s → wpAny (model X.prog X.w) X.A (isTrue e X.env (eval e X.env)) (TP X pins σ K) X.xe s
structure TwW (X : Cx) (e : Expr) (σ : L2.St) (H : Hp) (K : Bool → Hp → Prop) : Prop where
  run : ∀ whole pins s, Inv X pins σ H s → wpAny (model X.prog X.w) X.A (isTrue e X.env whole) (TP X pins σ K) X.xe s
structure TaW (X : Cx) (es : List Expr) (σ : L2.St) (H : Hp) (K : List V → Hp → Prop) : Prop where
  run : ∀ pos pins s, Inv X pins σ H s → wpAny (model X.prog X.w) X.A (spliced (backTo pos (starEach es X.env))) (AP X pins σ K) X.xe s
structure TsW (X : Cx) (st : Stmt) (D : Ends) (σ : L2.St) (H : Hp) : Prop where
  run : ∀ pins s, Inv X pins σ H s → wpAny (model X.prog X.w) X.A (exec st X.env) (SP X pins D) X.xe s
structure TssW (X : Cx) (sts : List Stmt) (D : Ends) (σ : L2.St) (H : Hp) : Prop where
  run : ∀ pins s, Inv X pins σ H s → wpAny (model X.prog X.w) X.A (execs sts X.env) (SP X pins D) X.xe s
structure TgW (X : Cx) (tg : Expr) (v : V) (σ : L2.St) (H : Hp) (K : L2.St → Hp → Prop) : Prop where
  run : ∀ pins s u, Inv X pins σ H s → RelV v u → wpAny (model X.prog X.w) X.A (assign tg X.env u) (fun _ s' => ∃ σ' H', Inv X pins σ' H' s' ∧ K σ' H') X.xe s
structure TiW (X : Cx) (tg iter : Expr) (σ : L2.St) (H : Hp) (R : It → Hp → Prop) : Prop where
  run : ∀ pins s, Inv X pins σ H s → wpAny (model X.prog X.w) X.A (eval iter X.env) (fun v s1 => wpAny (model X.prog X.w) X.A (pyIter v) (PIE X pins σ tg R) X.xe s1) X.xe s
def teW (X : Cx) (e : Expr) : TE := TeW X e
def ttW (X : Cx) (e : Expr) : TT := TtW X e
def twW (X : Cx) (e : Expr) : TT := TwW X e
def taW (X : Cx) (es : List Expr) : TA := TaW X es
def tsW (X : Cx) (st : Stmt) : TS := TsW X st
def tssW (X : Cx) (sts : List Stmt) : TS := TssW X sts
def tgW (X : Cx) (tg : Expr) : TG := TgW X tg
def tiW (X : Cx) (tg iter : Expr) : TI := TiW X tg iter
section
variable {X : Cx}
theorem pe_W {e} : PE X e (teW X e) := ⟨fun pins s _ _ _ I h => h.run pins s I⟩
theorem pt_W {e} : PT X e (ttW X e) := ⟨fun pins s _ _ _ I h => h.run pins s I⟩
theorem pw_W {e} : PW X e (twW X e) := ⟨fun wh pins s _ _ _ I h => h.run wh pins s I⟩
theorem pa_W {es} : PA X es (taW X es) := ⟨fun pos pins s _ _ _ I h => h.run pos pins s I⟩
theorem ps_W {st} : PS X st (tsW X st) := ⟨fun pins s _ _ _ I h => h.run pins s I⟩
theorem pss_W {sts} : PSs X sts (tssW X sts) := ⟨fun pins s _ _ _ I h => h.run pins s I⟩
theorem pg_W {tg} : PG X tg (tgW X tg) := ⟨fun pins s _ _ _ u _ I r h => h.run pins s u I r⟩
theorem pi_W {tg iter} : PI X tg iter (tiW X tg iter) := ⟨fun pins s _ _ _ I h => h.run pins s I⟩
theorem te_of {e t} (p : PE X e t) {σ H K} (h : t σ H K) : teW X e σ H K := ⟨fun pins s I => p.run pins s σ H K I h⟩
theorem tt_of {e t} (p : PT X e t) {σ H K} (h : t σ H K) : ttW X e σ H K := ⟨fun pins s I => p.run pins s σ H K I h⟩
theorem tw_of {e t} (p : PW X e t) {σ H K} (h : t σ H K) : twW X e σ H K := ⟨fun wh pins s I => p.run wh pins s σ H K I h⟩
theorem ta_of {es t} (p : PA X es t) {σ H K} (h : t σ H K) : taW X es σ H K := ⟨fun pos pins s I => p.run pos pins s σ H K I h⟩
theorem ts_of {st t} (p : PS X st t) {D σ H} (h : t D σ H) : tsW X st D σ H := ⟨fun pins s I => p.run pins s σ H D I h⟩
theorem tss_of {st t} (p : PSs X st t) {D σ H} (h : t D σ H) : tssW X st D σ H := ⟨fun pins s I => p.run pins s σ H D I h⟩
theorem tg_of {tg t} (p : PG X tg t) {v σ H K} (h : t v σ H K) : tgW X tg v σ H K := ⟨fun pins s u I r => p.run pins s σ H v u K I r h⟩
theorem ti_of {tg iter t} (p : PI X tg iter t) {σ H R} (h : t σ H R) : tiW X tg iter σ H R := ⟨fun pins s I => p.run pins s σ H R I h⟩
end

/-! ### the slots' data -/
abbrev De := List (Option D)
def RepE (m : Addr → Prop) (H : Hp) : De → L2.St → Prop
  | [], [] => True
  | none :: δ, _ :: σ => RepE m H δ σ
  | some d :: δ, some v :: σ => Rep m H d v ∧ RepE m H δ σ
  | some _ :: _, none :: _ => False
  | [], _ :: _ => False
  | _ :: _, [] => False
section
variable {m m' : Addr → Prop} {H H1 : Hp}
theorem RepE.map (f : ∀ d v, Rep m H d v → Rep m' H1 d v) : ∀ {δ : De} {σ : L2.St}, RepE m H δ σ → RepE m' H1 δ σ
  | [], [], _ => trivial
  | none :: δ, _ :: σ, h => RepE.map (δ := δ) (σ := σ) f h
  | some d :: δ, some v :: σ, h => ⟨f d v h.1, RepE.map (δ := δ) (σ := σ) f h.2⟩
  | some _ :: _, none :: _, h => False.elim h
  | [], _ :: _, h => False.elim h
  | none :: _, [], h => False.elim h
  | some _ :: _, [], h => False.elim h
theorem RepE.get : ∀ {δ : De} {σ : L2.St} {i : Nat} {d : D}, RepE m H δ σ → δ[i]? = some (some d) → ∃ v, σ[i]? = some (some v) ∧ Rep m H d v
  | some d :: δ, some v :: σ, 0, d', h, e => by cases e; exact ⟨v, rfl, h.1⟩
  | none :: δ, _ :: σ, 0, d', h, e => by cases e
  | some d :: δ, some v :: σ, i + 1, d', h, e => by
    obtain ⟨v', e', r⟩ := RepE.get (i := i) h.2 (by simpa using e)
    exact ⟨v', by simpa using e', r⟩
  | none :: δ, _ :: σ, i + 1, d', h, e => by
    obtain ⟨v', e', r⟩ := RepE.get (i := i) (show RepE m H δ σ from h) (by simpa using e)
    exact ⟨v', by simpa using e', r⟩
  | [], [], _, _, _, e => by simp at e
  | some _ :: _, none :: _, _, _, h, _ => False.elim h
  | [], _ :: _, _, _, h, _ => False.elim h
  | none :: _, [], _, _, h, _ => False.elim h
  | some _ :: _, [], _, _, h, _ => False.elim h
theorem RepE.set : ∀ {δ : De} {σ : L2.St} (i : Nat) {d : D} {v : V}, RepE m H δ σ → Rep m H d v → RepE m H (δ.set i (some d)) (σ.set i (some v))
  | some d :: δ, some v :: σ, 0, d', v', h, r => ⟨r, h.2⟩
  | none :: δ, _ :: σ, 0, d', v', h, r => ⟨r, h⟩
  | some d :: δ, some v :: σ, i + 1, d', v', h, r => ⟨h.1, RepE.set i h.2 r⟩
  | none :: δ, _ :: σ, i + 1, d', v', h, r => RepE.set (δ := δ) (σ := σ) i h r
  | [], [], _, _, _, _, _ => trivial
  | some _ :: _, none :: _, _, _, _, h, _ => False.elim h
  | [], _ :: _, _, _, _, h, _ => False.elim h
  | none :: _, [], _, _, _, h, _ => False.elim h
  | some _ :: _, [], _, _, _, h, _ => False.elim h
theorem RepE.forget : ∀ {δ : De} {σ : L2.St} (i : Nat), RepE m H δ σ → RepE m H (δ.set i none) (σ.set i none)
  | some d :: δ, some v :: σ, 0, h => h.2
  | none :: δ, _ :: σ, 0, h => h
  | some d :: δ, some v :: σ, i + 1, h => ⟨h.1, RepE.forget i h.2⟩
  | none :: δ, _ :: σ, i + 1, h => RepE.forget (δ := δ) (σ := σ) i h
  | [], [], _, _ => trivial
  | some _ :: _, none :: _, _, h => False.elim h
  | [], _ :: _, _, h => False.elim h
  | none :: _, [], _, h => False.elim h
  | some _ :: _, [], _, h => False.elim h
/-- forgetting what a slot holds -/
theorem RepE.drop1 : ∀ {δ : De} {σ : L2.St} (i : Nat), RepE m H δ σ → RepE m H (δ.set i none) σ
  | some d :: δ, some v :: σ, 0, h => h.2
  | none :: δ, _ :: σ, 0, h => h
  | some d :: δ, some v :: σ, i + 1, h => ⟨h.1, RepE.drop1 i h.2⟩
  | none :: δ, _ :: σ, i + 1, h => RepE.drop1 (δ := δ) (σ := σ) i h
  | [], [], _, _ => trivial
  | some _ :: _, none :: _, _, h => False.elim h
  | [], _ :: _, _, h => False.elim h
  | none :: _, [], _, h => False.elim h
  | some _ :: _, [], _, h => False.elim h
theorem RepE.repl : ∀ {δ : De} {σ : L2.St} (i : Nat) {d d' : D}, RepE m H δ σ → δ[i]? = some (some d) → (∀ v, Rep m H d v → Rep m H d' v) → RepE m H (δ.set i (some d')) σ
  | some d :: δ, some v :: σ, 0, _, _, h, e, f => by cases e; exact ⟨f _ h.1, h.2⟩
  | none :: δ, _ :: σ, 0, _, _, h, e, _ => by cases e
  | some d :: δ, some v :: σ, i + 1, _, _, h, e, f => ⟨h.1, RepE.repl i h.2 (by simpa using e) f⟩
  | none :: δ, _ :: σ, i + 1, _, _, h, e, f => RepE.repl (δ := δ) (σ := σ) i h (by simpa using e) f
  | [], [], _, _, _, _, e, _ => by simp at e
  | some _ :: _, none :: _, _, _, _, h, _, _ => False.elim h
  | [], _ :: _, _, _, _, h, _, _ => False.elim h
  | none :: _, [], _, _, _, h, _, _ => False.elim h
  | some _ :: _, [], _, _, _, h, _, _ => False.elim h
end
def wipeD (δ : De) : List Nat → De
  | [] => δ
  | v :: vs => (wipeD δ vs).set v none
theorem RepE.wipe {m : Addr → Prop} {H : Hp} {δ : De} {σ : L2.St} (h : RepE m H δ σ) : ∀ vs, RepE m H (wipeD δ vs) (L2.wipe σ vs)
  | [] => h
  | v :: vs => RepE.forget v (RepE.wipe h vs)

/-! ### the state -/
def CupAt (c : Addr) (H : Hp) : Prop := ∃ x y : Int, H c = some (.lst [.int x, .int y]) ∧ 0 ≤ x ∧ 0 ≤ y ∧ y < 4294967296
/-- m: hidden addresses; mr: hidden from the caller; H0: the heap at the entry; cup: the cup that is rolled; own: the one object of this def that changes -/
structure HI where
  m : Addr → Prop
  mr : Addr → Prop
  H0 : Hp
  cup : Option Addr
  own : Option Addr
def RepC (m : Addr → Prop) (H : Hp) (a : Addr) : D → Prop
  | .lst ds => ∃ xs, H a = some (.lst xs) ∧ RepL m H ds xs
  | .dT ks ds => ∃ ws, H a = some (.dT ws) ∧ ws.map Prod.fst = ks ∧ RepL m H ds (ws.map Prod.snd)
  | _ => False
/-- a hidden object stands, and is no tuple -/
def Hid (o : Option HO) : Prop := o ≠ none ∧ ∀ xs, o ≠ some (.tup xs)
theorem Hid.of {H H' : Hp} {a : Addr} (h : Hid (H a)) (k : ∀ o, H a = some o → H' a = some o) : Hid (H' a) := by
  cases e : H a with
  | none => exact absurd e h.1
  | some o =>
    rw [k o e]
    exact ⟨fun z => (nomatch z), fun xs z => h.2 xs (by rw [e]; exact z)⟩
structure BS (I : HI) (H : Hp) : Prop where
  base : ∀ a o, I.cup ≠ some a → I.H0 a = some o → H a = some o
  cupOk : ∀ c, I.cup = some c → CupAt c H
structure RS (I : HI) (μ : D) (δ : De) (σ : L2.St) (H : Hp) : Prop where
  bs : BS I H
  dom : ∀ a, I.m a → Hid (H a)
  cm : ∀ c, I.cup = some c → I.m c ∧ I.own ≠ some c
  ownOk : ∀ a, I.own = some a → I.H0 a = none ∧ I.m a ∧ ¬ I.mr a ∧ RepC I.m H a μ
  mrm : ∀ a, I.mr a → I.m a
  env : RepE I.m H δ σ
section
variable {I : HI} {μ : D} {δ : De} {σ : L2.St} {H H' : Hp}
theorem CupAt.same {c : Addr} (s : Same H H') (h : CupAt c H) : CupAt c H' := let ⟨x, y, e, r⟩ := h; ⟨x, y, s _ _ e, r⟩
theorem BS.same (s : Same H H') (h : BS I H) : BS I H' := ⟨fun a o n e => s _ _ (h.base a o n e), fun c e => CupAt.same s (h.cupOk c e)⟩
theorem RepC.same {m : Addr → Prop} {a : Addr} (s : Same H H') : ∀ {μ : D}, RepC m H a μ → RepC m H' a μ
  | .lst ds, ⟨xs, e, r⟩ => ⟨xs, s _ _ e, RepL.ext (Ext.of s) _ _ r⟩
  | .dT ks ds, ⟨ws, e, k, r⟩ => ⟨ws, s _ _ e, k, RepL.ext (Ext.of s) _ _ r⟩
  | .non, h => False.elim h
  | .bl _, h => False.elim h
  | .int _, h => False.elim h
  | .str _, h => False.elim h
  | .adr _, h => False.elim h
  | .tup _, h => False.elim h
  | .dK _ _, h => False.elim h
theorem RS.same (s : Same H H') (h : RS I μ δ σ H) : RS I μ δ σ H' :=
  ⟨h.bs.same s, fun a n => (h.dom a n).of fun o e => s a o e, h.cm, fun a e => let ⟨a1, a2, a3, a4⟩ := h.ownOk a e; ⟨a1, a2, a3, a4.same s⟩, h.mrm, h.env.map fun d v r => Rep.ext (Ext.of s) d v r⟩
end

/-! ### the judgements -/
def W (X : Cx) (I : HI) (μ : D) (δ : De) (e : Expr) (Q : D → Prop) : Prop := ∀ σ H, RS I μ δ σ H → ∀ K : VK, (∀ d v H', RS I μ δ σ H' → Ext I.m H H' → Rep I.m H' d v → Q d → K v H') → teW X e σ H K
def WT (X : Cx) (I : HI) (μ : D) (δ : De) (e : Expr) (Q : Bool → Prop) : Prop := ∀ σ H, RS I μ δ σ H → ∀ K : Bool → Hp → Prop, (∀ b H', RS I μ δ σ H' → Ext I.m H H' → Q b → K b H') → ttW X e σ H K
def WW (X : Cx) (I : HI) (μ : D) (δ : De) (e : Expr) (Q : Bool → Prop) : Prop := ∀ σ H, RS I μ δ σ H → ∀ K : Bool → Hp → Prop, (∀ b H', RS I μ δ σ H' → Ext I.m H H' → Q b → K b H') → twW X e σ H K
def WA (X : Cx) (I : HI) (μ : D) (δ : De) (es : List Expr) (Q : List D → Prop) : Prop := ∀ σ H, RS I μ δ σ H → ∀ K : List V → Hp → Prop, (∀ ds vs H', RS I μ δ σ H' → Ext I.m H H' → RepL I.m H' ds vs → Q ds → K vs H') → taW X es σ H K
/-- a target takes d -/
def WG (X : Cx) (I : HI) (μ : D) (δ : De) (tg : Expr) (d : D) (Q : De → Prop) : Prop := ∀ σ H v, RS I μ δ σ H → Rep I.m H d v → ∀ K : L2.St → Hp → Prop, (∀ δ' σ' H', RS I μ δ' σ' H' → Ext I.m H H' → Q δ' → K σ' H') → tgW X tg v σ H K
/-- what is walked gives the data ds, while the heap only grows -/
def WI (X : Cx) (I : HI) (μ : D) (δ : De) (tg iter : Expr) (Q : List D → Prop) : Prop := ∀ σ H, RS I μ δ σ H → ∀ R : It → Hp → Prop,
  (∀ J G Y ds H', Walk J ds.length G Y → RS I μ δ σ H' → Ext I.m H H' → (∀ H1, Ext I.m H' H1 → G H1) →
    (∀ i H1 x H2, i < ds.length → Ext I.m H' H1 → (∀ a, I.m a → Hid (H1 a)) → Y i H1 x H2 → Same H1 H2 ∧ ∃ d, ds[i]? = some d ∧ Rep I.m H2 d x) → Q ds → R J H') → tiW X tg iter σ H R
structure EndsD where
  nx : D → De → Prop := fun _ _ => False
  rt : D → Prop := fun _ => False
  bk : D → De → Prop := fun _ _ => False
  ct : D → De → Prop := fun _ _ => False
structure Fits (I : HI) (E : EndsD) (H : Hp) (Dn : Ends) : Prop where
  nx : ∀ μ δ σ H', RS I μ δ σ H' → Ext I.m H H' → E.nx μ δ → Dn.nx σ H'
  rt : ∀ d v H', BS I H' → Rep I.mr H' d v → E.rt d → Dn.rt v H'
  bk : ∀ μ δ σ H', RS I μ δ σ H' → Ext I.m H H' → E.bk μ δ → Dn.bk σ H'
  ct : ∀ μ δ σ H', RS I μ δ σ H' → Ext I.m H H' → E.ct μ δ → Dn.ct σ H'
def S1 (X : Cx) (I : HI) (μ : D) (δ : De) (st : Stmt) (E : EndsD) : Prop := ∀ σ H, RS I μ δ σ H → ∀ Dn : Ends, Fits I E H Dn → tsW X st Dn σ H
def SW (X : Cx) (I : HI) (μ : D) (δ : De) (sts : List Stmt) (E : EndsD) : Prop := ∀ σ H, RS I μ δ σ H → ∀ Dn : Ends, Fits I E H Dn → tssW X sts Dn σ H

section
variable {X : Cx} {I : HI} {μ : D} {δ : De} {e a b : Expr} {Q : D → Prop} {E : EndsD} {pos : Pos}
theorem Fits.later {H H1 : Hp} {Dn : Ends} (f : Fits I E H Dn) (e : Ext I.m H H1) : Fits I E H1 Dn :=
  ⟨fun μ δ σ H' r x q => f.nx μ δ σ H' r (e.trans x) q, f.rt, fun μ δ σ H' r x q => f.bk μ δ σ H' r (e.trans x) q, fun μ δ σ H' r x q => f.ct μ δ σ H' r (e.trans x) q⟩
theorem W.mono {Q' : D → Prop} (h : W X I μ δ e Q) (f : ∀ d, Q d → Q' d) : W X I μ δ e Q' := fun σ H r K k => h σ H r K fun d v H' r' x rep q => k d v H' r' x rep (f d q)
theorem WT.mono {Q Q' : Bool → Prop} (h : WT X I μ δ e Q) (f : ∀ d, Q d → Q' d) : WT X I μ δ e Q' := fun σ H r K k => h σ H r K fun b H' r' x q => k b H' r' x (f b q)

/-! ### statements -/
theorem SW_nil (h : E.nx μ δ) : SW X I μ δ [] E := fun σ H r Dn f => tss_of pss_nil (f.nx μ δ σ H r Ext.refl h)
theorem SW_cons {st : Stmt} {rest : List Stmt} (h : S1 X I μ δ st { E with nx := fun μ' δ' => SW X I μ' δ' rest E }) : SW X I μ δ (st :: rest) E := fun σ H r Dn f => by
  refine tss_of (pss_cons ps_W pss_W) ?_
  show tsW X st { Dn with nx := tssW X rest Dn } σ H
  exact h σ H r _ ⟨fun μ' δ' σ' H' r' x q => q σ' H' r' Dn (f.later x), f.rt, f.bk, f.ct⟩
theorem S1_ret (h : W X I μ δ e E.rt) : S1 X I μ δ (.Return (some e) pos) E := fun σ H r Dn f => by
  refine ts_of (ps_ret pe_W) ?_
  exact h σ H r _ fun d v H' r' x rep q => f.rt d v H' r'.bs (Rep.mono r'.mrm d v rep) q
theorem S1_if {body orelse : List Stmt} (h : WT X I μ δ e fun b => (b = true → SW X I μ δ body E) ∧ (b = false → SW X I μ δ orelse E)) : S1 X I μ δ (.If e body orelse pos) E := fun σ H r Dn f => by
  refine ts_of (ps_if pt_W pss_W pss_W) ?_
  refine h σ H r _ fun b H' r' x q => ?_
  cases b with
  | true => exact q.1 rfl σ H' r' Dn (f.later x)
  | false => exact q.2 rfl σ H' r' Dn (f.later x)
theorem S1_set (i : Nat) {x : Str} {pos' : Pos} (hN : X.N.Nodup) (h : W X I μ δ e fun d => E.nx μ (δ.set i (some d)))
    (hi : X.N[i]? = some x := by rfl) (hx : Loc X.env.scope x := by first | exact .inl rfl | exact .inr rfl) (hs : swapsWith e (some (.Name x pos')) pos.line X.env = pure false := by rfl)
    (hf : X.fn x = true ∨ X.env.scope.names.lookup x = some .local := by first | exact .inl rfl | exact .inr rfl) : S1 X I μ δ (.Assign [.Name x pos'] e pos) E := fun σ H r Dn f => by
  refine ts_of (ps_set (i := i) hN hi hx pe_W hs hf) ?_
  exact h σ H r _ fun d v H' r' x rep q => f.nx μ _ _ H' ⟨r'.bs, r'.dom, r'.cm, r'.ownOk, r'.mrm, r'.env.set i rep⟩ x q
/-- a target that is told apart -/
theorem S1_asg {tg : Expr} (h : W X I μ δ e fun d => WG X I μ δ tg d fun δ' => E.nx μ δ') (hs : swapsWithSole [tg] e pos.line X.env = pure false := by rfl) (hw : swappedStores [tg] e X.env = pure none := by rfl)
    (h1 : (assignEach [tg] X.env).map (·.2) = [assign tg X.env] := by rfl) : S1 X I μ δ (.Assign [tg] e pos) E := fun σ H r Dn f => by
  refine ts_of (ps_asg pe_W pg_W hs hw h1) ?_
  exact h σ H r _ fun d v H' r' x rep q => q σ H' v r' rep _ fun δ' σ' H'' r'' x' q' => f.nx μ δ' σ' H'' r'' (x.trans x') q'
theorem S1_expr (h : W X I μ δ e fun _ => E.nx μ δ) (hs : swapsWith e none pos.line X.env = pure false := by rfl) : S1 X I μ δ (.Expr e pos) E := fun σ H r Dn f => by
  refine ts_of (ps_expr pe_W hs) ?_
  exact h σ H r _ fun d v H' r' x rep q => f.nx μ δ σ H' r' x q
/-- a, b = x, y of plain local names -/
theorem S1_par (i j : Nat) {x y : Str} {px py pt : Pos} {kt k2 pt2} (hc : X.calm = true) (hN : X.N.Nodup) (h : WA X I μ δ [a, b] fun ds => ∃ d1 d2, ds = [d1, d2] ∧ E.nx μ ((δ.set i (some d1)).set j (some d2)))
    (hij : i ≠ j := by decide) (hi : X.N[i]? = some x := by rfl) (hj : X.N[j]? = some y := by rfl) (hx : X.env.scope.names.lookup x = some .local := by rfl) (hy : X.env.scope.names.lookup y = some .local := by rfl)
    (hw : swappedStores [.Tuple [.Name x px, .Name y py] kt pt] (.Tuple [a, b] k2 pt2) X.env = pure (some [x, y]) := by rfl)
    (hs : swapsWithSole [.Tuple [.Name x px, .Name y py] kt pt] (.Tuple [a, b] k2 pt2) pos.line X.env = pure false := by rfl) :
    S1 X I μ δ (.Assign [.Tuple [.Name x px, .Name y py] kt pt] (.Tuple [a, b] k2 pt2) pos) E := fun σ H r Dn f => by
  refine ts_of (ps_par (i := i) (j := j) hc hN hi hj hij hx hy pa_W hw hs) ?_
  refine h σ H r _ fun ds vs H' r' x rep q => ?_
  obtain ⟨d1, d2, rfl, q⟩ := q
  match vs, rep with
  | [v1, v2], rep => exact ⟨v1, v2, rfl, f.nx μ _ _ H' ⟨r'.bs, r'.dom, r'.cm, r'.ownOk, r'.mrm, (r'.env.set i rep.1).set j rep.2.1⟩ x q⟩
  | [], rep => exact False.elim rep
  | [_], rep => exact False.elim rep.2
  | _ :: _ :: _ :: _, rep => exact False.elim rep.2.2
/-- a statement that can't be reached, by what is known -/
theorem SW_false {sts : List Stmt} (h : False) : SW X I μ δ sts E := h.elim

/-! ### targets -/
theorem WG_name (i : Nat) {x : Str} {d : D} {Q : De → Prop} (hN : X.N.Nodup) (h : Q (δ.set i (some d))) (hi : X.N[i]? = some x := by rfl) (hx : Loc X.env.scope x := by first | exact .inl rfl | exact .inr rfl)
    (hf : X.fn x = true ∨ X.env.scope.names.lookup x = some .local := by first | exact .inl rfl | exact .inr rfl) : WG X I μ δ (.Name x pos) d Q := fun σ H v r rep K k =>
  tg_of (pg_name (i := i) hN hi hx hf) (k _ _ H ⟨r.bs, r.dom, r.cm, r.ownOk, r.mrm, r.env.set i rep⟩ Ext.refl h)
/-- several names take data in turn -/
def WGs (X : Cx) (I : HI) (μ : D) (δ : De) (ts : List Expr) (ds : List D) (Q : De → Prop) : Prop := ∀ σ H vs, RS I μ δ σ H → RepL I.m H ds vs → ∀ K : L2.St → Hp → Prop, (∀ δ' σ' H', RS I μ δ' σ' H' → Ext I.m H H' → Q δ' → K σ' H') → 
  ∀ pins s us, Inv X pins σ H s → Vals vs us → wpAny (model X.prog X.w) X.A (assignInOrder ((assignEach ts X.env).map (·.2)) us) (fun _ s' => ∃ σ' H', Inv X pins σ' H' s' ∧ K σ' H') X.xe s
def tgsW (X : Cx) (ts : List Expr) : TGs := fun vs σ H K => ∀ pins s us, Inv X pins σ H s → Vals vs us → wpAny (model X.prog X.w) X.A (assignInOrder ((assignEach ts X.env).map (·.2)) us) (fun _ s' => ∃ σ' H', Inv X pins σ' H' s' ∧ K σ' H') X.xe s
theorem pgs_W {ts} : PGs X ts (tgsW X ts) := ⟨fun pins s _ _ _ us _ I r h => h pins s us I r⟩
theorem WGs_nil {Q : De → Prop} (h : Q δ) : WGs X I μ δ [] [] Q := fun σ H vs r rep K k pins s us hI hv => by
  cases vs with
  | nil => exact pgs_nil.run pins s σ H [] us K hI hv ⟨rfl, k δ σ H r Ext.refl h⟩
  | cons => exact False.elim rep
theorem WGs_cons {t : Expr} {ts : List Expr} {d : D} {ds : List D} {Q : De → Prop} (h : WG X I μ δ t d fun δ' => WGs X I μ δ' ts ds Q)
    (hs : (assignEach (t :: ts) X.env).map (·.2) = assign t X.env :: (assignEach ts X.env).map (·.2) := by rfl) : WGs X I μ δ (t :: ts) (d :: ds) Q := fun σ H vs r rep K k pins s us hI hv => by
  cases vs with
  | nil => exact False.elim rep
  | cons v vs =>
    refine (pgs_cons (pg_W (tg := t)) (pgs_W (ts := ts)) hs).run pins s σ H (v :: vs) us K hI hv ⟨v, vs, rfl, ?_⟩
    refine h σ H v r rep.1 _ fun δ' σ' H' r' x q => ?_
    exact q σ' H' vs r' (RepL.ext x _ _ rep.2) K fun δ'' σ'' H'' r'' x' q' => k δ'' σ'' H'' r'' (x.trans x') q'
theorem WG_tup {ts : List Expr} {k : Nat} {ds : List D} {Q : De → Prop} (hc : X.calm = true) (h : WGs X I μ δ ts ds Q) (hn : (assignEach ts X.env).length = ds.length := by rfl) (hst : (assignEach ts X.env).findIdx? (·.1) = none := by rfl) :
    WG X I μ δ (.Tuple ts k pos) (.tup ds) Q := fun σ H v r rep K kk => by
  obtain ⟨a, xs, rfl, _, hx, rl⟩ := rep
  refine tg_of (pg_tup (n := ds.length) hc pgs_W hn hst) ⟨a, xs, rfl, .inl (.inl hx), rl.len.symm, ?_⟩
  exact h σ H xs r rl K kk
theorem WG_lst {ts : List Expr} {k : Nat} {ds : List D} {Q : De → Prop} (hc : X.calm = true) (h : WGs X I μ δ ts ds Q) (hn : (assignEach ts X.env).length = ds.length := by rfl) (hst : (assignEach ts X.env).findIdx? (·.1) = none := by rfl) :
    WG X I μ δ (.Tuple ts k pos) (.lst ds) Q := fun σ H v r rep K kk => by
  obtain ⟨a, xs, rfl, _, hx, rl⟩ := rep
  refine tg_of (pg_unl (n := ds.length) hc pgs_W hn hst) ⟨a, xs, rfl, .inl (.inl hx), rl.len.symm, ?_⟩
  exact h σ H xs r rl K kk
end
end K48
/-! The rules for expressions -/
namespace K48
open PySem PySem.Spec PyProof.Rows L2

structure XOk (X : Cx) : Prop where
  nd : X.N.Nodup
  calm : X.calm = true
  hu : X.A.units + 100 < cLine
  own : PassesOwn (model X.prog X.w) X.A X.env X.xe

theorem same_new {H : Hp} {p : Addr} {o : HO} (h : H p = none) : Same H (upd H p o) := fun b x e => by
  rw [upd_ne (ne_of_none e h)]; exact e
theorem OpR.or {X : Cx} {f : Value → Value → Sem Value} {r r' : R2} (h : OpR X f r) (h' : OpR X f r') : OpR X f (fun x y H Q => r x y H Q ∨ r' x y H Q) :=
  fun pins s σ H x y v u Q I rx ry q => q.elim (fun q => h pins s σ H x y v u Q I rx ry q) fun q => h' pins s σ H x y v u Q I rx ry q
section
variable {X : Cx} {I : HI} {μ : D} {δ : De} {e a b c : Expr} {es : List Expr} {Q : D → Prop} {E : EndsD} {pos : Pos} {σ : L2.St} {H : Hp}
theorem RS.new (r : RS I μ δ σ H) {p : Addr} {o : HO} (h : H p = none) : RS I μ δ σ (upd H p o) := r.same (same_new h)
theorem RS.notm (r : RS I μ δ σ H) {p : Addr} (h : H p = none) : ¬ I.m p := fun z => (r.dom p z).1 h
theorem RS.newT (r : RS I μ δ σ H) {ds : List D} {vs : List V} (rl : RepL I.m H ds vs) {p : Addr} (h : H p = none) : Rep I.m (upd H p (.tup vs)) (.tup ds) (.ref p) :=
  ⟨p, vs, rfl, r.notm h, upd_same, RepL.ext (Ext.of (same_new h)) _ _ rl⟩
theorem RS.newL (r : RS I μ δ σ H) {ds : List D} {vs : List V} (rl : RepL I.m H ds vs) {p : Addr} (h : H p = none) : Rep I.m (upd H p (.lst vs)) (.lst ds) (.ref p) :=
  ⟨p, vs, rfl, r.notm h, upd_same, RepL.ext (Ext.of (same_new h)) _ _ rl⟩
/-- what an expression's rule is to give -/
abbrev Gives (I : HI) (μ : D) (δ : De) (σ : L2.St) (H : Hp) (Q : D → Prop) (K : VK) : Prop := ∀ d v H', RS I μ δ σ H' → Ext I.m H H' → Rep I.m H' d v → Q d → K v H'
theorem Gives.now (r : RS I μ δ σ H) {K : VK} (k : Gives I μ δ σ H Q K) {d : D} {v : V} (rep : Rep I.m H d v) (q : Q d) : K v H := k d v H r Ext.refl rep q
theorem Gives.int (r : RS I μ δ σ H) {K : VK} (k : Gives I μ δ σ H Q K) {n : Int} (q : Q (.int n)) : K (.int n) H := k (.int n) _ H r Ext.refl rfl q
theorem Gives.bl (r : RS I μ δ σ H) {K : VK} (k : Gives I μ δ σ H Q K) {n : Bool} (q : Q (.bl n)) : K (.bl n) H := k (.bl n) _ H r Ext.refl rfl q
theorem Gives.tup (r : RS I μ δ σ H) {K : VK} (k : Gives I μ δ σ H Q K) {ds : List D} {vs : List V} (rl : RepL I.m H ds vs) (q : Q (.tup ds)) {p : Addr} (h : H p = none) : K (.ref p) (upd H p (.tup vs)) :=
  k _ _ _ (r.new h) (Ext.of (same_new h)) (r.newT rl h) q
theorem Gives.lst (r : RS I μ δ σ H) {K : VK} (k : Gives I μ δ σ H Q K) {ds : List D} {vs : List V} (rl : RepL I.m H ds vs) (q : Q (.lst ds)) {p : Addr} (h : H p = none) : K (.ref p) (upd H p (.lst vs)) :=
  k _ _ _ (r.new h) (Ext.of (same_new h)) (r.newL rl h) q

/-! ### names, constants, displays -/
theorem W_var (i : Nat) {x : Str} {d : D} (h : δ[i]? = some (some d)) (q : Q d) (hN : X.N[i]? = some x := by rfl) (hv : Vis X.env.scope x := by first | exact Or.inl rfl | exact Or.inr (Or.inl rfl) | exact Or.inr (Or.inr rfl))
    (hd : (x == ("__debug__" : Str)) = false := by decide) (hcd : (x == ("__classdict__" : Str)) = false := by decide) : W X I μ δ (.Name x pos) Q := fun σ H r K k => by
  obtain ⟨v, e, rep⟩ := r.env.get h
  exact te_of (pe_var (i := i) hN hv hd hcd) ⟨v, e, k d v H r Ext.refl rep q⟩
theorem W_globI {x : Str} {n : Int} (hm : ∃ t, X.mg x = some (.int n t)) (q : Q (.int n)) (hg : Gl X x := by rfl) (hd : (x == ("__debug__" : Str)) = false := by decide) : W X I μ δ (.Name x pos) Q := fun σ H r K k => by
  obtain ⟨t, hm⟩ := hm
  exact te_of (pe_glob (v := .int n) hg hm ⟨t, rfl⟩ hd) (k _ _ H r Ext.refl (show Rep I.m H (.int n) (.int n) from rfl) q)
theorem W_globS {x : Str} {z : Str} (hm : ∃ t, X.mg x = some (.str z t)) (q : Q (.str z)) (hg : Gl X x := by rfl) (hd : (x == ("__debug__" : Str)) = false := by decide) : W X I μ δ (.Name x pos) Q := fun σ H r K k => by
  obtain ⟨t, hm⟩ := hm
  exact te_of (pe_glob (v := .str z) hg hm ⟨t, rfl⟩ hd) (k _ _ H r Ext.refl (show Rep I.m H (.str z) (.str z) from rfl) q)
theorem W_int {i j} (q : Q (.int i)) : W X I μ δ (.Constant (.int i) j pos) Q := fun σ H r K k => te_of pe_int (k (.int i) _ H r Ext.refl rfl q)
theorem W_bl {i j} (q : Q (.bl i)) : W X I μ δ (.Constant (.bool i) j pos) Q := fun σ H r K k => te_of pe_bl (k (.bl i) _ H r Ext.refl rfl q)
theorem W_non {j} (q : Q .non) : W X I μ δ (.Constant .none j pos) Q := fun σ H r K k => te_of pe_non (k .non _ H r Ext.refl rfl q)
theorem W_str {i j} (q : Q (.str i)) : W X I μ δ (.Constant (.str i) j pos) Q := fun σ H r K k => te_of pe_str (k (.str i) _ H r Ext.refl rfl q)
theorem WA_nil {Q : List D → Prop} (q : Q []) : WA X I μ δ [] Q := fun σ H r K k => ta_of pa_nil (k [] [] H r Ext.refl trivial q)
theorem WA_cons {Q : List D → Prop} (h : W X I μ δ e fun d => WA X I μ δ es fun ds => Q (d :: ds)) (hs : starEach (e :: es) X.env = (false, eval e X.env) :: starEach es X.env := by rfl) : WA X I μ δ (e :: es) Q := fun σ H r K k => by
  refine ta_of (pa_cons pe_W pa_W hs) ?_
  refine h σ H r _ fun d v H1 r1 x1 rep q => ?_
  refine q σ H1 r1 _ fun ds vs H2 r2 x2 rep2 q2 => ?_
  exact k (d :: ds) (v :: vs) H2 r2 (x1.trans x2) ⟨Rep.ext x2 _ _ rep, rep2⟩ q2
theorem le_line {n : Nat} (h : n ≤ 1000000) : n ≤ sizeLine := Nat.le_trans h (by decide)
theorem W_tup {k : Nat} (h : WA X I μ δ es fun ds => ds.length ≤ 1000000 ∧ Q (.tup ds)) : W X I μ δ (.Tuple es k pos) Q := fun σ H r K kk => by
  refine te_of (pe_tup pa_W) ?_
  refine h σ H r _ fun ds vs H1 r1 x1 rl q => ⟨by rw [← rl.len]; exact le_line q.1, fun p hp => ?_⟩
  exact Gives.tup r1 (fun d v H' r' x' rep q => kk d v H' r' (x1.trans x') rep q) rl q.2 hp
theorem W_lst (h : WA X I μ δ es fun ds => ds.length ≤ 1000000 ∧ Q (.lst ds)) : W X I μ δ (.List es pos) Q := fun σ H r K kk => by
  refine te_of (pe_lst pa_W) ?_
  refine h σ H r _ fun ds vs H1 r1 x1 rl q => ⟨by rw [← rl.len]; exact le_line q.1, fun p hp => ?_⟩
  exact Gives.lst r1 (fun d v H' r' x' rep q => kk d v H' r' (x1.trans x') rep q) rl q.2 hp

/-! ### operators -/
theorem W_op {r : R2} {P : D → D → Prop} (p : PE X e (tOp r (teW X a) (teW X b))) (h : W X I μ δ a fun d1 => W X I μ δ b fun d2 => P d1 d2)
    (hr : ∀ d1 d2 v1 v2 σ H K, P d1 d2 → RS I μ δ σ H → Rep I.m H d1 v1 → Rep I.m H d2 v2 → Gives I μ δ σ H Q K → r v1 v2 H K) : W X I μ δ e Q := fun σ H rs K k => by
  refine te_of p ?_
  refine h σ H rs _ fun d1 v1 H1 r1 x1 rep1 q1 => ?_
  refine q1 σ H1 r1 _ fun d2 v2 H2 r2 x2 rep2 q2 => ?_
  exact hr d1 d2 v1 v2 σ H2 K q2 r2 (Rep.ext x2 _ _ rep1) rep2 fun d v H' r' x' rep q => k d v H' r' ((x1.trans x2).trans x') rep q
/-- + -/
def AddD : D → D → (D → Prop) → Prop
  | .int i, .int j, Q => Q (.int (i + j))
  | .tup xs, .tup ys, Q => xs.length + ys.length ≤ 1000000 ∧ Q (.tup (xs ++ ys))
  | .lst xs, .lst ys, Q => xs.length + ys.length ≤ 1000000 ∧ Q (.lst (xs ++ ys))
  | _, _, _ => False
theorem W_add (h : W X I μ δ a fun d1 => W X I μ δ b fun d2 => AddD d1 d2 Q) : W X I μ δ (.BinOp a .Add b pos) Q := by
  refine W_op (pe_op (OpR.or (OpR.or op_add op_catA) op_cat) pe_W pe_W) h fun d1 d2 v1 v2 σ H K q r rep1 rep2 k => ?_
  cases d1 <;> cases d2 <;> first | exact False.elim q | skip
  · cases rep1; cases rep2
    exact .inl (.inl ⟨_, _, rfl, rfl, k.int r q⟩)
  · obtain ⟨x, xs, rfl, _, h1, l1⟩ := rep1
    obtain ⟨y, ys, rfl, _, h2, l2⟩ := rep2
    have q : _ ∧ _ := q
    refine .inl (.inr ⟨x, y, xs, ys, rfl, rfl, .inl (.inl h1), .inl (.inl h2), by rw [← l1.len, ← l2.len]; exact le_line q.1, fun e => ?_, fun _ e => ?_, fun _ _ p hp => ?_⟩)
    · subst e
      have : _ = [] := List.length_eq_zero_iff.mp (l1.len.trans rfl)
      subst this
      exact k.now r (show Rep I.m H (.tup ([] ++ _)) _ from ⟨y, ys, rfl, ‹¬ I.m y›, h2, l2⟩) q.2
    · subst e
      have : _ = [] := List.length_eq_zero_iff.mp (l2.len.trans rfl)
      subst this
      rw [List.append_nil] at q
      exact k.now r (d := .tup _) ⟨x, xs, rfl, ‹¬ I.m x›, h1, l1⟩ q.2
    · exact k.tup r (l1.app l2) q.2 hp
  · obtain ⟨x, xs, rfl, _, h1, l1⟩ := rep1
    obtain ⟨y, ys, rfl, _, h2, l2⟩ := rep2
    have q : _ ∧ _ := q
    exact .inr ⟨x, y, xs, ys, rfl, rfl, h1, h2, by rw [← l1.len, ← l2.len]; exact le_line q.1, fun p hp => k.lst r (l1.app l2) q.2 hp⟩
/-- two ints in -/
def IntD (d1 d2 : D) (P : Int → Int → Prop) : Prop := match d1, d2 with
  | .int i, .int j => P i j
  | _, _ => False
theorem W_opI {op : Operator} {C : Int → Int → Prop} {g : Int → Int → Int} (ho : OpR X (binaryOp op) (rI C fun i j => .int (g i j))) (h : W X I μ δ a fun d1 => W X I μ δ b fun d2 => IntD d1 d2 fun i j => C i j ∧ Q (.int (g i j))) : W X I μ δ (.BinOp a op b pos) Q := by
  refine W_op (pe_op ho pe_W pe_W) h fun d1 d2 v1 v2 σ H K q r rep1 rep2 k => ?_
  cases d1 <;> cases d2 <;> first | exact False.elim q | skip
  cases rep1; cases rep2
  exact ⟨_, _, rfl, rfl, q.1, k.int r q.2⟩
theorem W_sub (h : W X I μ δ a fun d1 => W X I μ δ b fun d2 => IntD d1 d2 fun i j => Q (.int (i - j))) : W X I μ δ (.BinOp a .Sub b pos) Q := by
  refine W_op (pe_op op_sub pe_W pe_W) h fun d1 d2 v1 v2 σ H K q r rep1 rep2 k => ?_
  cases d1 <;> cases d2 <;> first | exact False.elim q | skip
  cases rep1; cases rep2
  exact ⟨_, _, rfl, rfl, k.int r q⟩
theorem W_mul (h : W X I μ δ a fun d1 => W X I μ δ b fun d2 => IntD d1 d2 fun i j => CMul i j ∧ Q (.int (i * j))) : W X I μ δ (.BinOp a .Mult b pos) Q := W_opI op_mul h
/-- a tuple, so many times (twice at least) -/
theorem W_rep (h : W X I μ δ a fun d1 => W X I μ δ b fun d2 => ∃ xs k, d1 = .tup xs ∧ d2 = .int k ∧ xs ≠ [] ∧ 2 ≤ k ∧ k ≤ 1000 ∧ xs.length ≤ 1000 ∧ Q (.tup (List.replicate k.toNat xs).flatten)) : W X I μ δ (.BinOp a .Mult b pos) Q := by
  refine W_op (pe_op op_repT pe_W pe_W) h fun d1 d2 v1 v2 σ H K q r rep1 rep2 k => ?_
  obtain ⟨xs, n, rfl, rfl, h1, h2, h3, h4, q⟩ := q
  obtain ⟨x, ys, rfl, _, hx, l1⟩ := rep1
  cases rep2
  refine ⟨x, n, ys, rfl, rfl, .inl (.inl hx), fun e => h1 ?_, h2, h3, by rw [← l1.len]; exact h4, fun p hp => k.tup r (l1.rep _) q hp⟩
  subst e
  exact List.length_eq_zero_iff.mp (l1.len.trans rfl)

/-! ### comparisons -/
def tcW (X : Cx) (op : CmpOp) (a b : Expr) : TE := fun σ H K => ∀ pins s, Inv X pins σ H s → wpAny (model X.prog X.w) X.A (eval a X.env) (fun v s₁ => wpAny (model X.prog X.w) X.A (eval b X.env) (fun u s₂ => wpAny (model X.prog X.w) X.A (compareOp op v u) (EP X pins σ K) X.xe s₂) X.xe s₁) X.xe s
theorem pc_W {op : CmpOp} : PC X op a b (tcW X op a b) := ⟨fun pins s _ _ _ I h => h pins s I⟩
theorem tc_of {op : CmpOp} {t : TE} (p : PC X op a b t) {σ : L2.St} {H : Hp} {K : VK} (h : t σ H K) : tcW X op a b σ H K := fun pins s I => p.run pins s σ H K I h
theorem pc_of {op : CmpOp} {r : R2} {ta tb : TE} (ho : OpR X (compareOp op) r) (ha : PE X a ta) (hb : PE X b tb) : PC X op a b (tOp r ta tb) := ⟨fun pins s σ H Q I h =>
  thn (ha.run pins s σ H _ I h) fun v s1 ⟨x, H1, I1, r1, q1⟩ => thn (hb.run pins s1 σ H1 _ I1 q1) fun u s2 ⟨y, H2, I2, r2, q2⟩ => ho pins s2 σ H2 x y v u Q I2 r1 r2 q2⟩
/-- a comparison's answer -/
def CW (X : Cx) (I : HI) (μ : D) (δ : De) (op : CmpOp) (a b : Expr) (Q : Bool → Prop) : Prop := ∀ σ H, RS I μ δ σ H → ∀ K : VK, (∀ k H', RS I μ δ σ H' → Ext I.m H H' → Q k → K (.bl k) H') → tcW X op a b σ H K
theorem W_cmp {op : CmpOp} (h : CW X I μ δ op a b fun k => Q (.bl k)) (hm : behindInMarks op b = false := by first | exact nomark _ | rfl) : W X I μ δ (.Compare a [op] [b] pos) Q := fun σ H r K k =>
  te_of (pe_cmp pc_W hm) (h σ H r K fun c H' r' x q => k (.bl c) _ H' r' x rfl q)
theorem WT_cmp {op : CmpOp} {Q : Bool → Prop} (h : CW X I μ δ op a b Q) (hm : behindInMarks op b = false := by first | exact nomark _ | rfl) : WT X I μ δ (.Compare a [op] [b] pos) Q := fun σ H r K k =>
  tt_of (pt_cmp pc_W hm) (h σ H r _ fun c H' r' x q => ⟨c, rfl, k c H' r' x q⟩)
theorem C_op {op : CmpOp} {r : R2} {Q : Bool → Prop} {P : D → D → Prop} (ho : OpR X (compareOp op) r) (h : W X I μ δ a fun d1 => W X I μ δ b fun d2 => P d1 d2)
    (hr : ∀ d1 d2 v1 v2 σ H (K : VK), P d1 d2 → RS I μ δ σ H → Rep I.m H d1 v1 → Rep I.m H d2 v2 → (∀ k, Q k → K (.bl k) H) → r v1 v2 H K) : CW X I μ δ op a b Q := fun σ H rs K k => by
  refine tc_of (pc_of ho pe_W pe_W) ?_
  refine h σ H rs _ fun d1 v1 H1 r1 x1 rep1 q1 => ?_
  refine q1 σ H1 r1 _ fun d2 v2 H2 r2 x2 rep2 q2 => ?_
  exact hr d1 d2 v1 v2 σ H2 K q2 r2 (Rep.ext x2 _ _ rep1) rep2 fun c q => k c H2 r2 (x1.trans x2) q
theorem C_I {op : CmpOp} {g : Int → Int → Bool} {Q : Bool → Prop} (ho : OpR X (compareOp op) (rI0 fun i j => .bl (g i j))) (h : W X I μ δ a fun d1 => W X I μ δ b fun d2 => IntD d1 d2 fun i j => Q (g i j)) : CW X I μ δ op a b Q := by
  refine C_op ho h fun d1 d2 v1 v2 σ H K q r rep1 rep2 k => ?_
  cases d1 <;> cases d2 <;> first | exact False.elim q | skip
  cases rep1; cases rep2
  exact ⟨_, _, rfl, rfl, k _ q⟩
theorem C_lt {Q : Bool → Prop} (h : W X I μ δ a fun d1 => W X I μ δ b fun d2 => IntD d1 d2 fun i j => Q (decide (i < j))) : CW X I μ δ .Lt a b Q := C_I op_lt h
theorem C_le {Q : Bool → Prop} (h : W X I μ δ a fun d1 => W X I μ δ b fun d2 => IntD d1 d2 fun i j => Q (decide (i ≤ j))) : CW X I μ δ .LtE a b Q := C_I op_le h
theorem C_gt {Q : Bool → Prop} (h : W X I μ δ a fun d1 => W X I μ δ b fun d2 => IntD d1 d2 fun i j => Q (decide (j < i))) : CW X I μ δ .Gt a b Q := C_I op_gt h
theorem C_ge {Q : Bool → Prop} (h : W X I μ δ a fun d1 => W X I μ δ b fun d2 => IntD d1 d2 fun i j => Q (decide (j ≤ i))) : CW X I μ δ .GtE a b Q := C_I op_ge h
theorem C_eq {Q : Bool → Prop} (hX : XOk X) (h : W X I μ δ a fun d1 => W X I μ δ b fun d2 => Pl 6 d1 ∧ Pl 6 d2 ∧ Q (decide (d1 = d2))) : CW X I μ δ .Eq a b Q := by
  refine C_op (op_eqD (by have := hX.hu; omega)) h fun d1 d2 v1 v2 σ H K q r rep1 rep2 k => ?_
  refine ⟨d1.pd, d2.pd, Rep.dp 6 _ _ q.1 rep1, Rep.dp 6 _ _ q.2.1 rep2, q.1.shaped (by decide), q.2.1.shaped (by decide), ?_⟩
  rw [Pl.eqv 6 d1 d2 q.1 q.2.1]
  exact k _ q.2.2
theorem C_ne {Q : Bool → Prop} (hX : XOk X) (h : W X I μ δ a fun d1 => W X I μ δ b fun d2 => Pl 6 d1 ∧ Pl 6 d2 ∧ Q (!decide (d1 = d2))) : CW X I μ δ .NotEq a b Q := by
  refine C_op (op_neD (by have := hX.hu; omega)) h fun d1 d2 v1 v2 σ H K q r rep1 rep2 k => ?_
  refine ⟨d1.pd, d2.pd, Rep.dp 6 _ _ q.1 rep1, Rep.dp 6 _ _ q.2.1 rep2, q.1.shaped (by decide), q.2.1.shaped (by decide), ?_⟩
  rw [Pl.eqv 6 d1 d2 q.1 q.2.1]
  exact k _ q.2.2
/-- two ints, == and !=, without the deep rule -/
theorem C_eqI {Q : Bool → Prop} (h : W X I μ δ a fun d1 => W X I μ δ b fun d2 => IntD d1 d2 fun i j => Q (decide (i = j))) : CW X I μ δ .Eq a b Q := by
  refine C_op op_eq h fun d1 d2 v1 v2 σ H K q r rep1 rep2 k => ?_
  cases d1 <;> cases d2 <;> first | exact False.elim q | skip
  rename_i i j
  cases rep1; cases rep2
  refine ⟨rfl, ?_⟩
  have e : decide (V.int i = V.int j) = decide (i = j) := by
    by_cases h : i = j <;> simp [h]
  rw [e]
  exact k _ q
theorem rep_non {d : D} {v : V} (r : Rep I.m H d v) : decide (v = .non) = decide (d = .non) := by
  cases d with
  | non => rw [show v = .non from r]; simp
  | bl _ => rw [show v = .bl _ from r]; simp
  | int _ => rw [show v = .int _ from r]; simp
  | str _ => rw [show v = .str _ from r]; simp
  | adr _ => rw [show v = .ref _ from r]; simp
  | tup _ => obtain ⟨a, xs, rfl, _⟩ := r; simp
  | lst _ => obtain ⟨a, xs, rfl, _⟩ := r; simp
  | dT _ _ => obtain ⟨a, xs, rfl, _⟩ := r; simp
  | dK _ _ => obtain ⟨a, xs, rfl, _⟩ := r; simp
theorem C_isN {Q : Bool → Prop} (h : W X I μ δ a fun d1 => W X I μ δ b fun d2 => d2 = .non ∧ Q (decide (d1 = .non))) : CW X I μ δ .Is a b Q := by
  refine C_op op_isN h fun d1 d2 v1 v2 σ H K q r rep1 rep2 k => ?_
  obtain ⟨rfl, q⟩ := q
  refine ⟨rep2, ?_⟩
  rw [rep_non rep1]
  exact k _ q
theorem C_notN {Q : Bool → Prop} (h : W X I μ δ a fun d1 => W X I μ δ b fun d2 => d2 = .non ∧ Q (!decide (d1 = .non))) : CW X I μ δ .IsNot a b Q := by
  refine C_op op_notN h fun d1 d2 v1 v2 σ H K q r rep1 rep2 k => ?_
  obtain ⟨rfl, q⟩ := q
  refine ⟨rep2, ?_⟩
  rw [rep_non rep1]
  exact k _ q
/-- what stands for a list or a dict: itself, or the own object -/
def lookD (μ : D) : D → D
  | .adr _ => μ
  | d => d
/-- in, not in: a list -/
theorem any_eqv {d : D} (hd : Pl 5 d) : ∀ xs : List D, (∀ x ∈ xs, Pl 5 x) → ((xs.map D.pd).any fun z => PyData.eqv z d.pd) = decide (d ∈ xs)
  | [], _ => by simp
  | x :: xs, h => by
    rw [List.map_cons, List.any_cons, any_eqv hd xs fun y hy => h y (List.mem_cons_of_mem _ hy), Pl.eqv 5 x d (h x List.mem_cons_self) hd]
    by_cases e : x = d <;> simp [e, eq_comm]
    by_cases e2 : d = x
    · exact absurd e2.symm e
    · simp [e2]
/-- the own object at the address that it is known by -/
def Own (I : HI) (d : D) : Prop := match d with
  | .adr a => I.own = some a
  | _ => True
theorem list_at (r : RS I μ δ σ H) {d : D} {v : V} {xs : List D} (rep : Rep I.m H d v) (o : Own I d) (e : lookD μ d = .lst xs) : ∃ a vs, v = .ref a ∧ H a = some (.lst vs) ∧ RepL I.m H xs vs := by
  cases d <;> first | (exfalso; simp [lookD] at e; done) | skip
  · obtain ⟨_, _, _, q⟩ := r.ownOk _ o
    have e : μ = .lst xs := e
    rw [e] at q
    obtain ⟨vs, h1, h2⟩ := q
    exact ⟨_, vs, rep, h1, h2⟩
  · obtain ⟨a, vs, h1, _, h2, h3⟩ := rep
    have e : D.lst _ = .lst xs := e
    cases e
    exact ⟨a, vs, h1, h2, h3⟩
theorem dT_at (r : RS I μ δ σ H) {d : D} {v : V} {ks : List (List Key)} {xs : List D} (rep : Rep I.m H d v) (o : Own I d) (e : lookD μ d = .dT ks xs) : ∃ a ws, v = .ref a ∧ Rd H a (.dT ws) ∧ ws.map Prod.fst = ks ∧ RepL I.m H xs (ws.map Prod.snd) := by
  cases d <;> first | (exfalso; simp [lookD] at e; done) | skip
  · obtain ⟨_, _, _, q⟩ := r.ownOk _ o
    have e : μ = .dT ks xs := e
    rw [e] at q
    obtain ⟨vs, h1, h2, h3⟩ := q
    exact ⟨_, vs, rep, .inl h1, h2, h3⟩
  · obtain ⟨a, vs, h1, _, h2, h3⟩ := rep
    have e : D.dT _ _ = .dT ks xs := e
    cases e
    exact ⟨a, vs, h1, h2, h3⟩
theorem dp_list {K : PySem.W.Frag} {m : Addr → Prop} {n : Nat} {a : Addr} {vs : List V} (ha : H a = some (.lst vs)) : ∀ {xs : List D}, (∀ x ∈ xs, Pl n x) → RepL m H xs vs → Dp K H (.ref a) (.list (xs.map D.pd)) := by
  intro xs p r
  have all : ∀ (ds : List D) (xs : List V), (∀ x ∈ ds, Pl n x) → RepL m H ds xs → DpAll K H xs (ds.map D.pd) := by
    intro ds
    induction ds with
    | nil => intro xs _ r; cases xs with
      | nil => exact .nil
      | cons => exact False.elim r
    | cons d ds ih => intro xs p r; cases xs with
      | nil => exact False.elim r
      | cons x xs => exact .cons (Rep.dp n d x (p d List.mem_cons_self) r.1) (ih xs (fun y hy => p y (List.mem_cons_of_mem _ hy)) r.2)
  exact .lst (.inl (.inl ha)) (all xs vs p r)
theorem shaped_list {n : Nat} (hn : n ≤ 60) {xs : List D} (p : ∀ x ∈ xs, Pl n x) : SeqAt.shaped (.list (xs.map D.pd)) = true := by
  have : Pl (n + 1) (.lst xs) := p
  have h := this.shaped (by omega)
  rw [D.pd, pdL_map] at h
  exact h
theorem C_inL {Q : Bool → Prop} (hX : XOk X) (h : W X I μ δ a fun d1 => W X I μ δ b fun d2 => ∃ xs, lookD μ d2 = .lst xs ∧ Own I d2 ∧ Pl 5 d1 ∧ (∀ x ∈ xs, Pl 5 x) ∧ Q (decide (d1 ∈ xs))) : CW X I μ δ .In a b Q := by
  refine C_op (op_inD (by have := hX.hu; omega)) h fun d1 d2 v1 v2 σ H K q r rep1 rep2 k => ?_
  obtain ⟨xs, e, o, p1, p2, q⟩ := q
  obtain ⟨a, vs, rfl, h1, h2⟩ := list_at r rep2 o e
  refine ⟨d1.pd, xs.map D.pd, Rep.dp 5 _ _ p1 rep1, dp_list h1 p2 h2, p1.shaped (by decide), shaped_list (by decide) p2, ?_⟩
  rw [any_eqv p1 xs p2]
  exact k _ q
theorem C_notInL {Q : Bool → Prop} (hX : XOk X) (h : W X I μ δ a fun d1 => W X I μ δ b fun d2 => ∃ xs, lookD μ d2 = .lst xs ∧ Own I d2 ∧ Pl 5 d1 ∧ (∀ x ∈ xs, Pl 5 x) ∧ Q (!decide (d1 ∈ xs))) : CW X I μ δ .NotIn a b Q := by
  refine C_op (op_notInD (by have := hX.hu; omega)) h fun d1 d2 v1 v2 σ H K q r rep1 rep2 k => ?_
  obtain ⟨xs, e, o, p1, p2, q⟩ := q
  obtain ⟨a, vs, rfl, h1, h2⟩ := list_at r rep2 o e
  refine ⟨d1.pd, xs.map D.pd, Rep.dp 5 _ _ p1 rep1, dp_list h1 p2 h2, p1.shaped (by decide), shaped_list (by decide) p2, ?_⟩
  rw [any_eqv p1 xs p2]
  exact k _ q
/-- not in: a tuple of ints -/
theorem flat_ints {m : Addr → Prop} : ∀ {ns : List Int} {vs : List V}, RepL m H (ns.map D.int) vs → vs = ns.map V.int
  | [], [], _ => rfl
  | n :: ns, v :: vs, h => by
    rw [List.map_cons, ← flat_ints h.2]
    have : v = .int n := h.1
    rw [this]
  | [], _ :: _, h => False.elim h
  | _ :: _, [], h => False.elim h
/-- data of one dict's keys -/
def keyD : Key → D
  | .inl i => .int i
  | .inr x => .str x
theorem repl_keys {m : Addr → Prop} : ∀ {ks : List Key} {vs : List V}, RepL m H (ks.map keyD) vs → vs = ks.map kV
  | [], [], _ => rfl
  | .inl n :: ns, v :: vs, h => by
    rw [List.map_cons, ← repl_keys h.2]
    have : v = .int n := h.1
    rw [this]; rfl
  | .inr n :: ns, v :: vs, h => by
    rw [List.map_cons, ← repl_keys h.2]
    have : v = .str n := h.1
    rw [this]; rfl
  | [], _ :: _, h => False.elim h
  | _ :: _, [], h => False.elim h
/-- what a dict holds at a key -/
def valD {κ : Type} [DecidableEq κ] : List κ → List D → κ → Option D
  | k :: ks, d :: ds, x => if k = x then some d else valD ks ds x
  | _, _, _ => none
theorem valD_rep {κ : Type} [DecidableEq κ] {m : Addr → Prop} {x : κ} : ∀ {ws : List (κ × V)} {ds : List D}, RepL m H ds (ws.map Prod.snd) → 
    (∀ d, valD (ws.map Prod.fst) ds x = some d → ∃ v, valV ws x = some v ∧ Rep m H d v) ∧ (valV ws x).isSome = (valD (ws.map Prod.fst) ds x).isSome
  | [], [], _ => ⟨fun d h => by simp [valD] at h, rfl⟩
  | w :: ws, d :: ds, h => by
    obtain ⟨i1, i2⟩ := valD_rep (x := x) (ws := ws) (ds := ds) h.2
    simp only [List.map_cons, valD]
    by_cases e : w.1 = x
    · rw [if_pos e, valV_pos e]
      exact ⟨fun d' h' => by cases h'; exact ⟨w.2, rfl, h.1⟩, rfl⟩
    · rw [if_neg e, valV_neg e]
      exact ⟨i1, i2⟩
  | [], _ :: _, h => False.elim h
  | _ :: _, [], h => False.elim h
/-- a tuple's data as a key -/
theorem key_rep {m : Addr → Prop} {ks : List Key} {v : V} (h : Rep m H (.tup (ks.map keyD)) v) : ∃ b, v = .ref b ∧ H b = some (.tup (ks.map kV)) := by
  obtain ⟨b, xs, e, _, hb, rl⟩ := h
  rw [repl_keys rl] at hb
  exact ⟨b, e, hb⟩
/-- a tuple of ints: an int is not in it -/
theorem inV_int (i : Int) : ∀ ns : List Int, inV (.int i) (ns.map V.int) = decide (i ∈ ns)
  | [] => by simp [inV]
  | n :: ns => by
    have ih := inV_int i ns
    simp only [List.map_cons, inV, List.any_cons] at ih ⊢
    rw [ih]
    by_cases e : i = n
    · subst e; simp [eqV]
    · have e' : ¬ n = i := fun z => e z.symm
      simp [eqV, e, e']
theorem C_notInT {Q : Bool → Prop} (h : W X I μ δ a fun d1 => W X I μ δ b fun d2 => ∃ (i : Int) (ns : List Int), d1 = .int i ∧ d2 = .tup (ns.map D.int) ∧ Q (!decide (i ∈ ns))) : CW X I μ δ .NotIn a b Q := by
  refine C_op op_notIn_seq h fun d1 d2 v1 v2 σ H K q r rep1 rep2 k => ?_
  obtain ⟨i, ns, rfl, rfl, q⟩ := q
  obtain ⟨p, vs, rfl, _, h1, l1⟩ := rep2
  have e := flat_ints l1
  subst e
  have e1 : v1 = .int i := rep1
  subst e1
  refine ⟨p, _, rfl, .inr (.inl (.inl h1)), rfl, by rw [List.all_map]; exact List.all_eq_true.mpr fun _ _ => rfl, ?_⟩
  rw [if_pos rfl, inV_int]
  exact k _ q
/-- k in d, k not in d: tuple keys; int keys -/
theorem C_inT {Q : Bool → Prop} (hX : XOk X) (h : W X I μ δ a fun d1 => W X I μ δ b fun d2 => ∃ ks xs k, lookD μ d2 = .dT ks xs ∧ Own I d2 ∧ d1 = .tup (k.map keyD) ∧ Q (valD ks xs k).isSome) : CW X I μ δ .In a b Q := fun σ H rs K k => by
  refine tc_of (pc_din (by have := hX.hu; omega) pe_W pe_W) ?_
  refine h σ H rs _ fun d1 v1 H1 r1 x1 rep1 q1 => ?_
  refine q1 σ H1 r1 _ fun d2 v2 H2 r2 x2 rep2 q2 => ?_
  obtain ⟨ks, xs, kk, e, o, rfl, q⟩ := q2
  obtain ⟨b, rfl, hb⟩ := key_rep (Rep.ext x2 _ _ rep1)
  obtain ⟨p, ws, rfl, h1, rfl, h3⟩ := dT_at r2 rep2 o e
  refine ⟨p, _, rfl, .inr ⟨ws, kk, b, h1, rfl, hb, rfl⟩, ?_⟩
  rw [(valD_rep (x := kk) h3).2]
  exact k _ H2 r2 (x1.trans x2) q
theorem C_notInDT {Q : Bool → Prop} (hX : XOk X) (h : W X I μ δ a fun d1 => W X I μ δ b fun d2 => ∃ ks xs k, lookD μ d2 = .dT ks xs ∧ Own I d2 ∧ d1 = .tup (k.map keyD) ∧ Q (!(valD ks xs k).isSome)) : CW X I μ δ .NotIn a b Q := fun σ H rs K k => by
  refine tc_of (pc_dnotin (by have := hX.hu; omega) pe_W pe_W) ?_
  refine h σ H rs _ fun d1 v1 H1 r1 x1 rep1 q1 => ?_
  refine q1 σ H1 r1 _ fun d2 v2 H2 r2 x2 rep2 q2 => ?_
  obtain ⟨ks, xs, kk, e, o, rfl, q⟩ := q2
  obtain ⟨b, rfl, hb⟩ := key_rep (Rep.ext x2 _ _ rep1)
  obtain ⟨p, ws, rfl, h1, rfl, h3⟩ := dT_at r2 rep2 o e
  refine ⟨p, _, rfl, .inr ⟨ws, kk, b, h1, rfl, hb, rfl⟩, ?_⟩
  rw [(valD_rep (x := kk) h3).2]
  exact k _ H2 r2 (x1.trans x2) q
theorem C_notInDK {Q : Bool → Prop} (hX : XOk X) (h : W X I μ δ a fun d1 => W X I μ δ b fun d2 => ∃ ks xs k, d2 = .dK ks xs ∧ d1 = keyD k ∧ Q (!(valD ks xs k).isSome)) : CW X I μ δ .NotIn a b Q := fun σ H rs K k => by
  refine tc_of (pc_dnotin (by have := hX.hu; omega) pe_W pe_W) ?_
  refine h σ H rs _ fun d1 v1 H1 r1 x1 rep1 q1 => ?_
  refine q1 σ H1 r1 _ fun d2 v2 H2 r2 x2 rep2 q2 => ?_
  obtain ⟨ks, xs, kk, rfl, rfl, q⟩ := q2
  obtain ⟨p, ws, rfl, _, h1, rfl, h3⟩ := rep2
  have ev : v1 = kV kk := by
    cases kk with
    | inl i => exact Rep.ext x2 _ _ rep1
    | inr i => exact Rep.ext x2 _ _ rep1
  subst ev
  refine ⟨p, _, rfl, .inl ⟨ws, kk, h1, rfl, rfl⟩, ?_⟩
  rw [(valD_rep (x := kk) h3).2]
  exact k _ H2 r2 (x1.trans x2) q
theorem W_getT (hX : XOk X) (h : W X I μ δ a fun d1 => W X I μ δ b fun d2 => ∃ ks xs k d, lookD μ d1 = .dT ks xs ∧ Own I d1 ∧ d2 = .tup (k.map keyD) ∧ valD ks xs k = some d ∧ Q d) (hs : NoSl b := by exact fun _ _ => rfl) : W X I μ δ (.Subscript a b pos) Q := fun σ H rs K k => by
  refine te_of (pe_dget (by have := hX.hu; omega) pe_W pe_W hs) ?_
  refine h σ H rs _ fun d1 v1 H1 r1 x1 rep1 q1 => ?_
  refine q1 σ H1 r1 _ fun d2 v2 H2 r2 x2 rep2 q2 => ?_
  obtain ⟨ks, xs, kk, d, e, o, rfl, ev, q⟩ := q2
  obtain ⟨b, rfl, hb⟩ := key_rep rep2
  obtain ⟨p, ws, rfl, h1, rfl, h3⟩ := dT_at r2 (Rep.ext x2 _ _ rep1) o e
  obtain ⟨v, hv, rv⟩ := (valD_rep (x := kk) h3).1 d ev
  exact ⟨p, v, rfl, .inr ⟨ws, kk, b, h1, rfl, hb, hv.symm⟩, k d v H2 r2 (x1.trans x2) rv q⟩
theorem W_getK (hX : XOk X) (h : W X I μ δ a fun d1 => W X I μ δ b fun d2 => ∃ ks xs k d, d1 = .dK ks xs ∧ d2 = keyD k ∧ valD ks xs k = some d ∧ Q d) (hs : NoSl b := by exact fun _ _ => rfl) : W X I μ δ (.Subscript a b pos) Q := fun σ H rs K k => by
  refine te_of (pe_dget (by have := hX.hu; omega) pe_W pe_W hs) ?_
  refine h σ H rs _ fun d1 v1 H1 r1 x1 rep1 q1 => ?_
  refine q1 σ H1 r1 _ fun d2 v2 H2 r2 x2 rep2 q2 => ?_
  obtain ⟨ks, xs, kk, d, rfl, rfl, ev, q⟩ := q2
  obtain ⟨p, ws, rfl, _, h1, rfl, h3⟩ := Rep.ext x2 _ _ rep1
  have e2 : v2 = kV kk := by
    cases kk with
    | inl i => exact rep2
    | inr i => exact rep2
  subst e2
  obtain ⟨v, hv, rv⟩ := (valD_rep (x := kk) h3).1 d ev
  exact ⟨p, v, rfl, .inl ⟨ws, kk, h1, rfl, hv.symm⟩, k d v H2 r2 (x1.trans x2) rv q⟩
/-- an item by its place -/
def atD (xs : List D) (i : Int) : Option D := (ixN xs.length i).bind fun j => xs[j]?
theorem atD_rep {m : Addr → Prop} {xs : List D} {vs : List V} (h : RepL m H xs vs) {i : Int} {d : D} (e : atD xs i = some d) : ∃ v, atI vs i = some v ∧ Rep m H d v := by
  unfold atD at e
  unfold atI
  rw [← h.len]
  cases hj : ixN xs.length i with
  | none => rw [hj] at e; cases e
  | some j =>
    rw [hj] at e
    exact h.get e
theorem atD_nat {xs : List D} {j : Nat} {d : D} (h : xs[j]? = some d) : atD xs (j : Int) = some d := by
  have := atI_nat h
  exact this
theorem W_itT (h : W X I μ δ a fun d1 => W X I μ δ b fun d2 => ∃ xs i d, d1 = .tup xs ∧ d2 = .int i ∧ atD xs i = some d ∧ Q d) (hs : PlainIx b := by exact fun _ _ => rfl) : W X I μ δ (.Subscript a b pos) Q := by
  refine W_op (pe_ix ix_tup pe_W pe_W hs) h fun d1 d2 v1 v2 σ H K q r rep1 rep2 k => ?_
  obtain ⟨xs, i, d, rfl, rfl, e, q⟩ := q
  obtain ⟨p, vs, rfl, _, h1, l1⟩ := rep1
  cases rep2
  obtain ⟨v, hv, rv⟩ := atD_rep l1 e
  exact ⟨p, vs, i, v, rfl, rfl, .inl (.inl h1), hv, k.now r rv q⟩
theorem W_itL (h : W X I μ δ a fun d1 => W X I μ δ b fun d2 => ∃ xs i d, d1 = .lst xs ∧ d2 = .int i ∧ atD xs i = some d ∧ Q d) (hs : PlainIx b := by exact fun _ _ => rfl) : W X I μ δ (.Subscript a b pos) Q := by
  refine W_op (pe_ix ix_list pe_W pe_W hs) h fun d1 d2 v1 v2 σ H K q r rep1 rep2 k => ?_
  obtain ⟨xs, i, d, rfl, rfl, e, q⟩ := q
  obtain ⟨p, vs, rfl, _, h1, l1⟩ := rep1
  cases rep2
  obtain ⟨v, hv, rv⟩ := atD_rep l1 e
  exact ⟨p, vs, i, v, rfl, rfl, .inl (.inl h1), hv, k.now r rv q⟩
end
end K48
/-! enumerate(t) of a tuple -/
namespace PySem
open AutoSeq1 (wpAny_loadPart')
theorem k48_enum_newT (l : Addr) (items : Array Value) (n : Nat) (dct : Option Addr) (sl : Array (Option Value)) :
    Meets (Builtin.«enumerate.__new__» ⟨[.type "enumerate", .ref l], []⟩) (fun _ R s => s.heap.get? l = some { cls := .type "tuple", dict := dct, data := .seq items n, slots := sl } ∧
      R (.ok (.ret (.ref (s.heap.push { cls := .type "tuple_iterator", data := .fields #[.ref l, .int 0 0] }).objs.size)))
        { s with heap := (s.heap.push { cls := .type "tuple_iterator", data := .fields #[.ref l, .int 0 0] }).push { cls := .type "enumerate", data := .fields #[.none, .bool false, .ref s.heap.objs.size, rawInt 0, .none, .none] } }) :=
  .of_wp fun prog w A R s h => by
    obtain ⟨hp, g, d, tk, os⟩ := s; obtain ⟨hl, h⟩ := h
    have hsub := sub_enumerate
    have hL : Heap.IsTuple (Shared.heap ⟨hp, g, d, tk, os⟩) l items := ⟨_, hl, rfl, n, rfl⟩
    wp_walk using wpAny_loadPart' hl
    refine wpAny_stack_any fun st => wpAny_pure ?_
    split
    · rename_i c _ _ _ _ _
      cases (c == Value.type "enumerate")
      · wp_walk using wpAny_loadPart' hl, wpAny_pyIter_tuple hL
        exact ⟨_, rfl, h⟩
      · wp_walk using wpAny_loadPart' hl, wpAny_pyIter_tuple hL
        exact ⟨_, rfl, h⟩
    · wp_walk using wpAny_loadPart' hl, wpAny_pyIter_tuple hL
      exact ⟨_, rfl, h⟩
section
variable {prog : Program} {w : World} {A : Around} {E : Value → Shared → Prop} {s : Shared}
theorem k48_call_enumT {l : Addr} {items : Array Value} {Q : Value → Shared → Prop} (hL : s.heap.IsTuple l items)
    (h : ∀ h', IsEnum h' (s.heap.objs.size + 1) s.heap.objs.size 0 .none → h'.IsTupleIter s.heap.objs.size l 0 → h'.objs.size = s.heap.objs.size + 2 →
      (∀ b o, s.heap.get? b = some o → h'.get? b = some o) → Q (.ref (s.heap.objs.size + 1)) { s with heap := h' }) :
    wpAny (model prog w) A (call (.type "enumerate") [.ref l]) Q E s := by
  obtain ⟨⟨c, dct, dt, sl⟩, hl, hc, n, hd⟩ := hL
  replace hc : c = .type "tuple" := hc
  replace hd : dt = .seq items n := hd
  subst hc hd
  refine callType_new F.called_enumerate (by decide) (F.typeCall_enumerate_1 _) (F.newCall_enumerate_1 _) (fun obj => F.args_object_init_2 obj _) F.entry_enumerate_new
    (k48_enum_newT l items n dct sl) ⟨hl, ?_⟩
  have hz : (s.heap.push { cls := .type "tuple_iterator", data := .fields #[.ref l, .int 0 0] }).objs.size = s.heap.objs.size + 1 := Heap.size_push ..
  show _ ∧ _
  rw [hz]
  have he : IsEnum ((s.heap.push { cls := .type "tuple_iterator", data := .fields #[.ref l, .int 0 0] }).push
      { cls := .type "enumerate", data := .fields #[.none, .bool false, .ref s.heap.objs.size, rawInt 0, .none, .none] }) (s.heap.objs.size + 1) s.heap.objs.size 0 .none := by
    have := Heap.get?_push_size (s.heap.push { cls := .type "tuple_iterator", data := .fields #[.ref l, .int 0 0] })
      (o := { cls := .type "enumerate", data := .fields #[.none, .bool false, .ref s.heap.objs.size, rawInt 0, .none, .none] }) rfl
    rw [hz] at this; exact this
  refine ⟨⟨_, he, rfl⟩, h _ he ⟨_, Heap.get?_push_of_some _ (Heap.get?_push_size _ rfl), rfl, rfl⟩ (by rw [Heap.size_push, hz]) fun b o x => Heap.get?_push_of_some _ (Heap.get?_push_of_some _ x)⟩
end
end PySem
namespace K48
open PySem PySem.Spec PyProof.Rows L2
def IteT (K : PySem.W.Frag) (a : Addr) : It :=
  ⟨fun i H => ∃ (xs : List V) (x : V), SqT K H a xs ∧ xs[i]? = some x,
    fun i H v H' => ∃ T x, v = .ref T ∧ H T = none ∧ H' = upd H T (.tup [.int (i : Nat), x]) ∧ ∀ xs, SqT K H a xs → xs[i]? = some x,
    fun i H => ∃ xs : List V, SqT K H a xs ∧ xs.length = i⟩
theorem turn_enumT {P : Program} {w : World} {K : PySem.W.Frag} {elts : List Expr} {kk : Nat} {tpos : Pos} (a e it : Addr) (hai : a ≠ it) (hae : a ≠ e) :
    Turn P w K (.Tuple elts kk tpos) (IteT K a) [e, it] e (fun i h => (∃ old, IsEnum h e it ((i : Nat) : Int) old) ∧ h.IsTupleIter it a i ∧ e ≠ it) where
  mem := by simp
  obj := fun i h st b hb => by
    obtain ⟨⟨old, he⟩, ⟨o, ho, hc, hd⟩, _⟩ := st
    have e' : b = e ∨ b = it := by simpa using hb
    rcases e' with z | z
    · rw [z]; exact ⟨_, he, fun v q => nomatch q⟩
    · rw [z]; exact ⟨o, ho, fun v q => by rw [hd] at q; cases q⟩
  keep := fun i h h' st k => let ⟨⟨old, he⟩, hi, hne⟩ := st; ⟨⟨old, k e (by simp) _ he⟩, hi.at fun o q => k it (by simp) o q, hne⟩
  item := by
    intro X hP hw hK hc i pins s σ H E I hf st hg
    subst hP hw hK
    obtain ⟨⟨old, he⟩, hit, hne⟩ := st
    obtain ⟨xs, x, hq, hx⟩ := hg
    obtain ⟨its, rv, p, hz⟩ := I.tuple hq
    obtain ⟨u, hu, ru⟩ := rv.get hx
    have hel : e < s.heap.objs.size := Heap.lt_size he
    have hil : it < s.heap.objs.size := by obtain ⟨_, q, _⟩ := hit; exact Heap.lt_size q
    have hin : i < its.toArray.size := by
      have := (List.getElem?_eq_some_iff.mp hu).1
      simpa using this
    refine wpAny_pyNext_enum_itemC (n := its.toArray.size) (P := fun i v => its.toArray[i]? = some v) (Draws.tuple (A := X.A.in1) (I.ok.hd hc) it a hai its.toArray) he ⟨hit, p⟩ hin hne (by simp only [List.mem_cons, List.not_mem_nil, or_false, not_or]; exact ⟨hne, Ne.symm hae⟩) fun v h' tk hv ho hst' hT hsz hk => ?_
    have ev : v = u := by
      have hu' : its.toArray[i]? = some u := by simpa using hu
      rw [hu'] at hv
      exact (Option.some.inj hv).symm
    subst ev
    refine ⟨_, rfl, wpAny_letOwnedTupleGo_enum (s := { s with heap := h', toks := tk + 1 }) ho fun h'' he' sb => ?_⟩
    have hT2 : h''.get? s.heap.objs.size = some { cls := .type "tuple", data := .seq #[.int i tk, v] } := (sb.2 _ (Nat.ne_of_gt hel)).trans hT
    have new : ObjOk X.prog X.w (upd H s.heap.objs.size (.tup [.int (i : Nat), x])) h'' s.heap.objs.size (.tup [.int (i : Nat), x]) :=
      ⟨by show 2 ≤ sizeLine; decide, [.int i tk, v], .cons ⟨_, rfl⟩ (.cons ru .nil), ⟨_, hT2, rfl, _, rfl⟩⟩
    have I1 : Inv X pins σ (upd H s.heap.objs.size (.tup [.int (i : Nat), x])) { s with heap := h'', toks := tk + 1 } :=
      I.turnedNew (ch := [e, it]) (fun b ob hb q => (sb.2 b (fun z => hb (by simp [z]))).trans (hk b ob (fun z => hb (by simp [z])) (fun z => hb (by simp [z])) q)) hf (Nat.le_refl _) new
    refine ⟨.ref s.heap.objs.size, _, I1, rfl, ⟨_, x, rfl, I.hok.fresh (Nat.le_refl _), rfl, fun ys hy => ?_⟩, ⟨⟨v, ?_⟩, hst'.1.at fun o q => (sb.2 it (Ne.symm hne)).trans q, hne⟩, fun b hb => ?_⟩
    · rw [I.tuple_inj hy hq]; exact hx
    · have e1 : ((i + 1 : Nat) : Int) = (i : Int) + 1 := by omega
      rw [e1]; exact he'
    · have hb' : b < s.heap.objs.size := by
        have e' : b = e ∨ b = it := by simpa using hb
        rcases e' with z | z
        · rw [z]; exact hel
        · rw [z]; exact hil
      rw [upd_ne (Nat.ne_of_lt hb')]
      exact (hf b hb).1
  done := by
    intro X hP hw hK hc i pins s σ H E I hf st hg
    subst hP hw hK
    obtain ⟨⟨old, he⟩, hit, hne⟩ := st
    obtain ⟨xs, hq, hx⟩ := hg
    obtain ⟨its, rv, p, hz⟩ := I.tuple hq
    obtain ⟨f0, f1, f2, f3, f4, f5⟩ := hf it (by simp)
    have hl := rv.length
    have hn : its.toArray.size = i := by rw [← hx, hl]; simp
    refine wpAny_pyNext_enum_endD (n := its.toArray.size) (P := fun i v => its.toArray[i]? = some v) (Draws.tuple (A := X.A.in1) (I.ok.hd hc) it a hai its.toArray) he ⟨by rw [hn]; exact hit, p⟩ fun h' eb => ⟨rfl, I.turned (t' := s.toks) (fun b o hb q => eb b o hb q) f0 f1 f3 f4 f5⟩
  self := fun A i s Q E st h => let ⟨⟨_, he⟩, _⟩ := st; wpAny_pyIter_enum he h
def iEnumT (K : PySem.W.Frag) (ta : TA) : TI := fun σ H R => ta σ H fun vs H1 => ∃ a xs, vs = [.ref a] ∧ SqT K H1 a xs ∧ R (IteT K a) H1
theorem pi_enumT {X : Cx} {e : Expr} {ta : TA} {p pos tpos : Pos} {elts : List Expr} {kk : Nat} (hg : Gl X "enumerate") (hm : X.mg "enumerate" = none) (ha : PA X [e] ta) (hs : starEach [e] X.env = [(false, eval e X.env)] := by rfl) :
    PI X (.Tuple elts kk tpos) (.Call (.Name "enumerate" p) [e] [] pos) (iEnumT X.K ta) := by
  refine ⟨fun pins s σ H R I h => ?_⟩
  refine Call_ (ld_blt I hg hm boot_enumerate (PyProof.Rows.callWith_type1 (thn (ha.run pos pins s σ H _ I h) fun us s1 ⟨vs, H1, I1, r1, q1⟩ => ?_) hs rfl))
  obtain ⟨a, xs, ex, hq, q⟩ := q1
  subst ex
  cases r1 with
  | cons r rr =>
    cases rr
    cases r
    obtain ⟨its, rv, p', hz⟩ := I1.tuple hq
    have hal : a < s1.heap.objs.size := p'.lt
    refine k48_call_enumT p' fun h' he hit hsz hk => wpAny_pyIter_enum he ?_
    have I2 : Inv X pins σ H1 { s1 with heap := h' } := I1.kept (t' := s1.toks) hk
    refine ⟨s1.heap.objs.size + 1, [s1.heap.objs.size + 1, s1.heap.objs.size], _, _, H1, rfl, I2, turn_enumT a (s1.heap.objs.size + 1) s1.heap.objs.size (Nat.ne_of_lt hal) (Nat.ne_of_lt (Nat.lt_succ_of_lt hal)), ⟨⟨.none, he⟩, hit, Nat.succ_ne_self _⟩, fun b hb => ?_, q⟩
    have e' : b = s1.heap.objs.size + 1 ∨ b = s1.heap.objs.size := by simpa using hb
    have hle : s1.heap.objs.size ≤ b := by
      rcases e' with z | z
      · rw [z]; exact Nat.le_add_right _ _
      · rw [z]; exact Nat.le_refl _
    exact I1.fpOk hle (I1.hok.fresh hle)
theorem walk_enumT {K : PySem.W.Frag} {a : Addr} {xs : List V} : Walk (IteT K a) xs.length (fun H => SqT K H a xs) (YPair (fun i => some (.int (i : Nat))) (fun i => xs[i]?)) := by
  refine ⟨fun i _ hi q => ⟨xs, xs[i], q, by simp [hi]⟩, fun _ q => ⟨xs, q, rfl⟩, fun i H v H' _ q y => ?_⟩
  obtain ⟨T, x, h1, h2, h3, h4⟩ := y
  exact ⟨T, .int (i : Nat), x, h1, h2, h3, rfl, h4 xs q⟩
end K48
/-! More rules: tests, slices, calls, displays -/
namespace K48
open PySem PySem.Spec PyProof.Rows L2
section
variable {X : Cx} {I : HI} {μ : D} {δ : De} {e a b c : Expr} {es rest : List Expr} {Q : D → Prop} {E : EndsD} {pos : Pos} {σ : L2.St} {H : Hp}

/-! ### tests -/
theorem WT_val {Q : Bool → Prop} (h : W X I μ δ e fun d => ∃ k, d = .bl k ∧ Q k) (he : ∀ whole, isTrue e X.env whole = (do let v ← whole; standAt e.pos; holding [v] (truthy v)) := by intro _; rfl) : WT X I μ δ e Q := fun σ H r K k => by
  refine tt_of (pt_val pe_W he) ?_
  refine h σ H r _ fun d v H' r' x rep q => ?_
  obtain ⟨c, rfl, q⟩ := q
  exact ⟨c, rep, k c H' r' x q⟩
theorem WT_not {Q : Bool → Prop} (h : WT X I μ δ a fun k => Q (!k)) : WT X I μ δ (.UnaryOp .Not a pos) Q := fun σ H r K k => tt_of (pt_not pt_W) (h σ H r _ fun c H' r' x q => k (!c) H' r' x q)
theorem WT_ww {Q : Bool → Prop} (h : WW X I μ δ e Q) : WT X I μ δ e Q := fun σ H r K k => tt_of (PW.pt pw_W) (h σ H r K k)
theorem WW_and1 {Q : Bool → Prop} (h : WT X I μ δ a Q) : WW X I μ δ (.BoolOp .And [a] pos) Q := fun σ H r K k => tw_of (pw_and1 pt_W) (h σ H r K k)
theorem WW_or1 {Q : Bool → Prop} (h : WT X I μ δ a Q) : WW X I μ δ (.BoolOp .Or [a] pos) Q := fun σ H r K k => tw_of (pw_or1 pt_W) (h σ H r K k)
theorem WW_and {Q : Bool → Prop} (h : WT X I μ δ a fun c => (c = true → WW X I μ δ (.BoolOp .And (b :: rest) pos) Q) ∧ (c = false → Q false)) : WW X I μ δ (.BoolOp .And (a :: b :: rest) pos) Q := fun σ H r K k => by
  refine tw_of (pw_and pt_W pw_W) (h σ H r _ fun c H' r' x q => ?_)
  cases c with
  | true => exact q.1 rfl σ H' r' K fun c H'' r'' x' q' => k c H'' r'' (x.trans x') q'
  | false => exact k false H' r' x (q.2 rfl)
theorem WW_or {Q : Bool → Prop} (h : WT X I μ δ a fun c => (c = true → Q true) ∧ (c = false → WW X I μ δ (.BoolOp .Or (b :: rest) pos) Q)) : WW X I μ δ (.BoolOp .Or (a :: b :: rest) pos) Q := fun σ H r K k => by
  refine tw_of (pw_or pt_W pw_W) (h σ H r _ fun c H' r' x q => ?_)
  cases c with
  | true => exact k true H' r' x (q.1 rfl)
  | false => exact q.2 rfl σ H' r' K fun c H'' r'' x' q' => k c H'' r'' (x.trans x') q'
theorem W_one {op} (h : W X I μ δ a Q) : W X I μ δ (.BoolOp op [a] pos) Q := fun σ H r K k => te_of (pe_one pe_W) (h σ H r K k)
theorem W_and (h : W X I μ δ a fun d => ∃ c, d = .bl c ∧ (c = true → W X I μ δ (.BoolOp .And (b :: rest) pos) Q) ∧ (c = false → Q (.bl false))) : W X I μ δ (.BoolOp .And (a :: b :: rest) pos) Q := fun σ H r K k => by
  refine te_of (pe_and pe_W pe_W) (h σ H r _ fun d v H' r' x rep q => ?_)
  obtain ⟨c, rfl, q⟩ := q
  refine ⟨c, rep, ?_⟩
  cases c with
  | true => exact q.1 rfl σ H' r' K fun c v H'' r'' x' rep' q' => k c v H'' r'' (x.trans x') rep' q'
  | false => exact k (.bl false) _ H' r' x rfl (q.2 rfl)
theorem W_not (h : W X I μ δ a fun d => ∃ c, d = .bl c ∧ Q (.bl (!c))) : W X I μ δ (.UnaryOp .Not a pos) Q := fun σ H r K k => by
  refine te_of (pe_not pe_W) (h σ H r _ fun d v H' r' x rep q => ?_)
  obtain ⟨c, rfl, q⟩ := q
  exact ⟨c, rep, k (.bl (!c)) _ H' r' x rfl q⟩
theorem W_ifexp (h : WT X I μ δ c fun k => (k = true → W X I μ δ a Q) ∧ (k = false → W X I μ δ b Q)) : W X I μ δ (.IfExp c a b pos) Q := fun σ H r K k => by
  refine te_of (pe_ifExp pt_W pe_W pe_W) (h σ H r _ fun d H' r' x q => ?_)
  cases d with
  | true => exact q.1 rfl σ H' r' K fun c v H'' r'' x' rep' q' => k c v H'' r'' (x.trans x') rep' q'
  | false => exact q.2 rfl σ H' r' K fun c v H'' r'' x' rep' q' => k c v H'' r'' (x.trans x') rep' q'
/-- a <= b <= c of ints -/
theorem chain_t {K : VK} {Q : Bool → Prop} (h : W X I μ δ a fun d1 => W X I μ δ b fun d2 => IntD d1 d2 fun i j => (i ≤ j → W X I μ δ c fun d3 => ∃ k, d3 = .int k ∧ Q (decide (j ≤ k))) ∧ (¬ i ≤ j → Q false)) (r : RS I μ δ σ H)
    (k : ∀ z H', RS I μ δ σ H' → Ext I.m H H' → Q z → K (.bl z) H') : tChain (rI0 fun i j => .bl (decide (i ≤ j))) (rI0 fun i j => .bl (decide (i ≤ j))) (teW X a) (teW X b) (teW X c) σ H K := by
  refine h σ H r _ fun d1 v1 H1 r1 x1 rep1 q1 => ?_
  refine q1 σ H1 r1 _ fun d2 v2 H2 r2 x2 rep2 q2 => ?_
  cases d1 <;> cases d2 <;> first | exact False.elim q2 | skip
  rename_i i j
  cases rep1; cases rep2
  refine ⟨i, j, rfl, rfl, decide (i ≤ j), rfl, ?_⟩
  by_cases hij : i ≤ j
  · rw [decide_eq_true hij, if_pos rfl]
    refine q2.1 hij σ H2 r2 _ fun d3 v3 H3 r3 x3 rep3 q3 => ?_
    obtain ⟨n, rfl, q3⟩ := q3
    cases rep3
    exact ⟨j, n, rfl, rfl, k _ H3 r3 ((x1.trans x2).trans x3) q3⟩
  · rw [decide_eq_false hij, if_neg (by decide)]
    exact k _ H2 r2 (x1.trans x2) (q2.2 hij)
theorem W_chain (h : W X I μ δ a fun d1 => W X I μ δ b fun d2 => IntD d1 d2 fun i j => (i ≤ j → W X I μ δ c fun d3 => ∃ k, d3 = .int k ∧ Q (.bl (decide (j ≤ k)))) ∧ (¬ i ≤ j → Q (.bl false))) (hm : lastMarks [.LtE, .LtE] [b, c] = false := by with_unfolding_all rfl) : W X I μ δ (.Compare a [.LtE, .LtE] [b, c] pos) Q := fun σ H r K k =>
  te_of (pe_chain op_le op_le pe_W pe_W pe_W hm) (chain_t (Q := fun z => Q (.bl z)) h r fun z H' r' x q => k (.bl z) _ H' r' x rfl q)
theorem WT_chain {Q : Bool → Prop} (h : W X I μ δ a fun d1 => W X I μ δ b fun d2 => IntD d1 d2 fun i j => (i ≤ j → W X I μ δ c fun d3 => ∃ k, d3 = .int k ∧ Q (decide (j ≤ k))) ∧ (¬ i ≤ j → Q false)) (hm : lastMarks [.LtE, .LtE] [b, c] = false := by with_unfolding_all rfl) : WT X I μ δ (.Compare a [.LtE, .LtE] [b, c] pos) Q := fun σ H r K k =>
  tt_of (pt_chain op_le op_le pe_W pe_W pe_W hm) (chain_t (K := fun x H' => ∃ z, x = .bl z ∧ K z H') h r fun z H' r' x q => ⟨z, rfl, k z H' r' x q⟩)

/-! ### slices -/
def WO (X : Cx) (I : HI) (μ : D) (δ : De) (p : Option Expr) (Q : Option Int → Prop) : Prop := match p with
  | none => Q none
  | some e => W X I μ δ e fun d => ∃ i, d = .int i ∧ Q (some i)
def toW (X : Cx) (p : Option Expr) : TO := match p with
  | none => tNoPart
  | some e => tPart (teW X e)
theorem po_W : ∀ {p : Option Expr}, PO X p (toW X p)
  | none => po_none
  | some _ => po_some pe_W
theorem WO.run {p : Option Expr} {Q : Option Int → Prop} (h : WO X I μ δ p Q) (r : RS I μ δ σ H) {K : Option Int → Hp → Prop} (k : ∀ i H', RS I μ δ σ H' → Ext I.m H H' → Q i → K i H') : toW X p σ H K := by
  cases p with
  | none => exact k none H r Ext.refl h
  | some e =>
    refine h σ H r _ fun d v H' r' x rep q => ?_
    obtain ⟨i, rfl, q⟩ := q
    exact ⟨i, rep, k (some i) H' r' x q⟩
def cutD (xs : List D) (lo hi : Option Int) : List D := (xs.drop (HT.sIx xs.length 0 lo)).take (HT.sIx xs.length xs.length hi - HT.sIx xs.length 0 lo)
theorem cutD_rep {m : Addr → Prop} {xs : List D} {vs : List V} (h : RepL m H xs vs) (lo hi : Option Int) : RepL m H (cutD xs lo hi) (cutV vs lo hi) := by
  unfold cutD cutV
  rw [h.len]
  exact (h.drop _).take _
theorem cutD_all {xs : List D} {lo hi : Option Int} (h1 : HT.sIx xs.length 0 lo = 0) (h2 : HT.sIx xs.length xs.length hi = xs.length) : cutD xs lo hi = xs := by
  unfold cutD
  rw [h1, h2, List.drop_zero, Nat.sub_zero, List.take_length]
theorem W_slT {lo hi : Option Expr} {p2 : Pos} (h : W X I μ δ a fun d => WO X I μ δ lo fun l => WO X I μ δ hi fun u => ∃ xs, d = .tup xs ∧ Q (.tup (cutD xs l u))) : W X I μ δ (.Subscript a (.Slice lo hi none p2) pos) Q := fun σ H r K k => by
  refine te_of (pe_slice sl_tupA pe_W po_W po_W) ?_
  refine h σ H r _ fun d v H1 r1 x1 rep q => ?_
  refine q.run r1 fun l H2 r2 x2 q2 => ?_
  refine q2.run r2 fun u H3 r3 x3 q3 => ?_
  obtain ⟨xs, rfl, q4⟩ := q3
  obtain ⟨p, vs, rfl, hm, hx, rl⟩ := Rep.ext (x2.trans x3) _ _ rep
  refine ⟨p, vs, rfl, .inl (.inl hx), fun e => ?_, fun _ p' hp => ?_⟩
  · rw [← rl.len] at e
    rw [cutD_all e.1 e.2] at q4
    exact k (.tup xs) _ H3 r3 ((x1.trans x2).trans x3) ⟨p, vs, rfl, hm, hx, rl⟩ q4
  · exact Gives.tup r3 (fun d v H' r' x' rep q => k d v H' r' (((x1.trans x2).trans x3).trans x') rep q) (cutD_rep rl l u) q4 hp
theorem W_slL {lo hi : Option Expr} {p2 : Pos} (h : W X I μ δ a fun d => WO X I μ δ lo fun l => WO X I μ δ hi fun u => ∃ xs, d = .lst xs ∧ Q (.lst (cutD xs l u))) : W X I μ δ (.Subscript a (.Slice lo hi none p2) pos) Q := fun σ H r K k => by
  refine te_of (pe_slice sl_list pe_W po_W po_W) ?_
  refine h σ H r _ fun d v H1 r1 x1 rep q => ?_
  refine q.run r1 fun l H2 r2 x2 q2 => ?_
  refine q2.run r2 fun u H3 r3 x3 q3 => ?_
  obtain ⟨xs, rfl, q4⟩ := q3
  obtain ⟨p, vs, rfl, hm, hx, rl⟩ := Rep.ext (x2.trans x3) _ _ rep
  refine ⟨p, vs, rfl, .inl (.inl hx), fun p' hp => ?_⟩
  exact Gives.lst r3 (fun d v H' r' x' rep q => k d v H' r' (((x1.trans x2).trans x3).trans x') rep q) (cutD_rep rl l u) q4 hp

/-! ### calls of built-ins -/
theorem W_callB {x : Str} {id : String} {r : List V → Hp → VK → Prop} {P : List D → Prop} {p : Pos} (hc : CallR X (.builtin id) r) (hm : X.mg x = none) (hv : bootBuiltins x = some (.builtin id)) (h : WA X I μ δ (e :: es) P)
    (hr : ∀ ds vs σ H (K : VK), P ds → RS I μ δ σ H → RepL I.m H ds vs → Gives I μ δ σ H Q K → r vs H K)
    (hg : Gl X x := by rfl) (hn : x ≠ "__name__" := by decide) (hdb : (x == ("__debug__" : Str)) = false := by decide) (he : starEach (e :: es) X.env = (false, eval e X.env) :: starEach es X.env := by rfl) (hpl : (backTo pos (starEach es X.env)).any (·.1) = false := by rfl) :
    W X I μ δ (.Call (.Name x p) (e :: es) [] pos) Q := fun σ H rs K k => by
  refine te_of (pe_callB hc hg hm hv pa_W hn hdb he hpl) ?_
  exact h σ H rs _ fun ds vs H' r' x' rl q => hr ds vs σ H' K q r' rl fun d v H'' r'' x'' rep q => k d v H'' r'' (x'.trans x'') rep q
theorem W_callTy {x : Str} {T : String} {r : List V → Hp → VK → Prop} {P : List D → Prop} {p : Pos} (hc : CallR X (.type T) r) (hm : X.mg x = none) (hv : bootBuiltins x = some (.type T)) (h : WA X I μ δ (e :: es) P)
    (hr : ∀ ds vs σ H (K : VK), P ds → RS I μ δ σ H → RepL I.m H ds vs → Gives I μ δ σ H Q K → r vs H K)
    (hg : Gl X x := by rfl) (hn : x ≠ "__name__" := by decide) (hdb : (x == ("__debug__" : Str)) = false := by decide) (he : starEach (e :: es) X.env = (false, eval e X.env) :: starEach es X.env := by rfl) (hpl : (backTo pos (starEach es X.env)).any (·.1) = false := by rfl) :
    W X I μ δ (.Call (.Name x p) (e :: es) [] pos) Q := fun σ H rs K k => by
  refine te_of (pe_callTy hc hg hm hv pa_W hn hdb he hpl) ?_
  exact h σ H rs _ fun ds vs H' r' x' rl q => hr ds vs σ H' K q r' rl fun d v H'' r'' x'' rep q => k d v H'' r'' (x'.trans x'') rep q
/-- a list or a tuple, or the own list -/
def SeqD (I : HI) (μ : D) (d : D) (P : List D → Prop) : Prop := match d with
  | .tup xs => P xs
  | .lst xs => P xs
  | .adr a => I.own = some a ∧ (match μ with | .lst xs => P xs | _ => False)
  | _ => False
theorem seqD_at {K : PySem.W.Frag} {d : D} {v : V} {P : List D → Prop} (r : RS I μ δ σ H) (rep : Rep I.m H d v) (h : SeqD I μ d P) : ∃ p vs xs, v = .ref p ∧ (SqL K H p vs ∨ SqT K H p vs) ∧ RepL I.m H xs vs ∧ P xs := by
  cases d <;> first | exact False.elim h | skip
  · obtain ⟨o, h⟩ := h
    obtain ⟨_, _, _, q⟩ := r.ownOk _ o
    cases μ <;> first | exact False.elim h | skip
    obtain ⟨vs, h1, h2⟩ := q
    exact ⟨_, vs, _, rep, .inl (.inl (.inl h1)), h2, h⟩
  · obtain ⟨p, vs, rfl, _, hx, rl⟩ := rep
    exact ⟨p, vs, _, rfl, .inr (.inl (.inl hx)), rl, h⟩
  · obtain ⟨p, vs, rfl, _, hx, rl⟩ := rep
    exact ⟨p, vs, _, rfl, .inl (.inl (.inl hx)), rl, h⟩
theorem repl1 {m : Addr → Prop} {d : D} {vs : List V} (h : RepL m H [d] vs) : ∃ v, vs = [v] ∧ Rep m H d v := by
  match vs, h with
  | [v], h => exact ⟨v, rfl, h.1⟩
  | [], h => exact False.elim h
  | _ :: _ :: _, h => exact False.elim h.2
theorem repl2 {m : Addr → Prop} {d d2 : D} {vs : List V} (h : RepL m H [d, d2] vs) : ∃ v v2, vs = [v, v2] ∧ Rep m H d v ∧ Rep m H d2 v2 := by
  match vs, h with
  | [v, v2], h => exact ⟨v, v2, rfl, h.1, h.2.1⟩
  | [], h => exact False.elim h
  | [_], h => exact False.elim h.2
  | _ :: _ :: _ :: _, h => exact False.elim h.2.2
theorem WA1 {Q : List D → Prop} (h : W X I μ δ a fun d => Q [d]) (hs : starEach [a] X.env = (false, eval a X.env) :: starEach [] X.env := by rfl) : WA X I μ δ [a] Q := WA_cons (h.mono fun d q => WA_nil q) hs
theorem W_len {p : Pos} (hm : X.mg "len" = none) (h : W X I μ δ a fun d => SeqD I μ d fun xs => Q (.int xs.length)) (hg : Gl X "len" := by rfl) (he : starEach [a] X.env = (false, eval a X.env) :: starEach [] X.env := by rfl) : W X I μ δ (.Call (.Name "len" p) [a] [] pos) Q :=
  W_callB (P := fun ds => ∃ d, ds = [d] ∧ SeqD I μ d fun xs => Q (.int xs.length)) call_len_seq hm PySem.boot_len (WA1 (h.mono fun d q => ⟨d, rfl, q⟩) he) (fun ds vs σ H K q r rl k => by
    obtain ⟨d, rfl, q⟩ := q
    obtain ⟨v, rfl, rep⟩ := repl1 rl
    obtain ⟨p, vs, xs, rfl, s, rl2, q⟩ := seqD_at (K := X.K) r rep q
    refine ⟨p, vs, rfl, s, ?_⟩
    rw [← rl2.len]
    exact k.int r q) hg (by decide) (by decide) he
theorem W_listOf {p : Pos} (hm : X.mg "list" = none) (h : W X I μ δ a fun d => SeqD I μ d fun xs => Q (.lst xs)) (hg : Gl X "list" := by rfl) (he : starEach [a] X.env = (false, eval a X.env) :: starEach [] X.env := by rfl) : W X I μ δ (.Call (.Name "list" p) [a] [] pos) Q :=
  W_callTy (P := fun ds => ∃ d, ds = [d] ∧ SeqD I μ d fun xs => Q (.lst xs)) call_list_of hm PyProof.Rows.boot_list (WA1 (h.mono fun d q => ⟨d, rfl, q⟩) he) (fun ds vs σ H K q r rl k => by
    obtain ⟨d, rfl, q⟩ := q
    obtain ⟨v, rfl, rep⟩ := repl1 rl
    obtain ⟨p, vs, xs, rfl, s, rl2, q⟩ := seqD_at (K := X.K) r rep q
    exact ⟨p, vs, rfl, s, fun l hl => k.lst r rl2 q hl⟩) hg (by decide) (by decide) he
/-- tuple(list) -/
theorem W_tupleOf {p : Pos} (hm : X.mg "tuple" = none) (h : W X I μ δ a fun d => ∃ xs, lookD μ d = .lst xs ∧ Own I d ∧ Q (.tup xs)) (hg : Gl X "tuple" := by rfl) (he : starEach [a] X.env = (false, eval a X.env) :: starEach [] X.env := by rfl) : W X I μ δ (.Call (.Name "tuple" p) [a] [] pos) Q :=
  W_callTy (P := fun ds => ∃ d, ds = [d] ∧ ∃ xs, lookD μ d = .lst xs ∧ Own I d ∧ Q (.tup xs)) call_tuple_of hm PyProof.Rows.boot_tuple (WA1 (h.mono fun d q => ⟨d, rfl, q⟩) he) (fun ds vs σ H K q r rl k => by
    obtain ⟨d, rfl, xs, e, o, q⟩ := q
    obtain ⟨v, rfl, rep⟩ := repl1 rl
    obtain ⟨p, vs, rfl, h1, rl2⟩ := list_at r rep o e
    exact ⟨p, vs, rfl, .inl ⟨.inl (.inl h1), fun l hl => k.tup r rl2 q hl⟩⟩) hg (by decide) (by decide) he
theorem flat_bools {m : Addr → Prop} : ∀ {ns : List Bool} {vs : List V}, RepL m H (ns.map D.bl) vs → vs = ns.map V.bl
  | [], [], _ => rfl
  | n :: ns, v :: vs, h => by
    rw [List.map_cons, ← flat_bools h.2]
    have : v = .bl n := h.1
    rw [this]
  | [], _ :: _, h => False.elim h
  | _ :: _, [], h => False.elim h
theorem W_all {p : Pos} (hX : XOk X) (hm : X.mg "all" = none) (h : W X I μ δ a fun d => ∃ bs : List Bool, d = .lst (bs.map D.bl) ∧ Q (.bl (bs.all id))) (hg : Gl X "all" := by rfl) (he : starEach [a] X.env = (false, eval a X.env) :: starEach [] X.env := by rfl) : W X I μ δ (.Call (.Name "all" p) [a] [] pos) Q :=
  W_callB (P := fun ds => ∃ d, ds = [d] ∧ ∃ bs : List Bool, d = .lst (bs.map D.bl) ∧ Q (.bl (bs.all id))) (cr_all hX.calm) hm (by decide +kernel) (WA1 (h.mono fun d q => ⟨d, rfl, q⟩) he) (fun ds vs σ H K q r rl k => by
    obtain ⟨d, rfl, bs, rfl, q⟩ := q
    obtain ⟨v, rfl, p, vs, rfl, _, hx, rl2⟩ := repl1 rl
    rw [flat_bools rl2] at hx
    exact ⟨p, bs, rfl, .inl (.inl hx), k.bl r q⟩) hg (by decide) (by decide) he
theorem W_min {p : Pos} (hX : XOk X) (hm : X.mg "min" = none) (h : WA X I μ δ [a, b] fun ds => ∃ i j, ds = [.int i, .int j] ∧ Q (.int (if j < i then j else i))) (hg : Gl X "min" := by rfl)
    (he : starEach [a, b] X.env = (false, eval a X.env) :: starEach [b] X.env := by rfl) (hpl : (backTo pos (starEach [b] X.env)).any (·.1) = false := by rfl) : W X I μ δ (.Call (.Name "min" p) [a, b] [] pos) Q :=
  W_callB (call_min2 hX.calm) hm (by decide +kernel) h (fun ds vs σ H K q r rl k => by
    obtain ⟨i, j, rfl, q⟩ := q
    obtain ⟨v, v2, rfl, h1, h2⟩ := repl2 rl
    cases h1; cases h2
    exact ⟨i, j, rfl, k.int r q⟩) hg (by decide) (by decide) he hpl
/-- isinstance(x, T), T a built-in class by its name -/
def tyD : D → Option String
  | .non => some "NoneType"
  | .bl _ => some "bool"
  | .int _ => some "int"
  | .str _ => some "str"
  | .tup _ => some "tuple"
  | .lst _ => some "list"
  | _ => none
theorem tyD_at {K : PySem.W.Frag} {m : Addr → Prop} {d : D} {v : V} {T : String} (rep : Rep m H d v) (e : tyD d = some T) : TyX K H v (.type T) := by
  cases d <;> cases e
  · rw [show v = .non from rep]; exact .base .non
  · rw [show v = .bl _ from rep]; exact .base (.bl _)
  · rw [show v = .int _ from rep]; exact .base (.int _)
  · rw [show v = .str _ from rep]; exact .base (.str _)
  · obtain ⟨a, xs, rfl, _, h, _⟩ := rep; exact .base (.tup h)
  · obtain ⟨a, xs, rfl, _, h, _⟩ := rep; exact .base (.lst h)
theorem W_isi {p p2 : Pos} {T : Str} {n : String} (hm : X.mg "isinstance" = none) (hT : X.mg T = none) (hv : bootBuiltins T = some (.type n)) (h : W X I μ δ a fun d => ∃ S b, tyD d = some S ∧ kitB S n = some b ∧ Q (.bl b)) (hg : Gl X "isinstance" := by rfl) (hgT : Gl X T := by rfl)
    (hn : T ≠ "__name__" := by decide) (hdb : (T == ("__debug__" : Str)) = false := by decide)
    (hs1 : starEach [a, .Name T p2] X.env = (false, eval a X.env) :: starEach [.Name T p2] X.env := by rfl) (hs2 : starEach [.Name T p2] X.env = (false, eval (.Name T p2) X.env) :: starEach [] X.env := by rfl)
    (hpl : (backTo pos (starEach [.Name T p2] X.env)).any (·.1) = false := by rfl) : W X I μ δ (.Call (.Name "isinstance" p) [a, .Name T p2] [] pos) Q := fun σ H r K k => by
  refine te_of (pe_callB call_isi hg hm (by decide +kernel) (pa_cons pe_W (pa_cons (pe_bltn (v := .ty n) hgT hT hv rfl hn hdb) pa_nil hs2) hs1) (by decide) (by decide) hs1 hpl) ?_
  refine h σ H r _ fun d v H' r' x rep q => ?_
  obtain ⟨S, b, e, ek, q⟩ := q
  exact ⟨v, .ty n, .type S, .type n, b, rfl, .ty n, tyD_at rep e, kit_ty ek, k (.bl b) _ H' r' x rfl q⟩

/-! ### the program's own defs -/
/-- a def's promise over data: P from the arguments to what is wanted -/
def spD (P : List D → (D → Prop) → Prop) : Sp := fun vs H Q _ => ∃ m ds R, (∀ a, m a → Hid (H a)) ∧ RepL m H ds vs ∧ P ds R ∧ ∀ d v H', Same H H' → Rep m H' d v → R d → Q v H'
/-- .. of a def whose first argument is the cup -/
def spC (P : List D → (D → Prop) → Prop) : Sp := fun vs H Q _ => ∃ (m : Addr → Prop) (c : Addr) (ds : List D) (R : D → Prop), m c ∧ (∀ a, m a → Hid (H a)) ∧ CupAt c H ∧ RepL m H (.adr c :: ds) vs ∧ P ds R ∧
  ∀ d v H', (∀ a o, a ≠ c → H a = some o → H' a = some o) → CupAt c H' → Rep m H' d v → R d → Q v H'
structure DefOk (P : Program) (w : World) (K : PySem.W.Frag) (mg : Str → Option Value) (base : Heap) (x : Str) (k : Nat) (sp : Sp) : Prop where
  ex : ∃ f fd ps, FnOk P w K mg base CX0 k f fd ps sp ∧ mg x = some (.ref f) ∧ PySem.W.keepIn K (.ref f) = true ∧ Binds K fd ps []
theorem W_call {x : Str} {k : Nat} {P : List D → (D → Prop) → Prop} {p : Pos} (F : DefOk X.prog X.w X.K X.mg X.base x k (spD P)) (hr : Room k X.A) (h : WA X I μ δ (e :: es) fun ds => P ds Q)
    (hg : Gl X x := by rfl) (hdb : (x == ("__debug__" : Str)) = false := by decide) (he : starEach (e :: es) X.env = (false, eval e X.env) :: starEach es X.env := by rfl) (hpl : (backTo pos (starEach es X.env)).any (·.1) = false := by rfl) :
    W X I μ δ (.Call (.Name x p) (e :: es) [] pos) Q := fun σ H rs K kk => by
  obtain ⟨f, fd, ps, F, hm, hk, hb⟩ := F.ex
  refine te_of (pe_call F hr hg hm hk hb .nil pass0 pa_W hdb he hpl) ?_
  refine h σ H rs _ fun ds vs H' r' x' rl q => ?_
  rw [List.append_nil]
  exact ⟨I.m, ds, Q, r'.dom, rl, q, fun d v H'' s rep q => kk d v H'' (r'.same s) (x'.trans (Ext.of s)) rep q⟩
/-- the arguments change what stands at the own dict into the dict: it is read, and what is handed back holds no dict -/
def noDict : D → Bool
  | .dT _ _ | .dK _ _ => false
  | .tup xs | .lst xs => go xs
  | _ => true
where go : List D → Bool
  | [] => true
  | x :: xs => noDict x && go xs
theorem RS.cup {H' : Hp} {c : Addr} (r : RS I μ δ σ H) (hc : I.cup = some c) (hs : ∀ a o, a ≠ c → H a = some o → H' a = some o) (hk : CupAt c H') : RS I μ δ σ H' ∧ Ext I.m H H' := by
  have mc := (r.cm c hc).1
  have x : Ext I.m H H' := fun a o n h => hs a o (fun z => n (z ▸ mc)) h
  refine ⟨⟨⟨fun a o n e => hs a o (fun z => n (z ▸ hc)) (r.bs.base a o n e), fun c' e => ?_⟩, fun a h => ?_, r.cm, fun a e => ?_, r.mrm, r.env.map fun d v q => Rep.ext x d v q⟩, x⟩
  · have : c' = c := Option.some.inj (e.symm.trans hc)
    rw [this]; exact hk
  · by_cases hac : a = c
    · obtain ⟨x, y, e, _⟩ := hk
      rw [hac, e]; exact ⟨fun z => (nomatch z), fun xs z => nomatch z⟩
    · exact (r.dom a h).of fun o e => hs a o hac e
  · obtain ⟨a1, a2, a3, a4⟩ := r.ownOk a e
    have hac : a ≠ c := fun z => (r.cm c hc).2 (z ▸ e)
    refine ⟨a1, a2, a3, ?_⟩
    cases μ <;> first | exact False.elim a4 | skip
    · obtain ⟨xs, h1, h2⟩ := a4
      exact ⟨xs, hs a _ hac h1, RepL.ext x _ _ h2⟩
    · obtain ⟨ws, h1, h2, h3⟩ := a4
      exact ⟨ws, hs a _ hac h1, h2, RepL.ext x _ _ h3⟩
theorem W_callC {x : Str} {k : Nat} {P : List D → (D → Prop) → Prop} {p : Pos} {c : Addr} (F : DefOk X.prog X.w X.K X.mg X.base x k (spC P)) (hr : Room k X.A) (hc : I.cup = some c) (h : WA X I μ δ (e :: es) fun ds => ∃ ds', ds = .adr c :: ds' ∧ P ds' Q)
    (hg : Gl X x := by rfl) (hdb : (x == ("__debug__" : Str)) = false := by decide) (he : starEach (e :: es) X.env = (false, eval e X.env) :: starEach es X.env := by rfl) (hpl : (backTo pos (starEach es X.env)).any (·.1) = false := by rfl) :
    W X I μ δ (.Call (.Name x p) (e :: es) [] pos) Q := fun σ H rs K kk => by
  obtain ⟨f, fd, ps, F, hm, hk, hb⟩ := F.ex
  refine te_of (pe_call F hr hg hm hk hb .nil pass0 pa_W hdb he hpl) ?_
  refine h σ H rs _ fun ds vs H' r' x' rl q => ?_
  rw [List.append_nil]
  obtain ⟨ds', rfl, q⟩ := q
  refine ⟨I.m, c, ds', Q, (r'.cm c hc).1, r'.dom, r'.bs.cupOk c hc, rl, q, fun d v H'' hs hk rep q => ?_⟩
  obtain ⟨r2, x2⟩ := r'.cup hc hs hk
  exact kk d v H'' r2 (x'.trans x2) rep q
end
end K48
/-! Rules: dict displays, dict(pairs), d.get, what is walked, loops -/
namespace K48
open PySem PySem.Spec PyProof.Rows L2

/-! ### tables of data -/
section
variable {κ : Type} [DecidableEq κ]
def putA {β : Type} (kvs : List (κ × β)) (k : κ) (v : β) : List (κ × β) :=
  if (kvs.any fun kv => decide (kv.1 = k)) = true then kvs.map (fun kv => if kv.1 = k then (kv.1, v) else kv) else kvs ++ [(k, v)]
def lookA {β : Type} : List (κ × β) → κ → Option β
  | [], _ => none
  | p :: r, k => if p.1 = k then some p.2 else lookA r k
theorem valD_of (k : κ) : ∀ kvs : List (κ × D), valD (kvs.map Prod.fst) (kvs.map Prod.snd) k = lookA kvs k
  | [] => rfl
  | p :: r => by simp only [List.map_cons, valD, lookA]; rw [valD_of k r]
theorem lookA_put {β : Type} (k j : κ) (y : β) : ∀ kvs : List (κ × β), lookA (putA kvs k y) j = if k = j then some y else lookA kvs j := by
  have hmap : ∀ kvs : List (κ × β), lookA (kvs.map fun kv => if kv.1 = k then (kv.1, y) else kv) j = if k = j then (if (kvs.any fun kv => decide (kv.1 = k)) = true then some y else none) else lookA kvs j := by
    intro kvs
    induction kvs with
    | nil => by_cases h : k = j <;> simp [lookA, h]
    | cons p r ih =>
      simp only [List.map_cons, List.any_cons]
      by_cases h : p.1 = k
      · rw [if_pos h]
        simp only [lookA, decide_eq_true h, Bool.true_or, if_true]
        by_cases e : k = j
        · rw [if_pos (h.trans e), if_pos e]
        · rw [if_neg (fun z => e (h.symm.trans z)), if_neg e, ih, if_neg e, if_neg (fun z => e (h.symm.trans z))]
      · rw [if_neg h]
        simp only [lookA, decide_eq_false h, Bool.false_or]
        rw [ih]
        by_cases e : k = j
        · subst e
          rw [if_neg h]
          simp
        · rw [if_neg e, if_neg e]
  have happ : ∀ kvs : List (κ × β), (kvs.any fun kv => decide (kv.1 = k)) = false → lookA (kvs ++ [(k, y)]) j = if k = j then some y else lookA kvs j := by
    intro kvs
    induction kvs with
    | nil => intro _; simp [lookA]
    | cons p r ih =>
      intro h
      simp only [List.any_cons, Bool.or_eq_false_iff, decide_eq_false_iff_not] at h
      simp only [List.cons_append, lookA]
      rw [ih h.2]
      by_cases e : p.1 = j
      · rw [if_pos e, if_pos e, if_neg (fun z => h.1 (e.trans z.symm))]
      · rw [if_neg e, if_neg e]
  intro kvs
  unfold putA
  by_cases a : (kvs.any fun kv => decide (kv.1 = k)) = true
  · rw [if_pos a, hmap, if_pos a]
  · rw [if_neg a, happ kvs (Bool.eq_false_iff.mpr a)]
theorem any_fst {β γ : Type} {k : κ} : ∀ {xs : List (κ × β)} {ys : List (κ × γ)}, xs.map Prod.fst = ys.map Prod.fst → (xs.any fun kv => decide (kv.1 = k)) = ys.any fun kv => decide (kv.1 = k)
  | [], [], _ => rfl
  | [], _ :: _, h => by simp at h
  | _ :: _, [], h => by simp at h
  | p :: xs, q :: ys, h => by
    simp only [List.map_cons, List.cons.injEq] at h
    simp only [List.any_cons]
    rw [h.1, any_fst h.2]
/-- a table's data show in a table of values -/
def RepA (m : Addr → Prop) (H : Hp) (kvs : List (κ × D)) (ws : List (κ × V)) : Prop := ws.map Prod.fst = kvs.map Prod.fst ∧ RepL m H (kvs.map Prod.snd) (ws.map Prod.snd)
theorem RepA.put {m : Addr → Prop} {H : Hp} {k : κ} {d : D} {v : V} (r : Rep m H d v) : ∀ {kvs : List (κ × D)} {ws : List (κ × V)}, RepA m H kvs ws → RepA m H (putA kvs k d) (putK ws k v) := by
  have hrepl : ∀ {kvs : List (κ × D)} {ws : List (κ × V)}, RepA m H kvs ws → RepA m H (kvs.map fun kv => if kv.1 = k then (kv.1, d) else kv) (ws.map fun kv => if kv.1 = k then (kv.1, v) else kv) := by
    intro kvs
    induction kvs with
    | nil => intro ws h; cases ws with
      | nil => exact h
      | cons => simp [RepA] at h
    | cons p kvs ih => intro ws h; cases ws with
      | nil => simp [RepA] at h
      | cons q ws =>
        obtain ⟨h1, h2⟩ := h
        simp only [List.map_cons, List.cons.injEq] at h1
        obtain ⟨i1, i2⟩ := ih ⟨h1.2, h2.2⟩
        simp only [List.map_cons]
        by_cases e : p.1 = k
        · rw [if_pos e, if_pos (h1.1.trans e)]
          exact ⟨by simp only [List.map_cons, List.cons.injEq]; exact ⟨h1.1, i1⟩, ⟨r, i2⟩⟩
        · rw [if_neg e, if_neg (fun z => e (h1.1.symm.trans z))]
          exact ⟨by simp only [List.map_cons, List.cons.injEq]; exact ⟨h1.1, i1⟩, ⟨h2.1, i2⟩⟩
  intro kvs ws h
  unfold putA putK
  rw [any_fst h.1]
  by_cases e : (kvs.any fun kv => decide (kv.1 = k)) = true
  · rw [if_pos e, if_pos e]; exact hrepl h
  · rw [if_neg e, if_neg e]
    refine ⟨?_, ?_⟩
    · rw [List.map_append, List.map_append, h.1]; rfl
    · rw [List.map_append, List.map_append]
      exact RepL.app h.2 ⟨r, trivial⟩
def mergeA {β : Type} (kvs more : List (κ × β)) : List (κ × β) := more.foldl (fun acc kv => putA acc kv.1 kv.2) kvs
end
/-- a dict with tuple keys, with int and text keys -/
abbrev D.oT (kvs : List (List Key × D)) : D := .dT (kvs.map Prod.fst) (kvs.map Prod.snd)
abbrev D.oK (kvs : List (Key × D)) : D := .dK (kvs.map Prod.fst) (kvs.map Prod.snd)
theorem RepA.mergeT {m : Addr → Prop} {H : Hp} : ∀ {more : List (List Key × D)} {rs : List (List Key × V)} {kvs : List (List Key × D)} {ws : List (List Key × V)}, RepA m H more rs → RepA m H kvs ws → RepA m H (mergeA kvs more) (K48.mergeT ws rs)
  | [], [], _, _, _, h => h
  | [], _ :: _, _, _, h, _ => by simp [RepA] at h
  | _ :: _, [], _, _, h, _ => by simp [RepA] at h
  | p :: more, q :: rs, kvs, ws, h, k => by
    obtain ⟨h1, h2⟩ := h
    simp only [List.map_cons, List.cons.injEq] at h1
    have := RepA.mergeT (more := more) (rs := rs) (kvs := putA kvs p.1 p.2) (ws := putK ws p.1 q.2) ⟨h1.2, h2.2⟩ (RepA.put h2.1 k)
    show RepA m H (mergeA (putA kvs p.1 p.2) more) (K48.mergeT (putK ws q.1 q.2) rs)
    rw [h1.1]
    exact this
/-- plain data lean on tuples and lists alone -/
theorem Pl.keep {m m' : Addr → Prop} {H H' : Hp} (ht : ∀ a xs, ¬ m a → H a = some (.tup xs) → ¬ m' a ∧ H' a = some (.tup xs)) (hl : ∀ a xs, ¬ m a → H a = some (.lst xs) → ¬ m' a ∧ H' a = some (.lst xs)) : ∀ (n : Nat) (d : D) (v : V), Pl n d → Rep m H d v → Rep m' H' d v
  | n, .non, _, _, h => h
  | n, .int i, _, _, h => h
  | n, .str x, _, _, h => h
  | n + 1, .tup ds, _, p, ⟨a, xs, e1, hm, h, r⟩ => by
    have p : ∀ x ∈ ds, Pl n x := p
    have all : ∀ (ds : List D) (xs : List V), (∀ x ∈ ds, Pl n x) → RepL m H ds xs → RepL m' H' ds xs := by
      intro ds
      induction ds with
      | nil => intro xs _ r; cases xs with
        | nil => trivial
        | cons => exact False.elim r
      | cons d ds ih => intro xs p r; cases xs with
        | nil => exact False.elim r
        | cons x xs => exact ⟨Pl.keep ht hl n d x (p d List.mem_cons_self) r.1, ih xs (fun y hy => p y (List.mem_cons_of_mem _ hy)) r.2⟩
    exact ⟨a, xs, e1, (ht a xs hm h).1, (ht a xs hm h).2, all ds xs p r⟩
  | n + 1, .lst ds, _, p, ⟨a, xs, e1, hm, h, r⟩ => by
    have p : ∀ x ∈ ds, Pl n x := p
    have all : ∀ (ds : List D) (xs : List V), (∀ x ∈ ds, Pl n x) → RepL m H ds xs → RepL m' H' ds xs := by
      intro ds
      induction ds with
      | nil => intro xs _ r; cases xs with
        | nil => trivial
        | cons => exact False.elim r
      | cons d ds ih => intro xs p r; cases xs with
        | nil => exact False.elim r
        | cons x xs => exact ⟨Pl.keep ht hl n d x (p d List.mem_cons_self) r.1, ih xs (fun y hy => p y (List.mem_cons_of_mem _ hy)) r.2⟩
    exact ⟨a, xs, e1, (hl a xs hm h).1, (hl a xs hm h).2, all ds xs p r⟩
  | 0, .tup _, _, p, _ => False.elim p
  | 0, .lst _, _, p, _ => False.elim p
  | n, .bl _, _, p, _ => by cases n <;> exact False.elim p
  | n, .adr _, _, p, _ => by cases n <;> exact False.elim p
  | n, .dT _ _, _, p, _ => by cases n <;> exact False.elim p
  | n, .dK _ _, _, p, _ => by cases n <;> exact False.elim p

section
variable {X : Cx} {I : HI} {μ : D} {δ : De} {e a b c k v : Expr} {es rest : List Expr} {Q : D → Prop} {E : EndsD} {pos : Pos} {σ : L2.St} {H : Hp}
theorem W_dT0 (q : Q (.oT [])) : W X I μ δ (.Dict [] [] pos) Q := fun σ H r K k => te_of pe_dnewT fun p hp =>
  k (.oT []) _ _ (r.new hp) (Ext.of (same_new hp)) ⟨p, [], rfl, r.notm hp, .inl upd_same, rfl, trivial⟩ q
/-- what stood when a dict is begun, and what stands when it is done: new dicts alone have changed -/
theorem RS.fin {H3 HF : Hp} (r : RS I μ δ σ H) (ho : I.own = none) (r3 : RS I μ δ σ H3) (x : Ext I.m H H3) (f : ∀ a o, (∀ ws, o ≠ .dT ws) → (∀ ws, o ≠ .dK ws) → H3 a = some o → HF a = some o) (g : ∀ a o, H a ≠ none → H3 a = some o → HF a = some o) :
    RS I μ δ σ HF ∧ Ext I.m H HF := by
  have xf : Ext I.m H HF := fun a o n h => g a o (by rw [h]; exact fun z => nomatch z) (x a o n h)
  refine ⟨⟨⟨fun a o n h => g a o (by rw [r.bs.base a o n h]; exact fun z => nomatch z) (r3.bs.base a o n h), fun c hc => ?_⟩, fun a hm => ?_, r.cm, (fun a h => by rw [ho] at h; cases h), r.mrm, r.env.map fun d v q => Rep.ext xf d v q⟩, xf⟩
  · obtain ⟨x, y, e, q⟩ := r3.bs.cupOk c hc
    exact ⟨x, y, f c _ (fun ws z => nomatch z) (fun ws z => nomatch z) e, q⟩
  · exact (r3.dom a hm).of fun o e => g a o (r.dom a hm).1 e
/-- {**x, k: v}: x a name, tuple keys -/
theorem W_spT (hX : XOk X) (ho : I.own = none) (i : Nat) {x : Str} {p1 : Pos} {kvs : List (List Key × D)} (hδ : δ[i]? = some (some (.oT kvs))) (hgk : ∀ kv ∈ kvs, gk kv.1) (hlen : kvs.length ≤ 100000)
    (h : W X I μ δ k fun d1 => W X I μ δ v fun d2 => ∃ kk, d1 = .tup (kk.map keyD) ∧ gk kk ∧ Pl 5 d2 ∧ Q (.oT (putA kvs kk d2))) (hN : X.N[i]? = some x := by rfl) (hv : Vis X.env.scope x := by first | exact Or.inl rfl | exact Or.inr (Or.inl rfl) | exact Or.inr (Or.inr rfl))
    (hd : (x == ("__debug__" : Str)) = false := by decide) (hcd : (x == ("__classdict__" : Str)) = false := by decide) : W X I μ δ (.Dict [none, some k] [.Name x p1, v] pos) Q := fun σ H r K kk => by
  refine te_of (pe_spT (by have := hX.hu; omega) (pe_var (i := i) hN hv hd hcd) pe_W pe_W) ?_
  obtain ⟨dv, ev, a, ws, rfl, hma, ha, hks, rl⟩ := r.env.get hδ
  intro p hp
  have hpa : p ≠ a := fun z => rd_some ha (z ▸ hp)
  have hlw : ws.length = kvs.length := by have := congrArg List.length hks; simpa using this
  have hgw : ∀ kv ∈ ws, gk kv.1 := fun kv hkv => by
    have : kv.1 ∈ kvs.map Prod.fst := by rw [← hks]; exact List.mem_map.mpr ⟨kv, hkv, rfl⟩
    obtain ⟨y, hy, e⟩ := List.mem_map.mp this
    rw [← e]; exact hgk y hy
  refine ⟨.ref a, ev, a, ws, rfl, hpa, same_rd (same_new hp) ha, upd_same, by omega, hgw, fun q hq => ?_⟩
  rw [upd_upd] at hq ⊢
  have hqp : q ≠ p := fun z => by rw [z, upd_same] at hq; cases hq
  have hqH : H q = none := by rw [upd_ne hqp] at hq; exact hq
  have r1 : RS I μ δ σ (upd (upd H p (.dT ws)) q (.dT [])) := (r.new hp).new hq
  have x1 : Ext I.m H (upd (upd H p (.dT ws)) q (.dT [])) := Ext.of ((same_new hp).trans (same_new hq))
  refine h σ _ r1 _ fun d1 v1 H2 r2 x2 rep1 q1 => ?_
  refine q1 σ H2 r2 _ fun d2 v2 H3 r3 x3 rep2 q2 => ?_
  obtain ⟨ky, rfl, hgk1, hpl, q2⟩ := q2
  obtain ⟨b, rfl, hb⟩ := key_rep (Rep.ext x3 _ _ rep1)
  have hmp : ¬ I.m p := r.notm hp
  have hmq : ¬ I.m q := r.notm hqH
  have hp3 : H3 p = some (.dT ws) := (x2.trans x3) p _ hmp (by rw [upd_ne hqp.symm, upd_same])
  have hq3 : H3 q = some (.dT []) := (x2.trans x3) q _ hmq upd_same
  refine ⟨ky, b, rfl, hb, hgk1, hp3, hq3, ?_⟩
  have hf : ∀ a o, (∀ ws, o ≠ HO.dT ws) → (∀ ws, o ≠ HO.dK ws) → H3 a = some o → upd (upd H3 q (.dT [(ky, v2)])) p (.dT (putK ws ky v2)) a = some o := fun a o n1 n2 e => by
    have h1 : a ≠ p := fun z => by rw [z, hp3] at e; cases e; exact n1 _ rfl
    have h2 : a ≠ q := fun z => by rw [z, hq3] at e; cases e; exact n1 _ rfl
    rw [upd_ne h1, upd_ne h2]; exact e
  obtain ⟨rF, xF⟩ := r.fin ho r3 ((x1.trans x2).trans x3) hf fun a o n e => by
    have h1 : a ≠ p := fun z => n (z ▸ hp)
    have h2 : a ≠ q := fun z => n (z ▸ hqH)
    rw [upd_ne h1, upd_ne h2]; exact e
  have rA : RepA I.m (upd (upd H3 q (.dT [(ky, v2)])) p (.dT (putK ws ky v2))) kvs ws := ⟨hks, RepL.ext xF _ _ rl⟩
  have rz : Rep I.m (upd (upd H3 q (.dT [(ky, v2)])) p (.dT (putK ws ky v2))) d2 v2 :=
    Pl.keep (fun a xs n e => ⟨n, hf a _ (fun _ z => nomatch z) (fun _ z => nomatch z) e⟩) (fun a xs n e => ⟨n, hf a _ (fun _ z => nomatch z) (fun _ z => nomatch z) e⟩) 5 d2 v2 hpl rep2
  obtain ⟨g1, g2⟩ := RepA.put (k := ky) rz rA
  exact kk _ _ _ rF xF (show Rep I.m _ (.dT _ _) _ from ⟨p, _, rfl, hmp, .inl upd_same, g1, g2⟩) q2
/-- {**x, k: v}: int keys -/
theorem W_spK (ho : I.own = none) (i : Nat) {x : Str} {p1 : Pos} {kvs : List (Key × D)} (hδ : δ[i]? = some (some (.oK kvs))) (hlen : kvs.length ≤ 100000)
    (h : W X I μ δ k fun d1 => W X I μ δ v fun d2 => ∃ kk, d1 = keyD kk ∧ Pl 5 d2 ∧ Q (.oK (putA kvs kk d2))) (hN : X.N[i]? = some x := by rfl) (hv : Vis X.env.scope x := by first | exact Or.inl rfl | exact Or.inr (Or.inl rfl) | exact Or.inr (Or.inr rfl))
    (hd : (x == ("__debug__" : Str)) = false := by decide) (hcd : (x == ("__classdict__" : Str)) = false := by decide) : W X I μ δ (.Dict [none, some k] [.Name x p1, v] pos) Q := fun σ H r K kk => by
  refine te_of (pe_spK (pe_var (i := i) hN hv hd hcd) pe_W pe_W) ?_
  obtain ⟨dv, ev, a, ws, rfl, hma, ha, hks, rl⟩ := r.env.get hδ
  intro p hp
  have hpa : p ≠ a := fun z => rd_some ha (z ▸ hp)
  have hlw : ws.length = kvs.length := by have := congrArg List.length hks; simpa using this
  refine ⟨.ref a, ev, a, ws, rfl, hpa, same_rd (same_new hp) ha, upd_same, by omega, fun q hq => ?_⟩
  rw [upd_upd] at hq ⊢
  have hqp : q ≠ p := fun z => by rw [z, upd_same] at hq; cases hq
  have hqH : H q = none := by rw [upd_ne hqp] at hq; exact hq
  have r1 : RS I μ δ σ (upd (upd H p (.dK ws)) q (.dK [])) := (r.new hp).new hq
  have x1 : Ext I.m H (upd (upd H p (.dK ws)) q (.dK [])) := Ext.of ((same_new hp).trans (same_new hq))
  refine h σ _ r1 _ fun d1 v1 H2 r2 x2 rep1 q1 => ?_
  refine q1 σ H2 r2 _ fun d2 v2 H3 r3 x3 rep2 q2 => ?_
  obtain ⟨ky, rfl, hpl, q2⟩ := q2
  have ey : v1 = kV ky := by
    cases ky with
    | inl i => exact rep1
    | inr i => exact rep1
  subst ey
  have hmp : ¬ I.m p := r.notm hp
  have hmq : ¬ I.m q := r.notm hqH
  have hp3 : H3 p = some (.dK ws) := (x2.trans x3) p _ hmp (by rw [upd_ne hqp.symm, upd_same])
  have hq3 : H3 q = some (.dK []) := (x2.trans x3) q _ hmq upd_same
  refine ⟨ky, rfl, hp3, hq3, ?_⟩
  have hf : ∀ a o, (∀ ws, o ≠ HO.dT ws) → (∀ ws, o ≠ HO.dK ws) → H3 a = some o → upd (upd H3 q (.dK [(ky, v2)])) p (.dK (putK ws ky v2)) a = some o := fun a o n1 n2 e => by
    have h1 : a ≠ p := fun z => by rw [z, hp3] at e; cases e; exact n2 _ rfl
    have h2 : a ≠ q := fun z => by rw [z, hq3] at e; cases e; exact n2 _ rfl
    rw [upd_ne h1, upd_ne h2]; exact e
  obtain ⟨rF, xF⟩ := r.fin ho r3 ((x1.trans x2).trans x3) hf fun a o n e => by
    have h1 : a ≠ p := fun z => n (z ▸ hp)
    have h2 : a ≠ q := fun z => n (z ▸ hqH)
    rw [upd_ne h1, upd_ne h2]; exact e
  have rA : RepA I.m (upd (upd H3 q (.dK [(ky, v2)])) p (.dK (putK ws ky v2))) kvs ws := ⟨hks, RepL.ext xF _ _ rl⟩
  have rz : Rep I.m (upd (upd H3 q (.dK [(ky, v2)])) p (.dK (putK ws ky v2))) d2 v2 :=
    Pl.keep (fun a xs n e => ⟨n, hf a _ (fun _ z => nomatch z) (fun _ z => nomatch z) e⟩) (fun a xs n e => ⟨n, hf a _ (fun _ z => nomatch z) (fun _ z => nomatch z) e⟩) 5 d2 v2 hpl rep2
  obtain ⟨g1, g2⟩ := RepA.put (k := ky) rz rA
  exact kk _ _ _ rF xF (show Rep I.m _ (.dK _ _) _ from ⟨p, _, rfl, hmp, .inl upd_same, g1, g2⟩) q2
/-- {**x, **f}: x a name, tuple keys; f is reckoned while the new dict is hidden -/
theorem W_ssT (hX : XOk X) (ho : I.own = none) (i : Nat) {x : Str} {p1 : Pos} {f : Expr} {kvs : List (List Key × D)} (hδ : δ[i]? = some (some (.oT kvs))) (hgk : ∀ kv ∈ kvs, gk kv.1) (hlen : kvs.length ≤ 100000)
    (h : ∀ p H0, W X { I with m := fun a => I.m a ∨ a = p, H0 := H0 } μ δ f fun d => ∃ more, d = .oT more ∧ more.length ≤ 100000 ∧ (∀ kv ∈ more, gk kv.1) ∧ (∀ kv ∈ more, Pl 5 kv.2) ∧ Q (.oT (mergeA kvs more))) (hN : X.N[i]? = some x := by rfl)
    (hv : Vis X.env.scope x := by first | exact Or.inl rfl | exact Or.inr (Or.inl rfl) | exact Or.inr (Or.inr rfl)) (hd : (x == ("__debug__" : Str)) = false := by decide) (hcd : (x == ("__classdict__" : Str)) = false := by decide) :
    W X I μ δ (.Dict [none, none] [.Name x p1, f] pos) Q := fun σ H r K kk => by
  refine te_of (pe_ssT (by have := hX.hu; omega) (pe_var (i := i) hN hv hd hcd) pe_W) ?_
  obtain ⟨dv, ev, a, ws, rfl, hma, ha, hks, rl⟩ := r.env.get hδ
  intro p hp
  have hpa : p ≠ a := fun z => rd_some ha (z ▸ hp)
  have hlw : ws.length = kvs.length := by have := congrArg List.length hks; simpa using this
  have hgw : ∀ {kvs : List (List Key × D)} {ws : List (List Key × V)}, ws.map Prod.fst = kvs.map Prod.fst → (∀ kv ∈ kvs, gk kv.1) → ∀ kv ∈ ws, gk kv.1 := fun {kvs ws} hks hgk kv hkv => by
    have : kv.1 ∈ kvs.map Prod.fst := by rw [← hks]; exact List.mem_map.mpr ⟨kv, hkv, rfl⟩
    obtain ⟨y, hy, e⟩ := List.mem_map.mp this
    rw [← e]; exact hgk y hy
  refine ⟨.ref a, ev, a, ws, rfl, hpa, same_rd (same_new hp) ha, upd_same, by omega, hgw hks hgk, ?_⟩
  rw [upd_upd]
  have hmp : ¬ I.m p := r.notm hp
  have hsm : Same H (upd H p (.dT ws)) := same_new hp
  have r1 : RS { I with m := fun a => I.m a ∨ a = p, H0 := fun a => if I.cup = some a then none else upd H p (.dT ws) a } μ δ σ (upd H p (.dT ws)) := by
    refine ⟨⟨fun a o n e => ?_, fun c e => CupAt.same hsm (r.bs.cupOk c e)⟩, fun a h => ?_, fun c e => ⟨.inl (r.cm c e).1, (r.cm c e).2⟩, (fun a h => by rw [show I.own = some a from h] at ho; cases ho), fun a h => .inl (r.mrm a h), ?_⟩
    · by_cases hc : I.cup = some a
      · exact absurd hc n
      · simpa [hc] using e
    · rcases h with h | h
      · exact (r.dom a h).of fun o e => hsm a o e
      · rw [h, upd_same]; exact ⟨fun z => (nomatch z), fun xs z => nomatch z⟩
    · exact r.env.map fun d v q => Rep.extW ⟨fun a xs n h => hsm a _ h, fun a xs n h => hsm a _ h, fun a xs n h => same_rd hsm h, fun a xs n h => same_rd hsm h⟩ d v (Rep.hide hp d v q)
  refine h p _ σ _ r1 _ fun d v H2 r2 x2 rep q2 => ?_
  obtain ⟨more, rfl, hl2, hg2, hpl2, q2⟩ := q2
  obtain ⟨b, vs, rfl, hmb, hb, hks2, rl2⟩ := rep
  have hpb : p ≠ b := fun z => hmb (.inr z.symm)
  have hl2w : vs.length = more.length := by have := congrArg List.length hks2; simpa using this
  have hcp : I.cup ≠ some p := fun z => hmp (r.cm p z).1
  have b2 : ∀ a o, I.cup ≠ some a → upd H p (.dT ws) a = some o → H2 a = some o := fun a o n e => r2.bs.base a o n (by
    show (if I.cup = some a then none else upd H p (.dT ws) a) = some o
    rw [if_neg n]; exact e)
  have hp2 : H2 p = some (.dT ws) := b2 p _ hcp upd_same
  refine ⟨b, vs, rfl, hpb, hb, hp2, by omega, hgw hks2 hg2, ?_⟩
  have hf : ∀ a o, a ≠ p → H2 a = some o → upd H2 p (.dT (K48.mergeT ws vs)) a = some o := fun a o n e => by rw [upd_ne n]; exact e
  have hsF : ∀ a o, I.cup ≠ some a → H a = some o → upd H2 p (.dT (K48.mergeT ws vs)) a = some o := fun a o n e => hf a o (fun z => by rw [z, hp] at e; cases e) (b2 a o n (hsm a o e))
  have xF : Ext I.m H (upd H2 p (.dT (K48.mergeT ws vs))) := fun a o n e => hsF a o (fun z => n (r.cm a z).1) e
  have rF : RS I μ δ σ (upd H2 p (.dT (K48.mergeT ws vs))) := by
    refine ⟨⟨fun a o n e => hsF a o n (r.bs.base a o n e), fun c hc => ?_⟩, fun a hm => ?_, r.cm, (fun a h => by rw [ho] at h; cases h), r.mrm, r.env.map fun d v q => Rep.ext xF d v q⟩
    · obtain ⟨x, y, e, q⟩ := r2.bs.cupOk c hc
      exact ⟨x, y, hf c _ (fun z => by rw [z, hp2] at e; cases e) e, q⟩
    · exact (r2.dom a (.inl hm)).of fun o e => hf a o (fun z => hmp (z ▸ hm)) e
  have rA : RepA I.m (upd H2 p (.dT (K48.mergeT ws vs))) kvs ws := ⟨hks, RepL.ext xF _ _ rl⟩
  have rB : RepA I.m (upd H2 p (.dT (K48.mergeT ws vs))) more vs := by
    refine ⟨hks2, ?_⟩
    have all : ∀ (ds : List D) (xs : List V), (∀ x ∈ ds, Pl 5 x) → RepL (fun a => I.m a ∨ a = p) H2 ds xs → RepL I.m (upd H2 p (.dT (K48.mergeT ws vs))) ds xs := by
      intro ds
      induction ds with
      | nil => intro xs _ r; cases xs with
        | nil => trivial
        | cons => exact False.elim r
      | cons d ds ih => intro xs pp r; cases xs with
        | nil => exact False.elim r
        | cons x xs => exact ⟨Pl.keep (fun a xs n e => ⟨fun z => n (.inl z), hf a _ (fun z => n (.inr z)) e⟩) (fun a xs n e => ⟨fun z => n (.inl z), hf a _ (fun z => n (.inr z)) e⟩) 5 d x (pp d List.mem_cons_self) r.1,
          ih xs (fun y hy => pp y (List.mem_cons_of_mem _ hy)) r.2⟩
    exact all _ _ (fun x hx => by obtain ⟨kv, hkv, e⟩ := List.mem_map.mp hx; rw [← e]; exact hpl2 kv hkv) rl2
  obtain ⟨g1, g2⟩ := RepA.mergeT rB rA
  exact kk _ _ _ rF xF (show Rep I.m _ (.dT _ _) _ from ⟨p, _, rfl, hmp, .inl upd_same, g1, g2⟩) q2
/-- {k: v}, a tuple key; an int key -/
theorem W_d1T (hX : XOk X) (ho : I.own = none) (h : W X I μ δ k fun d1 => W X I μ δ v fun d2 => ∃ kk, d1 = .tup (kk.map keyD) ∧ Pl 5 d2 ∧ Q (.oT [(kk, d2)])) : W X I μ δ (.Dict [some k] [v] pos) Q := fun σ H r K kk => by
  refine te_of (pe_d1T (by have := hX.hu; omega) pe_W pe_W) ?_
  intro p hp
  have hmp : ¬ I.m p := r.notm hp
  have r1 : RS I μ δ σ (upd H p (.dT [])) := r.new hp
  have x1 : Ext I.m H (upd H p (.dT [])) := Ext.of (same_new hp)
  refine h σ _ r1 _ fun d1 v1 H2 r2 x2 rep1 q1 => ?_
  refine q1 σ H2 r2 _ fun d2 v2 H3 r3 x3 rep2 q2 => ?_
  obtain ⟨ky, rfl, hpl, q2⟩ := q2
  obtain ⟨b, rfl, hb⟩ := key_rep (Rep.ext x3 _ _ rep1)
  have hp3 : H3 p = some (.dT []) := (x2.trans x3) p _ hmp upd_same
  refine ⟨ky, b, rfl, hb, hp3, ?_⟩
  have hf : ∀ a o, (∀ ws, o ≠ HO.dT ws) → (∀ ws, o ≠ HO.dK ws) → H3 a = some o → upd H3 p (.dT [(ky, v2)]) a = some o := fun a o n1 n2 e => by
    have h1 : a ≠ p := fun z => by rw [z, hp3] at e; cases e; exact n1 _ rfl
    rw [upd_ne h1]; exact e
  obtain ⟨rF, xF⟩ := r.fin ho r3 ((x1.trans x2).trans x3) hf fun a o n e => by
    have h1 : a ≠ p := fun z => n (z ▸ hp)
    rw [upd_ne h1]; exact e
  have rz : Rep I.m (upd H3 p (.dT [(ky, v2)])) d2 v2 :=
    Pl.keep (fun a xs n e => ⟨n, hf a _ (fun _ z => nomatch z) (fun _ z => nomatch z) e⟩) (fun a xs n e => ⟨n, hf a _ (fun _ z => nomatch z) (fun _ z => nomatch z) e⟩) 5 d2 v2 hpl rep2
  exact kk (.oT [(ky, d2)]) _ _ rF xF ⟨p, [(ky, v2)], rfl, hmp, .inl upd_same, rfl, ⟨rz, trivial⟩⟩ q2
theorem W_d1K (ho : I.own = none) (h : W X I μ δ k fun d1 => W X I μ δ v fun d2 => ∃ kk, d1 = keyD kk ∧ Pl 5 d2 ∧ Q (.oK [(kk, d2)])) : W X I μ δ (.Dict [some k] [v] pos) Q := fun σ H r K kk => by
  refine te_of (pe_disp (pps_cons pe_W pe_W pps_nil) (by rfl) (by rfl) (List.cons_ne_nil _ _) (by show 1 ≤ 15; decide)) ?_
  intro p hp
  have hmp : ¬ I.m p := r.notm hp
  have r1 : RS I μ δ σ (upd H p (.dK [])) := r.new hp
  have x1 : Ext I.m H (upd H p (.dK [])) := Ext.of (same_new hp)
  refine h σ _ r1 _ fun d1 v1 H2 r2 x2 rep1 q1 => ?_
  refine q1 σ H2 r2 _ fun d2 v2 H3 r3 x3 rep2 q2 => ?_
  obtain ⟨ky, rfl, hpl, q2⟩ := q2
  have ey : v1 = kV ky := by
    cases ky with
    | inl i => exact rep1
    | inr i => exact rep1
  subst ey
  have hp3 : H3 p = some (.dK []) := (x2.trans x3) p _ hmp upd_same
  refine ⟨hp3, [(ky, v2)], rfl, by show 1 ≤ 15; decide, ?_⟩
  have em : mergeK [] [(ky, v2)] = [(ky, v2)] := rfl
  rw [em]
  have hf : ∀ a o, (∀ ws, o ≠ HO.dT ws) → (∀ ws, o ≠ HO.dK ws) → H3 a = some o → upd H3 p (.dK [(ky, v2)]) a = some o := fun a o n1 n2 e => by
    have h1 : a ≠ p := fun z => by rw [z, hp3] at e; cases e; exact n2 _ rfl
    rw [upd_ne h1]; exact e
  obtain ⟨rF, xF⟩ := r.fin ho r3 ((x1.trans x2).trans x3) hf fun a o n e => by
    have h1 : a ≠ p := fun z => n (z ▸ hp)
    rw [upd_ne h1]; exact e
  have rz : Rep I.m (upd H3 p (.dK [(ky, v2)])) d2 v2 :=
    Pl.keep (fun a xs n e => ⟨n, hf a _ (fun _ z => nomatch z) (fun _ z => nomatch z) e⟩) (fun a xs n e => ⟨n, hf a _ (fun _ z => nomatch z) (fun _ z => nomatch z) e⟩) 5 d2 v2 hpl rep2
  exact kk (.oK [(ky, d2)]) _ _ rF xF ⟨p, [(ky, v2)], rfl, hmp, .inl upd_same, rfl, ⟨rz, trivial⟩⟩ q2
/-- dict(list of pairs), tuple keys -/
theorem W_dictT {p : Pos} (hX : XOk X) (hm : X.mg "dict" = none) (h : W X I μ δ a fun d => ∃ kvs : List (List Key × D), d = .lst (kvs.map fun kv => .tup [.tup (kv.1.map keyD), kv.2]) ∧ Q (.oT (mergeA [] kvs))) (hg : Gl X "dict" := by rfl)
    (he : starEach [a] X.env = (false, eval a X.env) :: starEach [] X.env := by rfl) : W X I μ δ (.Call (.Name "dict" p) [a] [] pos) Q :=
  W_callTy (P := fun ds => ∃ d, ds = [d] ∧ ∃ kvs : List (List Key × D), d = .lst (kvs.map fun kv => .tup [.tup (kv.1.map keyD), kv.2]) ∧ Q (.oT (mergeA [] kvs))) (call_dictT hX.calm (by have := hX.hu; omega)) hm PyProof.Rows.boot_dict (WA1 (h.mono fun d q => ⟨d, rfl, q⟩) he) (fun ds vs σ H K q r rl k => by
    obtain ⟨d, rfl, kvs, rfl, q⟩ := q
    obtain ⟨v, rfl, l, vs, rfl, hml, hl, rl2⟩ := repl1 rl
    have all : ∀ (kvs : List (List Key × D)) (vs : List V), RepL I.m H (kvs.map fun kv => .tup [.tup (kv.1.map keyD), kv.2]) vs → ∃ ps ws, vs = ps.map V.ref ∧ Paired (fun p (kv : List Key × V) => ∃ b, SqT X.K H p [.ref b, kv.2] ∧ H b = some (.tup (kv.1.map kV))) ps ws ∧ RepA I.m H kvs ws := by
      intro kvs
      induction kvs with
      | nil => intro vs h; cases vs with
        | nil => exact ⟨[], [], rfl, .nil, rfl, trivial⟩
        | cons => exact False.elim h
      | cons kv kvs ih => intro vs h; cases vs with
        | nil => exact False.elim h
        | cons v vs =>
          obtain ⟨ps, ws, rfl, hp, h1, h2⟩ := ih vs h.2
          obtain ⟨p, xs, rfl, hmp, hx, rlx⟩ := h.1
          obtain ⟨v1, v2, rfl, rk, rv⟩ := repl2 rlx
          obtain ⟨b, rfl, hb⟩ := key_rep rk
          exact ⟨p :: ps, (kv.1, v2) :: ws, rfl, .cons ⟨b, .inl (.inl hx), hb⟩ hp, by simp only [List.map_cons, h1], ⟨rv, h2⟩⟩
    obtain ⟨ps, ws, rfl, hp, rA⟩ := all kvs vs rl2
    refine ⟨l, ps, ws, rfl, .inl (.inl hl), hp, fun p hp => ?_⟩
    obtain ⟨g1, g2⟩ := RepA.mergeT (kvs := []) (ws := []) rA ⟨rfl, trivial⟩
    exact k (.dT _ _) _ _ (r.new hp) (Ext.of (same_new hp)) ⟨p, _, rfl, r.notm hp, .inl upd_same, g1, RepL.ext (Ext.of (same_new hp)) _ _ g2⟩ q) hg (by decide) (by decide) he
/-- d.get(k, x) -/
theorem W_get2 {apos : Pos} (hX : XOk X) (h : W X I μ δ a fun d => ∃ kvs, d = .oT kvs ∧ W X I μ δ b fun d2 => ∃ k, d2 = .tup (k.map keyD) ∧ W X I μ δ c fun d3 => Q ((lookA kvs k).getD d3)) (m : M2 X a "get" apos b c pos := by exact ⟨rfl, rfl, rfl, rfl⟩) :
    W X I μ δ (.Call (.Attribute a "get" apos) [b, c] [] pos) Q := fun σ H r K kk => by
  refine te_of (pe_dget2 (by have := hX.hu; omega) pe_W pe_W pe_W m) ?_
  refine h σ H r _ fun d v H1 r1 x1 rep1 q1 => ?_
  obtain ⟨kvs, rfl, q1⟩ := q1
  obtain ⟨p, ws, rfl, hmp, hp, hks, rl⟩ := id rep1
  refine ⟨p, rfl, .inr ⟨ws, hp⟩, ?_⟩
  refine q1 σ H1 r1 _ fun d2 v2 H2 r2 x2 rep2 q2 => ?_
  obtain ⟨ky, rfl, q2⟩ := q2
  refine q2 σ H2 r2 _ fun d3 v3 H3 r3 x3 rep3 q3 => ?_
  obtain ⟨b, rfl, hb⟩ := key_rep (Rep.ext x3 _ _ rep2)
  obtain ⟨p', ws', e', hmp', hp', hks', rl'⟩ := Rep.ext (x2.trans x3) _ _ rep1
  cases e'
  refine ⟨valV ws' ky, .inr ⟨ws', ky, b, hp', rfl, hb, rfl⟩, ?_⟩
  obtain ⟨g1, g2⟩ := valD_rep (x := ky) (ws := ws') rl'
  rw [hks', valD_of] at g1 g2
  cases e : lookA kvs ky with
  | none =>
    rw [e] at q3 g2
    have : valV ws' ky = none := by
      cases q : valV ws' ky with
      | none => rfl
      | some _ => rw [q] at g2; cases g2
    rw [this]
    exact kk _ _ H3 r3 ((x1.trans x2).trans x3) rep3 q3
  | some d =>
    rw [e] at q3
    obtain ⟨v, hv, rv⟩ := g1 d e
    rw [hv]
    exact kk _ _ H3 r3 ((x1.trans x2).trans x3) rv q3
end
end K48
/-! Rules: what is walked, loops, comprehensions, the own object -/
namespace K48
open PySem PySem.Spec PyProof.Rows L2
section
variable {X : Cx} {I : HI} {μ : D} {δ : De} {e a b c tg iter elt : Expr} {es rest : List Expr} {Q : D → Prop} {E : EndsD} {pos : Pos} {σ : L2.St} {H : Hp}

/-! ### what is walked -/
theorem WI_list {Q : List D → Prop} (h : W X I μ δ e fun d => ∃ xs, d = .lst xs ∧ Q xs) : WI X I μ δ tg e Q := fun σ H r R k => by
  refine ti_of (pi_list pe_W) ?_
  refine h σ H r _ fun d v H' r' x rep q => ?_
  obtain ⟨xs, rfl, q⟩ := q
  obtain ⟨p, vs, rfl, hm, hp, rl⟩ := rep
  refine ⟨p, rfl, ⟨vs, .inl (.inl hp)⟩, k _ (fun H => SqL X.K H p vs) (YAt vs) xs H' (by rw [rl.len]; exact walk_list) r' x (fun H1 x1 => .inl (.inl (x1 p _ hm hp))) (fun i H1 y H2 hi x1 dm hy => ?_) q⟩
  obtain ⟨rfl, hy⟩ := hy
  obtain ⟨d, e1, e2⟩ := rl.of_get hy
  exact ⟨Same.refl _, d, e1, Rep.ext x1 _ _ e2⟩
theorem WI_tup {Q : List D → Prop} (h : W X I μ δ e fun d => ∃ xs, d = .tup xs ∧ Q xs) : WI X I μ δ tg e Q := fun σ H r R k => by
  refine ti_of (pi_tup pe_W) ?_
  refine h σ H r _ fun d v H' r' x rep q => ?_
  obtain ⟨xs, rfl, q⟩ := q
  obtain ⟨p, vs, rfl, hm, hp, rl⟩ := rep
  refine ⟨p, rfl, ⟨vs, .inl (.inl hp)⟩, k _ (fun H => SqT X.K H p vs) (YAt vs) xs H' (by rw [rl.len]; exact walk_tup) r' x (fun H1 x1 => .inl (.inl (x1 p _ hm hp))) (fun i H1 y H2 hi x1 dm hy => ?_) q⟩
  obtain ⟨rfl, hy⟩ := hy
  obtain ⟨d, e1, e2⟩ := rl.of_get hy
  exact ⟨Same.refl _, d, e1, Rep.ext x1 _ _ e2⟩
def rangeD (n : Nat) : List D := (List.range n).map fun (i : Nat) => D.int (i : Int)
theorem rangeD_len (n : Nat) : (rangeD n).length = n := by simp [rangeD]
theorem rangeD_get {n i : Nat} {d : D} (h : (rangeD n)[i]? = some d) : i < n ∧ d = .int (i : Int) := by
  unfold rangeD at h
  rw [List.getElem?_map] at h
  by_cases hi : i < n
  · rw [List.getElem?_range hi] at h
    exact ⟨hi, (Option.some.inj h).symm⟩
  · rw [List.getElem?_eq_none (by simp; omega)] at h
    cases h
theorem WI_range {Q : List D → Prop} {p : Pos} (hm : X.mg "range" = none) (h : W X I μ δ a fun d => ∃ n : Int, d = .int n ∧ -1000000 ≤ n ∧ n ≤ 1000000 ∧ Q (rangeD n.toNat)) (hg : Gl X "range" := by rfl) (hs : starEach [a] X.env = [(false, eval a X.env)] := by rfl) :
    WI X I μ δ tg (.Call (.Name "range" p) [a] [] pos) Q := fun σ H r R k => by
  refine ti_of (pi_range1 hg hm pa_W hs) ?_
  refine WA1 (Q := fun ds => ∃ n : Int, ds = [.int n] ∧ -1000000 ≤ n ∧ n ≤ 1000000 ∧ Q (rangeD n.toNat)) (h.mono fun d q => by obtain ⟨n, rfl, q⟩ := q; exact ⟨n, rfl, q⟩) hs σ H r _ fun ds vs H' r' x rl q => ?_
  obtain ⟨n, rfl, h1, h2, q⟩ := q
  obtain ⟨v, rfl, rep⟩ := repl1 rl
  cases rep
  refine ⟨n, rfl, by omega, by omega, k _ (fun _ => True) (YFn fun i => .int (0 + i)) (rangeD n.toNat) H' (by rw [rangeD_len]; exact walk_range) r' x (fun _ _ => trivial) (fun i H1 y H2 hi x1 dm hy => ?_) q⟩
  obtain ⟨rfl, rfl⟩ := hy
  refine ⟨Same.refl _, .int (i : Int), ?_, ?_⟩
  · rw [rangeD_len] at hi
    unfold rangeD
    rw [List.getElem?_map, List.getElem?_range hi]; rfl
  · show V.int (0 + (i : Int)) = V.int (i : Int)
    rw [Int.zero_add]
def enumD (xs : List D) : List D := xs.mapIdx fun i d => .tup [.int (i : Int), d]
theorem enumD_len (xs : List D) : (enumD xs).length = xs.length := by simp [enumD]
theorem enumD_get {xs : List D} {i : Nat} {d : D} (h : (enumD xs)[i]? = some d) : ∃ x, xs[i]? = some x ∧ d = .tup [.int (i : Int), x] := by
  unfold enumD at h
  rw [List.getElem?_mapIdx] at h
  cases e : xs[i]? with
  | none => rw [e] at h; cases h
  | some x => rw [e] at h; exact ⟨x, rfl, (Option.some.inj h).symm⟩
theorem WI_enumT {Q : List D → Prop} {p tpos : Pos} {elts : List Expr} {kk : Nat} (hm : X.mg "enumerate" = none) (h : W X I μ δ a fun d => ∃ xs, d = .tup xs ∧ Q (enumD xs)) (hg : Gl X "enumerate" := by rfl) (hs : starEach [a] X.env = [(false, eval a X.env)] := by rfl) :
    WI X I μ δ (.Tuple elts kk tpos) (.Call (.Name "enumerate" p) [a] [] pos) Q := fun σ H r R k => by
  refine ti_of (pi_enumT hg hm pa_W hs) ?_
  refine WA1 (Q := fun ds => ∃ xs, ds = [.tup xs] ∧ Q (enumD xs)) (h.mono fun d q => by obtain ⟨n, rfl, q⟩ := q; exact ⟨n, rfl, q⟩) hs σ H r _ fun ds vs H' r' x rl q => ?_
  obtain ⟨xs, rfl, q⟩ := q
  obtain ⟨v, rfl, rep⟩ := repl1 rl
  obtain ⟨p, vs, rfl, hmp, hp, rl⟩ := rep
  refine ⟨p, vs, rfl, .inl (.inl hp), k _ (fun H => SqT X.K H p vs) (YPair (fun i => some (.int (i : Nat))) (fun i => vs[i]?)) (enumD xs) H' (by rw [enumD_len, rl.len]; exact walk_enumT) r' x (fun H1 x1 => .inl (.inl (x1 p _ hmp hp))) (fun i H1 y H2 hi x1 dm hy => ?_) q⟩
  obtain ⟨T, x1', y1, rfl, hT, rfl, e1, e2⟩ := hy
  cases e1
  obtain ⟨d, e3, rd⟩ := rl.of_get e2
  have hs := same_new (o := .tup [V.int (i : Int), y1]) hT
  refine ⟨hs, .tup [.int (i : Int), d], ?_, ?_⟩
  · unfold enumD
    rw [List.getElem?_mapIdx, e3]; rfl
  · refine ⟨T, _, rfl, fun z => ?_, upd_same, ⟨rfl, Rep.ext (x1.trans (Ext.of hs)) _ _ rd, trivial⟩⟩
    exact (dm T z).1 hT

/-! ### loops -/
theorem S1_for {body : List Stmt} (hX : XOk X) (h : WI X I μ δ tg iter fun ds => ∃ Pv : Nat → D → De → Prop, Pv 0 μ δ ∧
      (∀ i d μ' δ', ds[i]? = some d → Pv i μ' δ' → WG X I μ' δ' tg d fun δ'' => SW X I μ' δ'' body { E with nx := Pv (i + 1), ct := Pv (i + 1), bk := E.nx }) ∧ (∀ μ' δ', Pv ds.length μ' δ' → E.nx μ' δ'))
    (hs : ∀ x, foldedSetIterable iter X.env x = pure x := by intro _; rfl) : S1 X I μ δ (.For tg iter body [] pos) E := fun σ H r Dn f => by
  refine ts_of (ps_for hX.own hX.calm pi_W pg_W pss_W hs) ?_
  refine h σ H r _ fun J G Y ds H1 wk r1 x1 hG hY q => ?_
  obtain ⟨Pv, p0, pt, pd⟩ := q
  refine for_it wk (fun i σ' H' => ∃ μ' δ', RS I μ' δ' σ' H' ∧ Ext I.m H1 H' ∧ Pv i μ' δ') ⟨μ, δ, r1, Ext.refl, p0⟩ (fun i σ' H' _ ⟨μ', δ', _, x, _⟩ => hG H' x) (fun i v σ' H' H2 hi ⟨μ', δ', r2, x2, p2⟩ hy => ?_) (fun σ' H' ⟨μ', δ', r2, x2, p2⟩ => f.nx μ' δ' σ' H' r2 (x1.trans x2) (pd μ' δ' p2))
  obtain ⟨sm, d, ed, rd⟩ := hY i H' v H2 hi x2 r2.dom hy
  have xx := x2.trans (Ext.of sm)
  refine pt i d μ' δ' ed p2 σ' H2 v (r2.same sm) rd _ fun δ'' σ'' H3 r3 x3 q3 => ?_
  refine q3 σ'' H3 r3 _ ⟨fun μ4 δ4 σ4 H4 r4 x4 q4 => ⟨μ4, δ4, r4, (xx.trans x3).trans x4, q4⟩, f.rt, fun μ4 δ4 σ4 H4 r4 x4 q4 => f.nx μ4 δ4 σ4 H4 r4 (x1.trans ((xx.trans x3).trans x4)) q4, fun μ4 δ4 σ4 H4 r4 x4 q4 => ⟨μ4, δ4, r4, (xx.trans x3).trans x4, q4⟩⟩
theorem S1_while {body : List Stmt} (hX : XOk X) (Pv : Nat → D → De → Prop) (n0 : Nat) (h0 : Pv n0 μ δ)
    (h : ∀ n μ' δ', Pv n μ' δ' → WT X I μ' δ' c fun b => (b = true → SW X I μ' δ' body { E with nx := fun μ'' δ'' => ∃ n', n' < n ∧ Pv n' μ'' δ'', ct := fun μ'' δ'' => ∃ n', n' < n ∧ Pv n' μ'' δ'', bk := E.nx }) ∧ (b = false → E.nx μ' δ')) :
    S1 X I μ δ (.While c body [] pos) E := fun σ H r Dn f => by
  refine ts_of (ps_while hX.own pt_W pss_W) ?_
  refine ⟨fun n σ' H' => ∃ μ' δ', RS I μ' δ' σ' H' ∧ Ext I.m H H' ∧ Pv n μ' δ', ⟨n0, μ, δ, r, Ext.refl, h0⟩, ?_⟩
  rintro n σ1 H1 ⟨μ1, δ1, r1, x1, p1⟩
  refine h n μ1 δ1 p1 σ1 H1 r1 _ fun b H2 r2 x2 q => ?_
  cases b with
  | false => rw [if_neg (by decide)]; exact f.nx μ1 δ1 σ1 H2 r2 (x1.trans x2) (q.2 rfl)
  | true =>
    rw [if_pos rfl]
    refine ⟨fun σ' H' => ∃ n', n' < n ∧ ∃ μ' δ', RS I μ' δ' σ' H' ∧ Ext I.m H H' ∧ Pv n' μ' δ', fun σ' H' ⟨n', hn, q⟩ => ⟨n', hn, q⟩, ?_⟩
    refine q.1 rfl σ1 H2 r2 _ ⟨fun μ4 δ4 σ4 H4 r4 x4 ⟨n', hn, q4⟩ => ⟨n', hn, μ4, δ4, r4, (x1.trans x2).trans x4, q4⟩, f.rt, fun μ4 δ4 σ4 H4 r4 x4 q4 => f.nx μ4 δ4 σ4 H4 r4 ((x1.trans x2).trans x4) q4, fun μ4 δ4 σ4 H4 r4 x4 ⟨n', hn, q4⟩ => ⟨n', hn, μ4, δ4, r4, (x1.trans x2).trans x4, q4⟩⟩
end
end K48
/-! Rules: comprehensions, the own object, locked dicts -/
namespace K48
open PySem PySem.Spec PyProof.Rows L2

/-! ### slots that a comprehension takes for its own -/
theorem wipe_set (σ : L2.St) (j : Nat) (x : Option V) : ∀ vs : List Nat, L2.wipe (σ.set j x) vs = if j ∈ vs then L2.wipe σ vs else (L2.wipe σ vs).set j x
  | [] => by simp [L2.wipe]
  | v :: vs => by
    unfold L2.wipe
    rw [wipe_set σ j x vs]
    by_cases e : j = v
    · subst e
      rw [if_pos List.mem_cons_self]
      split
      · rfl
      · rw [List.set_set]
    · by_cases h : j ∈ vs
      · rw [if_pos h, if_pos (List.mem_cons_of_mem _ h)]
      · rw [if_neg h, if_neg (by simp [e, h])]
        exact List.set_comm _ _ e
theorem wipe_wipe (σ : L2.St) : ∀ vs : List Nat, L2.wipe (L2.wipe σ vs) vs = L2.wipe σ vs := by
  have gen : ∀ (us vs : List Nat), (∀ u ∈ us, u ∈ vs) → L2.wipe (L2.wipe σ us) vs = L2.wipe σ vs := by
    intro us
    induction us with
    | nil => intro vs _; rfl
    | cons u us ih =>
      intro vs h
      show L2.wipe ((L2.wipe σ us).set u none) vs = _
      rw [wipe_set, if_pos (h u List.mem_cons_self)]
      exact ih vs fun x hx => h x (List.mem_cons_of_mem _ hx)
  exact fun vs => gen vs vs fun _ h => h
/-- a target takes d into the slots of vs -/
def TgtOk (g : TG) (vs : List Nat) (d : D) (f : De → De) : Prop := ∀ (m : Addr → Prop) (H : Hp) (δ : De) (σ : L2.St) (v : V) (K : L2.St → Hp → Prop), RepE m H δ σ → Rep m H d v →
  (∀ σ', L2.wipe σ' vs = L2.wipe σ vs → RepE m H (f δ) σ' → K σ' H) → g v σ H K
theorem tgt_name {j : Nat} {vs : List Nat} {d : D} (h : j ∈ vs := by simp) : TgtOk (gName j) vs d fun δ => δ.set j (some d) := fun m H δ σ v K r rep k =>
  k _ (by rw [wipe_set, if_pos h]) (r.set j rep)
def setsD : List Nat → List D → De → De
  | j :: js, d :: ds, δ => setsD js ds (δ.set j (some d))
  | _, _, δ => δ
def gNames : List Nat → TGs
  | [] => gNil
  | j :: js => gCons (gName j) (gNames js)
theorem tgt_names {vs : List Nat} : ∀ (js : List Nat) (ds : List D), (∀ j ∈ js, j ∈ vs) → ds.length = js.length → ∀ (m : Addr → Prop) (H : Hp) (δ : De) (σ : L2.St) (xs : List V) (K : L2.St → Hp → Prop), RepE m H δ σ → RepL m H ds xs →
    (∀ σ', L2.wipe σ' vs = L2.wipe σ vs → RepE m H (setsD js ds δ) σ' → K σ' H) → gNames js xs σ H K
  | [], [], _, _, m, H, δ, σ, [], K, r, _, k => ⟨rfl, k σ rfl r⟩
  | j :: js, d :: ds, hj, hl, m, H, δ, σ, x :: xs, K, r, rep, k => ⟨x, xs, rfl, tgt_names js ds (fun i hi => hj i (List.mem_cons_of_mem _ hi)) (by simpa using hl) m H (δ.set j (some d)) (σ.set j (some x)) xs K (r.set j rep.1) rep.2 fun σ' hw r' =>
      k σ' (hw.trans (by rw [wipe_set, if_pos (hj j List.mem_cons_self)])) r'⟩
  | [], [], _, _, _, _, _, _, _ :: _, _, _, rep, _ => False.elim rep
  | _ :: _, _ :: _, _, _, _, _, _, _, [], _, _, rep, _ => False.elim rep
  | [], _ :: _, _, hl, _, _, _, _, _, _, _, _, _ => by simp at hl
  | _ :: _, [], _, hl, _, _, _, _, _, _, _, _, _ => by simp at hl
theorem tgt_tup {K : PySem.W.Frag} {js vs : List Nat} {ds : List D} (h : ∀ j ∈ js, j ∈ vs) (hl : ds.length = js.length) : TgtOk (gTup K js.length (gNames js)) vs (.tup ds) fun δ => setsD js ds δ := fun m H δ σ v Q r rep k => by
  obtain ⟨a, xs, rfl, _, hx, rl⟩ := rep
  exact ⟨a, xs, rfl, .inl (.inl hx), rl.len.symm.trans hl, tgt_names js ds h hl m H δ σ xs Q r rl k⟩
/-- None, ints, bools, texts, and tuples of these, at most n deep -/
def Tu : Nat → D → Prop
  | _, .non => True
  | _, .int _ => True
  | _, .bl _ => True
  | _, .str _ => True
  | n + 1, .tup xs => ∀ x ∈ xs, Tu n x
  | _, _ => False
theorem Tu.keep {m m' : Addr → Prop} {H H' : Hp} (ht : ∀ a xs, ¬ m a → H a = some (.tup xs) → ¬ m' a ∧ H' a = some (.tup xs)) : ∀ (n : Nat) (d : D) (v : V), Tu n d → Rep m H d v → Rep m' H' d v
  | n, .non, _, _, h => h
  | n, .int i, _, _, h => h
  | n, .bl i, _, _, h => h
  | n, .str x, _, _, h => h
  | n + 1, .tup ds, _, p, ⟨a, xs, e1, hm, h, r⟩ => by
    have p : ∀ x ∈ ds, Tu n x := p
    have all : ∀ (ds : List D) (xs : List V), (∀ x ∈ ds, Tu n x) → RepL m H ds xs → RepL m' H' ds xs := by
      intro ds
      induction ds with
      | nil => intro xs _ r; cases xs with
        | nil => trivial
        | cons => exact False.elim r
      | cons d ds ih => intro xs p r; cases xs with
        | nil => exact False.elim r
        | cons x xs => exact ⟨Tu.keep ht n d x (p d List.mem_cons_self) r.1, ih xs (fun y hy => p y (List.mem_cons_of_mem _ hy)) r.2⟩
    exact ⟨a, xs, e1, (ht a xs hm h).1, (ht a xs hm h).2, all ds xs p r⟩
  | 0, .tup _, _, p, _ => False.elim p
  | n, .lst _, _, p, _ => by cases n <;> exact False.elim p
  | n, .adr _, _, p, _ => by cases n <;> exact False.elim p
  | n, .dT _ _, _, p, _ => by cases n <;> exact False.elim p
  | n, .dK _ _, _, p, _ => by cases n <;> exact False.elim p
theorem Tu.keepL {m m' : Addr → Prop} {H H' : Hp} (ht : ∀ a xs, ¬ m a → H a = some (.tup xs) → ¬ m' a ∧ H' a = some (.tup xs)) {n : Nat} : ∀ (ds : List D) (xs : List V), (∀ x ∈ ds, Tu n x) → RepL m H ds xs → RepL m' H' ds xs
  | [], [], _, _ => trivial
  | d :: ds, x :: xs, p, r => ⟨Tu.keep ht n d x (p d List.mem_cons_self) r.1, Tu.keepL ht ds xs (fun y hy => p y (List.mem_cons_of_mem _ hy)) r.2⟩
  | [], _ :: _, _, r => False.elim r
  | _ :: _, [], _, r => False.elim r
def teB (X : Cx) (scope : Scope) (e : Expr) : TE := fun σ H K => ∀ s H0 C cl fp, teW (X.blk s H0 scope (compEnvC scope cl C X.env) fp) e σ H K
def ttB (X : Cx) (scope : Scope) (e : Expr) : TT := fun σ H K => ∀ s H0 C cl fp, ttW (X.blk s H0 scope (compEnvC scope cl C X.env) fp) e σ H K
section
variable {X : Cx} {I : HI} {μ : D} {δ : De} {e a b c tg iter elt : Expr} {es rest : List Expr} {Q : D → Prop} {E : EndsD} {pos : Pos} {σ : L2.St} {H : Hp} {scope : Scope}
theorem pe_B {e : Expr} (s : Shared) (H : Hp) (C : Addr) (cl : List (Str × Addr)) (fp : List Addr) : PE (X.blk s H scope (compEnvC scope cl C X.env) fp) e (teB X scope e) := ⟨fun pins s' _ _ _ I h => (h s H C cl fp).run pins s' I⟩
theorem pt_B {e : Expr} (s : Shared) (H : Hp) (C : Addr) (cl : List (Str × Addr)) (fp : List Addr) : PT (X.blk s H scope (compEnvC scope cl C X.env) fp) e (ttB X scope e) := ⟨fun pins s' _ _ _ I h => (h s H C cl fp).run pins s' I⟩
theorem XOk.blk (h : XOk X) {s : Shared} {H : Hp} {env : Env} {fp : List Addr} : XOk (X.blk s H scope env fp) := ⟨h.nd, h.calm, h.hu, PassesOwn.never⟩
/-- the own object shows nothing that a new one could be taken for -/
def Still (I : HI) (μ : D) : Prop := I.own = none ∨ μ = .oT []
/-- back to the slots of before, at a later heap -/
theorem RS.back {H4 : Hp} {δ4 : De} {σ4 : L2.St} (r : RS I μ δ σ H) (r4 : RS I μ δ4 σ4 H4) (x : Ext I.m H H4) : RS I μ δ σ H4 := ⟨r4.bs, r4.dom, r4.cm, r4.ownOk, r4.mrm, r.env.map fun d v q => Rep.ext x d v q⟩
/-- an object that is new since then is changed -/
theorem RS.put {H4 : Hp} {δ4 : De} {σ4 : L2.St} {p : Addr} {o : HO} (r : RS I μ δ σ H) (r4 : RS I μ δ4 σ4 H4) (x : Ext I.m H H4) (hp : H p = none) (hmu : Still I μ) : RS I μ δ σ (upd H4 p o) ∧ Ext I.m H (upd H4 p o) := by
  have xf : Ext I.m H (upd H4 p o) := fun a u n e => by rw [upd_ne (ne_of_none e hp)]; exact x a u n e
  have hcp : ∀ c, I.cup = some c → c ≠ p := fun c hc z => by
    obtain ⟨y, y2, e, _⟩ := r.bs.cupOk c hc
    rw [z, hp] at e; cases e
  refine ⟨⟨⟨fun a u n e => ?_, fun c hc => ?_⟩, fun a hm => ?_, r.cm, fun a e => ?_, r.mrm, r.env.map fun d v q => Rep.ext xf d v q⟩, xf⟩
  · rw [upd_ne (ne_of_none (r.bs.base a u n e) hp)]; exact r4.bs.base a u n e
  · obtain ⟨y, y2, e, q⟩ := r4.bs.cupOk c hc
    exact ⟨y, y2, by rw [upd_ne (hcp c hc)]; exact e, q⟩
  · have z : a ≠ p := fun z => (r.dom a hm).1 (z ▸ hp)
    rw [upd_ne z]; exact r4.dom a hm
  · obtain ⟨a1, a2, a3, a4⟩ := r4.ownOk a e
    refine ⟨a1, a2, a3, ?_⟩
    rcases hmu with h | h
    · rw [h] at e; cases e
    · subst h
      obtain ⟨ws, h1, h2, h3⟩ := a4
      have z : a ≠ p := fun z => (r.dom a a2).1 (z ▸ hp)
      have : ws = [] := by simpa using h2
      subst this
      exact ⟨[], by rw [upd_ne z]; exact h1, rfl, trivial⟩
def WIat (X : Cx) (I : HI) (μ : D) (δ : De) (tg iter : Expr) (σ : L2.St) (H : Hp) (Q : List D → Prop) : Prop := ∀ R : It → Hp → Prop,
  (∀ J G Y ds H', Walk J ds.length G Y → RS I μ δ σ H' → Ext I.m H H' → (∀ H1, Ext I.m H' H1 → G H1) →
    (∀ i H1 x H2, i < ds.length → Ext I.m H' H1 → (∀ a, I.m a → Hid (H1 a)) → Y i H1 x H2 → Same H1 H2 ∧ ∃ d, ds[i]? = some d ∧ Rep I.m H2 d x) → Q ds → R J H') → tiW X tg iter σ H R
/-- [elt for tg in iter if ..] -/
theorem lcG_at {own : List (Str × Nat)} {ifs : List Expr} {g : TG} {tt : TT} (f : D → De → De) (hX : XOk X) (hmu : Still I μ) (ok : BlkOk X.N X.env.scope scope own) (hg : ∀ (s : Shared) (H : Hp) (C : Addr) (cl : List (Str × Addr)) (fp : List Addr), PG (X.blk s H scope (compEnvC scope cl C X.env) fp) tg g)
    (htt : ∀ (s : Shared) (H : Hp) (C : Addr) (cl : List (Str × Addr)) (fp : List Addr), PTs (X.blk s H scope (compEnvC scope cl C X.env) fp) ifs tt)
    (r : RS I μ δ σ H) (h : WIat X I μ δ tg iter σ H fun ds => ∃ Pv : Nat → List D → Prop, Pv 0 [] ∧
      (∀ i d acc, ds[i]? = some d → Pv i acc → acc.length < 1000000 ∧ TgtOk g (own.map (·.2)) d (f d) ∧ ∀ σ2 H2, RS I μ (f d (wipeD δ (own.map (·.2)))) σ2 H2 → ∀ K : Bool → Hp → Prop, (∀ b H3, RS I μ (f d (wipeD δ (own.map (·.2)))) σ2 H3 → Ext I.m H2 H3 →
        (b = true → ∀ s H0 C cl fp, W (X.blk s H0 scope (compEnvC scope cl C X.env) fp) I μ (f d (wipeD δ (own.map (·.2)))) elt fun d' => Tu 5 d' ∧ Pv (i + 1) (acc ++ [d'])) → (b = false → Pv (i + 1) acc) → K b H3) → tt σ2 H2 K) ∧
      ∀ acc, Pv ds.length acc → Q (.lst acc)) (hs : ∀ x, foldedSetIterable iter X.env x = pure x := by intro _; rfl) : ∀ K : VK, Gives I μ δ σ H Q K → teW X (.ListComp elt [⟨tg, iter, ifs, 0⟩] scope pos) σ H K := fun K k => by
  refine te_of (pe_lc hX.calm hX.nd pi_W ok hg htt pe_B hs) ?_
  refine h _ fun J G Y ds H1 wk r1 x1 hG hY q => ?_
  obtain ⟨Pv, p0, pt, pd⟩ := q
  intro L hL
  have rw1 : RS I μ (wipeD δ (own.map (·.2))) (L2.wipe σ (own.map (·.2))) H1 := ⟨r1.bs, r1.dom, r1.cm, r1.ownOk, r1.mrm, r1.env.wipe _⟩
  refine lc_it wk (fun i H' => ∃ acc vs, H' L = some (.lst vs) ∧ RepL I.m H' acc vs ∧ (∀ d ∈ acc, Tu 5 d) ∧ Pv i acc ∧ RS I μ (wipeD δ (own.map (·.2))) (L2.wipe σ (own.map (·.2))) H' ∧ Ext I.m H1 H')
    ⟨[], [], upd_same, trivial, fun _ z => (nomatch z), p0, rw1.new hL, Ext.of (same_new hL)⟩ (fun i H' _ ⟨_, _, _, _, _, _, _, x⟩ => hG H' x) (fun i v H' H2 hi ⟨acc, vs, eL, rl, tu, pv, r2, x2⟩ hy => ?_) (fun H' ⟨acc, vs, eL, rl, tu, pv, r2, x2⟩ => ?_)
  · obtain ⟨sm, d, ed, rd⟩ := hY i H' v H2 hi x2 r2.dom hy
    obtain ⟨hlen, tg, ht⟩ := pt i d acc ed pv
    have r2' := r2.same sm
    refine tg I.m H2 _ _ v _ r2'.env rd fun σ' hw hr => ⟨by rw [hw]; exact wipe_wipe _ _, ?_⟩
    have r3 : RS I μ (f d (wipeD δ (own.map (·.2)))) σ' H2 := ⟨r2'.bs, r2'.dom, r2'.cm, r2'.ownOk, r2'.mrm, hr⟩
    refine ht σ' H2 r3 _ fun b H3 r4 x4 h1 h2 => ?_
    have x14 : Ext I.m H1 H3 := (x2.trans (Ext.of sm)).trans x4
    have eL3 : H3 L = some (.lst vs) := x4 L _ (fun z => (r1.dom L z).1 hL) (sm _ _ eL)
    cases b with
    | false =>
      rw [if_neg (by decide)]
      exact ⟨acc, vs, eL3, RepL.ext ((Ext.of sm).trans x4) _ _ rl, tu, h2 rfl, rw1.back r4 x14, x14⟩
    | true =>
      rw [if_pos rfl]
      intro s H0 C cl fp
      refine h1 rfl s H0 C cl fp σ' H3 r4 _ fun d' y H4 r5 x5 rep q => ?_
      have x15 : Ext I.m H1 H4 := x14.trans x5
      have eL4 : H4 L = some (.lst vs) := x5 L _ (fun z => (r1.dom L z).1 hL) eL3
      obtain ⟨rF, xF⟩ := rw1.put (o := .lst (vs ++ [y])) r5 x15 hL hmu
      have ht4 : ∀ a xs, ¬ I.m a → H4 a = some (.tup xs) → ¬ I.m a ∧ upd H4 L (.lst (vs ++ [y])) a = some (.tup xs) := fun a xs n e => ⟨n, by
        rw [upd_ne (ne_of e eL4 (fun z => nomatch z))]; exact e⟩
      refine ⟨vs, eL4, ?_, acc ++ [d'], vs ++ [y], upd_same, ?_, ?_, q.2, rF, xF⟩
      · rw [← rl.len]; exact Nat.lt_of_lt_of_le hlen (by decide)
      · exact RepL.snoc (Tu.keepL ht4 acc vs tu (RepL.ext (((Ext.of sm).trans x4).trans x5) _ _ rl)) (Tu.keep ht4 5 d' y q.1 rep)
      · intro x hx
        rcases List.mem_append.mp hx with hx | hx
        · exact tu x hx
        · rw [List.mem_singleton.mp hx]; exact q.1
  · exact k (.lst acc) _ H' (r1.back r2 x2) (x1.trans x2) ⟨L, vs, rfl, fun z => (r1.dom L z).1 hL, eL, rl⟩ (pd acc pv)
/-- [elt for tg in iter if ..] -/
theorem W_lcG {own : List (Str × Nat)} {ifs : List Expr} {g : TG} {tt : TT} (f : D → De → De) (hX : XOk X) (hmu : Still I μ) (ok : BlkOk X.N X.env.scope scope own) (hg : ∀ (s : Shared) (H : Hp) (C : Addr) (cl : List (Str × Addr)) (fp : List Addr), PG (X.blk s H scope (compEnvC scope cl C X.env) fp) tg g)
    (htt : ∀ (s : Shared) (H : Hp) (C : Addr) (cl : List (Str × Addr)) (fp : List Addr), PTs (X.blk s H scope (compEnvC scope cl C X.env) fp) ifs tt)
    (h : WI X I μ δ tg iter fun ds => ∃ Pv : Nat → List D → Prop, Pv 0 [] ∧
      (∀ i d acc, ds[i]? = some d → Pv i acc → acc.length < 1000000 ∧ TgtOk g (own.map (·.2)) d (f d) ∧ ∀ σ2 H2, RS I μ (f d (wipeD δ (own.map (·.2)))) σ2 H2 → ∀ K : Bool → Hp → Prop, (∀ b H3, RS I μ (f d (wipeD δ (own.map (·.2)))) σ2 H3 → Ext I.m H2 H3 →
        (b = true → ∀ s H0 C cl fp, W (X.blk s H0 scope (compEnvC scope cl C X.env) fp) I μ (f d (wipeD δ (own.map (·.2)))) elt fun d' => Tu 5 d' ∧ Pv (i + 1) (acc ++ [d'])) → (b = false → Pv (i + 1) acc) → K b H3) → tt σ2 H2 K) ∧
      ∀ acc, Pv ds.length acc → Q (.lst acc)) (hs : ∀ x, foldedSetIterable iter X.env x = pure x := by intro _; rfl) : W X I μ δ (.ListComp elt [⟨tg, iter, ifs, 0⟩] scope pos) Q := fun σ H r K k => lcG_at f hX hmu ok hg htt r (h σ H r) hs K k
/-- without a test -/
theorem W_lc {own : List (Str × Nat)} {g : TG} (f : D → De → De) (hX : XOk X) (hmu : Still I μ) (ok : BlkOk X.N X.env.scope scope own) (hg : ∀ (s : Shared) (H : Hp) (C : Addr) (cl : List (Str × Addr)) (fp : List Addr), PG (X.blk s H scope (compEnvC scope cl C X.env) fp) tg g)
    (h : WI X I μ δ tg iter fun ds => ∃ Pv : Nat → List D → Prop, Pv 0 [] ∧
      (∀ i d acc, ds[i]? = some d → Pv i acc → acc.length < 1000000 ∧ TgtOk g (own.map (·.2)) d (f d) ∧ ∀ s H0 C cl fp, W (X.blk s H0 scope (compEnvC scope cl C X.env) fp) I μ (f d (wipeD δ (own.map (·.2)))) elt fun d' => Tu 5 d' ∧ Pv (i + 1) (acc ++ [d'])) ∧
      ∀ acc, Pv ds.length acc → Q (.lst acc)) (hs : ∀ x, foldedSetIterable iter X.env x = pure x := by intro _; rfl) : W X I μ δ (.ListComp elt [⟨tg, iter, [], 0⟩] scope pos) Q :=
  W_lcG f hX hmu ok hg (fun _ _ _ _ _ => pts_nil) (fun σ H r R k => h σ H r R fun J G Y ds H' wk r' x hG hY q => k J G Y ds H' wk r' x hG hY (by
    obtain ⟨Pv, p0, pt, pd⟩ := q
    refine ⟨Pv, p0, fun i d acc e pv => ?_, pd⟩
    obtain ⟨h1, h2, h3⟩ := pt i d acc e pv
    exact ⟨h1, h2, fun σ2 H2 r2 K kk => kk true H2 r2 Ext.refl (fun _ => h3) (fun z => nomatch z)⟩)) hs
/-- with a test -/
theorem W_lcIf {own : List (Str × Nat)} {g : TG} (f : D → De → De) (hX : XOk X) (hmu : Still I μ) (ok : BlkOk X.N X.env.scope scope own) (hg : ∀ (s : Shared) (H : Hp) (C : Addr) (cl : List (Str × Addr)) (fp : List Addr), PG (X.blk s H scope (compEnvC scope cl C X.env) fp) tg g)
    (h : WI X I μ δ tg iter fun ds => ∃ Pv : Nat → List D → Prop, Pv 0 [] ∧
      (∀ i d acc, ds[i]? = some d → Pv i acc → acc.length < 1000000 ∧ TgtOk g (own.map (·.2)) d (f d) ∧ ∀ s H0 C cl fp, WT (X.blk s H0 scope (compEnvC scope cl C X.env) fp) I μ (f d (wipeD δ (own.map (·.2)))) c fun b =>
        (b = true → ∀ s H0 C cl fp, W (X.blk s H0 scope (compEnvC scope cl C X.env) fp) I μ (f d (wipeD δ (own.map (·.2)))) elt fun d' => Tu 5 d' ∧ Pv (i + 1) (acc ++ [d'])) ∧ (b = false → Pv (i + 1) acc)) ∧
      ∀ acc, Pv ds.length acc → Q (.lst acc)) (hs : ∀ x, foldedSetIterable iter X.env x = pure x := by intro _; rfl) : W X I μ δ (.ListComp elt [⟨tg, iter, [c], 0⟩] scope pos) Q :=
  W_lcG (tt := ttB X scope c) f hX hmu ok hg (fun s H C cl fp => pts_one (pt_B s H C cl fp)) (fun σ H r R k => h σ H r R fun J G Y ds H' wk r' x hG hY q => k J G Y ds H' wk r' x hG hY (by
    obtain ⟨Pv, p0, pt, pd⟩ := q
    refine ⟨Pv, p0, fun i d acc e pv => ?_, pd⟩
    obtain ⟨h1, h2, h3⟩ := pt i d acc e pv
    exact ⟨h1, h2, fun σ2 H2 r2 K kk s H0 C cl fp => h3 s H0 C cl fp σ2 H2 r2 K fun b H3 r3 x3 q3 => kk b H3 r3 x3 q3.1 q3.2⟩)) hs
end
end K48
/-! sorted of pairs (int, tuple of ints) -/
namespace K48
open PySem PySem.Spec PyProof.Rows L2 SrtO
abbrev PT2 := Int × List Int
theorem K48_sql {K : PySem.W.Frag} {H : Hp} {a : Addr} {xs : List V} (h : H a = some (.lst xs)) : SqL K H a xs := .inl (.inl h)
def lexP (p q : PT2) : Bool := if p.1 = q.1 then HT.lexLt p.2 q.2 else decide (p.1 < q.1)
theorem lexLt_irrefl : ∀ xs : List Int, HT.lexLt xs xs = false
  | [] => rfl
  | x :: xs => by rw [HT.lexLt_cons, if_pos rfl, lexLt_irrefl xs]
theorem lexLt_asym : ∀ xs ys : List Int, HT.lexLt xs ys = true → HT.lexLt ys xs = false
  | [], [], h => by simp [HT.lexLt] at h
  | [], y :: ys, _ => rfl
  | _ :: _, [], h => by simp [HT.lexLt] at h
  | x :: xs, y :: ys, h => by
    rw [HT.lexLt_cons] at h ⊢
    by_cases e : x = y
    · rw [if_pos e] at h
      rw [if_pos e.symm]
      exact lexLt_asym xs ys h
    · rw [if_neg e] at h
      rw [if_neg (Ne.symm e)]
      have := of_decide_eq_true h
      exact decide_eq_false (by omega)
theorem lexLt_tr : ∀ xs ys zs : List Int, HT.lexLt ys xs = false → HT.lexLt zs ys = false → HT.lexLt zs xs = false
  | [], [], [], _, _ => rfl
  | [], [], _ :: _, _, _ => rfl
  | [], _ :: _, [], _, h => by simp [HT.lexLt] at h
  | [], _ :: _, _ :: _, _, _ => rfl
  | _ :: _, [], _, h, _ => by simp [HT.lexLt] at h
  | _ :: _, _ :: _, [], _, h => by simp [HT.lexLt] at h
  | x :: xs, y :: ys, z :: zs, h1, h2 => by
    rw [HT.lexLt_cons] at h1 h2 ⊢
    by_cases e1 : y = x <;> by_cases e2 : z = y
    · rw [if_pos e1] at h1
      rw [if_pos e2] at h2
      rw [if_pos (e2.trans e1)]
      exact lexLt_tr xs ys zs h1 h2
    · rw [if_neg e2] at h2
      have := of_decide_eq_false h2
      rw [if_neg (by omega)]
      exact decide_eq_false (by omega)
    · rw [if_neg e1] at h1
      have := of_decide_eq_false h1
      rw [if_neg (by omega)]
      exact decide_eq_false (by omega)
    · rw [if_neg e1] at h1
      rw [if_neg e2] at h2
      have := of_decide_eq_false h1
      have := of_decide_eq_false h2
      rw [if_neg (by omega)]
      exact decide_eq_false (by omega)
theorem swo_lexP {α : Type} (k : α → PT2) : Swo fun v u => lexP (k v) (k u) := by
  refine ⟨fun x y h => ?_, fun x y z h1 h2 => ?_⟩
  · simp only [lexP] at h ⊢
    by_cases e : (k x).1 = (k y).1
    · rw [if_pos e] at h
      rw [if_pos e.symm]
      exact lexLt_asym _ _ h
    · rw [if_neg e] at h
      rw [if_neg (Ne.symm e)]
      have := of_decide_eq_true h
      exact decide_eq_false (by omega)
  · simp only [lexP] at h1 h2 ⊢
    by_cases e1 : (k y).1 = (k x).1 <;> by_cases e2 : (k z).1 = (k y).1
    · rw [if_pos e1] at h1
      rw [if_pos e2] at h2
      rw [if_pos (e2.trans e1)]
      exact lexLt_tr _ _ _ h1 h2
    · rw [if_neg e2] at h2
      have := of_decide_eq_false h2
      rw [if_neg (by omega)]
      exact decide_eq_false (by omega)
    · rw [if_neg e1] at h1
      have := of_decide_eq_false h1
      rw [if_neg (by omega)]
      exact decide_eq_false (by omega)
    · rw [if_neg e1] at h1
      rw [if_neg e2] at h2
      have := of_decide_eq_false h1
      have := of_decide_eq_false h2
      rw [if_neg (by omega)]
      exact decide_eq_false (by omega)
/-- in the heap: a tuple of an int and of a tuple of ints -/
def IsPT (h : Heap) (v : Value) (x : Int) (ns : List Int) : Prop := ∃ a o t b ob its n n', v = .ref a ∧ h.get? a = some o ∧ o.cls = .type "tuple" ∧ o.data = .seq #[.int x t, .ref b] n ∧ h.get? b = some ob ∧ ob.cls = .type "tuple" ∧ ob.data = .seq its n' ∧ IntsAre its.toList ns
theorem IsPT.keeps {h h' : Heap} {v : Value} {x : Int} {ns : List Int} (p : IsPT h v x ns) (k : ∀ b o, h.get? b = some o → o.cls = .type "tuple" → h'.get? b = some o) : IsPT h' v x ns := by
  obtain ⟨a, o, t, b, ob, its, n, n', e, ho, hc, hd, hob, hcb, hdb, hi⟩ := p
  exact ⟨a, o, t, b, ob, its, n, n', e, k _ _ ho hc, hc, hd, k _ _ hob hcb, hcb, hdb, hi⟩
theorem firstsPT {h : Heap} : ∀ {vs : List Value}, (∀ v ∈ vs, ∃ x ns, IsPT h v x ns) → ∃ fs : List Value, PySem.W.KatTups h vs fs ∧ fs.length = vs.length ∧ ∀ f ∈ fs, ∃ x t, f = Value.int x t
  | [], _ => ⟨[], PySem.W.KatTups.nil, rfl, fun _ hm => by simp at hm⟩
  | v :: vs, hp => by
    obtain ⟨fs, h1, h2, h3⟩ := firstsPT (vs := vs) fun v' hm => hp v' (List.mem_cons_of_mem _ hm)
    obtain ⟨x, ns, a, o, t, b, ob, its, n, n', e, ho, hc, hd, _⟩ := hp v (List.mem_cons_self ..)
    subst e
    refine ⟨.int x t :: fs, PySem.W.KatTups.cons ho hc hd rfl h1, by rw [List.length_cons, List.length_cons, h2], fun f hm => ?_⟩
    rcases List.mem_cons.mp hm with rfl | hm
    · exact ⟨x, t, rfl⟩
    · exact h3 f hm
def pdInts (ns : List Int) : PyData := .tuple (ns.map PyData.int)
theorem readsInts {h : Heap} : ∀ {vs : List Value} {ns : List Int}, IntsAre vs ns → ∃ as, ReadsAll h vs (ns.map PyData.int) as
  | _, _, .nil => ⟨_, ReadsAll.nil⟩
  | _, _, .cons n t r => let ⟨as, q⟩ := readsInts r; ⟨_, ReadsAll.cons (Reads.int n t) q⟩
theorem pdInts_lay (ns : List Int) : (pdInts ns).canLay0 = true := by
  unfold pdInts
  simp only [PyData.canLay0]
  induction ns with
  | nil => rfl
  | cons n ns ih => simp only [List.map_cons, PyData.canLayAll0, PyData.canLay0, ih]; rfl
theorem pdInts_depth (ns : List Int) : (pdInts ns).depth ≤ 1 := by
  unfold pdInts
  simp only [PyData.depth]
  have : PyData.depthAll (ns.map PyData.int) = 0 := by
    induction ns with
    | nil => rfl
    | cons n ns ih => simp only [List.map_cons, PyData.depthAll, PyData.depth, ih]; rfl
  omega
theorem pdInts_eqv (ns ms : List Int) : PyData.eqv (pdInts ns) (pdInts ms) = decide (ns = ms) := by
  unfold pdInts
  simp only [PyData.eqv]
  induction ns generalizing ms with
  | nil => cases ms <;> simp [PyData.eqvAll]
  | cons n ns ih => cases ms with
    | nil => simp [PyData.eqvAll]
    | cons m ms =>
      simp only [List.map_cons, PyData.eqvAll, PyData.eqv, ih]
      by_cases e : n = m <;> simp [e]
section
variable {prog : Program} {w : World} {A : Around} {E : Value → Shared → Prop} {s : Shared}
theorem pt_cmp {vs : List Value} {k : Value → PT2} (hu : A.units + 2 < cLine) (hp : ∀ v ∈ vs, IsPT s.heap v (k v).1 (k v).2) : SrtO.Cmp prog w A s (tuples' true) (fun p => p.1 ∈ vs) (lt2 fun v u => lexP (k v) (k u)) := by
  intro p q hm hm'
  have h1 := hp _ hm
  have h2 := hp _ hm'
  show wpAny (model prog w) A (keyLt' (tuples' true) p.1 q.1) (fun r s' => s' = s ∧ r = lexP (k p.1) (k q.1)) (fun _ _ => False) s
  unfold lexP
  generalize (k p.1).1 = x at h1 ⊢
  generalize (k p.1).2 = y at h1 ⊢
  generalize (k q.1).1 = x' at h2 ⊢
  generalize (k q.1).2 = y' at h2 ⊢
  obtain ⟨a, o, t, b, ob, its, n, n1, e, ho, hc, hd, hob, hcb, hdb, hi⟩ := h1
  obtain ⟨a', o', t', b', ob', its', n', n1', e', ho', hc', hd', hob', hcb', hdb', hi'⟩ := h2
  rw [e, e']
  refine PySem.W.kat_lt ho hd ho' hd' ?_
  show PySem.W.KatLex prog w A true (decide (2 < 2)) _ [(.int x t, .int x' t'), (.ref b, .ref b')] 0 s
  refine PySem.W.kat_cons (SeqAt.EqAt.int_int x t x' t' prog w _ _ ?_)
  refine PySem.W.kat_go (fun e1 => ?_) (fun e1 => ?_)
  · have ex : x = x' := by simpa using e1
    obtain ⟨as, ra⟩ := readsInts (h := s.heap) hi
    obtain ⟨bs, rb⟩ := readsInts (h := s.heap) hi'
    have E1 := SeqAt.eqAt_reads (pdInts y) (pdInts y') A s (.ref b) (.ref b') as bs (Reads.tuple hob hcb hdb ra) (Reads.tuple hob' hcb' hdb' rb) (pdInts_lay y) (pdInts_lay y') (by have := pdInts_depth y; omega)
    rw [pdInts_eqv] at E1
    refine PySem.W.kat_yes (PySem.W.kat_cons (E1 prog w _ _ ?_))
    refine PySem.W.kat_go (fun e2 => ?_) (fun e2 => ?_)
    · have ey : y = y' := of_decide_eq_true e2
      have e3 : (if x = x' then HT.lexLt y y' else decide (x < x')) = false := by
        rw [if_pos ex, ey]
        exact lexLt_irrefl _
      exact PySem.W.kat_yes (PySem.W.kat_nil ⟨rfl, e3.symm⟩)
    · have e3 : (if x = x' then HT.lexLt y y' else decide (x < x')) = HT.lexLt y y' := if_pos ex
      refine PySem.W.kat_no (PySem.W.kat_one _ _ (HT.lt_tupInts ⟨ob, hob, hcb, n1, hdb⟩ ⟨ob', hob', hcb', n1', hdb'⟩ hi hi' (by omega) ?_))
      exact (show s = s ∧ HT.lexLt y y' = (if x = x' then HT.lexLt y y' else decide (x < x')) from ⟨rfl, e3.symm⟩)
  · have ex : ¬ x = x' := by simpa using e1
    have e3 : (if x = x' then HT.lexLt y y' else decide (x < x')) = decide (x < x') := if_neg ex
    exact PySem.W.kat_no (oneLt_int ⟨rfl, e3.symm⟩)
theorem pts_sortableO {a : Addr} {vs : List Value} {k : Value → PT2} (hu : A.units + 2 < cLine) (h0 : 0 < vs.length) (hp : ∀ v ∈ vs, IsPT s.heap v (k v).1 (k v).2) (ha : ∀ o, s.heap.get? a = some o → o.cls ≠ .type "tuple") : SortableO prog w A s a vs fun v u => lexP (k v) (k u) := by
  intro h' keep
  have hp' : ∀ v ∈ vs, IsPT h' v (k v).1 (k v).2 := fun v hm => (hp v hm).keeps fun b o e c => keep b o (fun z => by subst z; exact ha o e c) e
  obtain ⟨fs, h1, h2, h3⟩ := firstsPT fun v hm => ⟨_, _, hp' v hm⟩
  refine ⟨tuples' true, fun Q E hq => ?_, pt_cmp hu hp'⟩
  refine PySem.W.kat_kind (T := .type "int") h1 (by omega) (fun f hm => ?_) (by rfl) ?_
  · obtain ⟨x, t, rfl⟩ := h3 f hm
    exact PySem.W.Looks.now
  · have e : (Value.type "int" != Value.type "tuple") = true := by first | decide +kernel | rfl | decide
    rw [e]
    exact hq
theorem sorted_pts {l : Addr} {vs : List Value} {k : Value → PT2} {Q : Value → Shared → Prop} (hu : A.units + 10 < cLine) (hl : s.heap.IsList l vs.toArray) (hz : vs.length ≤ sizeLine) (hp : ∀ v ∈ vs, IsPT s.heap v (k v).1 (k v).2)
    (h : ∀ (h' : Heap) (d : Addr) (out : List Value), Srtd (fun v u => lexP (k v) (k u)) out → Stb (fun v u => lexP (k v) (k u)) out vs → (∀ b o, s.heap.get? b = some o → h'.get? b = some o) → s.heap.objs.size ≤ d → (∃ n, h'.get? d = some (seqObj "list" out.toArray n)) → Q (.ref d) { s with heap := h' }) :
    wpAny (model prog w) A (call (.builtin "sorted") [.ref l]) Q E s := by
  refine sorted_ord (swo_lexP k) hl hz (fun h2 h₁ a ha kk => ?_) fun out hs hb => ?_
  · refine pts_sortableO (A := A.in1.in1) (s := { s with heap := h₁ }) (by show A.units + 1 + 1 + 2 < cLine; omega) (by omega) (fun v hm => (hp v hm).keeps fun b o e _ => (kk b o e).2) fun o e => ?_
    have e' : some o = some (seqObj "list" vs.toArray 0) := e.symm.trans ha
    cases e'
    intro c
    exact absurd (Value.type.inj c) (by decide)
  · exact h _ _ out hs hb (fun b o e => sortedAll_old e) (Nat.le_succ _) (sortedAll_at s.heap vs out.toArray)
end
/-- sorted(xs) of pairs (int, tuple of ints), as a rule of the layer -/
def rSortedPT : List V → Hp → VK → Prop := fun vs H Q => ∃ (a : Addr) (xs : List V) (k : V → PT2), vs = [V.ref a] ∧ H a = some (.lst xs) ∧ (∀ x ∈ xs, ∃ t b, x = V.ref t ∧ H t = some (.tup [.int (k x).1, .ref b]) ∧ H b = some (.tup ((k x).2.map V.int))) ∧
  ∀ ys p, SrtO.Srtd (fun v u => lexP (k v) (k u)) ys → ys.Perm xs → H p = none → Q (.ref p) (upd H p (.lst ys))
section
variable {X : Cx}
theorem cr_sortedPT (hu : X.A.units + 10 < cLine) : CallR X (.builtin "sorted") rSortedPT := by
  intro pins s σ H vs us Q I r h
  obtain ⟨a, xs, k, rfl, hs, hx, q⟩ := h
  obtain ⟨its, rv, hl, hz⟩ := I.list (K48_sql hs)
  obtain ⟨u, rfl, ru⟩ := vals1 r
  obtain rfl : u = Value.ref a := ru
  obtain ⟨e1, e2⟩ := refs_back rv fun x m => by
    obtain ⟨t, _, e, _⟩ := hx x m
    exact ⟨t, e⟩
  refine sorted_pts (k := fun u => k (backV u)) hu hl.isList (by rw [← rv.length]; exact hz) (fun v hv => ?_) fun h' d out h1 h2 kp hd hn => ?_
  · obtain ⟨t, rfl⟩ := e2 v hv
    have hm : V.ref t ∈ xs := by rw [e1]; exact List.mem_map.mpr ⟨_, hv, rfl⟩
    obtain ⟨t', b, e, ht, hb⟩ := hx _ hm
    cases e
    obtain ⟨_, its2, r2, o, ho, hc, n, hd⟩ := I.hok _ _ ht
    obtain ⟨_, its3, r3, ob, hob, hcb, nb, hdb⟩ := I.hok _ _ hb
    obtain ⟨u1, u2, rfl, ri, rj⟩ := vals2 r2
    obtain ⟨t1, rfl⟩ := ri
    obtain rfl : u2 = Value.ref b := rj
    exact ⟨t, o, t1, b, ob, its3.toArray, n, nb, rfl, ho, hc, hd, hob, hcb, hdb, intsAre_of r3⟩
  · have h3 : ∀ u ∈ out, ∃ a, u = Value.ref a := fun u hu => e2 u (h2.perm.mem_iff.mp hu)
    obtain ⟨n, hn⟩ := hn
    have hb : (out.map backV).Perm xs := by
      rw [e1]
      exact h2.perm.map backV
    refine ⟨.ref d, upd H d (.lst (out.map backV)), I.laid (t' := s.toks) kp hd ⟨?_, out, n, vals_back h3, hn⟩, rfl, q _ d (SrtO.srtd_map (f := backV) (lt := fun v u => lexP (k v) (k u)) h1) hb (I.hok.fresh hd)⟩
    rw [hb.length_eq]
    exact hz
end
end K48
/-! Rules: the own object, locked dicts, sorted, three names at once; a def from its body -/
namespace K48
open PySem PySem.Spec PyProof.Rows L2
section
variable {X : Cx} {I : HI} {μ : D} {δ : De} {e a b c tg iter elt : Expr} {es rest : List Expr} {Q : D → Prop} {E : EndsD} {pos : Pos} {σ : L2.St} {H : Hp} {scope : Scope}

/-! ### sorted -/
theorem W_sortedI {p : Pos} (hm : X.mg "sorted" = none) (h : W X I μ δ a fun d => ∃ ns : List Int, d = .lst (ns.map D.int) ∧ ∀ ms : List Int, ms.Perm ns → ms.Pairwise (· ≤ ·) → Q (.lst (ms.map D.int))) (hg : Gl X "sorted" := by rfl)
    (he : starEach [a] X.env = (false, eval a X.env) :: starEach [] X.env := by rfl) : W X I μ δ (.Call (.Name "sorted" p) [a] [] pos) Q :=
  W_callB (P := fun ds => ∃ d, ds = [d] ∧ ∃ ns : List Int, d = .lst (ns.map D.int) ∧ ∀ ms : List Int, ms.Perm ns → ms.Pairwise (· ≤ ·) → Q (.lst (ms.map D.int))) cr_sortedI hm (by decide +kernel) (WA1 (h.mono fun d q => ⟨d, rfl, q⟩) he) (fun ds vs σ H K q r rl k => by
    obtain ⟨d, rfl, ns, rfl, q⟩ := q
    obtain ⟨v, rfl, p, vs, rfl, _, hp, rl2⟩ := repl1 rl
    rw [flat_ints rl2] at hp
    refine ⟨p, ns, rfl, .inl (.inl hp), fun ms p' h1 h2 hp' => k.lst r ?_ (q ms h1 h2) hp'⟩
    have all : ∀ ms : List Int, RepL I.m H (ms.map D.int) (ms.map V.int) := by
      intro ms
      induction ms with
      | nil => trivial
      | cons m ms ih => exact ⟨rfl, ih⟩
    exact all ms) hg (by decide) (by decide) he
theorem W_sortedDK {p : Pos} (hX : XOk X) (hm : X.mg "sorted" = none) (h : W X I μ δ a fun d => ∃ (ns : List Int) (ds : List D), d = .dK (ns.map Sum.inl) ds ∧ ns.length < 64 ∧ ∀ ms : List Int, ms.Perm ns → ms.Pairwise (· ≤ ·) → Q (.lst (ms.map D.int))) (hg : Gl X "sorted" := by rfl)
    (he : starEach [a] X.env = (false, eval a X.env) :: starEach [] X.env := by rfl) : W X I μ δ (.Call (.Name "sorted" p) [a] [] pos) Q :=
  W_callB (P := fun ds => ∃ d, ds = [d] ∧ ∃ (ns : List Int) (ds : List D), d = .dK (ns.map Sum.inl) ds ∧ ns.length < 64 ∧ ∀ ms : List Int, ms.Perm ns → ms.Pairwise (· ≤ ·) → Q (.lst (ms.map D.int))) (call_sortedDI hX.calm) hm (by decide +kernel) (WA1 (h.mono fun d q => ⟨d, rfl, q⟩) he) (fun ds vs σ H K q r rl k => by
    obtain ⟨d, rfl, ns, ds, rfl, h64, q⟩ := q
    obtain ⟨v, rfl, p, ws, rfl, _, hp, hks, rl2⟩ := repl1 rl
    refine ⟨p, ws, ns, rfl, hp, hks, h64, fun ms p' h1 h2 hp' => k.lst r ?_ (q ms h1 h2) hp'⟩
    have all : ∀ ms : List Int, RepL I.m H (ms.map D.int) (ms.map V.int) := by
      intro ms
      induction ms with
      | nil => trivial
      | cons m ms ih => exact ⟨rfl, ih⟩
    exact all ms) hg (by decide) (by decide) he
/-- the pair (int, tuple of ints) -/
def ptD (p : PT2) : D := .tup [.int p.1, .tup (p.2.map D.int)]
theorem W_sortedPT {p : Pos} (hX : XOk X) (hm : X.mg "sorted" = none) (h : W X I μ δ a fun d => ∃ ps : List PT2, d = .lst (ps.map ptD) ∧ ∀ qs : List PT2, qs.Perm ps → SrtO.Srtd lexP qs → Q (.lst (qs.map ptD))) (hg : Gl X "sorted" := by rfl)
    (he : starEach [a] X.env = (false, eval a X.env) :: starEach [] X.env := by rfl) : W X I μ δ (.Call (.Name "sorted" p) [a] [] pos) Q :=
  W_callB (P := fun ds => ∃ d, ds = [d] ∧ ∃ ps : List PT2, d = .lst (ps.map ptD) ∧ ∀ qs : List PT2, qs.Perm ps → SrtO.Srtd lexP qs → Q (.lst (qs.map ptD))) (cr_sortedPT (by have := hX.hu; omega)) hm (by decide +kernel) (WA1 (h.mono fun d q => ⟨d, rfl, q⟩) he) (fun ds vs σ H K q r rl k => by
    obtain ⟨d, rfl, ps, rfl, q⟩ := q
    obtain ⟨v, rfl, l, vs, rfl, _, hl, rl2⟩ := repl1 rl
    have one : ∀ (p : PT2) (x : V), Rep I.m H (ptD p) x → ∃ t b, x = V.ref t ∧ H t = some (.tup [.int p.1, .ref b]) ∧ H b = some (.tup (p.2.map V.int)) := fun p x rp => by
      obtain ⟨t, xs, rfl, _, ht, rx⟩ := rp
      obtain ⟨v1, v2, rfl, r1, r2⟩ := repl2 rx
      cases r1
      obtain ⟨b, ys, rfl, _, hb, ry⟩ := r2
      rw [flat_ints ry] at hb
      exact ⟨t, b, rfl, ht, hb⟩
    have inj : ∀ (p p' : PT2) (x : V), Rep I.m H (ptD p) x → Rep I.m H (ptD p') x → p = p' := fun p p' x h1 h2 => by
      obtain ⟨t, b, e, ht, hb⟩ := one p x h1
      obtain ⟨t', b', e', ht', hb'⟩ := one p' x h2
      rw [e] at e'
      cases e'
      rw [ht] at ht'
      have := HO.tup.inj (Option.some.inj ht')
      simp only [List.cons.injEq, V.int.injEq, V.ref.injEq, and_true] at this
      obtain ⟨e1, e2⟩ := this
      subst e2
      rw [hb] at hb'
      have e3 := HO.tup.inj (Option.some.inj hb')
      have e4 : p.2 = p'.2 := by
        have : ∀ xs ys : List Int, xs.map V.int = ys.map V.int → xs = ys := by
          intro xs
          induction xs with
          | nil => intro ys h; cases ys with
            | nil => rfl
            | cons => simp at h
          | cons x xs ih => intro ys h; cases ys with
            | nil => simp at h
            | cons y ys => simp only [List.map_cons, List.cons.injEq, V.int.injEq] at h; rw [h.1, ih ys h.2]
        exact this _ _ e3
      exact Prod.ext e1 e4
    classical
    let k' : V → PT2 := fun x => if h : ∃ p, Rep I.m H (ptD p) x then Classical.choose h else (0, [])
    have kk : ∀ (p : PT2) (x : V), Rep I.m H (ptD p) x → k' x = p := fun p x h => by
      have he : ∃ p, Rep I.m H (ptD p) x := ⟨p, h⟩
      show (if h : ∃ p, Rep I.m H (ptD p) x then Classical.choose h else (0, [])) = p
      rw [dif_pos he]
      exact inj _ _ x (Classical.choose_spec he) h
    have rep : ∀ (ps : List PT2) (vs : List V), RepL I.m H (ps.map ptD) vs → vs.map k' = ps ∧ ∀ x ∈ vs, Rep I.m H (ptD (k' x)) x := by
      intro ps
      induction ps with
      | nil => intro vs h; cases vs with
        | nil => exact ⟨rfl, fun _ z => nomatch z⟩
        | cons => exact False.elim h
      | cons p ps ih => intro vs h; cases vs with
        | nil => exact False.elim h
        | cons x xs =>
          obtain ⟨i1, i2⟩ := ih xs h.2
          have e := kk p x h.1
          refine ⟨by simp only [List.map_cons, i1, e], fun y hy => ?_⟩
          rcases List.mem_cons.mp hy with rfl | hy
          · rw [e]; exact h.1
          · exact i2 y hy
    obtain ⟨e1, e2⟩ := rep ps vs rl2
    refine ⟨l, vs, k', rfl, hl, fun x hx => ?_, fun ys p' h1 h2 hp' => ?_⟩
    · obtain ⟨t, b, e, ht, hb⟩ := one _ x (e2 x hx)
      exact ⟨t, b, e, ht, hb⟩
    · have hr : RepL I.m H ((ys.map k').map ptD) ys := by
        have hy : ∀ x ∈ ys, Rep I.m H (ptD (k' x)) x := fun x hx => e2 x (h2.mem_iff.mp hx)
        clear h1 h2
        induction ys with
        | nil => trivial
        | cons y ys ih => exact ⟨hy y List.mem_cons_self, ih fun x hx => hy x (List.mem_cons_of_mem _ hx)⟩
      refine k.lst r hr (q (ys.map k') ?_ ?_) hp'
      · rw [← e1]; exact h2.map k'
      · exact SrtO.srtd_map (f := k') (lt := lexP) h1) hg (by decide) (by decide) he

/-! ### the own object -/
theorem RepC.mono {m m' : Addr → Prop} (s : ∀ x, m' x → m x) {a : Addr} : ∀ {μ : D}, RepC m H a μ → RepC m' H a μ
  | .lst ds, ⟨xs, e, r⟩ => ⟨xs, e, RepL.mono s _ _ r⟩
  | .dT ks ds, ⟨ws, e, k, r⟩ => ⟨ws, e, k, RepL.mono s _ _ r⟩
  | .non, h => False.elim h
  | .bl _, h => False.elim h
  | .int _, h => False.elim h
  | .str _, h => False.elim h
  | .adr _, h => False.elim h
  | .tup _, h => False.elim h
  | .dK _ _, h => False.elim h
def HI.ext (I : HI) (a : Addr) : HI := { I with m := fun x => I.m x ∨ x = a, own := some a }
theorem RS.fresh0 (r : RS I μ δ σ H) {p : Addr} (h : H p = none) : I.H0 p = none ∧ I.cup ≠ some p ∧ ¬ I.mr p ∧ ¬ I.m p := by
  have hc : I.cup ≠ some p := fun z => by
    obtain ⟨x, y, e, _⟩ := r.bs.cupOk p z
    rw [h] at e; cases e
  refine ⟨?_, hc, fun z => (r.dom p (r.mrm p z)).1 h, fun z => (r.dom p z).1 h⟩
  cases e : I.H0 p with
  | none => rfl
  | some o => have := r.bs.base p o hc e; rw [h] at this; cases this
/-- x = [..]: the own list -/
theorem RS.ext {p : Addr} {o : HO} {ν : D} (r : RS I μ δ σ H) (ho : I.own = none) (h : H p = none) (hc : RepC I.m (upd H p o) p ν) (hs : ∀ d v, Rep I.m H d v → Rep (fun x => I.m x ∨ x = p) (upd H p o) d v)
    (hν : RepC (fun x => I.m x ∨ x = p) (upd H p o) p ν) (ht : ∀ xs, o ≠ .tup xs) : RS (I.ext p) ν δ σ (upd H p o) := by
  obtain ⟨f1, f2, f3, f4⟩ := r.fresh0 h
  have sm : Same H (upd H p o) := same_new h
  refine ⟨⟨fun a u n e => sm a u (r.bs.base a u n e), fun c e => CupAt.same sm (r.bs.cupOk c e)⟩, fun a ha => ?_, fun c e => ⟨.inl (r.cm c e).1, fun z => ?_⟩, fun a e => ?_, fun a ha => .inl (r.mrm a ha), r.env.map hs⟩
  · rcases ha with ha | ha
    · exact (r.dom a ha).of fun o e => sm a o e
    · rw [ha, upd_same]; exact ⟨fun z => (nomatch z), fun xs z => ht xs (Option.some.inj z)⟩
  · have : p = c := Option.some.inj z
    exact f2 (this ▸ e)
  · have : p = a := Option.some.inj e
    subst this
    exact ⟨f1, .inr rfl, f3, hν⟩
theorem rep_new {m : Addr → Prop} {p : Addr} {o : HO} (h : H p = none) (d : D) (v : V) (q : Rep m H d v) : Rep (fun x => m x ∨ x = p) (upd H p o) d v := Rep.extW (Ext.w (Ext.of (same_new h))) d v (Rep.hide h d v q)
theorem repl_new {m : Addr → Prop} {p : Addr} {o : HO} (h : H p = none) (d : List D) (v : List V) (q : RepL m H d v) : RepL (fun x => m x ∨ x = p) (upd H p o) d v := RepL.extW (Ext.w (Ext.of (same_new h))) d v (RepL.hide h d v q)
theorem SW_newL (i : Nat) {x : Str} {pos' p2 : Pos} {sts : List Stmt} (hN : X.N.Nodup) (ho : I.own = none) (h : WA X I μ δ es fun ds => ds.length ≤ 1000000 ∧ ∀ a, ¬ I.m a → SW X (I.ext a) (.lst ds) (δ.set i (some (.adr a))) sts { rt := E.rt })
    (hi : X.N[i]? = some x := by rfl) (hx : Loc X.env.scope x := by first | exact .inl rfl | exact .inr rfl) (hs : swapsWith (.List es p2) (some (.Name x pos')) pos.line X.env = pure false := by rfl)
    (hf : X.fn x = true ∨ X.env.scope.names.lookup x = some .local := by first | exact .inl rfl | exact .inr rfl) : SW X I μ δ (.Assign [.Name x pos'] (.List es p2) pos :: sts) E := fun σ H r Dn f => by
  refine tss_of (pss_cons (ps_set (i := i) hN hi hx (pe_lst pa_W) hs hf) pss_W) ?_
  refine h σ H r _ fun ds vs H1 r1 x1 rl q => ⟨by rw [← rl.len]; exact le_line q.1, fun p hp => ?_⟩
  obtain ⟨f1, f2, f3, f4⟩ := r1.fresh0 hp
  have hc : RepC (fun x => I.m x ∨ x = p) (upd H1 p (.lst vs)) p (.lst ds) := ⟨vs, upd_same, repl_new hp _ _ rl⟩
  have r2 : RS (I.ext p) (.lst ds) δ σ (upd H1 p (.lst vs)) := r1.ext ho hp ⟨vs, upd_same, RepL.ext (Ext.of (same_new hp)) _ _ rl⟩ (rep_new hp) hc fun _ z => nomatch z
  refine q.2 p f4 _ _ ⟨r2.bs, r2.dom, r2.cm, r2.ownOk, r2.mrm, r2.env.set i rfl⟩ Dn ⟨fun _ _ _ _ _ _ z => False.elim z, fun d v H' bs rep q => f.rt d v H' ⟨bs.base, bs.cupOk⟩ rep q, fun _ _ _ _ _ _ z => False.elim z, fun _ _ _ _ _ _ z => False.elim z⟩
/-- x, y = {}, []: the own dict, and an empty list -/
theorem SW_newT (i j : Nat) {x y : Str} {px py pt p2 p3 pos2 : Pos} {kt k2 : Nat} {sts : List Stmt} (hX : XOk X) (ho : I.own = none) (h : ∀ q, ¬ I.m q → SW X (I.ext q) (.oT []) ((δ.set i (some (.adr q))).set j (some (.lst []))) sts { rt := E.rt })
    (hij : i ≠ j := by decide) (hi : X.N[i]? = some x := by rfl) (hj : X.N[j]? = some y := by rfl) (hx : X.env.scope.names.lookup x = some .local := by rfl) (hy : X.env.scope.names.lookup y = some .local := by rfl)
    (hw : swappedStores [.Tuple [.Name x px, .Name y py] kt pt] (.Tuple [.Dict [] [] p2, .List [] p3] k2 pos2) X.env = pure (some [x, y]) := by rfl)
    (hs : swapsWithSole [.Tuple [.Name x px, .Name y py] kt pt] (.Tuple [.Dict [] [] p2, .List [] p3] k2 pos2) pos.line X.env = pure false := by rfl) :
    SW X I μ δ (.Assign [.Tuple [.Name x px, .Name y py] kt pt] (.Tuple [.Dict [] [] p2, .List [] p3] k2 pos2) pos :: sts) E := fun σ H r Dn f => by
  refine tss_of (pss_cons (ps_par (i := i) (j := j) hX.calm hX.nd hi hj hij hx hy (pa_cons pe_dnewT (pa_cons (pe_lst pa_nil) pa_nil)) hw hs) pss_W) ?_
  intro p hp
  refine ⟨by decide, fun q hq => ⟨.ref p, .ref q, rfl, ?_⟩⟩
  obtain ⟨f1, f2, f3, f4⟩ := r.fresh0 hp
  have r2 : RS (I.ext p) (.oT []) δ σ (upd H p (.dT [])) := r.ext ho hp ⟨[], upd_same, rfl, trivial⟩ (rep_new hp) ⟨[], upd_same, rfl, trivial⟩ fun _ z => nomatch z
  have r3 := r2.new (o := .lst []) hq
  refine h p f4 _ _ ⟨r3.bs, r3.dom, r3.cm, r3.ownOk, r3.mrm, (r3.env.set i (d := .adr p) (v := .ref p) rfl).set j (d := .lst []) (v := .ref q) ⟨q, [], rfl, r2.notm hq, upd_same, trivial⟩⟩ Dn ⟨fun _ _ _ _ _ _ z => False.elim z, fun d v H' bs rep q => f.rt d v H' ⟨bs.base, bs.cupOk⟩ rep q, fun _ _ _ _ _ _ z => False.elim z, fun _ _ _ _ _ _ z => False.elim z⟩
theorem S1_append {apos cpos : Pos} (h : W X I μ δ a fun d => ∃ p xs, d = .adr p ∧ I.own = some p ∧ μ = .lst xs ∧ xs.length < 1000000 ∧ W X I μ δ e fun d2 => E.nx (.lst (xs ++ [d2])) δ) (hs : swapsWith (.Call (.Attribute a "append" apos) [e] [] cpos) none pos.line X.env = pure false := by rfl)
    (hbase : attributeBase a "append" X.env (eval a X.env) = eval a X.env := by rfl)
    (hfew : ((backTo cpos (starEach [e] X.env)).all (fun x => !x.1) && (backToKw cpos (keywordEach [] X.env)).all (fun x => x.1.isSome)
      && decide (([e] : List Expr).length + ([] : List Keyword).length + (if ([] : List Keyword).isEmpty then 0 else 1) < 30)) = true := by rfl)
    (hline : (apos.endLine == cpos.line) = true := by rfl) (hs2 : starEach [e] X.env = (false, eval e X.env) :: starEach [] X.env := by rfl) (hplain : (backTo cpos (starEach [] X.env)).any (·.1) = false := by rfl) :
    S1 X I μ δ (.Expr (.Call (.Attribute a "append" apos) [e] [] cpos) pos) E := fun σ H r Dn f => by
  refine ts_of (ps_expr (pe_bm PySem.F.plainAttrs_list PySem.F.slot_list_append PySem.F.type_list_append mt_append pe_W (pa_cons pe_W pa_nil hs2) hbase hfew hline hs2 hplain) hs) ?_
  refine h σ H r _ fun d v H1 r1 x1 rep q => ?_
  obtain ⟨p, xs, rfl, hown, rfl, hlen, q⟩ := q
  cases (show v = .ref p from rep)
  obtain ⟨o1, o2, o3, vs, o4, o5⟩ := r1.ownOk p hown
  refine ⟨.inl ⟨rfl, _, .inl (.inl o4)⟩, ?_⟩
  refine q σ H1 r1 _ fun d2 v2 H2 r2 x2 rep2 q2 => ?_
  obtain ⟨_, _, _, vs2, e4, e5⟩ := r2.ownOk p hown
  refine ⟨p, vs2, v2, rfl, rfl, e4, by rw [← e5.len]; exact Nat.lt_of_lt_of_le hlen (by decide), ?_⟩
  have xf : Ext I.m H2 (upd H2 p (.lst (vs2 ++ [v2]))) := fun a u n e => by rw [upd_ne (fun z => n (by rw [z]; exact o2))]; exact e
  have hcp : ∀ c, I.cup = some c → c ≠ p := fun c hc z => (r2.cm c hc).2 (z ▸ hown)
  refine f.nx (.lst (xs ++ [d2])) δ σ _ ⟨⟨fun a u n e => ?_, fun c hc => ?_⟩, fun a ha => ?_, r2.cm, fun a ha => ?_, r2.mrm, r2.env.map fun d v q => Rep.ext xf d v q⟩ ((x1.trans x2).trans xf) q2
  · rw [upd_ne (fun z => by rw [z, o1] at e; cases e)]; exact r2.bs.base a u n e
  · obtain ⟨x, y, e, q⟩ := r2.bs.cupOk c hc
    exact ⟨x, y, by rw [upd_ne (hcp c hc)]; exact e, q⟩
  · by_cases z : a = p
    · rw [z, upd_same]; exact ⟨fun z => (nomatch z), fun xs z => nomatch z⟩
    · rw [upd_ne z]; exact r2.dom a ha
  · have : p = a := Option.some.inj (hown.symm.trans ha)
    subst this
    exact ⟨o1, o2, o3, vs2 ++ [v2], upd_same, RepL.snoc (RepL.ext xf _ _ e5) (Rep.ext xf _ _ rep2)⟩
/-- d[k] = e of the own dict -/
theorem S1_putT {p1 : Pos} (hX : XOk X) (h : W X I μ δ e fun d => W X I μ δ a fun d1 => W X I μ δ b fun d2 => ∃ p kvs k, d1 = .adr p ∧ I.own = some p ∧ μ = .oT kvs ∧ kvs.length < 1000000 ∧ d2 = .tup (k.map keyD) ∧ E.nx (.oT (putA kvs k d)) δ)
    (hs : swapsWith e (some (.Subscript a b p1)) pos.line X.env = pure false := by rfl) : S1 X I μ δ (.Assign [.Subscript a b p1] e pos) E := fun σ H r Dn f => by
  refine ts_of (ps_dput (by have := hX.hu; omega) pe_W pe_W pe_W hs) ?_
  refine h σ H r _ fun d v H1 r1 x1 rep1 q1 => ?_
  refine q1 σ H1 r1 _ fun d1 v1 H2 r2 x2 rep2 q2 => ?_
  refine q2 σ H2 r2 _ fun d2 v2 H3 r3 x3 rep3 q3 => ?_
  obtain ⟨p, kvs, k, rfl, hown, rfl, hlen, rfl, q⟩ := q3
  cases (show v1 = .ref p from rep2)
  obtain ⟨bb, rfl, hb⟩ := key_rep rep3
  obtain ⟨o1, o2, o3, ws, o4, o5, o6⟩ := r3.ownOk p hown
  have hlw : ws.length = kvs.length := by have := congrArg List.length o5; simpa using this
  refine ⟨p, upd H3 p (.dT (putK ws k v)), rfl, .inr ⟨ws, k, bb, o4, rfl, hb, by rw [hlw]; exact Nat.lt_of_lt_of_le hlen (by decide), rfl⟩, ?_⟩
  have xf : Ext I.m H3 (upd H3 p (.dT (putK ws k v))) := fun a u n e => by rw [upd_ne (fun z => n (by rw [z]; exact o2))]; exact e
  have hcp : ∀ c, I.cup = some c → c ≠ p := fun c hc z => (r3.cm c hc).2 (z ▸ hown)
  obtain ⟨g1, g2⟩ := RepA.put (k := k) (Rep.ext xf _ _ (Rep.ext (x2.trans x3) _ _ rep1)) (show RepA I.m (upd H3 p (.dT (putK ws k v))) kvs ws from ⟨o5, RepL.ext xf _ _ o6⟩)
  refine f.nx (.oT (putA kvs k d)) δ σ _ ⟨⟨fun a u n e => ?_, fun c hc => ?_⟩, fun a ha => ?_, r3.cm, fun a ha => ?_, r3.mrm, r3.env.map fun d v q => Rep.ext xf d v q⟩ (((x1.trans x2).trans x3).trans xf) q
  · rw [upd_ne (fun z => by rw [z, o1] at e; cases e)]; exact r3.bs.base a u n e
  · obtain ⟨x, y, e, q⟩ := r3.bs.cupOk c hc
    exact ⟨x, y, by rw [upd_ne (hcp c hc)]; exact e, q⟩
  · by_cases z : a = p
    · rw [z, upd_same]; exact ⟨fun z => (nomatch z), fun xs z => nomatch z⟩
    · rw [upd_ne z]; exact r3.dom a ha
  · have : p = a := Option.some.inj (hown.symm.trans ha)
    subst this
    exact ⟨o1, o2, o3, _, upd_same, g1, g2⟩
/-- the own object is changed no more: from now on it is data -/
theorem SW_freeze (i : Nat) {sts : List Stmt} {p : Addr} (hm : ¬ I.m p) (h0 : δ[i]? = some (some (.adr p))) (h : SW X I .non (δ.set i (some μ)) sts { rt := E.rt }) (ho : I.own = none) (hc : ∀ c, I.cup = some c → I.m c) (hmr : ∀ a, I.mr a → I.m a) :
    SW X (I.ext p) μ δ sts { rt := E.rt } := fun σ H r Dn f => by
  obtain ⟨o1, o2, o3, o4⟩ := r.ownOk p rfl
  have hr : Rep I.m H μ (.ref p) := by
    have o4' : RepC I.m H p μ := RepC.mono (fun x => .inl) o4
    cases μ <;> first | exact False.elim o4 | skip
    · obtain ⟨xs, h1, h2⟩ := o4'
      exact ⟨p, xs, rfl, hm, h1, h2⟩
    · obtain ⟨ws, h1, h2, h3⟩ := o4'
      exact ⟨p, ws, rfl, hm, .inl h1, h2, h3⟩
  have env : RepE I.m H δ σ := r.env.map fun d v q => Rep.mono (fun _ => .inl) d v q
  refine h σ H ⟨⟨r.bs.base, r.bs.cupOk⟩, fun a ha => r.dom a (.inl ha), fun c e => ⟨hc c e, by rw [ho]; exact fun z => nomatch z⟩, (fun a e => by rw [ho] at e; cases e), hmr, env.repl i h0 fun v q => by rw [show v = .ref p from q]; exact hr⟩ Dn
    ⟨fun _ _ _ _ _ _ z => False.elim z, fun d v H' bs rep q => f.rt d v H' ⟨bs.base, bs.cupOk⟩ rep q, fun _ _ _ _ _ _ z => False.elim z, fun _ _ _ _ _ _ z => False.elim z⟩
/-- a call that is given the own object to read -/
def thaw (I : HI) (μ : D) : D → D
  | .adr a => if I.own = some a then μ else .adr a
  | d => d
theorem W_callF {x : Str} {k : Nat} {P : List D → (D → Prop) → Prop} {p : Pos} (F : DefOk X.prog X.w X.K X.mg X.base x k (spD P)) (hr : Room k X.A) (hμ : ∃ kvs, μ = .oT kvs) (h : WA X I μ δ (e :: es) fun ds => P (ds.map (thaw I μ)) fun d => Pl 5 d ∧ Q d)
    (hg : Gl X x := by rfl) (hdb : (x == ("__debug__" : Str)) = false := by decide) (he : starEach (e :: es) X.env = (false, eval e X.env) :: starEach es X.env := by rfl) (hpl : (backTo pos (starEach es X.env)).any (·.1) = false := by rfl) :
    W X I μ δ (.Call (.Name x p) (e :: es) [] pos) Q := fun σ H rs K kk => by
  obtain ⟨f, fd, ps, F, hm, hk, hb⟩ := F.ex
  refine te_of (pe_call F hr hg hm hk hb .nil pass0 pa_W hdb he hpl) ?_
  refine h σ H rs _ fun ds vs H' r' x' rl q => ?_
  rw [List.append_nil]
  refine ⟨fun a => I.m a ∧ I.own ≠ some a, ds.map (thaw I μ), _, fun a ha => r'.dom a ha.1, ?_, q, fun d v H'' s rep q => kk d v H'' (r'.same s) (x'.trans (Ext.of s)) ?_ q.2⟩
  · clear q
    induction ds generalizing vs with
    | nil => cases vs with
      | nil => trivial
      | cons => exact False.elim rl
    | cons d ds ih => cases vs with
      | nil => exact False.elim rl
      | cons v vs =>
        refine ⟨?_, ih vs rl.2⟩
        have r0 : Rep (fun a => I.m a ∧ I.own ≠ some a) H' d v := Rep.mono (fun a ha => ha.1) d v rl.1
        cases d <;> first | exact r0 | skip
        rename_i a
        show Rep _ H' (if I.own = some a then μ else .adr a) v
        by_cases ho : I.own = some a
        · rw [if_pos ho]
          obtain ⟨_, _, _, o4⟩ := r'.ownOk a ho
          cases (show v = .ref a from rl.1)
          have o4' : RepC (fun a => I.m a ∧ I.own ≠ some a) H' a μ := RepC.mono (fun x hx => hx.1) o4
          cases μ <;> first | exact False.elim o4 | skip
          · obtain ⟨xs, h1, h2⟩ := o4'
            exact ⟨a, xs, rfl, fun z => z.2 ho, h1, h2⟩
          · obtain ⟨ws, h1, h2, h3⟩ := o4'
            exact ⟨a, ws, rfl, fun z => z.2 ho, .inl h1, h2, h3⟩
        · rw [if_neg ho]; exact rl.1
  · have ownNT : ∀ a, I.own = some a → ∃ ws, H'' a = some (.dT ws) := fun a ho => by
      obtain ⟨_, _, _, o4⟩ := r'.ownOk a ho
      obtain ⟨kvs, rfl⟩ := hμ
      obtain ⟨ws, h1, h2, h3⟩ := o4
      exact ⟨ws, s a _ h1⟩
    refine Pl.keep (fun a xs n e => ⟨fun z => ?_, e⟩) (fun a xs n e => ⟨fun z => ?_, e⟩) 5 d v q.1 rep
    · by_cases ho : I.own = some a
      · obtain ⟨ws, h⟩ := ownNT a ho
        rw [h] at e; cases e
      · exact n ⟨z, ho⟩
    · by_cases ho : I.own = some a
      · obtain ⟨ws, h⟩ := ownNT a ho
        rw [h] at e; cases e
      · exact n ⟨z, ho⟩
end
end K48
/-! Rules: locked dicts, three names at once; a def from its body -/
namespace K48
open PySem PySem.Spec PyProof.Rows L2
section
variable {X : Cx} {I : HI} {μ : D} {δ : De} {e a b c tg iter elt : Expr} {es rest : List Expr} {Q : D → Prop} {E : EndsD} {pos : Pos} {σ : L2.St} {H : Hp} {scope : Scope}
/-- a, b, c = x, y, z of plain local names -/
theorem S1_par3 (i j l : Nat) {x y z : Str} {px py pz pt : Pos} {kt k2 : Nat} {pt2 : Pos} (hX : XOk X) (h : WA X I μ δ [a, b, c] fun ds => ∃ d1 d2 d3, ds = [d1, d2, d3] ∧ E.nx μ (((δ.set i (some d1)).set j (some d2)).set l (some d3)))
    (hij : i ≠ j := by decide) (hil : i ≠ l := by decide) (hjl : j ≠ l := by decide) (hi : X.N[i]? = some x := by rfl) (hj : X.N[j]? = some y := by rfl) (hl : X.N[l]? = some z := by rfl) (hx : X.env.scope.names.lookup x = some .local := by rfl) (hy : X.env.scope.names.lookup y = some .local := by rfl) (hz : X.env.scope.names.lookup z = some .local := by rfl)
    (hw : swappedStores [.Tuple [.Name x px, .Name y py, .Name z pz] kt pt] (.Tuple [a, b, c] k2 pt2) X.env = pure (some [x, y, z]) := by rfl)
    (hs : swapsWithSole [.Tuple [.Name x px, .Name y py, .Name z pz] kt pt] (.Tuple [a, b, c] k2 pt2) pos.line X.env = pure false := by rfl) :
    S1 X I μ δ (.Assign [.Tuple [.Name x px, .Name y py, .Name z pz] kt pt] (.Tuple [a, b, c] k2 pt2) pos) E := fun σ H r Dn f => by
  refine ts_of (ps_par3 (i := i) (j := j) (l := l) hX.calm hX.nd hi hj hl hij hil hjl hx hy hz pa_W hw hs) ?_
  refine h σ H r _ fun ds vs H' r' x rep q => ?_
  obtain ⟨d1, d2, d3, rfl, q⟩ := q
  match vs, rep with
  | [v1, v2, v3], rep => exact ⟨v1, v2, v3, rfl, f.nx μ _ _ H' ⟨r'.bs, r'.dom, r'.cm, r'.ownOk, r'.mrm, ((r'.env.set i rep.1).set j rep.2.1).set l rep.2.2.1⟩ x q⟩
  | [], rep => exact False.elim rep
  | [_], rep => exact False.elim rep.2
  | [_, _], rep => exact False.elim rep.2.2
  | _ :: _ :: _ :: _ :: _, rep => exact False.elim rep.2.2.2

/-! ### locked dicts -/
theorem lock_rd {d : Addr} {u o : HO} {od : Obj} {a : Addr} (hd : H d = some u) (h : Rd H a o) : Rd (upd H d (.frz od u)) a o ∨ (∃ ob, u = .frz ob o) := by
  by_cases z : a = d
  · subst z
    rcases h with h | ⟨ob, h⟩
    · rw [hd] at h; cases h; exact .inl (.inr ⟨od, upd_same⟩)
    · rw [hd] at h; cases h; exact .inr ⟨ob, rfl⟩
  · rcases h with h | ⟨ob, h⟩
    · exact .inl (.inl (by rw [upd_ne z]; exact h))
    · exact .inl (.inr ⟨ob, by rw [upd_ne z]; exact h⟩)
/-- u is a dict -/
def DictO (u : HO) : Prop := (∃ ws, u = .dT ws) ∨ ∃ ws, u = .dK ws
theorem DictO.mut {u : HO} (h : DictO u) : Mut (some u) := by
  rcases h with ⟨ws, rfl⟩ | ⟨ws, rfl⟩ <;> exact True.intro
theorem lock_extW {m : Addr → Prop} {d : Addr} {u : HO} {od : Obj} (hu : DictO u) (hd : H d = some u) : ExtW m H (upd H d (.frz od u)) := by
  have nf : ∀ ob o, u ≠ .frz ob o := fun ob o z => by rcases hu with ⟨ws, rfl⟩ | ⟨ws, rfl⟩ <;> cases z
  refine ⟨fun a xs n h => ?_, fun a xs n h => ?_, fun a ws n h => ?_, fun a ws n h => ?_⟩
  · have z : a ≠ d := fun z => by rw [z, hd] at h; cases h; rcases hu with ⟨ws, e⟩ | ⟨ws, e⟩ <;> cases e
    rw [upd_ne z]; exact h
  · have z : a ≠ d := fun z => by rw [z, hd] at h; cases h; rcases hu with ⟨ws, e⟩ | ⟨ws, e⟩ <;> cases e
    rw [upd_ne z]; exact h
  · exact (lock_rd hd h).resolve_right fun ⟨ob, z⟩ => nf ob _ z
  · exact (lock_rd hd h).resolve_right fun ⟨ob, z⟩ => nf ob _ z
theorem unlock_extW {m : Addr → Prop} {d : Addr} {u : HO} {od : Obj} (hu : DictO u) (hd : H d = some (.frz od u)) : ExtW m H (upd H d u) := by
  refine ⟨fun a xs n h => ?_, fun a xs n h => ?_, fun a ws n h => ?_, fun a ws n h => ?_⟩
  · have z : a ≠ d := fun z => by rw [z, hd] at h; cases h
    rw [upd_ne z]; exact h
  · have z : a ≠ d := fun z => by rw [z, hd] at h; cases h
    rw [upd_ne z]; exact h
  · by_cases z : a = d
    · subst z
      rcases h with h | ⟨ob, h⟩
      · rw [hd] at h; cases h
      · rw [hd] at h; cases h; exact .inl upd_same
    · rcases h with h | ⟨ob, h⟩
      · exact .inl (by rw [upd_ne z]; exact h)
      · exact .inr ⟨ob, by rw [upd_ne z]; exact h⟩
  · by_cases z : a = d
    · subst z
      rcases h with h | ⟨ob, h⟩
      · rw [hd] at h; cases h
      · rw [hd] at h; cases h; exact .inl upd_same
    · rcases h with h | ⟨ob, h⟩
      · exact .inl (by rw [upd_ne z]; exact h)
      · exact .inr ⟨ob, by rw [upd_ne z]; exact h⟩
/-- the entry's heap is taken to be another: what stands now -/
def HI.at0 (I : HI) (H0 : Hp) : HI := { I with H0 := H0 }
/-- the heap as the entry's, but for the cup -/
def heap0 (I : HI) (H : Hp) : Hp := fun a => if I.cup = some a then none else H a
theorem RS.lock {d : Addr} {u : HO} {od : Obj} (r : RS I μ δ σ H) (ho : I.own = none) (hu : DictO u) (hd : H d = some u) : RS (I.at0 (heap0 I (upd H d (.frz od u)))) μ δ σ (upd H d (.frz od u)) := by
  have hc : ∀ c, I.cup = some c → c ≠ d := fun c hc z => by
    obtain ⟨x, y, e, _⟩ := r.bs.cupOk c hc
    rw [z, hd] at e; cases e
    rcases hu with ⟨ws, e⟩ | ⟨ws, e⟩ <;> cases e
  refine ⟨⟨fun a o n e => ?_, fun c e => ?_⟩, fun a ha => ?_, fun c e => r.cm c e, (fun a e => by rw [show I.own = some a from e] at ho; cases ho), r.mrm, r.env.map fun x v q => Rep.extW (lock_extW hu hd) x v q⟩
  · have e' : (if I.cup = some a then none else upd H d (.frz od u) a) = some o := e
    rw [if_neg (show ¬ I.cup = some a from n)] at e'; exact e'
  · obtain ⟨x, y, q1, q2⟩ := r.bs.cupOk c e
    exact ⟨x, y, by rw [upd_ne (hc c e)]; exact q1, q2⟩
  · by_cases z : a = d
    · rw [z, upd_same]; exact ⟨fun z => (nomatch z), fun xs z => nomatch z⟩
    · rw [upd_ne z]; exact r.dom a ha
theorem RS.unlock {d : Addr} {u : HO} {od : Obj} {δ2 : De} {σ2 : L2.St} {H2 : Hp} (r : RS I μ δ σ H) (ho : I.own = none) (hu : DictO u) (hd : H d = some u) (r2 : RS (I.at0 (heap0 I (upd H d (.frz od u)))) μ δ2 σ2 H2) :
    H2 d = some (.frz od u) ∧ RS I μ δ2 σ2 (upd H2 d u) ∧ Ext I.m H (upd H2 d u) ∧ ExtW I.m H2 (upd H2 d u) := by
  have hc : ∀ c, I.cup = some c → c ≠ d := fun c hc z => by
    obtain ⟨x, y, e, _⟩ := r.bs.cupOk c hc
    rw [z, hd] at e; cases e
    rcases hu with ⟨ws, e⟩ | ⟨ws, e⟩ <;> cases e
  have b2 : ∀ a o, I.cup ≠ some a → upd H d (.frz od u) a = some o → H2 a = some o := fun a o n e => r2.bs.base a o n (by
    show (if I.cup = some a then none else upd H d (.frz od u) a) = some o
    rw [if_neg n]; exact e)
  have hd2 : H2 d = some (.frz od u) := b2 d _ (fun z => hc d z rfl) upd_same
  have sF : ∀ a o, I.cup ≠ some a → H a = some o → upd H2 d u a = some o := fun a o n e => by
    by_cases z : a = d
    · rw [z, hd] at e; cases e; rw [z, upd_same]
    · rw [upd_ne z]; exact b2 a o n (by rw [upd_ne z]; exact e)
  refine ⟨hd2, ⟨⟨fun a o n e => sF a o n (r.bs.base a o n e), fun c e => ?_⟩, fun a ha => ?_, r.cm, (fun a e => by rw [ho] at e; cases e), r.mrm, r2.env.map fun x v q => Rep.extW (unlock_extW hu hd2) x v q⟩, fun a o n e => sF a o (fun z => n (r.cm a z).1) e, unlock_extW hu hd2⟩
  · obtain ⟨x, y, q1, q2⟩ := r2.bs.cupOk c e
    exact ⟨x, y, by rw [upd_ne (hc c e)]; exact q1, q2⟩
  · by_cases z : a = d
    · rw [z, upd_same]; rcases hu with ⟨ws, rfl⟩ | ⟨ws, rfl⟩ <;> exact ⟨fun z => (nomatch z), fun xs z => nomatch z⟩
    · rw [upd_ne z]; exact r2.dom a ha
/-- for x in d: the keys are ints; the dict stands locked within -/
def keysD (ks : List Key) : List D := ks.map keyD
def keysTD (ks : List (List Key)) : List D := ks.map fun k => .tup (k.map keyD)
theorem kV_rep {m : Addr → Prop} (k : Key) : Rep m H (keyD k) (kV k) := by cases k <;> rfl
/-- the walk of a locked dict's keys -/
theorem keys_walk {d : Addr} {od : Obj} {ws : List (Key × V)} {m : Addr → Prop} (i : Nat) (H1 : Hp) (x : V) (H2 : Hp) (hy : H2 = H1 ∧ ∃ k v, ws[i]? = some (k, v) ∧ x = kV k) : Same H1 H2 ∧ ∃ dd, (keysD (ws.map Prod.fst))[i]? = some dd ∧ Rep m H2 dd x := by
  obtain ⟨rfl, k, v, e, rfl⟩ := hy
  refine ⟨Same.refl _, keyD k, ?_, kV_rep k⟩
  unfold keysD
  rw [List.getElem?_map, List.getElem?_map, e]; rfl
theorem keysT_walk {d : Addr} {od : Obj} {ws : List (List Key × V)} {m : Addr → Prop} (hm : ∀ q xs, H q = some (.tup xs) → True) (i : Nat) (H1 : Hp) (x : V) (H2 : Hp) (hdm : ∀ (q : Addr) xs, H1 q = some (.tup xs) → ¬ m q) (hy : H2 = H1 ∧ ∃ (k : List Key) (v : V) (q : Addr), ws[i]? = some (k, v) ∧ x = .ref q ∧ H1 q = some (.tup (k.map kV))) :
    Same H1 H2 ∧ ∃ dd, (keysTD (ws.map Prod.fst))[i]? = some dd ∧ Rep m H2 dd x := by
  obtain ⟨rfl, k, v, q, e, rfl, hq⟩ := hy
  refine ⟨Same.refl _, .tup (k.map keyD), ?_, q, k.map kV, rfl, hdm q _ hq, hq, ?_⟩
  · unfold keysTD
    rw [List.getElem?_map, List.getElem?_map, e]; rfl
  · have all : ∀ k : List Key, RepL m H2 (k.map keyD) (k.map kV) := by
      intro k
      induction k with
      | nil => trivial
      | cons a k ih => exact ⟨kV_rep a, ih⟩
    exact all k
theorem S1_forK {body : List Stmt} {x : Str} {p1 : Pos} (hX : XOk X) (ho : I.own = none) (i : Nat) {kvs : List (Key × D)} (h0 : δ[i]? = some (some (.oK kvs)))
    (h : ∀ H0, ∃ Pv : Nat → De → Prop, Pv 0 δ ∧ (∀ n k v δ', kvs[n]? = some (k, v) → Pv n δ' → WG X (I.at0 H0) μ δ' tg (keyD k) fun δ'' => SW X (I.at0 H0) μ δ'' body { nx := fun μ' δ3 => μ' = μ ∧ Pv (n + 1) δ3 }) ∧ (∀ δ', Pv kvs.length δ' → E.nx μ δ'))
    (hN : X.N[i]? = some x := by rfl) (hv : Vis X.env.scope x := by first | exact Or.inl rfl | exact Or.inr (Or.inl rfl) | exact Or.inr (Or.inr rfl)) (hd : (x == ("__debug__" : Str)) = false := by decide) (hcd : (x == ("__classdict__" : Str)) = false := by decide)
    (hs : ∀ y, foldedSetIterable (.Name x p1) X.env y = pure y := by intro _; rfl) : S1 X I μ δ (.For tg (.Name x p1) body [] pos) E := fun σ H r Dn f => by
  obtain ⟨dv, ev, a, ws, rfl, hma, ha, hks, rl⟩ := r.env.get h0
  have hlen : ws.length = kvs.length := by have := congrArg List.length hks; simpa using this
  have key : ∀ (od : Obj) (D' : Ends) (r1 : RS (I.at0 (heap0 I (upd H a (.frz od (.dK ws))))) μ δ σ (upd H a (.frz od (.dK ws)))) , (∀ δ' σ' H', RS (I.at0 (heap0 I (upd H a (.frz od (.dK ws))))) μ δ' σ' H' → E.nx μ δ' → D'.nx σ' H') → 
      tFor (iKeys (tVar i)) (tgW X tg) (tssW X body) D' σ (upd H a (.frz od (.dK ws))) := fun od D' r1 k => by
    obtain ⟨Pv, p0, pt, pd⟩ := h (heap0 I (upd H a (.frz od (.dK ws))))
    refine ⟨.ref a, ev, a, od, rfl, .inl ⟨ws, upd_same, ?_⟩⟩
    refine for_it (walk_keys (d := a) (o := od) (kvs := ws)) (fun n σ' H' => ∃ δ', RS (I.at0 (heap0 I (upd H a (.frz od (.dK ws))))) μ δ' σ' H' ∧ Pv n δ') ⟨δ, r1, p0⟩ (fun n σ' H' _ ⟨δ', r2, _⟩ => r2.bs.base a _ (fun z => ?_) ?_) (fun n v σ' H' H2 hi ⟨δ', r2, p2⟩ hy => ?_) (fun σ' H' ⟨δ', r2, p2⟩ => k δ' σ' H' r2 (pd δ' (by rw [← hlen]; exact p2)))
    · have hc := r1.bs.cupOk a z
      obtain ⟨y1, y2, e, _⟩ := hc
      rw [upd_same] at e; cases e
    · show (if I.cup = some a then none else upd H a (.frz od (.dK ws)) a) = some _
      rw [if_neg (fun z => by
        obtain ⟨y1, y2, e, _⟩ := r1.bs.cupOk a z
        rw [upd_same] at e; cases e), upd_same]
    · obtain ⟨rfl, kk, vv, e, rfl⟩ := hy
      have hkv : ∃ vd, kvs[n]? = some (kk, vd) := by
        have q := congrArg (fun l => l[n]?) hks
        simp only [List.getElem?_map] at q
        rw [e] at q
        cases e2 : kvs[n]? with
        | none => rw [e2] at q; cases q
        | some p => rw [e2] at q; simp only [Option.map_some, Option.some.injEq] at q; exact ⟨p.2, by rw [q]⟩
      obtain ⟨vd, hkv⟩ := hkv
      refine pt n kk vd δ' hkv p2 σ' H2 (kV kk) r2 (kV_rep kk) _ fun δ'' σ'' H3 r3 x3 q3 => ?_
      exact q3 σ'' H3 r3 _ ⟨fun μ4 δ4 σ4 H4 r4 x4 q4 => ⟨δ4, by rw [q4.1] at r4; exact r4, q4.2⟩, fun _ _ _ _ _ z => False.elim z, fun _ _ _ _ _ _ z => False.elim z, fun _ _ _ _ _ _ z => False.elim z⟩
  rcases ha with ha | ⟨ob, ha⟩
  · have hu : DictO (.dK ws) := .inr ⟨ws, rfl⟩
    refine ts_of (ps_lock (ps_for hX.own hX.calm (pi_keys (pe_var (i := i) hN hv hd hcd)) pg_W pss_W hs)) ?_
    refine ⟨a, .dK ws, ha, hu.mut, fun od => ?_⟩
    refine key od _ (r.lock ho hu ha) fun δ' σ' H' r2 q => ?_
    obtain ⟨u1, u2, u3, u4⟩ := r.unlock ho hu ha r2
    exact ⟨u1, f.nx μ δ' σ' _ u2 u3 q⟩
  · refine ts_of (ps_for hX.own hX.calm (pi_keys (pe_var (i := i) hN hv hd hcd)) pg_W pss_W hs) ?_
    have e : upd H a (.frz ob (.dK ws)) = H := by
      funext b
      by_cases z : b = a
      · rw [z, upd_same, ha]
      · rw [upd_ne z]
    have r1 : RS (I.at0 (heap0 I H)) μ δ σ H := ⟨⟨fun a o n e => by
      have e' : (if I.cup = some a then none else H a) = some o := e
      rw [if_neg (show ¬ I.cup = some a from n)] at e'; exact e', r.bs.cupOk⟩, r.dom, r.cm, (fun a e => by rw [show I.own = some a from e] at ho; cases ho), r.mrm, r.env⟩
    have := key ob Dn (by rw [e]; exact r1) fun δ' σ' H' r2 q => by
      rw [e] at r2
      have b2 : ∀ a o, I.cup ≠ some a → H a = some o → H' a = some o := fun a o n e => r2.bs.base a o n (by
        show (if I.cup = some a then none else H a) = some o
        rw [if_neg n]; exact e)
      exact f.nx μ δ' σ' H' ⟨⟨fun a o n e => b2 a o n (r.bs.base a o n e), r2.bs.cupOk⟩, r2.dom, r.cm, (fun a e => by rw [ho] at e; cases e), r.mrm, r2.env⟩ (fun a o n e => b2 a o (fun z => n (r.cm a z).1) e) q
    rw [e] at this
    exact this
theorem at0_base (r : RS I μ δ σ H) (ho : I.own = none) : RS (I.at0 (heap0 I H)) μ δ σ H := ⟨⟨fun a o n e => by
      have e' : (if I.cup = some a then none else H a) = some o := e
      rw [if_neg (show ¬ I.cup = some a from n)] at e'; exact e', r.bs.cupOk⟩, r.dom, r.cm, (fun a e => by rw [show I.own = some a from e] at ho; cases ho), r.mrm, r.env⟩
/-- [elt for tg in d if c]: a dict with tuple keys -/
theorem W_lcKIf {own : List (Str × Nat)} {g : TG} {x : Str} {p1 : Pos} (f : D → De → De) (hX : XOk X) (ho : I.own = none) (ok : BlkOk X.N X.env.scope scope own) (hg : ∀ (s : Shared) (H : Hp) (C : Addr) (cl : List (Str × Addr)) (fp : List Addr), PG (X.blk s H scope (compEnvC scope cl C X.env) fp) tg g)
    (i : Nat) {kvs : List (List Key × D)} (h0 : δ[i]? = some (some (.oT kvs)))
    (h : ∀ H0, ∃ Pv : Nat → List D → Prop, Pv 0 [] ∧ (∀ n k v acc, kvs[n]? = some (k, v) → Pv n acc → acc.length < 1000000 ∧ TgtOk g (own.map (·.2)) (.tup (k.map keyD)) (f (.tup (k.map keyD))) ∧
      ∀ s H1 C cl fp, WT (X.blk s H1 scope (compEnvC scope cl C X.env) fp) (I.at0 H0) μ (f (.tup (k.map keyD)) (wipeD δ (own.map (·.2)))) c fun b =>
        (b = true → ∀ s H1 C cl fp, W (X.blk s H1 scope (compEnvC scope cl C X.env) fp) (I.at0 H0) μ (f (.tup (k.map keyD)) (wipeD δ (own.map (·.2)))) elt fun d' => Tu 5 d' ∧ Pv (n + 1) (acc ++ [d'])) ∧ (b = false → Pv (n + 1) acc)) ∧
      ∀ acc, Pv kvs.length acc → (∀ d ∈ acc, Tu 5 d) → Q (.lst acc))
    (hN : X.N[i]? = some x := by rfl) (hv : Vis X.env.scope x := by first | exact Or.inl rfl | exact Or.inr (Or.inl rfl) | exact Or.inr (Or.inr rfl)) (hd : (x == ("__debug__" : Str)) = false := by decide) (hcd : (x == ("__classdict__" : Str)) = false := by decide)
    (hs : ∀ y, foldedSetIterable (.Name x p1) X.env y = pure y := by intro _; rfl) : W X I μ δ (.ListComp elt [⟨tg, .Name x p1, [c], 0⟩] scope pos) Q := fun σ H r K k => by
  obtain ⟨dv, ev, a, ws, rfl, hma, ha, hks, rl⟩ := r.env.get h0
  have hlen : ws.length = kvs.length := by have := congrArg List.length hks; simpa using this
  have key : ∀ (H' : Hp) (od : Obj) (r1 : RS (I.at0 (heap0 I H')) μ δ σ H') (hf : H' a = some (.frz od (.dT ws))) (K' : VK), (∀ acc p vs H'', RS (I.at0 (heap0 I H')) μ δ σ H'' → H'' p = some (.lst vs) → ¬ I.m p → RepL I.m H'' acc vs → (∀ d ∈ acc, Tu 5 d) → Q (.lst acc) → K' (.ref p) H'') → teW X (.ListComp elt [⟨tg, .Name x p1, [c], 0⟩] scope pos) σ H' K' := fun H' od r1 hf K' kk => by
    obtain ⟨Pv, p0, pt, pd⟩ := h (heap0 I H')
    refine lcG_at (I := I.at0 (heap0 I H')) (tt := ttB X scope c) (Q := fun d => ∃ acc, d = .lst acc ∧ (∀ d ∈ acc, Tu 5 d) ∧ Q (.lst acc)) f hX (show Still (I.at0 (heap0 I H')) μ from .inl ho) ok hg (fun s H C cl fp => pts_one (pt_B s H C cl fp)) r1 (fun R kR => ?_) hs K' fun d v H'' r'' x'' rep q => ?_
    · refine ti_of (pi_keys (pe_var (i := i) hN hv hd hcd)) ⟨.ref a, ev, a, od, rfl, .inr ⟨ws, hf, ?_⟩⟩
      refine kR _ _ _ (keysTD (ws.map Prod.fst)) H' (by unfold keysTD; rw [List.length_map, List.length_map]; exact walk_keysT (d := a) (o := od) (kvs := ws)) r1 Ext.refl (fun H1 x1 => x1 a _ hma hf) (fun n H1 v H2 hi x1 dm hy => ?_) ?_
      · obtain ⟨rfl, kk, vv, q, e, rfl, hq⟩ := hy
        refine ⟨Same.refl _, .tup (kk.map keyD), ?_, q, kk.map kV, rfl, ?_, hq, ?_⟩
        · unfold keysTD
          rw [List.getElem?_map, List.getElem?_map, e]; rfl
        · exact fun z => (dm q z).2 _ hq
        · have all : ∀ k : List Key, RepL I.m H2 (k.map keyD) (k.map kV) := by
            intro k
            induction k with
            | nil => trivial
            | cons a k ih => exact ⟨kV_rep a, ih⟩
          exact all kk
      · refine ⟨fun n acc => Pv n acc ∧ ∀ d ∈ acc, Tu 5 d, ⟨p0, fun _ z => nomatch z⟩, fun n d acc e pv => ?_, fun acc pv => ⟨acc, rfl, pv.2, pd acc (by
          have e : (keysTD (ws.map Prod.fst)).length = kvs.length := by unfold keysTD; rw [List.length_map, List.length_map, hlen]
          rw [← e]; exact pv.1) pv.2⟩⟩
        have hkv : ∃ kk vd, kvs[n]? = some (kk, vd) ∧ d = .tup (kk.map keyD) := by
          unfold keysTD at e
          rw [hks, List.getElem?_map, List.getElem?_map] at e
          cases e2 : kvs[n]? with
          | none => rw [e2] at e; cases e
          | some p => rw [e2] at e; exact ⟨p.1, p.2, rfl, (Option.some.inj e).symm⟩
        obtain ⟨ky, vd, hkv, rfl⟩ := hkv
        obtain ⟨h1, h2, h3⟩ := pt n ky vd acc hkv pv.1
        refine ⟨h1, h2, fun σ2 H2 r2 K2 kk2 s H1 C cl fp => ?_⟩
        refine h3 s H1 C cl fp σ2 H2 r2 K2 fun b H3 r3 x3 q3 => kk2 b H3 r3 x3 (fun hb s H1 C cl fp => (q3.1 hb s H1 C cl fp).mono fun d' q => ⟨q.1, q.2, fun d hd => ?_⟩) fun hb => ⟨q3.2 hb, pv.2⟩
        rcases List.mem_append.mp hd with hd | hd
        · exact pv.2 d hd
        · rw [List.mem_singleton.mp hd]; exact q.1
    · obtain ⟨acc, rfl, tu, q⟩ := q
      obtain ⟨p, vs, rfl, hm, hp, rl⟩ := rep
      exact kk acc p vs H'' r'' hp hm rl tu q
  rcases ha with ha | ⟨ob, ha⟩
  · have hu : DictO (.dT ws) := .inl ⟨ws, rfl⟩
    refine te_of (pe_lock pe_W) ⟨a, .dT ws, ha, hu.mut, fun od => ?_⟩
    refine key _ od (r.lock ho hu ha) upd_same _ fun acc p vs H'' r2 hp hm rl tu q => ?_
    obtain ⟨u1, u2, u3, u4⟩ := r.unlock ho hu ha r2
    have hpa : p ≠ a := fun z => by rw [z, u1] at hp; cases hp
    exact ⟨u1, k (.lst acc) _ _ u2 u3 ⟨p, vs, rfl, hm, by rw [upd_ne hpa]; exact hp, RepL.extW u4 _ _ rl⟩ q⟩
  · refine key H ob (at0_base r ho) ha _ fun acc p vs H'' r2 hp hm rl tu q => ?_
    have b2 : ∀ a o, I.cup ≠ some a → H a = some o → H'' a = some o := fun a o n e => r2.bs.base a o n (by
      show (if I.cup = some a then none else H a) = some o
      rw [if_neg n]; exact e)
    exact k (.lst acc) _ _ ⟨⟨fun a o n e => b2 a o n (r.bs.base a o n e), r2.bs.cupOk⟩, r2.dom, r.cm, (fun a e => by rw [ho] at e; cases e), r.mrm, r2.env⟩ (fun a o n e => b2 a o (fun z => n (r.cm a z).1) e) ⟨p, vs, rfl, hm, hp, rl⟩ q
end
end K48
/-! A def from its body; the facts of the top -/
namespace K48
open PySem PySem.Spec PyProof.Rows L2
def topS (i : Nat) : Stmt := PySem.Challenge.pw_settlepages_k48_whole_walks_and_stacks_f.main.body.getD i (.Pass ⟨0, 0, 0, 0⟩)
def startD (N : List Str) (ds : List D) : De := ds.map some ++ List.replicate (N.length - ds.length) none
theorem repE_start {m : Addr → Prop} {H : Hp} {ds : List D} {vs : List V} (h : RepL m H ds vs) (N : List Str) : RepE m H (startD N ds) (L2.start N vs) := by
  unfold startD L2.start
  rw [h.len]
  have tail : ∀ n, RepE m H (List.replicate n none) (List.replicate n none) := by
    intro n
    induction n with
    | zero => trivial
    | succ n ih => exact ih
  generalize N.length - vs.length = n
  induction ds generalizing vs with
  | nil => cases vs with
    | nil => exact tail n
    | cons => exact False.elim h
  | cons d ds ih => cases vs with
    | nil => exact False.elim h
    | cons v vs => exact ⟨h.1, ih h.2⟩
/-- where a def of the text stands -/
structure At (K : PySem.W.Frag) (mg : Str → Option Value) (x : Str) (st : Stmt) (ps : List Str) : Prop where
  ex : ∃ f fd, Fun K x x st f fd ∧ mg x = some (.ref f) ∧ Binds K fd ps []
abbrev cxB (P : Program) (w : World) (K : PySem.W.Frag) (mg : Str → Option Value) (base : Heap) (N : List Str) (x : Str) (sc : Scope) (f : Addr) (cdv : Value) (A : Around) (outer : List Env) (s : Shared) (H : Hp) (E : XK) : Cx := (cxOf CX0 P w K mg base N x sc f cdv A outer s H E).nox
section
variable {P : Program} {w : World} {K : PySem.W.Frag} {mg : Str → Option Value} {base : Heap} {x : Str} {st : Stmt} {N ps : List Str} {k : Nat} {C : List D → (D → Prop) → Prop}
theorem xok {sc : Scope} {f : Addr} {cdv : Value} {A : Around} {outer : List Env} {s : Shared} {H : Hp} {E : XK} (nd : N.Nodup) (hr : Room k (A.deeper (envOfC x sc s.heap.objs.size f cdv))) : XOk (cxB P w K mg base N x sc f cdv A outer s H E) :=
  ⟨nd, rfl, by have := hr.un; show (A.deeper _).units + 100 < cLine; omega, PassesOwn.never⟩
/-- THE RULE for a def -/
theorem At.ok (a : At K mg x st ps) (S : FnScope N ps (defScope st)) (len : ∀ ds R, C ds R → ds.length = ps.length)
    (body : ∀ (f : Addr) (cdv : Value) (A : Around) (outer : List Env) (s : Shared) (H : Hp) (E : XK) (m : Addr → Prop) (ds : List D) (R : D → Prop), Room k (A.deeper (envOfC x (defScope st) s.heap.objs.size f cdv)) →
      XOk (cxB P w K mg base N x (defScope st) f cdv A outer s H E) → C ds R → SW (cxB P w K mg base N x (defScope st) f cdv A outer s H E) ⟨m, m, H, none, none⟩ .non (startD N ds) (defBody st) { nx := fun _ _ => R .non, rt := R }) :
    DefOk P w K mg base x (k + 1) (spD C) := by
  obtain ⟨f, fd, F, hm, hb⟩ := a.ex
  refine ⟨f, fd, ps, F.ok S (fun vs H Q E h => ?_) (fun cdv A outer s H vs Q E hr h => ?_), hm, F.kp, hb⟩
  · obtain ⟨m, ds, R, _, rl, c, _⟩ := h
    rw [← rl.len]; exact len ds R c
  · obtain ⟨m, ds, R, hd, rl, c, q⟩ := h
    refine ⟨_, pss_W, ?_⟩
    refine body f cdv A outer s H E m ds R hr (xok S.nd hr) c _ H ⟨⟨fun _ _ _ e => e, fun _ z => nomatch z⟩, hd, fun _ z => (nomatch z), fun _ z => (nomatch z), fun _ z => z, repE_start rl N⟩ _ ?_
    exact ⟨fun μ δ σ H' r x hq => q .non .non H' (fun a o e => r.bs.base a o (fun z => nomatch z) e) rfl hq, fun d v H' bs rep hq => q d v H' (fun a o e => bs.base a o (fun z => nomatch z) e) rep hq, fun _ _ _ _ _ _ z => False.elim z, fun _ _ _ _ _ _ z => False.elim z⟩
/-- .. whose first argument is the cup -/
theorem At.okC (a : At K mg x st ps) (S : FnScope N ps (defScope st)) (len : ∀ ds R, C ds R → ds.length + 1 = ps.length)
    (body : ∀ (f : Addr) (cdv : Value) (A : Around) (outer : List Env) (s : Shared) (H : Hp) (E : XK) (m : Addr → Prop) (c : Addr) (ds : List D) (R : D → Prop), Room k (A.deeper (envOfC x (defScope st) s.heap.objs.size f cdv)) →
      XOk (cxB P w K mg base N x (defScope st) f cdv A outer s H E) → C ds R → SW (cxB P w K mg base N x (defScope st) f cdv A outer s H E) ⟨m, m, H, some c, none⟩ .non (startD N (.adr c :: ds)) (defBody st) { nx := fun _ _ => R .non, rt := R }) :
    DefOk P w K mg base x (k + 1) (spC C) := by
  obtain ⟨f, fd, F, hm, hb⟩ := a.ex
  refine ⟨f, fd, ps, F.ok S (fun vs H Q E h => ?_) (fun cdv A outer s H vs Q E hr h => ?_), hm, F.kp, hb⟩
  · obtain ⟨m, c, ds, R, _, _, _, rl, c, _⟩ := h
    rw [← rl.len, List.length_cons]; exact len ds R c
  · obtain ⟨m, c, ds, R, hc, hd, hk, rl, cc, q⟩ := h
    refine ⟨_, pss_W, ?_⟩
    refine body f cdv A outer s H E m c ds R hr (xok S.nd hr) cc _ H ⟨⟨fun _ _ _ e => e, fun c' z => by cases z; exact hk⟩, hd, fun c' z => ⟨by cases z; exact hc, fun z => nomatch z⟩, fun _ z => (nomatch z), fun _ z => z, repE_start rl N⟩ _ ?_
    exact ⟨fun μ δ σ H' r x hq => q .non .non H' (fun a o n e => r.bs.base a o (fun z => n (Option.some.inj z).symm) e) (r.bs.cupOk c rfl) rfl hq, fun d v H' bs rep hq => q d v H' (fun a o n e => bs.base a o (fun z => n (Option.some.inj z).symm) e) (bs.cupOk c rfl) rep hq, fun _ _ _ _ _ _ z => False.elim z, fun _ _ _ _ _ _ z => False.elim z⟩
end
/-- the names that are built in, the constants -/
structure Txt (mg : Str → Option Value) : Prop where
  isinstance : mg "isinstance" = none
  int : mg "int" = none
  bool : mg "bool" = none
  tuple : mg "tuple" = none
  len : mg "len" = none
  all : mg "all" = none
  enumerate : mg "enumerate" = none
  range : mg "range" = none
  dict : mg "dict" = none
  sorted : mg "sorted" = none
  abs : mg "abs" = none
  list : mg "list" = none
  min : mg "min" = none
  POSTS : ∃ t, mg "POSTS" = some (.int 6 t)
  SORTS : ∃ t, mg "SORTS" = some (.int 3 t)
  MARKS : ∃ t, mg "MARKS" = some (.int 2 t)
  BACK : ∃ t, mg "BACK" = some (.int 3 t)
  STACK : ∃ t, mg "STACK" = some (.int 60 t)
  GREATEST : ∃ t, mg "GREATEST" = some (.int 1000 t)
  REST : ∃ t, mg "REST" = some (.int (-1) t)
  NEVER : ∃ t, mg "NEVER" = some (.str "never" t)
  MANY : ∃ t, mg "MANY" = some (.int 9 t)
end K48
namespace K48
open PySem PySem.Spec PyProof.Rows L2
section
variable {P : Program} {w : World} {K : PySem.W.Frag} {mg : Str → Option Value} {base : Heap}
theorem sc17 : FnScope ["value", "low", "high"] ["value", "low", "high"] (defScope (topS 17)) := ⟨rfl, rfl, rfl, by decide +kernel, rfl, by decide +kernel, by decide +kernel⟩
def cIsWhole : List D → (D → Prop) → Prop := fun ds R => ∃ i lo hi : Int, ds = [.int i, .int lo, .int hi] ∧ R (.bl (decide (lo ≤ i) && decide (i ≤ hi)))
theorem ok_is_whole (T : Txt mg) (a : At K mg "is_whole" (topS 17) ["value", "low", "high"]) : DefOk P w K mg base "is_whole" 1 (spD cIsWhole) := by
  refine a.ok sc17 (fun ds R h => by obtain ⟨_, _, _, rfl, _⟩ := h; rfl) fun f cdv A outer s H E m ds R hr hX h => ?_
  obtain ⟨i, lo, hi, rfl, h⟩ := h
  refine SW_cons (S1_ret ?_)
  refine W_and (W_isi (n := "int") T.isinstance T.int (by decide +kernel) (W_var 0 rfl ⟨_, true, rfl, by decide +kernel, true, rfl, fun _ => ?_, fun z => nomatch z⟩))
  refine W_and (W_not (W_isi (n := "bool") T.isinstance T.bool (by decide +kernel) (W_var 0 rfl ⟨_, false, rfl, by decide +kernel, _, rfl, true, rfl, fun _ => ?_, fun z => nomatch z⟩)))
  refine W_one (W_chain (W_var 1 rfl (W_var 0 rfl ⟨fun h1 => W_var 2 rfl ⟨_, rfl, ?_⟩, fun h1 => ?_⟩)))
  · rw [decide_eq_true h1] at h; exact h
  · rw [decide_eq_false h1] at h; exact h
end
end K48
/-! What the program computes, in plain Lean; its data -/
namespace K48
open PySem PySem.Spec PyProof.Rows L2
abbrev Mv := List Int × List Int × Int
abbrev Rt := List (List Mv)
abbrev PI2 := Int × Int
/-- where it ends, the turns, the marks, what is left -/
abbrev Row := Int × Int × List Int × List Int
abbrev Tb := List (PI2 × Row)
def intsD (ns : List Int) : D := .tup (ns.map D.int)
def mvD (v : Mv) : D := .tup [intsD v.1, intsD v.2.1, .int v.2.2]
def postD (q : List Mv) : D := .tup (q.map mvD)
def rtD (r : Rt) : D := .tup (r.map postD)
def rowT (x : Row) : D := .tup [.int x.1, .int x.2.1, intsD x.2.2.1, intsD x.2.2.2]
def rowL (x : Row) : D := .lst [.int x.1, .int x.2.1, intsD x.2.2.1, intsD x.2.2.2]
def pk (p : PI2) : List Key := [.inl p.1, .inl p.2]
def pD (p : PI2) : D := .tup [.int p.1, .int p.2]
theorem pD_key (p : PI2) : pD p = .tup ((pk p).map keyD) := rfl
theorem pk_inj {p q : PI2} (h : pk p = pk q) : p = q := by
  unfold pk at h
  injection h with h1 h2
  injection h2 with h2 h3
  exact Prod.ext (Sum.inl.inj h1) (Sum.inl.inj h2)
def kvs {β : Type} (f : β → D) (S : List (PI2 × β)) : List (List Key × D) := S.map fun p => (pk p.1, f p.2)
def endsD (S : Tb) : D := .oT (kvs rowT S)
def tabD (S : Tb) : D := .oT (kvs rowL S)
theorem lookA_kvs {β : Type} (f : β → D) (p : PI2) : ∀ S : List (PI2 × β), lookA (kvs f S) (pk p) = (lookA S p).map f
  | [] => rfl
  | x :: S => by
    simp only [kvs, List.map_cons, lookA]
    by_cases e : x.1 = p
    · rw [if_pos e, if_pos (by rw [e])]; rfl
    · rw [if_neg e, if_neg fun h => e (pk_inj h)]; exact lookA_kvs f p S
theorem valD_kvs {β : Type} (f : β → D) (p : PI2) (S : List (PI2 × β)) : valD ((kvs f S).map Prod.fst) ((kvs f S).map Prod.snd) (pk p) = (lookA S p).map f := by rw [valD_of, lookA_kvs]
theorem putA_kvs {β : Type} (f : β → D) (p : PI2) (x : β) (S : List (PI2 × β)) : putA (kvs f S) (pk p) (f x) = kvs f (putA S p x) := by
  unfold putA
  have e : ((kvs f S).any fun kv => decide (kv.1 = pk p)) = S.any fun kv => decide (kv.1 = p) := by
    unfold kvs
    rw [List.any_map]
    congr 1
    funext a
    exact decide_eq_decide.mpr ⟨pk_inj, fun h => congrArg pk h⟩
  rw [e]
  by_cases h : (S.any fun kv => decide (kv.1 = p)) = true
  · rw [if_pos h, if_pos h]
    unfold kvs
    rw [List.map_map, List.map_map]
    congr 1
    funext a
    by_cases e : a.1 = p
    · simp [e]
    · have : ¬ pk a.1 = pk p := fun h => e (pk_inj h)
      simp [e, this]
  · rw [if_neg h, if_neg h]
    simp [kvs]
/-- a routine is well built -/
def OkMv (n : Nat) (v : Mv) : Prop := v.1.length ≤ 2 ∧ (∀ x ∈ v.1, 0 ≤ x ∧ x ≤ 2) ∧ v.2.1.length ≤ 3 ∧ (∀ x ∈ v.2.1, 0 ≤ x ∧ x ≤ 2) ∧ -1 ≤ v.2.2 ∧ v.2.2 ≤ (n : Int) - 1
def OkRt (r : Rt) : Prop := 1 ≤ r.length ∧ r.length ≤ 6 ∧ ∀ q ∈ r, q.length = 4 ∧ ∀ v ∈ q, OkMv r.length v
instance (n : Nat) (v : Mv) : Decidable (OkMv n v) := by unfold OkMv; infer_instance
instance (r : Rt) : Decidable (OkRt r) := by unfold OkRt; infer_instance
def mvAt (r : Rt) (p : PI2) : Mv := ((r[p.1.toNat]?).bind fun q => q[p.2.toNat]?).getD ([], [], -1)
/-- a post and a sort of it -/
def OkP (r : Rt) (p : PI2) : Prop := 0 ≤ p.1 ∧ p.1 < r.length ∧ 0 ≤ p.2 ∧ p.2 < 4
theorem mvAt_ok {r : Rt} (h : OkRt r) {p : PI2} (hp : OkP r p) : ∃ q, r[p.1.toNat]? = some q ∧ q[p.2.toNat]? = some (mvAt r p) ∧ OkMv r.length (mvAt r p) := by
  obtain ⟨h1, h2, h3, h4⟩ := hp
  have l1 : p.1.toNat < r.length := by omega
  obtain ⟨e1, e2⟩ := h.2.2 r[p.1.toNat] (List.getElem_mem l1)
  have l2 : p.2.toNat < r[p.1.toNat].length := by omega
  have e3 : mvAt r p = r[p.1.toNat][p.2.toNat] := by
    unfold mvAt
    rw [List.getElem?_eq_getElem l1, Option.bind_some, List.getElem?_eq_getElem l2]; rfl
  exact ⟨_, List.getElem?_eq_getElem l1, by rw [e3]; exact List.getElem?_eq_getElem l2, by rw [e3]; exact e2 _ (List.getElem_mem l2)⟩
/-- the walk of a pair: what it needs, or its row -/
def walkN (f : PI2 → Option Row) : Int → Int → List Int → List Int → List Int → Except PI2 Row
  | h, t, m, [], _ => .ok (h, t, m, [])
  | h, t, m, n :: ns, bk => match f (h, n) with
    | none => .error (h, n)
    | some x => if x.1 = -1 then .ok (-1, t + x.2.1, (m ++ x.2.2.1).take 1001, x.2.2.2 ++ bk.tail) else walkN f x.1 (t + x.2.1) ((m ++ x.2.2.1).take 1001) ns bk.tail
def needsOf (r : Rt) (p : PI2) : List Int := (mvAt r p).2.1 ++ if p.2 < 3 then [] else [3]
def pairN (f : PI2 → Option Row) (r : Rt) (p : PI2) : Except PI2 Row :=
  if (mvAt r p).2.2 = -1 then .ok (-1, 1, (mvAt r p).1, (mvAt r p).2.1) else walkN f (mvAt r p).2.2 1 (mvAt r p).1 (needsOf r p) (mvAt r p).2.1
/-- the law's table -/
def stepT (r : Rt) (T : Tb) (p : PI2) : Tb := match lookA T p with
  | some _ => T
  | none => match pairN (lookA T) r p with
    | .ok x => T ++ [(p, x)]
    | .error _ => T
def four (i : Int) : List PI2 := [(i, 0), (i, 1), (i, 2), (i, 3)]
def pairs (r : Rt) : List PI2 := (List.range r.length).flatMap fun (i : Nat) => four (i : Int)
def rounds (r : Rt) : Nat → Tb
  | 0 => []
  | n + 1 => (pairs r).foldl (stepT r) (rounds r n)
def table (r : Rt) : Tb := rounds r ((pairs r).length + 1)
end K48
namespace K48
theorem map_get {α β : Type} {f : α → β} {xs : List α} {i : Nat} {d : β} (e : (xs.map f)[i]? = some d) : ∃ y, xs[i]? = some y ∧ d = f y := by
  rw [List.getElem?_map] at e
  cases hq : xs[i]? with
  | none => rw [hq] at e; cases e
  | some y => rw [hq] at e; exact ⟨y, rfl, (Option.some.inj e).symm⟩
end K48
namespace K48
open PySem PySem.Spec PyProof.Rows L2
theorem six (n d k : Nat) : HT.sIx n d (some (k : Int)) = min k n := by
  show (if (k : Int) < 0 then ((k : Int) + (n : Int)).toNat else min (k : Int).toNat n) = min k n
  rw [if_neg (by omega), Int.toNat_natCast]
theorem cut_hi (xs : List D) (k : Nat) : cutD xs none (some (k : Int)) = xs.take k := by
  unfold cutD
  rw [six, show HT.sIx xs.length 0 none = 0 from rfl, List.drop_zero, Nat.sub_zero]
  by_cases h : k ≤ xs.length
  · rw [Nat.min_eq_left h]
  · rw [Nat.min_eq_right (by omega), List.take_length, List.take_of_length_le (by omega)]
theorem cut_lo (xs : List D) (k : Nat) : cutD xs (some (k : Int)) none = xs.drop k := by
  unfold cutD
  rw [six, show HT.sIx xs.length xs.length none = xs.length from rfl]
  by_cases h : k ≤ xs.length
  · rw [Nat.min_eq_left h, List.take_of_length_le (by rw [List.length_drop]; omega)]
  · rw [Nat.min_eq_right (by omega), Nat.sub_self, List.take_zero, List.drop_of_length_le (by omega)]
theorem cut_mid (xs : List D) (a b : Nat) : cutD xs (some (a : Int)) (some (b : Int)) = (xs.drop a).take (b - a) := by
  unfold cutD
  rw [six, six]
  by_cases h : a ≤ xs.length
  · rw [Nat.min_eq_left h]
    by_cases h2 : b ≤ xs.length
    · rw [Nat.min_eq_left h2]
    · rw [Nat.min_eq_right (by omega), List.take_of_length_le (by rw [List.length_drop]; omega), List.take_of_length_le (by rw [List.length_drop]; omega)]
  · rw [Nat.min_eq_right (show xs.length ≤ a by omega), List.drop_of_length_le (Nat.le_refl _), List.drop_of_length_le (show xs.length ≤ a by omega), List.take_nil, List.take_nil]
theorem cut_last (xs : List D) : cutD xs none (some (-1)) = xs.dropLast := by
  unfold cutD
  rw [show HT.sIx xs.length 0 none = 0 from rfl, show HT.sIx xs.length xs.length (some (-1)) = xs.length - 1 from ?_, List.drop_zero, Nat.sub_zero, List.dropLast_eq_take]
  show (if (-1 : Int) < 0 then ((-1 : Int) + (xs.length : Int)).toNat else min (-1 : Int).toNat xs.length) = _
  rw [if_pos (by decide)]; omega
theorem int_drop (ns : List Int) (k : Nat) : (ns.map D.int).drop k = (ns.drop k).map D.int := (List.map_drop ..).symm
theorem int_take (ns : List Int) (k : Nat) : (ns.map D.int).take k = (ns.take k).map D.int := (List.map_take ..).symm
theorem atD_last (xs : List D) (d : D) : atD (xs ++ [d]) (-1) = some d := by
  unfold atD
  have : ixN (xs ++ [d]).length (-1) = some xs.length := by
    unfold ixN
    rw [List.length_append, List.length_singleton]
    simp
    omega
  rw [this, Option.bind_some, List.getElem?_concat_length]
theorem drop_step {α : Type} {xs : List α} {i : Nat} {y : α} (h : xs[i]? = some y) : xs.drop i = y :: xs.drop (i + 1) := by
  obtain ⟨hl, he⟩ := List.getElem?_eq_some_iff.mp h
  rw [List.drop_eq_getElem_cons hl, he]
/-- rows small enough -/
def OkS (S : Tb) : Prop := S.length ≤ 1000 ∧ (∀ e ∈ S, gk (pk e.1)) ∧ ∀ p x, lookA S p = some x → x.2.2.1.length ≤ 1001 ∧ x.2.2.2.length ≤ 1000
theorem pl_ints (n : Nat) (ns : List Int) : Pl (n + 1) (intsD ns) := fun x hx => by
  obtain ⟨i, _, rfl⟩ := List.mem_map.mp hx
  cases n <;> trivial
theorem pl_pD (n : Nat) (p : PI2) : Pl (n + 1) (pD p) := pl_ints n [p.1, p.2]
theorem pl_rowT (n : Nat) (x : Row) : Pl (n + 2) (rowT x) := fun d hd => by
  simp only [List.mem_cons, List.not_mem_nil, or_false] at hd
  rcases hd with rfl | rfl | rfl | rfl
  · trivial
  · trivial
  · exact pl_ints n _
  · exact pl_ints n _
end K48
namespace K48
/-- short -/
theorem sm {n : Nat} (h : Nat.ble n 1000000 = true := by rfl) : n ≤ 1000000 := Nat.le_of_ble_eq_true h
theorem nm {P : Prop} (h : (false = true)) : P := nomatch h
theorem nm' {P : Prop} (h : (true = false)) : P := nomatch h
end K48
namespace K48
open PySem PySem.Spec PyProof.Rows L2
section
variable {X : Cx} {I : HI} {μ : D} {δ : De} {a : Expr} {Q : D → Prop} {pos : Pos}
theorem W_neg (h : W X I μ δ a fun d => ∃ i, d = .int i ∧ Q (.int (-i))) : W X I μ δ (.UnaryOp .USub a pos) Q := fun σ H r K k => by
  refine te_of (pe_un un_neg pe_W) (h σ H r _ fun d v H' r' x rep q => ?_)
  obtain ⟨c, rfl, q⟩ := q
  exact ⟨c, rep, k (.int (-c)) _ H' r' x rfl q⟩
end
end K48
namespace K48
open PySem PySem.Spec PyProof.Rows L2
section
variable {P : Program} {w : World} {K : PySem.W.Frag} {mg : Str → Option Value} {base : Heap}
theorem sc18 : FnScope ["value", "most", "item"] ["value", "most"] (defScope (topS 18)) := ⟨rfl, rfl, rfl, by decide +kernel, rfl, by decide +kernel, by decide +kernel⟩
def cFitsSorts : List D → (D → Prop) → Prop := fun ds R => ∃ (xs : List Int) (n : Int), ds = [intsD xs, .int n] ∧ (xs.length : Int) ≤ n ∧ n ≤ 1000 ∧ (∀ x ∈ xs, 0 ≤ x ∧ x ≤ 2) ∧ R (.bl true)
theorem ok_fits_sorts (T : Txt mg) (a : At K mg "fits_sorts" (topS 18) ["value", "most"]) (f17 : DefOk P w K mg base "is_whole" 1 (spD cIsWhole)) : DefOk P w K mg base "fits_sorts" 2 (spD cFitsSorts) := by
  refine a.ok sc18 (fun ds R h => by obtain ⟨_, _, rfl, _⟩ := h; rfl) fun f cdv A outer s H E m ds R hr hX h => ?_
  obtain ⟨xs, n, rfl, hl, hn, hm, h⟩ := h
  refine SW_cons (S1_ret ?_)
  refine W_and (W_isi (n := "tuple") T.isinstance T.tuple (by decide +kernel) (W_var 0 rfl ⟨_, true, rfl, by decide +kernel, true, rfl, fun _ => ?_, fun z => nomatch z⟩))
  refine W_and (W_cmp (C_le (W_len T.len (W_var 0 rfl (W_var 1 rfl ⟨_, rfl, ?_, fun z => ?_⟩)))))
  · intro _
    refine W_one (W_all hX T.all (W_lc (own := [("item", 2)]) (g := gName 2) (fun d δ => δ.set 2 (some d)) hX (.inl rfl) (blkOk_by (by rfl)) (fun s H C cl fp => pg_name (i := 2) (by exact hX.nd) rfl (.inl rfl) (.inr rfl)) (WI_tup (W_var 0 rfl ⟨_, rfl, ?_⟩))))
    refine ⟨fun i acc => acc = List.replicate i (.bl true), rfl, fun i d acc e pv => ?_, fun acc pv => ?_⟩
    · subst pv
      obtain ⟨y, ey, rfl⟩ : ∃ y, xs[i]? = some y ∧ d = .int y := by
        rw [List.getElem?_map] at e
        cases hq : xs[i]? with
        | none => rw [hq] at e; cases e
        | some y => rw [hq] at e; exact ⟨y, rfl, (Option.some.inj e).symm⟩
      have hy := hm y (List.mem_of_getElem? ey)
      refine ⟨?_, tgt_name, fun s H0 C cl fp => ?_⟩
      · have := (List.getElem?_eq_some_iff.mp ey).1
        rw [List.length_replicate]; omega
      · refine W_call f17 (by exact hr) (WA_cons (W_var 2 rfl (WA_cons (W_int (WA_cons (W_sub (W_globI T.SORTS (W_int (WA_nil ⟨y, 0, 3 - 1, rfl, trivial, ?_⟩)))))))))
        show _ = _
        rw [List.replicate_succ', decide_eq_true hy.1, decide_eq_true (show y ≤ 3 - 1 by omega)]; rfl
    · subst pv
      rw [List.length_map]
      refine ⟨List.replicate xs.length true, by rw [List.map_replicate], ?_⟩
      rw [show (List.replicate xs.length true).all id = true by simp]; exact h
  · rw [List.length_map] at z
    simp only [decide_eq_false_iff_not] at z
    exact absurd hl z
end
end K48
namespace K48
open PySem PySem.Spec PyProof.Rows L2
section
variable {P : Program} {w : World} {K : PySem.W.Frag} {mg : Str → Option Value} {base : Heap}
theorem sc19 : FnScope ["value", "posts"] ["value", "posts"] (defScope (topS 19)) := ⟨rfl, rfl, rfl, by decide +kernel, rfl, by decide +kernel, by decide +kernel⟩
def cFitsMove : List D → (D → Prop) → Prop := fun ds R => ∃ (v : Mv) (n : Nat), ds = [mvD v, .int n] ∧ OkMv n v ∧ R (.bl true)
theorem ok_fits_move (T : Txt mg) (a : At K mg "fits_move" (topS 19) ["value", "posts"]) (f17 : DefOk P w K mg base "is_whole" 1 (spD cIsWhole)) (f18 : DefOk P w K mg base "fits_sorts" 2 (spD cFitsSorts)) : DefOk P w K mg base "fits_move" 3 (spD cFitsMove) := by
  refine a.ok sc19 (fun ds R h => by obtain ⟨_, _, rfl, _⟩ := h; rfl) fun f cdv A outer s H E m ds R hr hX h => ?_
  obtain ⟨⟨mk, bk, nx⟩, n, rfl, ⟨h1, h2, h3, h4, h5, h6⟩, h⟩ := h
  refine SW_cons (S1_if (WT_ww (WW_or (WT_not (WT_val (W_isi (n := "tuple") T.isinstance T.tuple (by decide +kernel) (W_var 0 rfl ⟨_, true, rfl, by decide +kernel, true, rfl, ?_⟩)))))))
  refine ⟨fun z => (nomatch z), fun _ => WW_or1 (WT_cmp (C_ne hX (W_len T.len (W_var 0 rfl (W_int ⟨trivial, trivial, fun z => ?_, fun _ => SW_nil ?_⟩)))))⟩
  · exact absurd (show (!decide (D.int 3 = D.int 3)) = true from z) (by decide)
  refine SW_cons (S1_ret (W_and (W_call f18 (hr.mono (by decide)) (WA_cons (W_itT (W_var 0 rfl (W_int ⟨_, _, _, rfl, rfl, atD_nat (j := 0) rfl, WA_cons (W_globI T.MARKS (WA_nil ⟨mk, 2, rfl, Int.ofNat_le.mpr h1, by decide, h2, true, rfl, fun _ => ?_, fun z => (nomatch z)⟩))⟩)))))))
  refine W_and (W_call f18 (hr.mono (by decide)) (WA_cons (W_itT (W_var 0 rfl (W_int ⟨_, _, _, rfl, rfl, atD_nat (j := 1) rfl, WA_cons (W_globI T.BACK (WA_nil ⟨bk, 3, rfl, Int.ofNat_le.mpr h3, by decide, h4, true, rfl, fun _ => ?_, fun z => (nomatch z)⟩))⟩)))))
  refine W_one (W_call f17 (hr.mono (by decide)) (WA_cons (W_itT (W_var 0 rfl (W_int ⟨_, _, _, rfl, rfl, atD_nat (j := 2) rfl, WA_cons (W_globI T.REST (WA_cons (W_sub (W_var 1 rfl (W_int (WA_nil ⟨nx, -1, _, rfl, ?_⟩))))))⟩)))))
  rw [decide_eq_true h5, decide_eq_true h6]; exact h
theorem sc20 : FnScope ["value", "post", "move"] ["value"] (defScope (topS 20)) := ⟨rfl, rfl, rfl, by decide +kernel, rfl, by decide +kernel, by decide +kernel⟩
def cFitsRt : List D → (D → Prop) → Prop := fun ds R => ∃ (r : Rt), ds = [rtD r] ∧ OkRt r ∧ R (.bl true)
theorem ok_fits_routine (T : Txt mg) (a : At K mg "fits_routine" (topS 20) ["value"]) (f19 : DefOk P w K mg base "fits_move" 3 (spD cFitsMove)) : DefOk P w K mg base "fits_routine" 4 (spD cFitsRt) := by
  refine a.ok sc20 (fun ds R h => by obtain ⟨_, rfl, _⟩ := h; rfl) fun f cdv A outer s H E m ds R hr hX h => ?_
  obtain ⟨r, rfl, ⟨h1, h2, h3⟩, h⟩ := h
  refine SW_cons (S1_if (WT_ww (WW_or (WT_not (WT_val (W_isi (n := "tuple") T.isinstance T.tuple (by decide +kernel) (W_var 0 rfl ⟨_, true, rfl, by decide +kernel, true, rfl, ?_⟩)))))))
  refine ⟨fun z => (nomatch z), fun _ => WW_or1 (WT_not (WT_chain (W_int (W_len T.len (W_var 0 rfl ⟨fun _ => W_globI T.POSTS ⟨6, rfl, ?_, ?_⟩, fun z => ?_⟩)))))⟩
  · intro z
    rw [List.length_map, decide_eq_true (show (r.length : Int) ≤ 6 by omega)] at z; exact absurd z (by decide)
  · intro _
    refine SW_nil (SW_cons (S1_for hX (WI_tup (W_var 0 rfl ⟨_, rfl, fun i μ δ => μ = .non ∧ ∃ o1 : Option D, δ = [some (rtD r), o1, none], ⟨rfl, none, rfl⟩, ?_, ?_⟩))))
    · intro i d μ δ e hp
      obtain ⟨rfl, o1, rfl⟩ := hp
      obtain ⟨q, eq, rfl⟩ := map_get e
      obtain ⟨q1, q2⟩ := h3 q (List.mem_of_getElem? eq)
      refine WG_name 1 hX.nd ?_
      refine SW_cons (S1_if (WT_ww (WW_or (WT_not (WT_val (W_isi (n := "tuple") T.isinstance T.tuple (by decide +kernel) (W_var 1 rfl ⟨_, true, rfl, by decide +kernel, true, rfl, ?_⟩)))))))
      refine ⟨fun z => (nomatch z), fun _ => WW_or1 (WT_cmp (C_ne hX (W_len T.len (W_var 1 rfl (W_add (W_globI T.SORTS (W_int ⟨trivial, trivial, fun z => ?_, fun _ => SW_nil ?_⟩)))))))⟩
      · rw [List.length_map, q1] at z; exact absurd z (by decide)
      refine SW_cons (S1_if (WT_not (WT_val (W_all hX T.all (W_lc (own := [("move", 2)]) (g := gName 2) (fun d δ => δ.set 2 (some d)) hX (.inl rfl) (blkOk_by (by rfl)) (fun s H C cl fp => pg_name (i := 2) (by exact hX.nd) rfl (.inl rfl) (.inr rfl)) (WI_tup (W_var 1 rfl ⟨_, rfl, ?_⟩)))))))
      refine ⟨fun i acc => acc = List.replicate i (.bl true), rfl, fun i d acc e pv => ?_, fun acc pv => ?_⟩
      · subst pv
        obtain ⟨v, ev, rfl⟩ := map_get e
        refine ⟨?_, tgt_name, fun s H0 C cl fp => ?_⟩
        · have := (List.getElem?_eq_some_iff.mp ev).1
          rw [List.length_replicate]; omega
        · refine W_call f19 (by exact hr) (WA_cons (W_var 2 rfl (WA_cons (W_len T.len (W_var 0 rfl (WA_nil ⟨v, r.length, by rw [List.length_map], q2 v (List.mem_of_getElem? ev), trivial, ?_⟩))))))
          show _ = _
          rw [List.replicate_succ']
      · subst pv
        rw [List.length_map]
        refine ⟨List.replicate q.length true, by rw [List.map_replicate], _, rfl, fun z => ?_, fun _ => SW_nil (SW_nil ⟨rfl, _, rfl⟩)⟩
        rw [show (List.replicate q.length true).all id = true by simp] at z; exact absurd z (by decide)
    · intro μ δ hp
      obtain ⟨rfl, o1, rfl⟩ := hp
      exact SW_cons (S1_ret (W_bl h))
  · rw [List.length_map] at z; omega
theorem sc21 : FnScope ["value"] ["value"] (defScope (topS 21)) := ⟨rfl, rfl, rfl, by decide +kernel, rfl, by decide +kernel, by decide +kernel⟩
def cNeedRt : List D → (D → Prop) → Prop := fun ds R => ∃ (r : Rt), ds = [rtD r] ∧ OkRt r ∧ R .non
theorem ok_need_routine (T : Txt mg) (a : At K mg "need_routine" (topS 21) ["value"]) (f20 : DefOk P w K mg base "fits_routine" 4 (spD cFitsRt)) : DefOk P w K mg base "need_routine" 5 (spD cNeedRt) := by
  refine a.ok sc21 (fun ds R h => by obtain ⟨_, rfl, _⟩ := h; rfl) fun f cdv A outer s H E m ds R hr hX h => ?_
  obtain ⟨r, rfl, h1, h⟩ := h
  exact SW_cons (S1_if (WT_not (WT_val (W_call f20 (by exact hr) (WA_cons (W_var 0 rfl (WA_nil ⟨r, rfl, h1, true, rfl, fun z => (nomatch z), fun _ => SW_nil (SW_nil h)⟩)))))))
theorem sc22 : FnScope ["value"] ["value"] (defScope (topS 22)) := ⟨rfl, rfl, rfl, by decide +kernel, rfl, by decide +kernel, by decide +kernel⟩
def cNeedSt : List D → (D → Prop) → Prop := fun ds R => ∃ (xs : List Int), ds = [intsD xs] ∧ xs.length ≤ 60 ∧ (∀ x ∈ xs, 0 ≤ x ∧ x ≤ 2) ∧ R .non
theorem ok_need_stack (T : Txt mg) (a : At K mg "need_stack" (topS 22) ["value"]) (f18 : DefOk P w K mg base "fits_sorts" 2 (spD cFitsSorts)) : DefOk P w K mg base "need_stack" 3 (spD cNeedSt) := by
  refine a.ok sc22 (fun ds R h => by obtain ⟨_, rfl, _⟩ := h; rfl) fun f cdv A outer s H E m ds R hr hX h => ?_
  obtain ⟨r, rfl, h1, h2, h⟩ := h
  exact SW_cons (S1_if (WT_not (WT_val (W_call f18 (by exact hr) (WA_cons (W_var 0 rfl (WA_cons (W_globI T.STACK (WA_nil ⟨r, _, rfl, by omega, by decide, h2, true, rfl, fun z => (nomatch z), fun _ => SW_nil (SW_nil h)⟩)))))))))
theorem sc26 : FnScope ["marks"] ["marks"] (defScope (topS 26)) := ⟨rfl, rfl, rfl, by decide +kernel, rfl, by decide +kernel, by decide +kernel⟩
def cNeedFew : List D → (D → Prop) → Prop := fun ds R => ∃ (xs : List Int), ds = [intsD xs] ∧ xs.length ≤ 1000 ∧ R .non
theorem ok_need_few (T : Txt mg) (a : At K mg "need_few" (topS 26) ["marks"]) : DefOk P w K mg base "need_few" 1 (spD cNeedFew) := by
  refine a.ok sc26 (fun ds R h => by obtain ⟨_, rfl, _⟩ := h; rfl) fun f cdv A outer s H E m ds R hr hX h => ?_
  obtain ⟨r, rfl, h1, h⟩ := h
  refine SW_cons (S1_if (WT_cmp (C_gt (W_len T.len (W_var 0 rfl (W_globI T.GREATEST ⟨fun z => ?_, fun _ => SW_nil (SW_nil h)⟩))))))
  rw [List.length_map, decide_eq_true_eq] at z; omega
theorem sc33 : FnScope ["value"] ["value"] (defScope (topS 33)) := ⟨rfl, rfl, rfl, by decide +kernel, rfl, by decide +kernel, by decide +kernel⟩
def cNeedMk : List D → (D → Prop) → Prop := fun ds R => ∃ (xs : List Int), ds = [intsD xs] ∧ xs.length ≤ 9 ∧ (∀ x ∈ xs, 0 ≤ x ∧ x ≤ 2) ∧ R .non
theorem ok_need_marks (T : Txt mg) (a : At K mg "need_marks" (topS 33) ["value"]) (f18 : DefOk P w K mg base "fits_sorts" 2 (spD cFitsSorts)) : DefOk P w K mg base "need_marks" 3 (spD cNeedMk) := by
  refine a.ok sc33 (fun ds R h => by obtain ⟨_, rfl, _⟩ := h; rfl) fun f cdv A outer s H E m ds R hr hX h => ?_
  obtain ⟨r, rfl, h1, h2, h⟩ := h
  exact SW_cons (S1_if (WT_not (WT_val (W_call f18 (by exact hr) (WA_cons (W_var 0 rfl (WA_cons (W_globI T.MANY (WA_nil ⟨r, _, rfl, by omega, by decide, h2, true, rfl, fun z => (nomatch z), fun _ => SW_nil (SW_nil h)⟩)))))))))
end
end K48
namespace K48
open PySem PySem.Spec PyProof.Rows L2
section
variable {P : Program} {w : World} {K : PySem.W.Frag} {mg : Str → Option Value} {base : Heap}
theorem sc23 : FnScope ["routine", "pair", "ends", "post", "sort", "marks", "back", "here", "turns", "at", "need", "more", "handed", "left"] ["routine", "pair", "ends"] (defScope (topS 23)) := ⟨rfl, rfl, rfl, by decide +kernel, rfl, by decide +kernel, by decide +kernel⟩
theorem strN : Pl 6 (.str ("never" : Str)) := show PyData.strOk ("never" : Str) = true by decide +kernel
def needD : Except PI2 Row → D
  | .error q => .tup [pD q, .non]
  | .ok x => .tup [.non, rowT x]
def cNextNeed : List D → (D → Prop) → Prop := fun ds R => ∃ (r : Rt) (p : PI2) (S : Tb), ds = [rtD r, pD p, endsD S] ∧ OkRt r ∧ OkP r p ∧ OkS S ∧ R (needD (pairN (lookA S) r p))
theorem ok_next_need (T : Txt mg) (a : At K mg "next_need" (topS 23) ["routine", "pair", "ends"]) : DefOk P w K mg base "next_need" 1 (spD cNextNeed) := by
  refine a.ok sc23 (fun ds R h => by obtain ⟨_, _, _, rfl, _⟩ := h; rfl) fun f cdv A outer s H E m ds R hr hX h => ?_
  obtain ⟨r, p, S, rfl, hR, hP, ⟨hS0, hS1, hS⟩, h⟩ := h
  obtain ⟨q, e1, e2, h1, h2, h3, h4, h5, h6⟩ := mvAt_ok hR hP
  have hnl : (needsOf r p).length ≤ 4 := by
    unfold needsOf
    rw [List.length_append]
    split <;> simp <;> omega
  refine SW_cons <| S1_asg <| W_var 1 rfl <| WG_tup hX.calm <| WGs_cons <| WG_name 3 hX.nd <| WGs_cons <| WG_name 4 hX.nd <| WGs_nil ?_
  refine SW_cons <| S1_asg <| W_itT <| W_itT <| W_var 0 rfl <| W_var 3 rfl ⟨_, p.1, postD q, rfl, rfl, ?_, W_var 4 rfl ⟨_, p.2, mvD (mvAt r p), rfl, rfl, ?_, WG_tup hX.calm <| WGs_cons <| WG_name 5 hX.nd <| WGs_cons <| WG_name 6 hX.nd <| WGs_cons <| WG_name 7 hX.nd <| WGs_nil ?_⟩⟩
  · rw [show p.1 = ((p.1.toNat : Nat) : Int) by have := hP.1; omega]
    exact atD_nat (by rw [List.getElem?_map, e1]; rfl)
  · rw [show p.2 = ((p.2.toNat : Nat) : Int) by have := hP.2.2.1; omega]
    exact atD_nat (by rw [List.getElem?_map, e2]; rfl)
  refine SW_cons <| S1_if <| WT_cmp <| C_eqI <| W_var 7 rfl <| W_globI T.REST ⟨fun z => ?_, fun z => ?_⟩
  · simp only [decide_eq_true_eq] at z
    refine SW_cons <| S1_ret <| W_tup <| WA_cons <| W_non <| WA_cons <| W_tup <| WA_cons <| W_globI T.REST <| WA_cons <| W_int <| WA_cons <| W_var 5 rfl <| WA_cons <| W_var 6 rfl <| WA_nil ⟨sm, WA_nil ⟨sm, ?_⟩⟩
    unfold pairN at h
    rw [if_pos z] at h; exact h
  simp only [decide_eq_false_iff_not] at z
  unfold pairN at h
  rw [if_neg z] at h
  refine SW_nil <| SW_cons <| S1_set 8 hX.nd <| W_int ?_
  refine SW_cons <| S1_for hX <| WI_enumT T.enumerate (W.mono (Q := fun d => d = intsD (needsOf r p)) (W_add <| W_var 6 rfl <| W_ifexp <| WT_cmp <| C_lt <| W_var 4 rfl <| W_globI T.SORTS ⟨fun z2 => W_tup <| WA_nil ⟨sm, ?_, ?_⟩, fun z2 => W_tup <| WA_cons <| W_globI T.SORTS <| WA_nil ⟨sm, ?_, ?_⟩⟩) fun d hd => ?_)
  · rw [List.length_map]; show _ + 0 ≤ _; omega
  · simp only [decide_eq_true_eq] at z2
    unfold needsOf intsD
    rw [if_pos z2, List.append_nil, List.append_nil]
  · rw [List.length_map]; show _ + 1 ≤ _; omega
  · simp only [decide_eq_false_iff_not] at z2
    unfold needsOf intsD
    rw [if_neg z2, List.map_append]; rfl
  subst hd
  refine ⟨_, rfl, fun i μ δ => μ = .non ∧ ∃ (h t : Int) (mm : List Int) (o9 o10 o11 o12 o13 : Option D), δ = [some (rtD r), some (pD p), some (endsD S), some (.int p.1), some (.int p.2), some (intsD mm), some (intsD (mvAt r p).2.1), some (.int h), some (.int t), o9, o10, o11, o12, o13] ∧ mm.length ≤ 1001 ∧
    R (needD (walkN (lookA S) h t mm ((needsOf r p).drop i) ((mvAt r p).2.1.drop i))), ⟨rfl, _, _, _, _, _, _, _, _, rfl, by omega, h⟩, ?_, ?_⟩
  · intro i d μ δ e hp
    obtain ⟨rfl, hh, t, mm, o9, o10, o11, o12, o13, rfl, hm, h⟩ := hp
    obtain ⟨x, e3, rfl⟩ := enumD_get e
    obtain ⟨y, e4, rfl⟩ := map_get e3
    refine WG_tup hX.calm <| WGs_cons <| WG_name 9 hX.nd <| WGs_cons <| WG_name 10 hX.nd <| WGs_nil ?_
    rw [drop_step e4] at h
    unfold walkN at h
    refine SW_cons <| S1_if <| WT_cmp <| C_notInDT hX <| W_tup <| WA_cons <| W_var 7 rfl <| WA_cons <| W_var 10 rfl <| WA_nil ⟨sm, W_var 2 rfl ⟨_, _, pk (hh, y), rfl, trivial, rfl, ?_⟩⟩
    rw [valD_kvs]
    cases ev : lookA S (hh, y) with
    | none =>
      rw [ev] at h
      exact ⟨fun _ => SW_cons <| S1_ret <| W_tup <| WA_cons <| W_tup <| WA_cons <| W_var 7 rfl <| WA_cons <| W_var 10 rfl <| WA_nil ⟨sm, WA_cons <| W_non <| WA_nil ⟨sm, h⟩⟩, fun z => nomatch z⟩
    | some x =>
      rw [ev] at h
      obtain ⟨hx1, hx2⟩ := hS _ _ ev
      obtain ⟨xe, xt, xm, xl⟩ := x
      refine ⟨fun z => (nomatch z), fun _ => SW_nil ?_⟩
      refine SW_cons <| S1_asg <| W_getT hX <| W_var 2 rfl <| W_tup <| WA_cons <| W_var 7 rfl <| WA_cons <| W_var 10 rfl <| WA_nil ⟨sm, _, _, pk (hh, y), rowT (xe, xt, xm, xl), rfl, trivial, rfl, by rw [valD_kvs, ev]; rfl,
        WG_tup hX.calm <| WGs_cons <| WG_name 7 hX.nd <| WGs_cons <| WG_name 11 hX.nd <| WGs_cons <| WG_name 12 hX.nd <| WGs_cons <| WG_name 13 hX.nd <| WGs_nil ?_⟩
      refine SW_cons <| S1_if <| WT_cmp <| C_eq hX <| W_var 7 rfl <| W_globS T.NEVER ⟨trivial, strN, fun z => ?_, fun _ => SW_nil ?_⟩
      · rw [decide_eq_false (by intro z; cases z)] at z; exact nomatch z
      refine SW_cons <| S1_par 8 5 hX.calm hX.nd <| WA_cons <| W_add <| W_var 8 rfl <| W_var 11 rfl <| WA_cons <| W_slT <| W_add <| W_var 5 rfl <| W_var 12 rfl ⟨?_, W_add <| W_globI T.GREATEST <| W_int ⟨(1001 : Nat), rfl, _, rfl, WA_nil ⟨_, _, rfl, ?_⟩⟩⟩
      · rw [List.length_map, List.length_map]; omega
      rw [cut_hi, ← List.map_append, int_take]
      have hm' : ((mm ++ xm).take 1001).length ≤ 1001 := by rw [List.length_take]; omega
      refine SW_cons <| S1_if <| WT_cmp <| C_eqI <| W_var 7 rfl <| W_globI T.REST ⟨fun z => ?_, fun z => ?_⟩
      · simp only [decide_eq_true_eq] at z
        dsimp only at h
        rw [if_pos z] at h
        refine SW_cons <| S1_ret <| W_tup <| WA_cons <| W_non <| WA_cons <| W_tup <| WA_cons <| W_globI T.REST <| WA_cons <| W_var 8 rfl <| WA_cons <| W_var 5 rfl <| WA_cons <| W_add <| W_var 13 rfl <| W_slT <| W_var 6 rfl <| W_add <| W_var 9 rfl <| W_int ⟨((i + 1 : Nat) : Int), rfl, _, rfl, ?_, WA_nil ⟨sm, WA_nil ⟨sm, ?_⟩⟩⟩
        · rw [cut_lo, List.length_map, List.length_drop, List.length_map]; omega
        · rw [cut_lo, int_drop, ← List.map_append]
          rw [List.tail_drop] at h; exact h
      · simp only [decide_eq_false_iff_not] at z
        dsimp only at h
        rw [if_neg z, List.tail_drop] at h
        exact SW_nil <| SW_nil ⟨rfl, _, _, _, _, _, _, _, _, rfl, hm', h⟩
  · intro μ δ hp
    obtain ⟨rfl, hh, t, mm, o9, o10, o11, o12, o13, rfl, hm, h⟩ := hp
    unfold enumD at h
    rw [List.length_mapIdx, List.length_map, List.drop_length] at h
    exact SW_cons <| S1_ret <| W_tup <| WA_cons <| W_non <| WA_cons <| W_tup <| WA_cons <| W_var 7 rfl <| WA_cons <| W_var 8 rfl <| WA_cons <| W_var 5 rfl <| WA_cons <| W_tup <| WA_nil ⟨sm, WA_nil ⟨sm, WA_nil ⟨sm, h⟩⟩⟩
end
end K48
/-! Tables, plainly -/
namespace K48
theorem nd_len {α : Type} [DecidableEq α] : ∀ (l m : List α), l.Nodup → (∀ x ∈ l, x ∈ m) → l.length ≤ m.length
  | [], _, _, _ => Nat.zero_le _
  | x :: l, m, h, s => by
    have hx := s x List.mem_cons_self
    have h1 := List.nodup_cons.mp h
    have := nd_len l (m.erase x) h1.2 fun y hy => (List.mem_erase_of_ne (fun (e : y = x) => h1.1 (e ▸ hy))).mpr (s y (List.mem_cons_of_mem _ hy))
    rw [List.length_erase_of_mem hx] at this
    have := List.length_pos_of_mem hx
    rw [List.length_cons]; omega
section
variable {β κ : Type} [DecidableEq κ]
def rk : List (κ × β) → κ → Nat
  | [], _ => 0
  | e :: T, p => if e.1 = p then 0 else rk T p + 1
theorem lookA_get {p : κ} {x : β} : ∀ {T : List (κ × β)}, lookA T p = some x → T[rk T p]? = some (p, x)
  | [], h => nomatch h
  | e :: T, h => by
    unfold lookA at h
    unfold rk
    by_cases c : e.1 = p
    · rw [if_pos c] at h ⊢
      cases h; cases c; rfl
    · rw [if_neg c] at h ⊢
      exact lookA_get h
theorem lookA_take {p : κ} {x : β} : ∀ {T : List (κ × β)} {i : Nat}, lookA (T.take i) p = some x → lookA T p = some x ∧ rk T p < i
  | [], i, h => by rw [List.take_nil] at h; exact nomatch h
  | e :: T, 0, h => nomatch h
  | e :: T, i + 1, h => by
    rw [List.take_succ_cons] at h
    unfold lookA at h ⊢
    unfold rk
    by_cases c : e.1 = p
    · rw [if_pos c] at h ⊢
      rw [if_pos c]; exact ⟨h, Nat.zero_lt_succ _⟩
    · rw [if_neg c] at h ⊢
      rw [if_neg c]
      have := lookA_take h
      exact ⟨this.1, Nat.succ_lt_succ this.2⟩
theorem lookA_some {p : κ} : ∀ {T : List (κ × β)}, p ∈ T.map Prod.fst ↔ ∃ x, lookA T p = some x
  | [] => by simp [lookA]
  | e :: T => by
    unfold lookA
    by_cases c : e.1 = p
    · rw [if_pos c]; simp [c]
    · rw [if_neg c, ← lookA_some (T := T)]
      simp only [List.map_cons, List.mem_cons]
      exact ⟨fun h => h.resolve_left fun z => c z.symm, .inr⟩
theorem lookA_none {p : κ} {T : List (κ × β)} : lookA T p = none ↔ p ∉ T.map Prod.fst := by
  rw [lookA_some]
  cases h : lookA T p with
  | none => simp
  | some x => simp
theorem lookA_mem {p : κ} {x : β} {T : List (κ × β)} (nd : (T.map Prod.fst).Nodup) (h : (p, x) ∈ T) : lookA T p = some x := by
  induction T with
  | nil => cases h
  | cons e T ih =>
    have nd' := List.nodup_cons.mp (by rw [List.map_cons] at nd; exact nd)
    unfold lookA
    by_cases c : e.1 = p
    · rw [if_pos c]
      rcases List.mem_cons.mp h with rfl | h
      · rfl
      · exact absurd (List.mem_map.mpr ⟨_, h, c.symm⟩) nd'.1
    · rw [if_neg c]
      rcases List.mem_cons.mp h with rfl | h
      · exact absurd rfl c
      · exact ih nd'.2 h
theorem lookA_inm {p : κ} {x : β} {T : List (κ × β)} (h : lookA T p = some x) : (p, x) ∈ T := List.mem_of_getElem? (lookA_get h)
theorem putA_new {S : List (κ × β)} {p : κ} {x : β} (h : lookA S p = none) : putA S p x = S ++ [(p, x)] := by
  unfold putA
  rw [if_neg]
  intro z
  obtain ⟨e, he, c⟩ := List.any_eq_true.mp z
  rw [decide_eq_true_eq] at c
  exact lookA_none.mp h (List.mem_map.mpr ⟨e, he, c⟩)
theorem putA_keys {S : List (κ × β)} {p : κ} {x : β} (h : (lookA S p).isSome) : (putA S p x).map Prod.fst = S.map Prod.fst := by
  unfold putA
  split
  · rw [List.map_map]
    congr 1
    funext e
    by_cases c : e.1 = p
    · simp [c]
    · simp [c]
  · rename_i c
    cases h2 : lookA S p with
    | none => rw [h2] at h; cases h
    | some y =>
      refine absurd ?_ c
      exact List.any_eq_true.mpr ⟨_, lookA_inm h2, by simp⟩
end
structure TabOk (r : Rt) (T : Tb) : Prop where
  nd : (T.map Prod.fst).Nodup
  len : T.length ≤ 24
  okp : ∀ p x, lookA T p = some x → OkP r p
  at' : ∀ i p x, T[i]? = some (p, x) → pairN (lookA (T.take i)) r p = .ok x
  bd : ∀ p x, lookA T p = some x → x.2.2.1.length ≤ 1001 ∧ x.2.2.2.length ≤ 1000
def Sub (S T : Tb) : Prop := ∀ p x, lookA S p = some x → lookA T p = some x
theorem walk_cmp {f g : PI2 → Option Row} (hfg : ∀ p a b, f p = some a → g p = some b → a = b) : ∀ (ns : List Int) (h t : Int) (m bk : List Int) (x : Row), walkN g h t m ns bk = .ok x → walkN f h t m ns bk = .ok x ∨ ∃ q, walkN f h t m ns bk = .error q ∧ f q = none ∧ ∃ y, g q = some y
  | [], h, t, m, bk, x, e => .inl e
  | n :: ns, h, t, m, bk, x, e => by
    unfold walkN at e ⊢
    cases eg : g (h, n) with
    | none => rw [eg] at e; cases e
    | some b =>
      rw [eg] at e
      cases ef : f (h, n) with
      | none => exact .inr ⟨(h, n), rfl, ef, b, eg⟩
      | some a =>
        rw [hfg _ _ _ ef eg]
        dsimp only at e ⊢
        by_cases c : b.1 = -1
        · rw [if_pos c] at e ⊢; exact .inl e
        · rw [if_neg c] at e ⊢; exact walk_cmp hfg ns _ _ _ _ _ e
theorem pair_cmp {f g : PI2 → Option Row} (hfg : ∀ p a b, f p = some a → g p = some b → a = b) {r : Rt} {p : PI2} {x : Row} (e : pairN g r p = .ok x) : pairN f r p = .ok x ∨ ∃ q, pairN f r p = .error q ∧ f q = none ∧ ∃ y, g q = some y := by
  unfold pairN at e ⊢
  by_cases c : (mvAt r p).2.2 = -1
  · rw [if_pos c] at e ⊢; exact .inl e
  · rw [if_neg c] at e ⊢; exact walk_cmp hfg _ _ _ _ _ _ e
/-- what a pair of the table asks for, at fewer ends -/
theorem TabOk.need {r : Rt} {S T : Tb} (h : TabOk r T) (s : Sub S T) {p : PI2} {x : Row} (e : lookA T p = some x) : pairN (lookA S) r p = .ok x ∨ ∃ q, pairN (lookA S) r p = .error q ∧ lookA S q = none ∧ (∃ y, lookA T q = some y) ∧ rk T q < rk T p := by
  rcases pair_cmp (f := lookA S) (fun q a b h1 h2 => by
    have h3 := s _ _ h1
    rw [(lookA_take h2).1] at h3; exact (Option.some.inj h3).symm) (h.at' _ _ _ (lookA_get e)) with h1 | ⟨q, h1, h2, y, h3⟩
  · exact .inl h1
  · obtain ⟨h4, h5⟩ := lookA_take h3
    exact .inr ⟨q, h1, h2, ⟨y, h4⟩, h5⟩
/-- .. whole -/
theorem TabOk.full {r : Rt} {T : Tb} (h : TabOk r T) {p : PI2} {x : Row} (e : lookA T p = some x) : pairN (lookA T) r p = .ok x := by
  rcases h.need (fun _ _ z => z) e with h1 | ⟨q, _, h2, ⟨y, h3⟩, _⟩
  · exact h1
  · rw [h2] at h3; cases h3
/-- ends that were told so far -/
structure EndsOk (T S : Tb) : Prop where
  sub : Sub S T
  nd : (S.map Prod.fst).Nodup
theorem gk_of {r : Rt} (hr : OkRt r) {p : PI2} (h : OkP r p) : gk (pk p) := by
  obtain ⟨h1, h2, h3, h4⟩ := h
  have := hr.2.1
  exact ⟨p.1, p.2, by omega, by omega, by omega, by omega, rfl⟩
theorem EndsOk.len {T S : Tb} (h : EndsOk T S) : S.length ≤ T.length := by
  have := nd_len (S.map Prod.fst) (T.map Prod.fst) h.nd fun p hp => by
    obtain ⟨x, hx⟩ := lookA_some.mp hp
    exact lookA_some.mpr ⟨x, h.sub _ _ hx⟩
  rwa [List.length_map, List.length_map] at this
theorem EndsOk.ok {r : Rt} {T S : Tb} (hr : OkRt r) (t : TabOk r T) (h : EndsOk T S) : OkS S := by
  refine ⟨by have := h.len; have := t.len; omega, fun e he => ?_, fun p x e => t.bd _ _ (h.sub _ _ e)⟩
  exact gk_of hr (t.okp _ _ (h.sub _ _ (lookA_mem h.nd (show (e.1, e.2) ∈ S from he))))
theorem EndsOk.put {T S : Tb} (h : EndsOk T S) {p : PI2} {x : Row} (e : lookA T p = some x) : EndsOk T (putA S p x) := by
  refine ⟨fun q y hq => ?_, ?_⟩
  · rw [lookA_put] at hq
    by_cases c : p = q
    · rw [if_pos c] at hq; cases hq; exact c ▸ e
    · rw [if_neg c] at hq; exact h.sub _ _ hq
  · cases h2 : lookA S p with
    | some y => rw [putA_keys (by rw [h2]; rfl)]; exact h.nd
    | none =>
      rw [putA_new h2, List.map_append]
      refine List.nodup_append.mpr ⟨h.nd, by simp, fun a ha b hb => ?_⟩
      simp only [List.map_cons, List.map_nil, List.mem_singleton] at hb
      rintro rfl
      exact lookA_none.mp h2 (hb ▸ ha)
end K48
namespace K48
/-- a stack's walk: its marks, what is left of it, its turns -/
def toldN (f : PI2 → Option Row) : Int → Int → List Int → List Int → List Int → Option (List Int × List Int × Int)
  | _, _, _, [], _ => none
  | h, t, m, n :: ns, st => match f (h, n) with
    | none => none
    | some x => if x.1 = -1 then some ((m ++ x.2.2.1).take 1001, x.2.2.2 ++ st.tail, t + x.2.1) else toldN f x.1 (t + x.2.1) ((m ++ x.2.2.1).take 1001) ns st.tail
def told (T : Tb) (st : List Int) : Option (List Int × List Int × Int) := toldN (lookA T) 0 0 [] (st ++ [3]) st
end K48
namespace K48
/-- a set of posts that is closed -/
structure LedOk (T : Tb) (L : List Int) : Prop where
  zero : 0 ∈ L
  all : ∀ p ∈ L, ∀ s, 0 ≤ s → s < 4 → ∃ x, lookA T (p, s) = some x ∧ (x.1 = -1 ∨ x.1 ∈ L)
structure LedInv (T : Tb) (L : List Int) (F : List (Int × List Int)) (S : Tb) (ok : Int → Int → Prop) : Prop where
  ends : EndsOk T S
  nd : (F.map Prod.fst).Nodup
  inL : ∀ p ∈ F.map Prod.fst, p ∈ L
  z : 0 ∈ F.map Prod.fst
  ln : ∀ e ∈ F, e.2.length ≤ F.length
  cl : ∀ q s, ok q s → ∃ x, lookA S (q, s) = some x ∧ (x.1 = -1 ∨ x.1 ∈ F.map Prod.fst)
section
variable {T : Tb} {L : List Int} {F : List (Int × List Int)} {S S' : Tb} {ok ok' : Int → Int → Prop} {x : Row} {r : Rt}
theorem LedInv.grow (h : LedInv T L F S ok) (e : EndsOk T S') (s : Sub S S') : LedInv T L F S' ok := ⟨e, h.nd, h.inL, h.z, h.ln, fun q t hq => let ⟨x, h1, h2⟩ := h.cl q t hq; ⟨x, s _ _ h1, h2⟩⟩
theorem LedInv.more (h : LedInv T L F S ok) {p i : Int} (e : lookA S (p, i) = some x) (c : x.1 = -1 ∨ x.1 ∈ F.map Prod.fst) (f : ∀ q s, ok' q s → ok q s ∨ (q = p ∧ s = i)) : LedInv T L F S ok' := ⟨h.ends, h.nd, h.inL, h.z, h.ln, fun q t hq => by
  rcases f q t hq with h1 | ⟨rfl, rfl⟩
  · exact h.cl q t h1
  · exact ⟨x, e, c⟩⟩
theorem LedInv.snoc (h : LedInv T L F S ok) {q : Int} {st : List Int} (n : q ∉ F.map Prod.fst) (l : q ∈ L) (hs : st.length ≤ F.length + 1) : LedInv T L (F ++ [(q, st)]) S ok := by
  refine ⟨h.ends, ?_, fun p hp => ?_, ?_, fun e he => ?_, fun q' t hq => ?_⟩
  · rw [List.map_append]
    refine List.nodup_append.mpr ⟨h.nd, by simp, fun a ha b hb z => ?_⟩
    simp only [List.map_cons, List.map_nil, List.mem_singleton] at hb
    exact n (hb ▸ z ▸ ha)
  · rw [List.map_append] at hp
    rcases List.mem_append.mp hp with h1 | h1
    · exact h.inL p h1
    · simp only [List.map_cons, List.map_nil, List.mem_singleton] at h1
      exact h1 ▸ l
  · rw [List.map_append]; exact List.mem_append_left _ h.z
  · rw [List.length_append, List.length_singleton]
    rcases List.mem_append.mp he with h1 | h1
    · exact Nat.le_succ_of_le (h.ln e h1)
    · rw [List.mem_singleton.mp h1]; exact hs
  · obtain ⟨x, h1, h2⟩ := h.cl q' t hq
    exact ⟨x, h1, h2.imp id fun h3 => by rw [List.map_append]; exact List.mem_append_left _ h3⟩
theorem led_in (hr : OkRt r) (hT : TabOk r T) (hL : LedOk T L) {p : Int} (h : p ∈ L) : 0 ≤ p ∧ p ≤ 5 := by
  obtain ⟨x, e, _⟩ := hL.all p h 0 (by decide) (by decide)
  obtain ⟨h1, h2, _⟩ := hT.okp _ _ e
  have := hr.2.1
  exact ⟨h1, by have h2 : p < (r.length : Int) := h2; omega⟩
theorem LedInv.len (h : LedInv T L F S ok) (hr : OkRt r) (hT : TabOk r T) (hL : LedOk T L) : F.length ≤ 6 := by
  have := nd_len (F.map Prod.fst) [0, 1, 2, 3, 4, 5] h.nd fun p hp => by
    obtain ⟨h1, h2⟩ := led_in hr hT hL (h.inL p hp)
    simp only [List.mem_cons, List.not_mem_nil, or_false]
    omega
  rwa [List.length_map] at this
end
end K48
namespace K48
/-- the rows of posts -/
def wr (T : Tb) (q : PI2) : PI2 × Row := (q, (lookA T q).getD (0, 0, [], []))
def wrows (T : Tb) (ms : List Int) : List (PI2 × Row) := ms.flatMap fun p => (four p).map (wr T)
abbrev ME := List Int × Int
def wt (T : Tb) (ms : List Int) : List (PI2 × ME) := (wrows T ms).map (fun e => (e.1, (e.2.2.2.1, e.2.1))) ++ (four (-1)).map fun q => (q, ([], -1))
theorem mergeA_new {κ β : Type} [DecidableEq κ] : ∀ (more kvs : List (κ × β)), ((kvs ++ more).map Prod.fst).Nodup → mergeA kvs more = kvs ++ more
  | [], kvs, _ => (List.append_nil kvs).symm
  | e :: more, kvs, h => by
    have h1 : lookA kvs e.1 = none := lookA_none.mpr fun z => by
      rw [List.map_append] at h
      exact (List.nodup_append.mp h).2.2 _ z _ (by simp) rfl
    show mergeA (putA kvs e.1 e.2) more = _
    rw [putA_new h1, mergeA_new more _ (by rw [List.append_assoc]; exact h), List.append_assoc]; rfl
theorem wrows_keys (T : Tb) (ms : List Int) : (wrows T ms).map Prod.fst = ms.flatMap four := by
  unfold wrows
  rw [List.map_flatMap]
  congr 1
theorem four_mem {p : Int} {q : PI2} : q ∈ four p ↔ q.1 = p ∧ 0 ≤ q.2 ∧ q.2 < 4 := by
  obtain ⟨a, b⟩ := q
  simp only [four, List.mem_cons, Prod.mk.injEq, List.not_mem_nil, or_false]
  omega
theorem four_nodup (p : Int) : (four p).Nodup := by simp [four]
theorem flat_nodup : ∀ {ms : List Int}, ms.Nodup → (ms.flatMap four).Nodup
  | [], _ => List.nodup_nil
  | m :: ms, h => by
    have h1 := List.nodup_cons.mp h
    rw [List.flatMap_cons]
    refine List.nodup_append.mpr ⟨four_nodup m, flat_nodup h1.2, fun a ha b hb z => ?_⟩
    obtain ⟨p, hp, hb⟩ := List.mem_flatMap.mp hb
    have e1 := (four_mem.mp ha).1
    have e2 := (four_mem.mp hb).1
    rw [← z, e1] at e2
    exact h1.1 (e2 ▸ hp)
theorem wt_nodup {T : Tb} {ms : List Int} (h : ms.Nodup) (h1 : -1 ∉ ms) : ((wt T ms).map Prod.fst).Nodup := by
  unfold wt
  rw [List.map_append, List.map_map, List.map_map]
  have e1 : (wrows T ms).map (Prod.fst ∘ fun e => (e.1, (e.2.2.2.1, e.2.1))) = ms.flatMap four := by rw [← wrows_keys T ms]; rfl
  have e2 : (four (-1)).map (Prod.fst ∘ fun q => (q, (([], -1) : ME))) = four (-1) := by simp [Function.comp_def]
  rw [e1, e2]
  refine List.nodup_append.mpr ⟨flat_nodup h, four_nodup _, fun a ha b hb z => ?_⟩
  obtain ⟨p, hp, ha⟩ := List.mem_flatMap.mp ha
  have e1 := (four_mem.mp ha).1
  have e2 := (four_mem.mp hb).1
  rw [z, e2] at e1
  exact h1 (e1 ▸ hp)
theorem wr_some {T : Tb} {q : PI2} {x : Row} (h : lookA T q = some x) : wr T q = (q, x) := by unfold wr; rw [h]; rfl
theorem wrows_snoc (T : Tb) (ms : List Int) (p : Int) : wrows T (ms ++ [p]) = wrows T ms ++ (four p).map (wr T) := by
  unfold wrows
  rw [List.flatMap_append, List.flatMap_cons, List.flatMap_nil, List.append_nil]
def Few (T : Tb) : Prop := ∀ p x, lookA T p = some x → x.2.2.1.length ≤ 1000
theorem four_get {p : Int} {i : Nat} (h : i < 4) : (four p)[i]? = some (p, (i : Int)) := by
  match i, h with
  | 0, _ => rfl
  | 1, _ => rfl
  | 2, _ => rfl
  | 3, _ => rfl
theorem take_snoc {α : Type} {xs : List α} {i : Nat} {y : α} (h : xs[i]? = some y) : xs.take (i + 1) = xs.take i ++ [y] := by
  rw [List.take_add_one, h]; rfl
theorem wrows_len (T : Tb) (ms : List Int) : (wrows T ms).length = 4 * ms.length := by
  induction ms with
  | nil => rfl
  | cons m ms ih =>
    unfold wrows at ih ⊢
    rw [List.flatMap_cons, List.length_append, ih, List.length_map, List.length_cons, show (four m).length = 4 from rfl]; omega
end K48
namespace K48
open PySem PySem.Spec PyProof.Rows L2
section
variable {P : Program} {w : World} {K : PySem.W.Frag} {mg : Str → Option Value} {base : Heap}
theorem sc24 : FnScope ["routine", "pair", "ends", "line", "here", "need", "told", "one"] ["routine", "pair", "ends"] (defScope (topS 24)) := ⟨rfl, rfl, rfl, by decide +kernel, rfl, by decide +kernel, by decide +kernel⟩
def cWithEnds : List D → (D → Prop) → Prop := fun ds R => ∃ (r : Rt) (p : PI2) (S T : Tb), ds = [rtD r, pD p, endsD S] ∧ OkRt r ∧ TabOk r T ∧ EndsOk T S ∧ (lookA T p).isSome ∧ ∀ S', EndsOk T S' → Sub S S' → (lookA S' p).isSome → R (endsD S')
theorem chain_len {T S : Tb} {L : List PI2} (e : EndsOk T S) (hL : ∀ q ∈ L, lookA S q = none ∧ (lookA T q).isSome) (hc : L.Pairwise fun a b => rk T b < rk T a) : L.length + S.length ≤ T.length := by
  have := nd_len (L ++ S.map Prod.fst) (T.map Prod.fst) (List.nodup_append.mpr ⟨hc.imp fun h z => by rw [z] at h; exact Nat.lt_irrefl _ h, e.nd, fun a ha b hb z => lookA_none.mp (hL a ha).1 (z ▸ hb)⟩) fun q hq => by
    rcases List.mem_append.mp hq with h | h
    · exact lookA_some.mpr (Option.isSome_iff_exists.mp (hL q h).2)
    · obtain ⟨x, hx⟩ := lookA_some.mp h
      exact lookA_some.mpr ⟨x, e.sub _ _ hx⟩
  rwa [List.length_append, List.length_map, List.length_map] at this
theorem sub_put {S T : Tb} {p : PI2} {x : Row} (e : lookA T p = some x) (h : EndsOk T S) : Sub S (putA S p x) := fun q y hq => by
  rw [lookA_put]
  by_cases c : p = q
  · rw [if_pos c, ← h.sub _ _ hq, ← e, c]
  · rw [if_neg c]; exact hq
/-- the line as it stands -/
structure Line (p : PI2) (S T : Tb) (n : Nat) (L : List PI2) (S' : Tb) : Prop where
  ends : EndsOk T S'
  sub : Sub S S'
  fit : L = [] ∧ (lookA S' p).isSome ∨ L = [p] ∧ (lookA S' p).isSome ∧ n = 1 ∨ L.head? = some p ∧ (∀ q ∈ L, lookA S' q = none ∧ (lookA T q).isSome) ∧ L.Pairwise (fun a b => rk T b < rk T a) ∧ n + L.length + 2 * S'.length = 2 * T.length
theorem pD_inj {p q : PI2} (h : pD p = pD q) : p = q := by
  unfold pD at h
  injection h with h
  injection h with h1 h2
  injection h2 with h2 _
  injection h1 with h1
  injection h2 with h2
  exact Prod.ext h1 h2
section
variable {r : Rt} {p q q' : PI2} {S S' TT : Tb} {n : Nat} {M : List PI2} {x y : Row}
theorem line_in (l : Line p S TT n (M ++ [q]) S') (hx : lookA TT q = some x) (hs : lookA S' q = some y) : 0 < n ∧ Line p S TT 0 M (putA S' q x) := by
  have hsub := sub_put hx l.ends
  rcases l.fit with h1 | h1 | h1
  · exact absurd h1.1 (by simp)
  · have e : M ++ [q] = [] ++ [p] := h1.1
    obtain ⟨e1, e2⟩ := List.append_inj' e rfl
    obtain ⟨z, hz⟩ := Option.isSome_iff_exists.mp h1.2.1
    exact ⟨by rw [h1.2.2]; decide, l.ends.put hx, fun _ _ h => hsub _ _ (l.sub _ _ h), .inl ⟨e1, by rw [hsub _ _ hz]; rfl⟩⟩
  · have := (h1.2.1 q (by simp)).1
    rw [hs] at this; cases this
theorem line_len (l : Line p S TT n (M ++ [q]) S') (hs : lookA S' q = none) : (M ++ [q]).head? = some p ∧ (∀ q2 ∈ M ++ [q], lookA S' q2 = none ∧ (lookA TT q2).isSome) ∧ (M ++ [q]).Pairwise (fun a b => rk TT b < rk TT a) ∧ n + (M ++ [q]).length + 2 * S'.length = 2 * TT.length ∧ (M ++ [q]).length + S'.length ≤ TT.length := by
  rcases l.fit with h1 | h1 | h1
  · exact absurd h1.1 (by simp)
  · have e : M ++ [q] = [] ++ [p] := h1.1
    obtain ⟨e1, e2⟩ := List.append_inj' e rfl
    cases e2
    have := h1.2.1
    rw [hs] at this; cases this
  · exact ⟨h1.1, h1.2.1, h1.2.2.1, h1.2.2.2, chain_len l.ends h1.2.1 h1.2.2.1⟩
theorem line_pop (l : Line p S TT n (M ++ [q]) S') (hx : lookA TT q = some x) (hs : lookA S' q = none) : ∃ n', n' < n ∧ Line p S TT n' M (putA S' q x) := by
  obtain ⟨h1, h2, h3, h4, h5⟩ := line_len l hs
  have hsub := sub_put hx l.ends
  rw [List.length_append, List.length_singleton] at h4 h5
  refine ⟨n - 1, by omega, l.ends.put hx, fun _ _ h => hsub _ _ (l.sub _ _ h), ?_⟩
  have hpw := List.pairwise_append.mp h3
  cases M with
  | nil =>
    refine .inl ⟨rfl, ?_⟩
    have : q = p := Option.some.inj h1
    rw [lookA_put, if_pos this]; rfl
  | cons m0 M =>
    refine .inr (.inr ⟨h1, fun q2 hq2 => ⟨?_, (h2 q2 (List.mem_append_left _ hq2)).2⟩, hpw.1, ?_⟩)
    · have := hpw.2.2 q2 hq2 q (by simp)
      rw [lookA_put, if_neg fun e => by rw [e] at this; exact Nat.lt_irrefl _ this]
      exact (h2 q2 (List.mem_append_left _ hq2)).1
    · rw [putA_new hs, List.length_append, List.length_singleton]; omega
theorem line_push (l : Line p S TT n (M ++ [q]) S') (hx : lookA TT q = some x) (hs : lookA S' q = none) (h2' : lookA S' q' = none) (h3' : ∃ y, lookA TT q' = some y) (h4' : rk TT q' < rk TT q) : q' ∉ M ++ [q] ∧ ∃ n', n' < n ∧ Line p S TT n' ((M ++ [q]) ++ [q']) S' := by
  obtain ⟨h1, h2, h3, h4, h5⟩ := line_len l hs
  have hlt : ∀ a ∈ M ++ [q], rk TT q' < rk TT a := fun a ha => by
    rcases List.mem_append.mp ha with h | h
    · exact Nat.lt_trans h4' ((List.pairwise_append.mp h3).2.2 a h q (by simp))
    · rw [List.mem_singleton.mp h]; exact h4'
  rw [List.length_append, List.length_singleton] at h4 h5
  refine ⟨fun h => Nat.lt_irrefl _ (hlt _ h), n - 1, by omega, l.ends, l.sub, .inr (.inr ⟨?_, fun q2 hq2 => ?_, ?_, ?_⟩)⟩
  · rw [List.head?_append, h1]; rfl
  · rcases List.mem_append.mp hq2 with h | h
    · exact h2 q2 h
    · rw [List.mem_singleton.mp h]; exact ⟨h2', Option.isSome_iff_exists.mpr h3'⟩
  · exact List.pairwise_append.mpr ⟨h3, List.pairwise_singleton _ _, fun a ha b hb => by rw [List.mem_singleton.mp hb]; exact hlt a ha⟩
  · simp only [List.length_append, List.length_singleton]; omega
theorem line_short {L : List PI2} (hT : TabOk r TT) (l : Line p S TT n L S') : L.length ≤ 100 := by
  have := hT.len
  rcases l.fit with h1 | h1 | h1
  · rw [h1.1]; decide
  · rw [h1.1, List.length_singleton]; decide
  · have := h1.2.2.2; omega
end
theorem ok_with_ends (T : Txt mg) (a : At K mg "with_ends" (topS 24) ["routine", "pair", "ends"]) (f23 : DefOk P w K mg base "next_need" 1 (spD cNextNeed)) : DefOk P w K mg base "with_ends" 2 (spD cWithEnds) := by
  refine a.ok sc24 (fun ds R h => by obtain ⟨_, _, _, _, rfl, _⟩ := h; rfl) fun f cdv A outer s H E m ds R hr hX h => ?_
  obtain ⟨r, p, S, TT, rfl, hR, hT, hE, hp, h⟩ := h
  refine SW_cons <| S1_set 3 hX.nd <| W_lst <| WA_cons <| W_var 1 rfl <| WA_nil ⟨sm, ?_⟩
  obtain ⟨n0, l0⟩ : ∃ n0, Line p S TT n0 [p] S := by
    cases hs : lookA S p with
    | some x => exact ⟨1, hE, fun _ _ z => z, .inr (.inl ⟨rfl, by rw [hs]; rfl, rfl⟩)⟩
    | none =>
      have hc : [p].length + S.length ≤ TT.length := chain_len hE (fun q hq => by rw [List.mem_singleton.mp hq]; exact ⟨hs, hp⟩) (List.pairwise_singleton _ _)
      refine ⟨2 * TT.length - (1 + 2 * S.length), hE, fun _ _ z => z, .inr (.inr ⟨rfl, fun q hq => by rw [List.mem_singleton.mp hq]; exact ⟨hs, hp⟩, List.pairwise_singleton _ _, ?_⟩)⟩
      rw [List.length_singleton] at hc ⊢
      omega
  refine SW_cons <| S1_while hX (fun n μ δ => μ = .non ∧ ∃ (L : List PI2) (S' : Tb) (o4 o5 o6 : Option D), δ = [some (rtD r), some (pD p), some (endsD S'), some (.lst (L.map pD)), o4, o5, o6, none] ∧ Line p S TT n L S') n0 ⟨rfl, [p], S, _, _, _, rfl, l0⟩ ?_
  intro n μ δ hpv
  obtain ⟨rfl, L, S', o4, o5, o6, rfl, l⟩ := hpv
  refine WT_cmp <| C_ne hX <| W_var 3 rfl <| W_lst <| WA_nil ⟨sm, fun d hd => by obtain ⟨q, _, rfl⟩ := List.mem_map.mp hd; exact pl_pD 4 q, fun _ h => (by cases h), fun z => ?_, fun z => ?_⟩
  · have hL : L ≠ [] := by
      rintro rfl
      rw [decide_eq_true (show D.lst (List.map pD []) = .lst [] from rfl)] at z; exact nomatch z
    obtain ⟨M, q, rfl⟩ : ∃ M q, L = M ++ [q] := ⟨L.dropLast, L.getLast hL, (List.dropLast_concat_getLast hL).symm⟩
    have hsome : ∃ x, lookA TT q = some x := Option.isSome_iff_exists.mp (by
      rcases l.fit with h1 | h1 | h1
      · exact absurd h1.1 hL
      · have : M ++ [q] = [] ++ [p] := h1.1
        obtain ⟨_, e⟩ := List.append_inj' this rfl
        cases e; exact hp
      · exact (h1.2.1 q (by simp)).2)
    obtain ⟨x, hx⟩ := hsome
    refine SW_cons <| S1_set 4 hX.nd <| W_itL <| W_var 3 rfl <| W_neg <| W_int ⟨_, rfl, _, -1, pD q, rfl, rfl, by rw [List.map_append]; exact atD_last _ _, ?_⟩
    refine SW_cons <| S1_asg <| W.mono (Q := fun d => (d = .tup [.non, rowT x] ∧ ∃ n', n' < n ∧ Line p S TT n' M (putA S' q x)) ∨ ∃ q', d = .tup [pD q', .non] ∧ q' ∉ M ++ [q] ∧ ∃ n', n' < n ∧ Line p S TT n' ((M ++ [q]) ++ [q']) S') (W_ifexp <| WT_cmp <| C_inT hX <| W_var 4 rfl <| W_var 2 rfl ⟨_, _, pk q, rfl, trivial, rfl, fun z => ?_, fun z => ?_⟩) fun d hd => ?_
    · rw [valD_kvs] at z
      cases hs : lookA S' q with
      | none => rw [hs] at z; exact nomatch z
      | some y =>
        have : y = x := by have := l.ends.sub _ _ hs; rw [hx] at this; exact (Option.some.inj this).symm
        subst this
        refine W_tup <| WA_cons <| W_non <| WA_cons <| W_getT hX <| W_var 2 rfl <| W_var 4 rfl ⟨_, _, pk q, rowT y, rfl, trivial, rfl, by rw [valD_kvs, hs]; rfl, WA_nil ⟨sm, .inl ⟨rfl, 0, ?_⟩⟩⟩
        exact line_in l hx hs
    · rw [valD_kvs] at z
      cases hs : lookA S' q with
      | some y => rw [hs] at z; exact nomatch z
      | none =>
        refine W_call f23 (by exact hr) <| WA_cons <| W_var 0 rfl <| WA_cons <| W_var 4 rfl <| WA_cons <| W_var 2 rfl <| WA_nil ⟨r, q, S', rfl, hR, hT.okp _ _ hx, l.ends.ok hR hT, ?_⟩
        rcases hT.need l.ends.sub hx with h1 | ⟨q', h1, h2, h3, h4⟩
        · rw [h1]
          exact .inl ⟨rfl, line_pop l hx hs⟩
        · rw [h1]
          exact .inr ⟨q', rfl, line_push l hx hs h2 h3 h4⟩
    · rcases hd with ⟨rfl, n', hn', l'⟩ | ⟨q', rfl, hq', n', hn', l'⟩
      · refine WG_tup hX.calm <| WGs_cons <| WG_name 5 hX.nd <| WGs_cons <| WG_name 6 hX.nd <| WGs_nil ?_
        refine SW_cons <| S1_if <| WT_cmp <| C_isN <| W_var 5 rfl <| W_non ⟨rfl, fun _ => ?_, fun z => ?_⟩
        · refine SW_cons <| S1_par 3 2 hX.calm hX.nd <| WA_cons <| W_slL <| W_var 3 rfl <| W_neg <| W_int ⟨_, rfl, _, rfl, _, rfl, ?_⟩
          refine WA_cons <| W_spT hX rfl 2 rfl (fun kv h => (by obtain ⟨e, he, rfl⟩ := List.mem_map.mp h; exact (l.ends.ok hR hT).2.1 e he)) (by have := (l.ends.ok hR hT).1; rw [kvs, List.length_map]; omega) <| W_var 4 rfl <| W_var 6 rfl ⟨pk q, rfl, gk_of hR (hT.okp _ _ hx), pl_rowT 3 x, WA_nil ⟨_, _, rfl, ?_⟩⟩
          rw [putA_kvs, cut_last, List.map_append, List.map_singleton, List.dropLast_concat]
          exact SW_nil (SW_nil ⟨n', hn', rfl, M, _, _, _, _, rfl, l'⟩)
        · rw [decide_eq_true rfl] at z; exact nomatch z
      · refine WG_tup hX.calm <| WGs_cons <| WG_name 5 hX.nd <| WGs_cons <| WG_name 6 hX.nd <| WGs_nil ?_
        refine SW_cons <| S1_if <| WT_cmp <| C_isN <| W_var 5 rfl <| W_non ⟨rfl, fun z => ?_, fun _ => ?_⟩
        · rw [decide_eq_false (by intro z; cases z)] at z; exact nomatch z
        refine SW_cons <| S1_if <| WT_cmp <| C_inL hX <| W_var 5 rfl <| W_var 3 rfl ⟨_, rfl, trivial, pl_pD 4 q', fun d hd => by obtain ⟨q2, _, rfl⟩ := List.mem_map.mp hd; exact pl_pD 4 q2, fun z => ?_, fun _ => ?_⟩
        · rw [decide_eq_true_eq] at z
          obtain ⟨q2, h2, e2⟩ := List.mem_map.mp z
          exact absurd (pD_inj e2 ▸ h2) hq'
        refine SW_cons <| S1_set 3 hX.nd <| W_add <| W_var 3 rfl <| W_lst <| WA_cons <| W_var 5 rfl <| WA_nil ⟨sm, ?_, ?_⟩
        · rw [List.length_map]
          show _ + 1 ≤ _
          have := line_short hT l; omega
        · rw [show (M ++ [q]).map pD ++ [pD q'] = ((M ++ [q]) ++ [q']).map pD by rw [List.map_append (l₂ := [q'])]; rfl]
          exact SW_nil (SW_nil (SW_nil ⟨n', hn', rfl, (M ++ [q]) ++ [q'], _, _, _, _, rfl, l'⟩))
  · have hL : L = [] := by
      cases L with
      | nil => rfl
      | cons b L => rw [decide_eq_false (by intro e; cases e)] at z; exact nomatch z
    rcases l.fit with h1 | h1 | h1
    · exact SW_cons <| S1_ret <| W_var 2 rfl <| h _ l.ends l.sub h1.2
    · rw [hL] at h1; exact nomatch h1.1
    · rw [hL] at h1; exact nomatch h1.1
end
end K48
namespace K48
open PySem PySem.Spec PyProof.Rows L2
section
variable {P : Program} {w : World} {K : PySem.W.Frag} {mg : Str → Option Value} {base : Heap}
theorem sc25 : FnScope ["routine", "stack", "post", "marks", "turns", "ends", "at", "sort", "more", "handed", "left"] ["routine", "stack"] (defScope (topS 25)) := ⟨rfl, rfl, rfl, by decide +kernel, rfl, by decide +kernel, by decide +kernel⟩
def restD (y : List Int × List Int × Int) : D := .tup [.str "rest", intsD y.1, intsD y.2.1, .int y.2.2]
def cToldRun : List D → (D → Prop) → Prop := fun ds R => ∃ (r : Rt) (st : List Int) (T : Tb) (y : List Int × List Int × Int), ds = [rtD r, intsD st] ∧ OkRt r ∧ TabOk r T ∧ st.length ≤ 60 ∧ told T st = some y ∧ R (restD y)
theorem ok_told_run (T : Txt mg) (a : At K mg "told_run" (topS 25) ["routine", "stack"]) (f24 : DefOk P w K mg base "with_ends" 2 (spD cWithEnds)) : DefOk P w K mg base "told_run" 3 (spD cToldRun) := by
  refine a.ok sc25 (fun ds R h => by obtain ⟨_, _, _, _, rfl, _⟩ := h; rfl) fun f cdv A outer s H E m ds R hr hX h => ?_
  obtain ⟨r, st, TT, y, rfl, hR, hT, hst, hy, h⟩ := h
  refine SW_cons <| S1_asg <| W_tup <| WA_cons <| W_int <| WA_cons <| W_tup <| WA_nil ⟨sm, WA_cons <| W_int <| WA_cons <| W_dT0 <| WA_nil ⟨sm, ?_⟩⟩
  refine WG_tup hX.calm <| WGs_cons <| WG_name 2 hX.nd <| WGs_cons <| WG_name 3 hX.nd <| WGs_cons <| WG_name 4 hX.nd <| WGs_cons <| WG_name 5 hX.nd <| WGs_nil ?_
  refine SW_cons <| S1_for hX <| WI_enumT T.enumerate <| W_add <| W_var 1 rfl <| W_tup <| WA_cons <| W_globI T.SORTS <| WA_nil ⟨sm, ?_, _, rfl, ?_⟩
  · rw [List.length_map]; show _ + 1 ≤ _; omega
  rw [show st.map D.int ++ [D.int 3] = (st ++ [3]).map D.int by rw [List.map_append]; rfl]
  refine ⟨fun i μ δ => μ = .non ∧ ∃ (h t : Int) (mm : List Int) (S : Tb) (o6 o7 o8 o9 o10 : Option D), δ = [some (rtD r), some (intsD st), some (.int h), some (intsD mm), some (.int t), some (endsD S), o6, o7, o8, o9, o10] ∧ mm.length ≤ 1001 ∧ EndsOk TT S ∧
    toldN (lookA TT) h t mm ((st ++ [3] : List Int).drop i) (st.drop i) = some y, ⟨rfl, 0, 0, [], [], none, none, none, none, none, rfl, by decide, ⟨fun _ _ h => (nomatch h), List.nodup_nil⟩, hy⟩, ?_, ?_⟩
  · intro i d μ δ e hp
    obtain ⟨rfl, hh, t, mm, S, o6, o7, o8, o9, o10, rfl, hm, hE, hy⟩ := hp
    obtain ⟨x, e3, rfl⟩ := enumD_get e
    obtain ⟨v, e4, rfl⟩ := map_get e3
    refine WG_tup hX.calm <| WGs_cons <| WG_name 6 hX.nd <| WGs_cons <| WG_name 7 hX.nd <| WGs_nil ?_
    rw [drop_step e4] at hy
    unfold toldN at hy
    cases ev : lookA TT (hh, v) with
    | none => rw [ev] at hy; cases hy
    | some x =>
      rw [ev] at hy
      obtain ⟨hx1, hx2⟩ := hT.bd _ _ ev
      obtain ⟨xe, xt, xm, xl⟩ := x
      dsimp only at hx1 hx2
      refine SW_cons <| S1_set 5 hX.nd <| W_call f24 (by exact hr) <| WA_cons <| W_var 0 rfl <| WA_cons <| W_tup <| WA_cons <| W_var 2 rfl <| WA_cons <| W_var 7 rfl <| WA_nil ⟨sm, WA_cons <| W_var 5 rfl <| WA_nil ⟨r, (hh, v), S, TT, rfl, hR, hT, hE, by rw [ev]; rfl, fun S' hE' _ hs => ?_⟩⟩
      obtain ⟨z, hz⟩ := Option.isSome_iff_exists.mp hs
      have hz2 := hE'.sub _ _ hz
      rw [ev] at hz2; cases hz2
      refine SW_cons <| S1_asg <| W_getT hX <| W_var 5 rfl <| W_tup <| WA_cons <| W_var 2 rfl <| WA_cons <| W_var 7 rfl <| WA_nil ⟨sm, _, _, pk (hh, v), rowT (xe, xt, xm, xl), rfl, trivial, rfl, by rw [valD_kvs, hz]; rfl, ?_⟩
      refine WG_tup hX.calm <| WGs_cons <| WG_name 2 hX.nd <| WGs_cons <| WG_name 8 hX.nd <| WGs_cons <| WG_name 9 hX.nd <| WGs_cons <| WG_name 10 hX.nd <| WGs_nil ?_
      refine SW_cons <| S1_if <| WT_cmp <| C_eq hX <| W_var 2 rfl <| W_globS T.NEVER ⟨trivial, strN, fun z => ?_, fun _ => SW_nil ?_⟩
      · rw [decide_eq_false (by intro z; cases z)] at z; exact nomatch z
      refine SW_cons <| S1_par 3 4 hX.calm hX.nd <| WA_cons <| W_slT <| W_add <| W_var 3 rfl <| W_var 9 rfl ⟨?_, W_add <| W_globI T.GREATEST <| W_int ⟨(1001 : Nat), rfl, _, rfl, WA_cons <| W_add <| W_var 4 rfl <| W_var 8 rfl <| WA_nil ⟨_, _, rfl, ?_⟩⟩⟩
      · rw [List.length_map, List.length_map]; dsimp only; omega
      rw [cut_hi, ← List.map_append, int_take]
      have hm' : ((mm ++ xm).take 1001).length ≤ 1001 := by rw [List.length_take]; omega
      refine SW_cons <| S1_if <| WT_cmp <| C_eqI <| W_var 2 rfl <| W_globI T.REST ⟨fun z => ?_, fun z => ?_⟩
      · simp only [decide_eq_true_eq] at z
        dsimp only at hy
        rw [if_pos z, List.tail_drop] at hy
        refine SW_cons <| S1_ret <| W_tup <| WA_cons <| W_str <| WA_cons <| W_var 3 rfl <| WA_cons <| W_add <| W_var 10 rfl <| W_slT <| W_var 1 rfl <| W_add <| W_var 6 rfl <| W_int ⟨((i + 1 : Nat) : Int), rfl, _, rfl, ?_, WA_cons <| W_var 4 rfl <| WA_nil ⟨sm, ?_⟩⟩
        · rw [cut_lo, List.length_map, List.length_drop, List.length_map]; dsimp only; omega
        · rw [cut_lo, int_drop, ← List.map_append]
          cases hy
          exact h
      · simp only [decide_eq_false_iff_not] at z
        dsimp only at hy
        rw [if_neg z, List.tail_drop] at hy
        exact SW_nil (SW_nil ⟨rfl, _, _, _, _, _, _, _, _, _, rfl, hm', hE', hy⟩)
  · intro μ δ hp
    obtain ⟨rfl, hh, t, mm, S, o6, o7, o8, o9, o10, rfl, hm, hE, hy⟩ := hp
    unfold enumD at hy
    rw [List.length_mapIdx, List.length_map, List.drop_length] at hy
    exact nomatch hy
theorem sc30 : FnScope ["routine", "stack", "found"] ["routine", "stack"] (defScope (topS 30)) := ⟨rfl, rfl, rfl, by decide +kernel, rfl, by decide +kernel, by decide +kernel⟩
def cToldOn : List D → (D → Prop) → Prop := fun ds R => ∃ (r : Rt) (st : List Int) (T : Tb) (y : List Int × List Int × Int), ds = [rtD r, intsD st] ∧ OkRt r ∧ TabOk r T ∧ st.length ≤ 60 ∧ (∀ x ∈ st, 0 ≤ x ∧ x ≤ 2) ∧ told T st = some y ∧ y.1.length ≤ 1000 ∧ R (restD y)
theorem strR : Pl 6 (.str ("rest" : Str)) := show PyData.strOk ("rest" : Str) = true by decide +kernel
theorem ok_told_on (T : Txt mg) (a : At K mg "told_on" (topS 30) ["routine", "stack"]) (f21 : DefOk P w K mg base "need_routine" 5 (spD cNeedRt)) (f22 : DefOk P w K mg base "need_stack" 3 (spD cNeedSt)) (f25 : DefOk P w K mg base "told_run" 3 (spD cToldRun)) (f26 : DefOk P w K mg base "need_few" 1 (spD cNeedFew)) : DefOk P w K mg base "told_on" 6 (spD cToldOn) := by
  refine a.ok sc30 (fun ds R h => by obtain ⟨_, _, _, _, rfl, _⟩ := h; rfl) fun f cdv A outer s H E m ds R hr hX h => ?_
  obtain ⟨r, st, TT, y, rfl, hR, hT, hst, hin, hy, hl, h⟩ := h
  refine SW_cons <| S1_expr <| W_call f21 (by exact hr) <| WA_cons <| W_var 0 rfl <| WA_nil ⟨r, rfl, hR, ?_⟩
  refine SW_cons <| S1_expr <| W_call f22 (hr.mono (by decide)) <| WA_cons <| W_var 1 rfl <| WA_nil ⟨st, rfl, hst, hin, ?_⟩
  refine SW_cons <| S1_set 2 hX.nd <| W_call f25 (hr.mono (by decide)) <| WA_cons <| W_var 0 rfl <| WA_cons <| W_var 1 rfl <| WA_nil ⟨r, st, TT, y, rfl, hR, hT, hst, hy, ?_⟩
  refine SW_cons <| S1_if <| WT_cmp <| C_eq hX <| W_itT <| W_var 2 rfl <| W_int ⟨_, _, _, rfl, rfl, atD_nat (j := 0) rfl, W_str ⟨strR, strR, fun _ => ?_, fun z => ?_⟩⟩
  · refine SW_cons <| S1_expr <| W_call f26 (hr.mono (by decide)) <| WA_cons <| W_itT <| W_var 2 rfl <| W_int ⟨_, _, _, rfl, rfl, atD_nat (j := 1) rfl, WA_nil ⟨y.1, rfl, hl, ?_⟩⟩
    exact SW_nil <| SW_cons <| S1_ret <| W_var 2 rfl h
  · rw [decide_eq_true rfl] at z; exact nomatch z
end
end K48
set_option maxHeartbeats 1000000
namespace K48
open PySem PySem.Spec PyProof.Rows L2
section
variable {P : Program} {w : World} {K : PySem.W.Frag} {mg : Str → Option Value} {base : Heap}
theorem sc27 : FnScope ["routine", "found", "line", "ends", "post", "sort", "later"] ["routine"] (defScope (topS 27)) := ⟨rfl, rfl, rfl, by decide +kernel, rfl, by decide +kernel, by decide +kernel⟩
def kvsI (F : List (Int × List Int)) : List (Key × D) := F.map fun e => (.inl e.1, intsD e.2)
def foundD (F : List (Int × List Int)) : D := .oK (kvsI F)
theorem lookA_kvsI (q : Int) : ∀ F : List (Int × List Int), lookA (kvsI F) (.inl q : Key) = (lookA F q).map intsD
  | [] => rfl
  | x :: S => by
    simp only [kvsI, List.map_cons, lookA]
    by_cases e : x.1 = q
    · rw [if_pos e, if_pos (by rw [e])]; rfl
    · rw [if_neg e, if_neg fun h => e (Sum.inl.inj h)]; exact lookA_kvsI q S
theorem putA_kvsI {q : Int} {st : List Int} {F : List (Int × List Int)} (h : lookA F q = none) : putA (kvsI F) (.inl q) (intsD st) = kvsI (F ++ [(q, st)]) := by
  rw [putA_new (by rw [lookA_kvsI, h]; rfl), kvsI, kvsI, List.map_append]; rfl
def cLedPosts : List D → (D → Prop) → Prop := fun ds R => ∃ (r : Rt) (T : Tb) (L : List Int), ds = [rtD r] ∧ OkRt r ∧ TabOk r T ∧ LedOk T L ∧ ∀ F S, LedInv T L F S (fun q s => q ∈ F.map Prod.fst ∧ 0 ≤ s ∧ s < 4) → R (.tup [foundD F, endsD S])
theorem pl_lst (n : Nat) (ns : List Int) : Pl (n + 1) (.lst (ns.map D.int)) := pl_ints n ns
theorem ok_led_posts (T : Txt mg) (a : At K mg "led_posts" (topS 27) ["routine"]) (f24 : DefOk P w K mg base "with_ends" 2 (spD cWithEnds)) : DefOk P w K mg base "led_posts" 3 (spD cLedPosts) := by
  refine a.ok sc27 (fun ds R h => by obtain ⟨_, _, _, rfl, _⟩ := h; rfl) fun f cdv A outer s H E m ds R hr hX h => ?_
  obtain ⟨r, TT, L, rfl, hR, hT, hL, h⟩ := h
  refine SW_cons <| S1_par3 1 2 3 hX <| WA_cons <| W_d1K rfl <| W_int <| W_tup <| WA_nil ⟨sm, .inl 0, rfl, fun _ hh => (by cases hh), WA_cons <| W_lst <| WA_cons <| W_int <| WA_nil ⟨sm, WA_cons <| W_dT0 <| WA_nil ⟨_, _, _, rfl, ?_⟩⟩⟩
  refine SW_cons <| S1_while hX (fun n μ δ => μ = .non ∧ ∃ (F : List (Int × List Int)) (dn Ln : List Int) (S : Tb) (o4 o5 o6 : Option D), δ = [some (rtD r), some (foundD F), some (.lst (Ln.map D.int)), some (endsD S), o4, o5, o6] ∧ n + dn.length = 6 ∧ F.map Prod.fst = dn ++ Ln ∧
    LedInv TT L F S (fun q s => q ∈ dn ∧ 0 ≤ s ∧ s < 4)) 6 ⟨rfl, [(0, [])], [], [0], [], none, none, none, rfl, rfl, rfl, ⟨⟨fun _ _ h => (nomatch h), List.nodup_nil⟩, by simp, fun p hp => ?_, by simp, fun e he => ?_, fun q s hq => absurd hq.1 (by simp)⟩⟩ ?_
  · simp only [List.map_cons, List.map_nil, List.mem_singleton] at hp
    exact hp ▸ hL.zero
  · rw [List.mem_singleton.mp he]; decide
  intro n μ δ hpv
  obtain ⟨rfl, F, dn, Ln, S, o4, o5, o6, rfl, hn, hF, hI⟩ := hpv
  refine WT_cmp <| C_ne hX <| W_var 2 rfl <| W_lst <| WA_nil ⟨sm, pl_lst 5 Ln, fun _ h => (by cases h), fun z => ?_, fun z => ?_⟩
  · cases Ln with
    | nil => rw [decide_eq_true (show D.lst (List.map D.int []) = .lst [] from rfl)] at z; exact nomatch z
    | cons p Ln =>
      refine SW_cons <| S1_par 4 2 hX.calm hX.nd <| WA_cons <| W_itL <| W_var 2 rfl <| W_int ⟨_, 0, .int p, rfl, rfl, atD_nat (j := 0) rfl, WA_cons <| W_slL <| W_var 2 rfl <| W_int ⟨((1 : Nat) : Int), rfl, _, rfl, WA_nil ⟨_, _, rfl, ?_⟩⟩⟩
      rw [cut_lo, int_drop, List.drop_one, List.tail_cons]
      refine SW_cons <| S1_for hX <| WI_range T.range <| W_add <| W_globI T.SORTS <| W_int ⟨4, rfl, by decide, by decide, fun i μ δ => μ = .non ∧ ∃ (F : List (Int × List Int)) (Ln : List Int) (S : Tb) (o5 o6 : Option D), δ = [some (rtD r), some (foundD F), some (.lst (Ln.map D.int)), some (endsD S), some (.int p), o5, o6] ∧ F.map Prod.fst = dn ++ p :: Ln ∧
        LedInv TT L F S (fun q s => (q ∈ dn ∧ 0 ≤ s ∧ s < 4) ∨ (q = p ∧ 0 ≤ s ∧ s < (i : Int))), ⟨rfl, F, Ln, S, _, _, rfl, hF, ?_⟩, ?_, ?_⟩
      · exact ⟨hI.ends, hI.nd, hI.inL, hI.z, hI.ln, fun q s hq => hI.cl q s (hq.resolve_right fun z => by have := z.2.2; have := z.2.1; omega)⟩
      · clear hI hF hn
        intro i d μ δ e hp
        obtain ⟨rfl, F, Ln, S, o5, o6, rfl, hF, hI⟩ := hp
        obtain ⟨hi, rfl⟩ := rangeD_get e
        have hi : i < 4 := hi
        have hpF : p ∈ F.map Prod.fst := by rw [hF]; simp
        have hpL := hI.inL p hpF
        obtain ⟨x, hx, hx2⟩ := hL.all p hpL i (by omega) (by omega)
        refine WG_name 5 hX.nd ?_
        refine SW_cons <| S1_set 3 hX.nd <| W_call f24 (by exact hr) <| WA_cons <| W_var 0 rfl <| WA_cons <| W_tup <| WA_cons <| W_var 4 rfl <| WA_cons <| W_var 5 rfl <| WA_nil ⟨sm, WA_cons <| W_var 3 rfl <| WA_nil ⟨r, (p, i), S, TT, rfl, hR, hT, hI.ends, by rw [hx]; rfl, fun S' hE' hSub hs => ?_⟩⟩
        obtain ⟨z, hz⟩ := Option.isSome_iff_exists.mp hs
        have hz2 := hE'.sub _ _ hz
        rw [hx] at hz2; cases hz2
        have hI := hI.grow hE' hSub
        refine SW_cons <| S1_set 6 hX.nd <| W_itT <| W_getT hX <| W_var 3 rfl <| W_tup <| WA_cons <| W_var 4 rfl <| WA_cons <| W_var 5 rfl <| WA_nil ⟨sm, _, _, pk (p, i), rowT x, rfl, trivial, rfl, by rw [valD_kvs, hz]; rfl, W_int ⟨_, 0, .int x.1, rfl, rfl, atD_nat (j := 0) rfl, ?_⟩⟩
        have stay : x.1 = -1 ∨ x.1 ∈ F.map Prod.fst → LedInv TT L F S' (fun q s => (q ∈ dn ∧ 0 ≤ s ∧ s < 4) ∨ (q = p ∧ 0 ≤ s ∧ s < ((i + 1 : Nat) : Int))) := fun c =>
          hI.more hz c fun q s hq => by
            rcases hq with h1 | ⟨rfl, h1, h2⟩
            · exact .inl (.inl h1)
            · by_cases c : s = (i : Int)
              · exact .inr ⟨rfl, c⟩
              · exact .inl (.inr ⟨rfl, h1, by omega⟩)
        refine SW_cons <| S1_if <| WT_ww <| WW_and <| WT_cmp <| C_ne hX <| W_var 6 rfl <| W_globI T.REST ⟨trivial, trivial, fun z => ?_, fun z => ?_⟩
        · refine WW_and <| WT_cmp <| C_ne hX <| W_var 6 rfl <| W_globS T.NEVER ⟨trivial, strN, fun _ => ?_, fun z => ?_⟩
          · refine WW_and1 <| WT_cmp <| C_notInDK hX <| W_var 6 rfl <| W_var 1 rfl ⟨_, _, .inl x.1, rfl, rfl, fun z2 => ?_, fun z2 => ?_⟩
            · rw [valD_of, lookA_kvsI] at z2
              have hnone : lookA F x.1 = none := by
                cases hh : lookA F x.1 with
                | none => rfl
                | some y => rw [hh] at z2; exact nomatch z2
              have hnin := lookA_none.mp hnone
              have hxL : x.1 ∈ L := hx2.resolve_left fun c => by
                rw [c, decide_eq_true (show D.int (-1) = .int (-1) from rfl)] at z; exact nomatch z
              obtain ⟨st, hst⟩ := lookA_some.mp hpF
              have hlen := hI.len hR hT hL
              have hstl := hI.ln _ (lookA_inm hst)
              dsimp only at hstl
              refine SW_cons <| S1_par 1 2 hX.calm hX.nd <| WA_cons <| W_spK rfl 1 rfl (by rw [kvsI, List.length_map]; omega) <| W_var 6 rfl <| W_add <| W_getK hX <| W_var 1 rfl <| W_var 4 rfl ⟨_, _, .inl p, intsD st, rfl, rfl, by rw [valD_of, lookA_kvsI, hst]; rfl, W_tup <| WA_cons <| W_var 5 rfl <| WA_nil ⟨sm, ?_, .inl x.1, rfl, ?_, WA_cons <| W_add <| W_var 2 rfl <| W_lst <| WA_cons <| W_var 6 rfl <| WA_nil ⟨sm, ?_, WA_nil ⟨_, _, rfl, ?_⟩⟩⟩⟩
              · rw [List.length_map]; show _ + 1 ≤ _; omega
              · rw [show st.map D.int ++ [D.int (i : Int)] = (st ++ [(i : Int)]).map D.int by rw [List.map_append]; rfl]; exact pl_ints 4 _
              · rw [List.length_map]; show _ + 1 ≤ _
                have := congrArg List.length hF
                simp only [List.length_map, List.length_append, List.length_cons] at this
                omega
              · rw [show st.map D.int ++ [D.int (i : Int)] = (st ++ [(i : Int)]).map D.int by rw [List.map_append]; rfl, show Ln.map D.int ++ [D.int x.1] = (Ln ++ [x.1]).map D.int by rw [List.map_append]; rfl, show D.tup ((st ++ [(i : Int)]).map D.int) = intsD (st ++ [(i : Int)]) from rfl, putA_kvsI hnone]
                refine SW_nil <| SW_nil ⟨rfl, F ++ [(x.1, st ++ [(i : Int)])], Ln ++ [x.1], S', _, _, rfl, ?_, ?_⟩
                · rw [List.map_append, hF]; simp
                · refine (hI.snoc (st := st ++ [(i : Int)]) hnin hxL ?_).more hz (.inr (by rw [List.map_append]; simp)) fun q s hq => ?_
                  · rw [List.length_append, List.length_singleton]; omega
                  · rcases hq with h1 | ⟨rfl, h1, h2⟩
                    · exact .inl (.inl h1)
                    · by_cases c : s = (i : Int)
                      · exact .inr ⟨rfl, c⟩
                      · exact .inl (.inr ⟨rfl, h1, by omega⟩)
            · rw [valD_of, lookA_kvsI] at z2
              refine SW_nil <| SW_nil ⟨rfl, F, Ln, S', _, _, rfl, hF, stay (.inr (lookA_some.mpr ?_))⟩
              cases hh : lookA F x.1 with
              | none => rw [hh] at z2; exact nomatch z2
              | some y => exact ⟨y, rfl⟩
          · rw [decide_eq_false (by intro z; cases z)] at z; exact nomatch z
        · refine ⟨fun z => nm z, fun _ => SW_nil <| SW_nil ⟨rfl, F, Ln, S', _, _, rfl, hF, stay (.inl ?_)⟩⟩
          by_cases c : x.1 = -1
          · exact c
          · rw [decide_eq_false (by intro z; injection z with z; exact c z)] at z; exact nomatch z
      · clear hI hF
        intro μ δ hp
        obtain ⟨rfl, F, Ln, S, o5, o6, rfl, hF, hI⟩ := hp
        have hl := hI.len hR hT hL
        have := congrArg List.length hF
        simp only [List.length_map, List.length_append, List.length_cons] at this
        refine SW_nil ?_
        refine ⟨n - 1, by omega, rfl, F, dn ++ [p], Ln, S, _, _, _, rfl, by rw [List.length_append, List.length_singleton]; omega, by rw [hF]; simp, hI.ends, hI.nd, hI.inL, hI.z, hI.ln, fun q s hq => hI.cl q s ?_⟩
        rcases List.mem_append.mp hq.1 with h1 | h1
        · exact .inl ⟨h1, hq.2⟩
        · exact .inr ⟨List.mem_singleton.mp h1, hq.2.1, by rw [rangeD_len]; exact hq.2.2⟩
  · cases Ln with
    | cons p Ln => rw [decide_eq_false (by intro e; cases e)] at z; exact nomatch z
    | nil =>
      rw [List.append_nil] at hF
      refine SW_cons <| S1_ret <| W_tup <| WA_cons <| W_var 1 rfl <| WA_cons <| W_var 3 rfl <| WA_nil ⟨sm, h F S ?_⟩
      rw [hF]; exact hI
end
end K48
set_option maxHeartbeats 1000000
namespace K48
open PySem PySem.Spec PyProof.Rows L2
section
variable {P : Program} {w : World} {K : PySem.W.Frag} {mg : Str → Option Value} {base : Heap}
theorem sc28 : FnScope ["routine", "posts", "ends", "found", "post", "sort", "stack"] ["routine"] (defScope (topS 28)) := ⟨rfl, rfl, rfl, by decide +kernel, rfl, by decide +kernel, by decide +kernel⟩
def cLeastEndless : List D → (D → Prop) → Prop := fun ds R => ∃ (r : Rt) (T : Tb) (L : List Int), ds = [rtD r] ∧ OkRt r ∧ TabOk r T ∧ LedOk T L ∧ R .non
theorem ok_least_endless (T : Txt mg) (a : At K mg "least_endless" (topS 28) ["routine"]) (f27 : DefOk P w K mg base "led_posts" 3 (spD cLedPosts)) : DefOk P w K mg base "least_endless" 4 (spD cLeastEndless) := by
  refine a.ok sc28 (fun ds R h => by obtain ⟨_, _, _, rfl, _⟩ := h; rfl) fun f cdv A outer s H E m ds R hr hX h => ?_
  obtain ⟨r, TT, L, rfl, hR, hT, hL, h⟩ := h
  refine SW_cons <| S1_asg <| W_call f27 (by exact hr) <| WA_cons <| W_var 0 rfl <| WA_nil ⟨r, TT, L, rfl, hR, hT, hL, fun F S hI => ?_⟩
  refine WG_tup hX.calm <| WGs_cons <| WG_name 1 hX.nd <| WGs_cons <| WG_name 2 hX.nd <| WGs_nil ?_
  refine SW_cons <| S1_set 3 hX.nd <| W_lst <| WA_nil ⟨sm, ?_⟩
  refine SW_cons <| S1_forK hX rfl 1 (kvs := kvsI F) rfl fun H0 => ⟨fun n δ => ∃ o4 o5 : Option D, δ = [some (rtD r), some (foundD F), some (endsD S), some (.lst []), o4, o5, none], ⟨_, _, rfl⟩, ?_, ?_⟩
  · intro n k v δ e hp
    obtain ⟨o4, o5, rfl⟩ := hp
    obtain ⟨y, ey, e2⟩ := map_get e
    cases e2
    refine WG_name 4 hX.nd ?_
    refine SW_cons <| S1_for hX <| WI_range T.range <| W_add <| W_globI T.SORTS <| W_int ⟨4, rfl, by decide, by decide, fun i μ δ => μ = .non ∧ ∃ o5 : Option D, δ = [some (rtD r), some (foundD F), some (endsD S), some (.lst []), some (.int y.1), o5, none], ⟨rfl, _, rfl⟩, ?_, ?_⟩
    · intro i d μ δ e hp
      obtain ⟨rfl, o5, rfl⟩ := hp
      obtain ⟨hi, rfl⟩ := rangeD_get e
      have hi : i < 4 := hi
      obtain ⟨x, hx, hx2⟩ := hI.cl y.1 i ⟨List.mem_map_of_mem (List.mem_of_getElem? ey), by omega, by omega⟩
      refine WG_name 5 hX.nd ?_
      refine SW_cons <| S1_if <| WT_cmp <| C_eq hX <| W_itT <| W_getT hX <| W_var 2 rfl <| W_tup <| WA_cons <| W_var 4 rfl <| WA_cons <| W_var 5 rfl <| WA_nil ⟨sm, _, _, pk (y.1, i), rowT x, rfl, trivial, rfl, by rw [valD_kvs, hx]; rfl, W_int ⟨_, 0, .int x.1, rfl, rfl, atD_nat (j := 0) rfl, W_globS T.NEVER ⟨trivial, strN, fun z => ?_, fun _ => SW_nil <| SW_nil ⟨rfl, _, rfl⟩⟩⟩⟩
      rw [decide_eq_false (by intro z; cases z)] at z; exact nomatch z
    · intro μ δ hp
      obtain ⟨rfl, o5, rfl⟩ := hp
      exact SW_nil ⟨rfl, _, _, rfl⟩
  · intro δ hp
    obtain ⟨o4, o5, rfl⟩ := hp
    refine SW_cons <| S1_ret <| W_ifexp <| WT_cmp <| C_ne hX <| W_var 3 rfl <| W_lst <| WA_nil ⟨sm, fun _ h => (by cases h), fun _ h => (by cases h), fun z => ?_, fun _ => W_non h⟩
    rw [decide_eq_true rfl] at z; exact nomatch z
theorem sc29 : FnScope ["routine"] ["routine"] (defScope (topS 29)) := ⟨rfl, rfl, rfl, by decide +kernel, rfl, by decide +kernel, by decide +kernel⟩
theorem ok_need_rest (T : Txt mg) (a : At K mg "need_rest" (topS 29) ["routine"]) (f28 : DefOk P w K mg base "least_endless" 4 (spD cLeastEndless)) : DefOk P w K mg base "need_rest" 5 (spD cLeastEndless) := by
  refine a.ok sc29 (fun ds R h => by obtain ⟨_, _, _, rfl, _⟩ := h; rfl) fun f cdv A outer s H E m ds R hr hX h => ?_
  obtain ⟨r, TT, L, rfl, hR, hT, hL, h⟩ := h
  refine SW_cons <| S1_if <| WT_cmp <| C_notN <| W_call f28 (by exact hr) <| WA_cons <| W_var 0 rfl <| WA_nil ⟨r, TT, L, rfl, hR, hT, hL, W_non ⟨rfl, fun z => ?_, fun _ => SW_nil <| SW_nil h⟩⟩
  rw [decide_eq_true rfl] at z; exact nomatch z
theorem sc34 : FnScope ["routine", "posts", "ends", "found", "post", "sort", "end", "turns", "marks", "left"] ["routine"] (defScope (topS 34)) := ⟨rfl, rfl, rfl, by decide +kernel, rfl, by decide +kernel, by decide +kernel⟩
def wD (e : PI2 × Row) : D := .tup [.int e.1.1, .int e.1.2, intsD e.2.2.2.1, .int e.2.1]
/-- sorted posts, closed -/
structure Srt (T : Tb) (L ms : List Int) : Prop where
  led : LedOk T ms
  sub : ∀ p ∈ ms, p ∈ L
  nd : ms.Nodup
  le : ms.Pairwise (· ≤ ·)
def cWalkRows : List D → (D → Prop) → Prop := fun ds R => ∃ (r : Rt) (T : Tb) (L : List Int), ds = [rtD r] ∧ OkRt r ∧ TabOk r T ∧ LedOk T L ∧ Few T ∧ ∀ ms, Srt T L ms → R (.lst ((wrows T ms).map wD))
theorem ok_walk_rows (T : Txt mg) (a : At K mg "walk_rows" (topS 34) ["routine"]) (f26 : DefOk P w K mg base "need_few" 1 (spD cNeedFew)) (f27 : DefOk P w K mg base "led_posts" 3 (spD cLedPosts)) : DefOk P w K mg base "walk_rows" 4 (spD cWalkRows) := by
  refine a.ok sc34 (fun ds R h => by obtain ⟨_, _, _, rfl, _⟩ := h; rfl) fun f cdv A outer s H E m ds R hr hX h => ?_
  obtain ⟨r, TT, L, rfl, hR, hT, hL, hF, h⟩ := h
  refine SW_cons <| S1_asg <| W_call f27 (by exact hr) <| WA_cons <| W_var 0 rfl <| WA_nil ⟨r, TT, L, rfl, hR, hT, hL, fun F S hI => ?_⟩
  refine WG_tup hX.calm <| WGs_cons <| WG_name 1 hX.nd <| WGs_cons <| WG_name 2 hX.nd <| WGs_nil ?_
  refine SW_cons <| S1_set 3 hX.nd <| W_lst <| WA_nil ⟨sm, ?_⟩
  have hlen := hI.len hR hT hL
  refine SW_cons <| S1_for hX <| WI_list <| W_sortedDK hX T.sorted <| W_var 1 rfl ⟨F.map Prod.fst, (kvsI F).map Prod.snd, by rw [show (F.map Prod.fst).map Sum.inl = (kvsI F).map Prod.fst by unfold kvsI; rw [List.map_map, List.map_map]; rfl]; rfl, by rw [List.length_map]; omega, fun ms hp hle => ?_⟩
  have hs : Srt TT L ms := by
    refine ⟨⟨hp.mem_iff.mpr hI.z, fun p hp' s h0 h1 => ?_⟩, fun p hp' => hI.inL p (hp.mem_iff.mp hp'), hp.nodup_iff.mpr hI.nd, hle⟩
    obtain ⟨x, h2, h3⟩ := hI.cl p s ⟨hp.mem_iff.mp hp', h0, h1⟩
    exact ⟨x, hI.ends.sub _ _ h2, h3.imp id hp.mem_iff.mpr⟩
  have hml : ms.length ≤ 6 := by rw [hp.length_eq, List.length_map]; exact hlen
  refine ⟨_, rfl, fun k μ δ => μ = .non ∧ ∃ (A : List D) (o4 o5 o6 o7 o8 o9 : Option D), δ = [some (rtD r), some (foundD F), some (endsD S), some (.lst A), o4, o5, o6, o7, o8, o9] ∧ A = (wrows TT (ms.take k)).map wD, ⟨rfl, _, _, _, _, _, _, _, rfl, rfl⟩, ?_, ?_⟩
  · intro k d μ δ e hp'
    obtain ⟨rfl, _, o4, o5, o6, o7, o8, o9, rfl, rfl⟩ := hp'
    obtain ⟨p, ep, rfl⟩ := map_get e
    have hpm := List.mem_of_getElem? ep
    refine WG_name 4 hX.nd ?_
    refine SW_cons <| S1_for hX <| WI_range T.range <| W_add <| W_globI T.SORTS <| W_int ⟨4, rfl, by decide, by decide, fun i μ δ => μ = .non ∧ ∃ (A : List D) (o5 o6 o7 o8 o9 : Option D), δ = [some (rtD r), some (foundD F), some (endsD S), some (.lst A), some (.int p), o5, o6, o7, o8, o9] ∧ A = (wrows TT (ms.take k) ++ ((four p).take i).map (wr TT)).map wD, ⟨rfl, _, _, _, _, _, _, rfl, ?_⟩, ?_, ?_⟩
    · rw [List.take_zero, List.map_nil, List.append_nil]
    · intro i d μ δ e hp'
      obtain ⟨rfl, _, o5, o6, o7, o8, o9, rfl, rfl⟩ := hp'
      obtain ⟨hi, rfl⟩ := rangeD_get e
      have hi : i < 4 := hi
      obtain ⟨x, hx, hx2⟩ := hI.cl p i ⟨hp.mem_iff.mp hpm, by omega, by omega⟩
      have hxT := hI.ends.sub _ _ hx
      refine WG_name 5 hX.nd ?_
      refine SW_cons <| S1_asg <| W_getT hX <| W_var 2 rfl <| W_tup <| WA_cons <| W_var 4 rfl <| WA_cons <| W_var 5 rfl <| WA_nil ⟨sm, _, _, pk (p, i), rowT x, rfl, trivial, rfl, by rw [valD_kvs, hx]; rfl, ?_⟩
      refine WG_tup hX.calm <| WGs_cons <| WG_name 6 hX.nd <| WGs_cons <| WG_name 7 hX.nd <| WGs_cons <| WG_name 8 hX.nd <| WGs_cons <| WG_name 9 hX.nd <| WGs_nil ?_
      refine SW_cons <| S1_expr <| W_call f26 (hr.mono (by decide)) <| WA_cons <| W_var 8 rfl <| WA_nil ⟨x.2.2.1, rfl, hF _ _ hxT, ?_⟩
      refine SW_cons <| S1_set 3 hX.nd <| W_add <| W_var 3 rfl <| W_lst <| WA_cons <| W_tup <| WA_cons <| W_var 4 rfl <| WA_cons <| W_var 5 rfl <| WA_cons <| W_var 8 rfl <| WA_cons <| W_var 6 rfl <| WA_nil ⟨sm, WA_nil ⟨sm, ?_, ?_⟩⟩
      · rw [List.length_map, List.length_append, wrows_len, List.length_map, List.length_take, List.length_take]
        show _ + 1 ≤ _
        have : (four p).length = 4 := rfl
        omega
      · rw [show D.tup [D.int p, D.int (i : Int), intsD x.2.2.1, D.int x.1] = wD (wr TT (p, i)) by rw [wr_some hxT]; rfl]
        refine SW_nil ⟨rfl, _, _, _, _, _, _, rfl, ?_⟩
        rw [take_snoc (four_get hi), List.map_append (l₁ := (four p).take i), ← List.append_assoc, List.map_append (l₂ := [(p, (i : Int))].map (wr TT))]; rfl
    · intro μ δ hp'
      obtain ⟨rfl, _, o5, o6, o7, o8, o9, rfl, rfl⟩ := hp'
      refine SW_nil ?_
      refine ⟨rfl, _, _, _, _, _, _, _, rfl, ?_⟩
      rw [take_snoc ep, wrows_snoc, rangeD_len]; rfl
  · intro μ δ hp'
    obtain ⟨rfl, _, o4, o5, o6, o7, o8, o9, rfl, rfl⟩ := hp'
    rw [List.length_map, List.take_length]
    exact SW_cons <| S1_ret <| W_var 3 rfl (h ms hs)
theorem sc40 : FnScope ["routine"] ["routine"] (defScope (topS 40)) := ⟨rfl, rfl, rfl, by decide +kernel, rfl, by decide +kernel, by decide +kernel⟩
def cWalkOf : List D → (D → Prop) → Prop := fun ds R => ∃ (r : Rt) (T : Tb) (L : List Int), ds = [rtD r] ∧ OkRt r ∧ TabOk r T ∧ LedOk T L ∧ Few T ∧ ∀ ms, Srt T L ms → R (.tup ((wrows T ms).map wD))
theorem ok_walk_of (T : Txt mg) (a : At K mg "walk_of" (topS 40) ["routine"]) (f21 : DefOk P w K mg base "need_routine" 5 (spD cNeedRt)) (f29 : DefOk P w K mg base "need_rest" 5 (spD cLeastEndless)) (f34 : DefOk P w K mg base "walk_rows" 4 (spD cWalkRows)) : DefOk P w K mg base "walk_of" 6 (spD cWalkOf) := by
  refine a.ok sc40 (fun ds R h => by obtain ⟨_, _, _, rfl, _⟩ := h; rfl) fun f cdv A outer s H E m ds R hr hX h => ?_
  obtain ⟨r, TT, L, rfl, hR, hT, hL, hF, h⟩ := h
  refine SW_cons <| S1_expr <| W_call f21 (by exact hr) <| WA_cons <| W_var 0 rfl <| WA_nil ⟨r, rfl, hR, ?_⟩
  refine SW_cons <| S1_expr <| W_call f29 (by exact hr) <| WA_cons <| W_var 0 rfl <| WA_nil ⟨r, TT, L, rfl, hR, hT, hL, ?_⟩
  refine SW_cons <| S1_ret <| W_tupleOf T.tuple <| W_call f34 (hr.mono (by decide)) <| WA_cons <| W_var 0 rfl <| WA_nil ⟨r, TT, L, rfl, hR, hT, hL, hF, fun ms hs => ⟨_, rfl, trivial, h ms hs⟩⟩
end
end K48
/-! The search for stacks -/
namespace K48
abbrev Tm := List (PI2 × ME)
def stp (f : PI2 → Option ME) (mk : List Int) (here : PI2) (s : Int) : Option PI2 := match f (here.1, s) with
  | none => none
  | some me => if (mk.drop here.2.toNat).take me.1.length = me.1 then some (me.2, here.2 + me.1.length) else none
def nexts (f : PI2 → Option ME) (mk : List Int) (here : PI2) : List (Int × PI2) := [0, 1, 2].filterMap fun s => (stp f mk here s).map fun t => (s, t)
def hit (f : PI2 → Option ME) (mk : List Int) (here : PI2) : Bool := match f (here.1, 3) with
  | none => false
  | some me => decide (me.1 = mk.drop here.2.toNat)
abbrev Fd := List (PI2 × List Int)
def push1 (w : List Int) (F : Fd) (x : Int × PI2) : Fd := match lookA F x.2 with
  | some _ => F
  | none => F ++ [(x.2, w ++ [x.1])]
def bfsN (f : PI2 → Option ME) (mk : List Int) : Nat → Fd → Nat → Fd
  | 0, F, _ => F
  | n + 1, F, k => match F[k]? with
    | none => F
    | some e => bfsN f mk n ((nexts f mk e.1).foldl (push1 e.2) F) (k + 1)
def bfs (f : PI2 → Option ME) (mk : List Int) : Fd := bfsN f mk 71 [((0, 0), [])] 0
def hand (f : PI2 → Option ME) (mk : List Int) : Option (List Int) := ((bfs f mk).find? fun e => hit f mk e.1).map (·.2)
/-- what the search leans on -/
structure TmOk (f : PI2 → Option ME) (Q : List Int) : Prop where
  zero : 0 ∈ Q
  rng : ∀ p ∈ Q, -1 ≤ p ∧ p ≤ 5
  all : ∀ p ∈ Q, ∀ s, 0 ≤ s → s < 4 → ∃ me, f (p, s) = some me ∧ me.2 ∈ Q ∧ me.1.length ≤ 1000
  rest : ∀ s, 0 ≤ s → s < 4 → f (-1, s) = some ([], -1)
section
variable {f : PI2 → Option ME} {mk : List Int} {Q : List Int} {F : Fd} {k : Nat} {here : PI2} {w : List Int}
theorem nexts_mem {x : Int × PI2} : x ∈ nexts f mk here ↔ (x.1 = 0 ∨ x.1 = 1 ∨ x.1 = 2) ∧ stp f mk here x.1 = some x.2 := by
  unfold nexts
  rw [List.mem_filterMap]
  constructor
  · rintro ⟨s, hs, e⟩
    cases h : stp f mk here s with
    | none => rw [h] at e; cases e
    | some t =>
      rw [h] at e; cases e
      simp only [List.mem_cons, List.not_mem_nil, or_false] at hs
      exact ⟨hs, h⟩
  · rintro ⟨h1, h2⟩
    exact ⟨x.1, by simpa using h1, by rw [h2]; rfl⟩
/-- a state in its bounds -/
def InQ (Q mk : List Int) (t : PI2) : Prop := t.1 ∈ Q ∧ 0 ≤ t.2 ∧ t.2 ≤ mk.length
theorem stp_in (h : TmOk f Q) (hi : InQ Q mk here) {s : Int} {t : PI2} (e : stp f mk here s = some t) (hs0 : 0 ≤ s) (hs : s < 4) : InQ Q mk t := by
  obtain ⟨me, e1, e2, e3⟩ := h.all here.1 hi.1 s hs0 hs
  unfold stp at e
  rw [e1] at e
  dsimp only at e
  by_cases c : (mk.drop here.2.toNat).take me.1.length = me.1
  · rw [if_pos c] at e
    cases e
    have := congrArg List.length c
    rw [List.length_take, List.length_drop] at this
    have h2 := hi.2
    refine ⟨e2, ?_, ?_⟩
    · dsimp only; omega
    · dsimp only; omega
  · rw [if_neg c] at e; cases e
/-- found so far -/
structure FdOk (Q mk : List Int) (F : Fd) : Prop where
  nd : (F.map Prod.fst).Nodup
  inq : ∀ e ∈ F, InQ Q mk e.1
  ln : ∀ e ∈ F, e.2.length ≤ F.length
theorem FdOk.push (h : FdOk Q mk F) {x : Int × PI2} (hx : InQ Q mk x.2) (hw : w.length ≤ F.length) : FdOk Q mk (push1 w F x) := by
  unfold push1
  cases e : lookA F x.2 with
  | some _ => exact h
  | none =>
    refine ⟨?_, fun y hy => ?_, fun y hy => ?_⟩
    · rw [List.map_append]
      refine List.nodup_append.mpr ⟨h.nd, by simp, fun a ha b hb z => ?_⟩
      simp only [List.map_cons, List.map_nil, List.mem_singleton] at hb
      exact lookA_none.mp e (hb ▸ z ▸ ha)
    · rcases List.mem_append.mp hy with h1 | h1
      · exact h.inq y h1
      · rw [List.mem_singleton.mp h1]; exact hx
    · rw [List.length_append, List.length_singleton]
      rcases List.mem_append.mp hy with h1 | h1
      · exact Nat.le_succ_of_le (h.ln y h1)
      · rw [List.mem_singleton.mp h1, List.length_append, List.length_singleton]; omega
theorem push1_len (x : Int × PI2) : F.length ≤ (push1 w F x).length := by
  unfold push1
  split
  · exact Nat.le_refl _
  · rw [List.length_append]; omega
theorem push_len : ∀ (l : List (Int × PI2)) (F : Fd), F.length ≤ (l.foldl (push1 w) F).length
  | [], F => Nat.le_refl _
  | x :: l, F => Nat.le_trans (push1_len x) (push_len l _)
theorem FdOk.pushes : ∀ (l : List (Int × PI2)) {F : Fd}, FdOk Q mk F → (∀ x ∈ l, InQ Q mk x.2) → w.length ≤ F.length → FdOk Q mk (l.foldl (push1 w) F)
  | [], F, h, _, _ => h
  | x :: l, F, h, hx, hw => FdOk.pushes l (h.push (hx x List.mem_cons_self) hw) (fun y hy => hx y (List.mem_cons_of_mem _ hy)) (Nat.le_trans hw (push1_len x))
theorem push1_look {p : PI2} {y : List Int} (x : Int × PI2) (h : lookA F p = some y) : lookA (push1 w F x) p = some y := by
  unfold push1
  cases e : lookA F x.2 with
  | some _ => exact h
  | none =>
    rw [← putA_new e, lookA_put, if_neg]
    · exact h
    · rintro rfl
      rw [e] at h; cases h
theorem push_look {p : PI2} {y : List Int} : ∀ (l : List (Int × PI2)) {F : Fd}, lookA F p = some y → lookA (l.foldl (push1 w) F) p = some y
  | [], F, h => h
  | x :: l, F, h => push_look l (push1_look x h)
def grid : List PI2 := (List.range 7).flatMap fun (a : Nat) => (List.range 10).map fun (b : Nat) => ((a : Int) - 1, (b : Int))
theorem grid_len : grid.length = 70 := by decide +kernel
theorem grid_mem {p : PI2} (h1 : -1 ≤ p.1) (h2 : p.1 ≤ 5) (h3 : 0 ≤ p.2) (h4 : p.2 ≤ 9) : p ∈ grid := by
  refine List.mem_flatMap.mpr ⟨(p.1 + 1).toNat, List.mem_range.mpr (by omega), List.mem_map.mpr ⟨p.2.toNat, List.mem_range.mpr (by omega), ?_⟩⟩
  exact Prod.ext (by dsimp only; omega) (by dsimp only; omega)
theorem FdOk.len (hq : TmOk f Q) (hm : mk.length ≤ 9) (h : FdOk Q mk F) : F.length ≤ 70 := by
  have := nd_len (F.map Prod.fst) grid h.nd fun p hp => by
    obtain ⟨e, he, rfl⟩ := List.mem_map.mp hp
    obtain ⟨h1, h2, h3⟩ := h.inq e he
    exact grid_mem (hq.rng _ h1).1 (hq.rng _ h1).2 h2 (by omega)
  rwa [List.length_map, grid_len] at this
theorem FdOk.start (hq : TmOk f Q) : FdOk Q mk [((0, 0), [])] := ⟨by simp, fun e he => by rw [List.mem_singleton.mp he]; exact ⟨hq.zero, Int.le_refl _, by dsimp only; omega⟩, fun e he => by rw [List.mem_singleton.mp he]; exact Nat.zero_le _⟩
theorem bfsN_end {n : Nat} (h : F[k]? = none) : bfsN f mk n F k = F := by
  cases n with
  | zero => rfl
  | succ n => unfold bfsN; rw [h]
theorem bfs_ok (hq : TmOk f Q) : ∀ (n : Nat) (F : Fd) (k : Nat), FdOk Q mk F → FdOk Q mk (bfsN f mk n F k)
  | 0, F, k, h => h
  | n + 1, F, k, h => by
    unfold bfsN
    cases e : F[k]? with
    | none => exact h
    | some x =>
      have hx := List.mem_of_getElem? e
      exact bfs_ok hq n _ _ (h.pushes _ (fun y hy => stp_in hq (h.inq x hx) (nexts_mem.mp hy).2 (by have := (nexts_mem.mp hy).1; omega) (by have := (nexts_mem.mp hy).1; omega)) (h.ln x hx))
end
end K48
set_option maxHeartbeats 1000000
namespace K48
open PySem PySem.Spec PyProof.Rows L2
theorem int_inj : ∀ {a b : List Int}, a.map D.int = b.map D.int → a = b
  | [], [], _ => rfl
  | x :: a, y :: b, h => by
    injection h with h1 h2
    injection h1 with h1
    rw [h1, int_inj h2]
  | [], _ :: _, h => nomatch h
  | _ :: _, [], h => nomatch h
theorem intsD_eq (a b : List Int) : decide (intsD a = intsD b) = decide (a = b) := decide_eq_decide.mpr ⟨fun h => int_inj (by unfold intsD at h; injection h), fun h => by rw [h]⟩
def meD (e : ME) : D := .tup [intsD e.1, .int e.2]
theorem tu_ints (n : Nat) (ns : List Int) : Tu (n + 1) (intsD ns) := fun x hx => by
  obtain ⟨i, _, rfl⟩ := List.mem_map.mp hx
  cases n <;> trivial
theorem tu_meD (n : Nat) (e : ME) : Tu (n + 2) (meD e) := fun d hd => by
  simp only [List.mem_cons, List.not_mem_nil, or_false] at hd
  rcases hd with rfl | rfl
  · exact tu_ints n _
  · trivial
theorem pl_meD (n : Nat) (e : ME) : Pl (n + 2) (meD e) := fun d hd => by
  simp only [List.mem_cons, List.not_mem_nil, or_false] at hd
  rcases hd with rfl | rfl
  · exact pl_ints n _
  · trivial
theorem kvs_nodup {β : Type} (f : β → D) {S : List (PI2 × β)} (h : (S.map Prod.fst).Nodup) : ((kvs f S).map Prod.fst).Nodup := by
  have : (kvs f S).map Prod.fst = (S.map Prod.fst).map pk := by unfold kvs; rw [List.map_map, List.map_map]; rfl
  rw [this]
  exact List.pairwise_map.mpr (h.imp fun hn e => hn (pk_inj e))
section
variable {P : Program} {w : World} {K : PySem.W.Frag} {mg : Str → Option Value} {base : Heap}
theorem sc35 : FnScope ["routine", "found", "post", "sort", "marks", "end"] ["routine"] (defScope (topS 35)) := ⟨rfl, rfl, rfl, by decide +kernel, rfl, by decide +kernel, by decide +kernel⟩
def cWalkTable : List D → (D → Prop) → Prop := fun ds R => ∃ (r : Rt) (T : Tb) (L : List Int), ds = [rtD r] ∧ OkRt r ∧ TabOk r T ∧ LedOk T L ∧ Few T ∧ ∀ ms, Srt T L ms → R (.oT (kvs meD (wt T ms)))
def wme (e : PI2 × Row) : PI2 × ME := (e.1, (e.2.2.2.1, e.2.1))
theorem ok_walk_table (T : Txt mg) (a : At K mg "walk_table" (topS 35) ["routine"]) (f34 : DefOk P w K mg base "walk_rows" 4 (spD cWalkRows)) : DefOk P w K mg base "walk_table" 5 (spD cWalkTable) := by
  refine a.ok sc35 (fun ds R h => by obtain ⟨_, _, _, rfl, _⟩ := h; rfl) fun f cdv A outer s H E m ds R hr hX h => ?_
  obtain ⟨r, TT, L, rfl, hR, hT, hL, hF, h⟩ := h
  refine SW_cons <| S1_set 1 hX.nd <| W_dictT hX T.dict <| W_lc (own := [("post", 2), ("sort", 3), ("marks", 4), ("end", 5)]) (g := gTup K 4 (gNames [2, 3, 4, 5])) (fun d δ => match d with | .tup xs => setsD [2, 3, 4, 5] xs δ | _ => δ) hX (.inl rfl) (blkOk_by (by rfl))
    (fun s H C cl fp => pg_tup (n := 4) (by exact hX.calm) (pgs_cons (pg_name (i := 2) (by exact hX.nd) rfl (.inl rfl) (.inr rfl)) (pgs_cons (pg_name (i := 3) (by exact hX.nd) rfl (.inl rfl) (.inr rfl)) (pgs_cons (pg_name (i := 4) (by exact hX.nd) rfl (.inl rfl) (.inr rfl)) (pgs_cons (pg_name (i := 5) (by exact hX.nd) rfl (.inl rfl) (.inr rfl)) pgs_nil))))) ?_
  refine WI_list <| W_call f34 (by exact hr) <| WA_cons <| W_var 0 rfl <| WA_nil ⟨r, TT, L, rfl, hR, hT, hL, hF, fun ms hs => ⟨_, rfl, ?_⟩⟩
  have hin : ∀ p ∈ ms, 0 ≤ p ∧ p ≤ 5 := fun p hp => led_in hR hT hs.led hp
  have hlen : ms.length ≤ 6 := by
    have := nd_len ms [0, 1, 2, 3, 4, 5] hs.nd fun p hp => by
      have := hin p hp
      simp only [List.mem_cons, List.not_mem_nil, or_false]; omega
    simpa using this
  have hnd : ((wt TT ms).map Prod.fst).Nodup := wt_nodup hs.nd fun h1 => by have := (hin _ h1).1; omega
  refine ⟨fun i acc => acc = ((wrows TT ms).take i).map fun e => .tup [pD e.1, meD (wme e).2], rfl, fun i d acc e pv => ?_, fun acc pv => ?_⟩
  · subst pv
    obtain ⟨e0, ee, rfl⟩ := map_get e
    refine ⟨?_, tgt_tup (js := [2, 3, 4, 5]) (fun j hj => by simpa using hj) rfl, fun s H0 C cl fp => ?_⟩
    · rw [List.length_map, List.length_take, wrows_len]; omega
    refine W_tup <| WA_cons <| W_tup <| WA_cons <| W_var 2 rfl <| WA_cons <| W_var 3 rfl <| WA_nil ⟨sm, WA_cons <| W_tup <| WA_cons <| W_var 4 rfl <| WA_cons <| W_var 5 rfl <| WA_nil ⟨sm, WA_nil ⟨sm, ?_, ?_⟩⟩⟩
    · intro x hx
      simp only [List.mem_cons, List.not_mem_nil, or_false] at hx
      rcases hx with rfl | rfl
      · exact tu_ints 3 [e0.1.1, e0.1.2]
      · exact tu_meD 2 (wme e0).2
    · show _ = _
      rw [take_snoc ee, List.map_append]; rfl
  · subst pv
    rw [List.length_map, List.take_length]
    refine ⟨kvs meD ((wrows TT ms).map wme), ?_, ?_⟩
    · unfold kvs; rw [List.map_map, List.map_map]; rfl
    have hn1 : (((wrows TT ms).map wme).map Prod.fst).Nodup := by
      unfold wt at hnd
      rw [List.map_append] at hnd
      exact (List.nodup_append.mp hnd).1
    rw [mergeA_new _ [] (by rw [List.nil_append]; exact kvs_nodup meD hn1), List.nil_append]
    refine SW_cons <| S1_ret <| W_ssT hX rfl 1 rfl (fun kv hkv => ?_) ?_ fun p H0 => ?_
    · obtain ⟨e, he, rfl⟩ := List.mem_map.mp hkv
      obtain ⟨e', he', rfl⟩ := List.mem_map.mp he
      have : e'.1 ∈ (wrows TT ms).map Prod.fst := List.mem_map_of_mem he'
      rw [wrows_keys] at this
      obtain ⟨p, hp, h4⟩ := List.mem_flatMap.mp this
      have := hin p hp
      obtain ⟨h5, h6, h7⟩ := four_mem.mp h4
      exact ⟨e'.1.1, e'.1.2, by omega, by omega, by omega, by omega, rfl⟩
    · unfold kvs; rw [List.length_map, List.length_map, wrows_len]; omega
    refine W_dictT hX T.dict <| W_lc (own := [("sort", 3)]) (g := gName 3) (fun d δ => δ.set 3 (some d)) hX (.inl rfl) (blkOk_by (by rfl)) (fun s H C cl fp => pg_name (i := 3) (by exact hX.nd) rfl (.inl rfl) (.inr rfl)) <| WI_range T.range <| W_add <| W_globI T.SORTS <| W_int ⟨4, rfl, by decide, by decide, ?_⟩
    refine ⟨fun i acc => acc = ((four (-1)).take i).map fun q => .tup [pD q, meD ([], -1)], rfl, fun i d acc e pv => ?_, fun acc pv => ?_⟩
    · subst pv
      obtain ⟨hi, rfl⟩ := rangeD_get e
      have hi : i < 4 := hi
      refine ⟨?_, tgt_name, fun s H0 C cl fp => ?_⟩
      · rw [List.length_map, List.length_take]; omega
      refine W_tup <| WA_cons <| W_tup <| WA_cons <| W_globI T.REST <| WA_cons <| W_var 3 rfl <| WA_nil ⟨sm, WA_cons <| W_tup <| WA_cons <| W_tup <| WA_nil ⟨sm, WA_cons <| W_globI T.REST <| WA_nil ⟨sm, WA_nil ⟨sm, ?_, ?_⟩⟩⟩⟩
      · intro x hx
        simp only [List.mem_cons, List.not_mem_nil, or_false] at hx
        rcases hx with rfl | rfl
        · exact tu_ints 3 [-1, (i : Int)]
        · exact tu_meD 2 ([], -1)
      · show _ = _
        rw [take_snoc (four_get hi), List.map_append]; rfl
    · subst pv
      refine ⟨kvs meD ((four (-1)).map fun q => (q, (([], -1) : ME))), ?_, ?_⟩
      · rw [rangeD_len]; rfl
      have hn2 : (((four (-1)).map fun q => (q, (([], -1) : ME))).map Prod.fst).Nodup := by
        unfold wt at hnd
        rw [List.map_append] at hnd
        exact (List.nodup_append.mp hnd).2.1
      rw [mergeA_new _ [] (by rw [List.nil_append]; exact kvs_nodup meD hn2), List.nil_append]
      refine ⟨_, rfl, ?_, fun kv hkv => ?_, fun kv hkv => ?_, ?_⟩
      · unfold kvs; rw [List.length_map, List.length_map]; decide
      · obtain ⟨e, he, rfl⟩ := List.mem_map.mp hkv
        obtain ⟨q, hq, rfl⟩ := List.mem_map.mp he
        obtain ⟨h5, h6, h7⟩ := four_mem.mp hq
        exact ⟨q.1, q.2, by omega, by omega, by omega, by omega, rfl⟩
      · obtain ⟨e, he, rfl⟩ := List.mem_map.mp hkv
        exact pl_meD 3 _
      · have e0 : kvs meD ((wrows TT ms).map wme) ++ kvs meD ((four (-1)).map fun q => (q, (([], -1) : ME))) = kvs meD (wt TT ms) := by
          unfold kvs wt; rw [List.map_append]; rfl
        rw [mergeA_new _ _ (by rw [e0]; exact kvs_nodup meD hnd), e0]
        exact h ms hs
theorem sc36 : FnScope ["table", "marks", "here", "post", "count", "found", "sort", "more", "end"] ["table", "marks", "here"] (defScope (topS 36)) := ⟨rfl, rfl, rfl, by decide +kernel, rfl, by decide +kernel, by decide +kernel⟩
def nxD (x : Int × PI2) : D := .tup [.int x.1, pD x.2]
def cNextsOf : List D → (D → Prop) → Prop := fun ds R => ∃ (G : Tm) (mk : List Int) (here : PI2) (Q : List Int), ds = [.oT (kvs meD G), intsD mk, pD here] ∧ TmOk (lookA G) Q ∧ InQ Q mk here ∧ R (.lst ((nexts (lookA G) mk here).map nxD))
def nextsTo (f : PI2 → Option ME) (mk : List Int) (here : PI2) (i : Nat) : List (Int × PI2) := ((List.range i).map fun (s : Nat) => (s : Int)).filterMap fun s => (stp f mk here s).map fun t => (s, t)
theorem nextsTo_succ (f : PI2 → Option ME) (mk : List Int) (here : PI2) (i : Nat) : nextsTo f mk here (i + 1) = nextsTo f mk here i ++ match stp f mk here i with | some t => [((i : Int), t)] | none => [] := by
  unfold nextsTo
  rw [List.range_succ, List.map_append, List.filterMap_append]
  congr 1
  simp only [List.map_cons, List.map_nil, List.filterMap_cons, List.filterMap_nil]
  cases stp f mk here i <;> rfl
theorem ok_nexts_of (T : Txt mg) (a : At K mg "nexts_of" (topS 36) ["table", "marks", "here"]) : DefOk P w K mg base "nexts_of" 1 (spD cNextsOf) := by
  refine a.ok sc36 (fun ds R h => by obtain ⟨_, _, _, _, rfl, _⟩ := h; rfl) fun f cdv A outer s H E m ds R hr hX h => ?_
  obtain ⟨G, mk, here, Q, rfl, hG, hin, h⟩ := h
  refine SW_cons <| S1_asg <| W_var 2 rfl <| WG_tup hX.calm <| WGs_cons <| WG_name 3 hX.nd <| WGs_cons <| WG_name 4 hX.nd <| WGs_nil ?_
  refine SW_cons <| S1_set 5 hX.nd <| W_lst <| WA_nil ⟨sm, ?_⟩
  refine SW_cons <| S1_for hX <| WI_range T.range <| W_globI T.SORTS ⟨3, rfl, by decide, by decide, fun i μ δ => μ = .non ∧ ∃ (A : List D) (o6 o7 o8 : Option D), δ = [some (.oT (kvs meD G)), some (intsD mk), some (pD here), some (.int here.1), some (.int here.2), some (.lst A), o6, o7, o8] ∧ A = (nextsTo (lookA G) mk here i).map nxD ∧ A.length ≤ i, ⟨rfl, _, _, _, _, rfl, rfl, Nat.le_refl _⟩, ?_, ?_⟩
  · intro i d μ δ e hp
    obtain ⟨rfl, A, o6, o7, o8, rfl, hA, hl⟩ := hp
    obtain ⟨hi, rfl⟩ := rangeD_get e
    have hi : i < 3 := hi
    obtain ⟨me, e1, e2, e3⟩ := hG.all here.1 hin.1 i (by omega) (by omega)
    refine WG_name 6 hX.nd ?_
    refine SW_cons <| S1_asg <| W_getT hX <| W_var 0 rfl <| W_tup <| WA_cons <| W_var 3 rfl <| WA_cons <| W_var 6 rfl <| WA_nil ⟨sm, _, _, pk (here.1, i), meD me, rfl, trivial, rfl, by rw [valD_kvs, e1]; rfl, ?_⟩
    refine WG_tup hX.calm <| WGs_cons <| WG_name 7 hX.nd <| WGs_cons <| WG_name 8 hX.nd <| WGs_nil ?_
    have hc : ((here.2.toNat : Nat) : Int) = here.2 := by have := hin.2.1; omega
    have hstp : stp (lookA G) mk here i = if (mk.drop here.2.toNat).take me.1.length = me.1 then some (me.2, here.2 + me.1.length) else none := by unfold stp; rw [e1]
    refine SW_cons <| S1_if <| WT_cmp <| C_eq hX <| W_slT <| W_var 1 rfl <| W_var 4 rfl ⟨here.2, rfl, W_add <| W_var 4 rfl <| W_len T.len <| W_var 7 rfl ⟨here.2 + me.1.length, by rw [List.length_map], _, rfl, W_var 7 rfl ?_⟩⟩
    rw [← hc, show ((here.2.toNat : Nat) : Int) + (me.1.length : Int) = ((here.2.toNat + me.1.length : Nat) : Int) by omega, cut_mid, int_drop, int_take, show here.2.toNat + me.1.length - here.2.toNat = me.1.length by omega]
    refine ⟨pl_ints 5 _, pl_ints 5 _, fun z => ?_, fun z => ?_⟩
    · rw [show D.tup (((mk.drop here.2.toNat).take me.1.length).map D.int) = intsD ((mk.drop here.2.toNat).take me.1.length) from rfl, intsD_eq, decide_eq_true_eq] at z
      rw [if_pos z] at hstp
      refine SW_cons <| S1_set 5 hX.nd <| W_add <| W_var 5 rfl <| W_lst <| WA_cons <| W_tup <| WA_cons <| W_var 6 rfl <| WA_cons <| W_tup <| WA_cons <| W_var 8 rfl <| WA_cons <| W_add <| W_var 4 rfl <| W_len T.len <| W_var 7 rfl <| WA_nil ⟨sm, WA_nil ⟨sm, WA_nil ⟨sm, ?_, ?_⟩⟩⟩
      · show _ + 1 ≤ _; omega
      · refine SW_nil (SW_nil ⟨rfl, _, _, _, _, rfl, ?_, ?_⟩)
        · rw [nextsTo_succ, hstp, List.map_append, hA, List.length_map, hc]; rfl
        · rw [List.length_append]; show _ + 1 ≤ _; omega
    · rw [show D.tup (((mk.drop here.2.toNat).take me.1.length).map D.int) = intsD ((mk.drop here.2.toNat).take me.1.length) from rfl, intsD_eq, decide_eq_false_iff_not] at z
      rw [if_neg z] at hstp
      refine SW_nil (SW_nil ⟨rfl, A, _, _, _, rfl, ?_, by omega⟩)
      rw [nextsTo_succ, hstp, List.append_nil, hA]
  · intro μ δ hp
    obtain ⟨rfl, A, o6, o7, o8, rfl, hA, hl⟩ := hp
    refine SW_cons <| S1_ret <| W_var 5 rfl ?_
    rw [hA]; exact h
theorem sc37 : FnScope ["table", "marks", "here", "post", "count"] ["table", "marks", "here"] (defScope (topS 37)) := ⟨rfl, rfl, rfl, by decide +kernel, rfl, by decide +kernel, by decide +kernel⟩
def cIsHit : List D → (D → Prop) → Prop := fun ds R => ∃ (G : Tm) (mk : List Int) (here : PI2) (Q : List Int), ds = [.oT (kvs meD G), intsD mk, pD here] ∧ TmOk (lookA G) Q ∧ InQ Q mk here ∧ R (.bl (hit (lookA G) mk here))
theorem ok_is_hit (T : Txt mg) (a : At K mg "is_hit" (topS 37) ["table", "marks", "here"]) : DefOk P w K mg base "is_hit" 1 (spD cIsHit) := by
  refine a.ok sc37 (fun ds R h => by obtain ⟨_, _, _, _, rfl, _⟩ := h; rfl) fun f cdv A outer s H E m ds R hr hX h => ?_
  obtain ⟨G, mk, here, Q, rfl, hG, hin, h⟩ := h
  obtain ⟨me, e1, e2, e3⟩ := hG.all here.1 hin.1 3 (by omega) (by omega)
  have hc : ((here.2.toNat : Nat) : Int) = here.2 := by have := hin.2.1; omega
  refine SW_cons <| S1_asg <| W_var 2 rfl <| WG_tup hX.calm <| WGs_cons <| WG_name 3 hX.nd <| WGs_cons <| WG_name 4 hX.nd <| WGs_nil ?_
  refine SW_cons <| S1_ret <| W_cmp <| C_eq hX <| W_itT <| W_getT hX <| W_var 0 rfl <| W_tup <| WA_cons <| W_var 3 rfl <| WA_cons <| W_globI T.SORTS <| WA_nil ⟨sm, _, _, pk (here.1, 3), meD me, rfl, trivial, rfl, by rw [valD_kvs, e1]; rfl, W_int ⟨_, 0, intsD me.1, rfl, rfl, atD_nat (j := 0) rfl, W_slT <| W_var 1 rfl <| W_var 4 rfl ⟨here.2, rfl, _, rfl, ?_⟩⟩⟩
  rw [← hc, cut_lo, int_drop]
  refine ⟨pl_ints 5 _, pl_ints 5 _, ?_⟩
  rw [show D.tup ((mk.drop here.2.toNat).map D.int) = intsD (mk.drop here.2.toNat) from rfl, intsD_eq]
  unfold hit at h
  rw [e1] at h; exact h
end
end K48
set_option maxHeartbeats 1000000
namespace K48
open PySem PySem.Spec PyProof.Rows L2
section
variable {P : Program} {w : World} {K : PySem.W.Frag} {mg : Str → Option Value} {base : Heap}
theorem sc38 : FnScope ["table", "marks", "found", "line", "here", "sort", "later"] ["table", "marks"] (defScope (topS 38)) := ⟨rfl, rfl, rfl, by decide +kernel, rfl, by decide +kernel, by decide +kernel⟩
def fdD (F : Fd) : D := .oT (kvs intsD F)
def cReached : List D → (D → Prop) → Prop := fun ds R => ∃ (G : Tm) (mk : List Int) (Q : List Int), ds = [.oT (kvs meD G), intsD mk] ∧ TmOk (lookA G) Q ∧ mk.length ≤ 9 ∧ R (fdD (bfs (lookA G) mk))
def lineD (F : Fd) (k : Nat) : List D := ((F.map Prod.fst).drop k).map pD
theorem lineD_snoc {F : Fd} {k : Nat} {t : PI2} {st : List Int} (h : k ≤ F.length) : lineD (F ++ [(t, st)]) k = lineD F k ++ [pD t] := by
  unfold lineD
  rw [List.map_append, List.drop_append_of_le_length (by rw [List.length_map]; exact h), List.map_append]; rfl
theorem gk_in {f : PI2 → Option ME} {Q mk : List Int} (hq : TmOk f Q) (hm : mk.length ≤ 9) {t : PI2} (h : InQ Q mk t) : gk (pk t) := by
  obtain ⟨h1, h2, h3⟩ := h
  have := hq.rng _ h1
  exact ⟨t.1, t.2, by omega, by omega, h2, by omega, rfl⟩
theorem ok_reached_with (T : Txt mg) (a : At K mg "reached_with" (topS 38) ["table", "marks"]) (f36 : DefOk P w K mg base "nexts_of" 1 (spD cNextsOf)) : DefOk P w K mg base "reached_with" 2 (spD cReached) := by
  refine a.ok sc38 (fun ds R h => by obtain ⟨_, _, _, rfl, _⟩ := h; rfl) fun f cdv A outer s H E m ds R hr hX h => ?_
  obtain ⟨G, mk, Q, rfl, hG, hm, h⟩ := h
  refine SW_cons <| S1_par 2 3 hX.calm hX.nd <| WA_cons <| W_d1T hX rfl <| W_tup <| WA_cons <| W_int <| WA_cons <| W_int <| WA_nil ⟨sm, W_tup <| WA_nil ⟨sm, pk (0, 0), rfl, fun _ hh => (by cases hh), WA_cons <| W_lst <| WA_cons <| W_tup <| WA_cons <| W_int <| WA_cons <| W_int <| WA_nil ⟨sm, WA_nil ⟨sm, WA_nil ⟨_, _, rfl, ?_⟩⟩⟩⟩⟩
  refine SW_cons <| S1_while hX (fun n μ δ => μ = .non ∧ ∃ (F : Fd) (k : Nat) (o4 o5 o6 : Option D), δ = [some (.oT (kvs meD G)), some (intsD mk), some (fdD F), some (.lst (lineD F k)), o4, o5, o6] ∧ n + k = 71 ∧ FdOk Q mk F ∧ k ≤ F.length ∧ bfsN (lookA G) mk n F k = bfs (lookA G) mk)
    71 ⟨rfl, [((0, 0), [])], 0, none, none, none, rfl, rfl, FdOk.start hG, Nat.zero_le _, rfl⟩ ?_
  intro n μ δ hpv
  obtain ⟨rfl, F, k, o4, o5, o6, rfl, hn, hF, hk, hb⟩ := hpv
  have hlen := hF.len hG hm
  refine WT_cmp <| C_ne hX <| W_var 3 rfl <| W_lst <| WA_nil ⟨sm, fun d hd => by obtain ⟨q, _, rfl⟩ := List.mem_map.mp hd; exact pl_pD 4 q, fun _ h => (by cases h), fun z => ?_, fun z => ?_⟩
  · cases ek : F[k]? with
    | none =>
      rw [show lineD F k = [] by unfold lineD; rw [List.drop_of_length_le (by rw [List.length_map]; exact List.getElem?_eq_none_iff.mp ek)]; rfl, decide_eq_true rfl] at z
      exact nomatch z
    | some e =>
      obtain ⟨here, w0⟩ := e
      have hk2 : k < F.length := (List.getElem?_eq_some_iff.mp ek).1
      have hmem := List.mem_of_getElem? ek
      have hin := hF.inq _ hmem
      have hln := hF.ln _ hmem
      dsimp only at hin hln
      have hline : lineD F k = pD here :: lineD F (k + 1) := by
        unfold lineD
        rw [drop_step (y := here) (by rw [List.getElem?_map, ek]; rfl)]; rfl
      obtain ⟨n, rfl⟩ : ∃ n', n = n' + 1 := ⟨n - 1, by omega⟩
      rw [hline]
      refine SW_cons <| S1_par 4 3 hX.calm hX.nd <| WA_cons <| W_itL <| W_var 3 rfl <| W_int ⟨_, 0, pD here, rfl, rfl, atD_nat (j := 0) rfl, WA_cons <| W_slL <| W_var 3 rfl <| W_int ⟨((1 : Nat) : Int), rfl, _, rfl, WA_nil ⟨_, _, rfl, ?_⟩⟩⟩
      rw [cut_lo, List.drop_one, List.tail_cons]
      have hlook : lookA F here = some w0 := lookA_mem hF.nd hmem
      have hnx : ∀ x ∈ nexts (lookA G) mk here, InQ Q mk x.2 := fun x hx => stp_in hG hin (nexts_mem.mp hx).2 (by have := (nexts_mem.mp hx).1; omega) (by have := (nexts_mem.mp hx).1; omega)
      refine SW_cons <| S1_for hX <| WI_list <| W_call f36 (by exact hr) <| WA_cons <| W_var 0 rfl <| WA_cons <| W_var 1 rfl <| WA_cons <| W_var 4 rfl <| WA_nil ⟨G, mk, here, Q, rfl, hG, hin, _, rfl, ?_⟩
      refine ⟨fun i μ δ => μ = .non ∧ ∃ (F' : Fd) (o5 o6 : Option D), δ = [some (.oT (kvs meD G)), some (intsD mk), some (fdD F'), some (.lst (lineD F' (k + 1))), some (pD here), o5, o6] ∧ F' = ((nexts (lookA G) mk here).take i).foldl (push1 w0) F, ⟨rfl, F, _, _, rfl, rfl⟩, ?_, ?_⟩
      · intro i d μ δ e hp
        obtain ⟨rfl, F', o5, o6, rfl, hF'⟩ := hp
        obtain ⟨x, ex, rfl⟩ := map_get e
        have hxin := hnx x (List.mem_of_getElem? ex)
        have hsub : ∀ y ∈ (nexts (lookA G) mk here).take i, InQ Q mk y.2 := fun y hy => hnx y (List.mem_of_mem_take hy)
        have hok : FdOk Q mk F' := hF' ▸ hF.pushes _ hsub hln
        have hle : F.length ≤ F'.length := hF' ▸ push_len _ F
        have hlen' := hok.len hG hm
        have hlook' : lookA F' here = some w0 := hF' ▸ push_look _ hlook
        have hnext : push1 w0 F' x = ((nexts (lookA G) mk here).take (i + 1)).foldl (push1 w0) F := by
          rw [take_snoc ex, List.foldl_append, ← hF']; rfl
        refine WG_tup hX.calm <| WGs_cons <| WG_name 5 hX.nd <| WGs_cons <| WG_name 6 hX.nd <| WGs_nil ?_
        refine SW_cons <| S1_if <| WT_cmp <| C_notInDT hX <| W_var 6 rfl <| W_var 2 rfl ⟨_, _, pk x.2, rfl, trivial, rfl, ?_⟩
        rw [valD_kvs]
        unfold push1 at hnext
        cases hl : lookA F' x.2 with
        | none =>
          rw [hl] at hnext
          refine ⟨fun _ => ?_, fun z => nm' z⟩
          have hsnoc : w0.map D.int ++ [D.int x.1] = (w0 ++ [x.1]).map D.int := by rw [List.map_append]; rfl
          refine SW_cons <| S1_par 2 3 hX.calm hX.nd <| WA_cons <| W_spT hX rfl 2 rfl (fun kv hkv => ?_) (by unfold kvs; rw [List.length_map]; omega) <| W_var 6 rfl <| W_add <| W_getT hX <| W_var 2 rfl <| W_var 4 rfl ⟨_, _, pk here, intsD w0, rfl, trivial, rfl, by rw [valD_kvs, hlook']; rfl, W_tup <| WA_cons <| W_var 5 rfl <| WA_nil ⟨sm, ?_, pk x.2, rfl, gk_in hG hm hxin, ?_, WA_cons <| W_add <| W_var 3 rfl <| W_lst <| WA_cons <| W_var 6 rfl <| WA_nil ⟨sm, ?_, WA_nil ⟨_, _, rfl, ?_⟩⟩⟩⟩
          · obtain ⟨e, he, rfl⟩ := List.mem_map.mp hkv
            exact gk_in hG hm (hok.inq e he)
          · rw [List.length_map]; show _ + 1 ≤ _; omega
          · rw [hsnoc]; exact pl_ints 4 _
          · unfold lineD; rw [List.length_map, List.length_drop, List.length_map]; show _ + 1 ≤ _; omega
          · rw [hsnoc, show D.tup ((w0 ++ [x.1]).map D.int) = intsD (w0 ++ [x.1]) from rfl, putA_kvs, putA_new hl, ← lineD_snoc (st := w0 ++ [x.1]) (by omega)]
            exact SW_nil (SW_nil ⟨rfl, _, _, _, rfl, hnext⟩)
        | some y =>
          rw [hl] at hnext
          exact ⟨fun z => nm z, fun _ => SW_nil (SW_nil ⟨rfl, F', _, _, rfl, hnext⟩)⟩
      · intro μ δ hp
        obtain ⟨rfl, F', o5, o6, rfl, hF'⟩ := hp
        rw [List.length_map, List.take_length] at hF'
        refine SW_nil ?_
        refine ⟨n, by omega, rfl, F', k + 1, _, _, _, rfl, by omega, hF' ▸ hF.pushes _ hnx hln, ?_, ?_⟩
        · have := push_len (w := w0) (nexts (lookA G) mk here) F
          rw [← hF'] at this; omega
        · rw [← hb, hF']
          conv => rhs; unfold bfsN
          rw [ek]
  · have hnone : F[k]? = none := by
      rw [List.getElem?_eq_none_iff]
      by_cases c : F.length ≤ k
      · exact c
      · rw [decide_eq_false] at z
        · exact nomatch z
        · intro e
          have : lineD F k = [] := by injection e
          have := congrArg List.length this
          unfold lineD at this
          rw [List.length_map, List.length_drop, List.length_map] at this
          simp only [List.length_nil] at this
          omega
    rw [bfsN_end hnone] at hb
    refine SW_cons <| S1_ret <| W_var 2 rfl ?_
    rw [hb]; exact h
end
end K48
/-! The search finds the least stacks -/
namespace K48
open PySem PySem.Spec PyProof.Rows L2
def slt (a b : List Int) : Prop := lexP ((a.length : Int), a) ((b.length : Int), b) = true
theorem slt_iff {a b : List Int} : slt a b ↔ a.length < b.length ∨ (a.length = b.length ∧ HT.lexLt a b = true) := by
  unfold slt lexP
  dsimp only
  by_cases c : (a.length : Int) = (b.length : Int)
  · rw [if_pos c]
    have : a.length = b.length := by omega
    exact ⟨fun h => .inr ⟨this, h⟩, fun h => h.elim (fun h => by omega) (·.2)⟩
  · rw [if_neg c, decide_eq_true_eq]
    exact ⟨fun h => .inl (by omega), fun h => h.elim (fun h => by omega) (fun h => by omega)⟩
theorem lex_trans : ∀ {a b c : List Int}, HT.lexLt a b = true → HT.lexLt b c = true → HT.lexLt a c = true
  | [], [], _, h, _ => nomatch h
  | [], _ :: _, [], _, h => nomatch h
  | [], _ :: _, _ :: _, _, _ => rfl
  | _ :: _, [], _, h, _ => nomatch h
  | _ :: _, _ :: _, [], _, h => nomatch h
  | x :: a, y :: b, z :: c, h1, h2 => by
    unfold HT.lexLt at h1 h2 ⊢
    by_cases e1 : x = y
    · rw [if_pos e1] at h1
      by_cases e2 : y = z
      · rw [if_pos e2] at h2
        rw [if_pos (e1.trans e2)]; exact lex_trans h1 h2
      · rw [if_neg e2] at h2
        rw [if_neg (e1 ▸ e2), e1]; exact h2
    · rw [if_neg e1, decide_eq_true_eq] at h1
      by_cases e2 : y = z
      · rw [if_neg (e2 ▸ e1), ← e2, decide_eq_true_eq]; exact h1
      · rw [if_neg e2, decide_eq_true_eq] at h2
        rw [if_neg (by omega), decide_eq_true_eq]; omega
theorem slt_trans {a b c : List Int} (h1 : slt a b) (h2 : slt b c) : slt a c := by
  rw [slt_iff] at *
  rcases h1 with h1 | ⟨h1, h1'⟩
  · rcases h2 with h2 | ⟨h2, h2'⟩
    · exact .inl (by omega)
    · exact .inl (by omega)
  · rcases h2 with h2 | ⟨h2, h2'⟩
    · exact .inl (by omega)
    · exact .inr ⟨by omega, lex_trans h1' h2'⟩
theorem slt_irrefl (a : List Int) : ¬ slt a a := fun h => by
  rw [slt_iff] at h
  rcases h with h | ⟨_, h⟩
  · omega
  · rw [lexLt_irrefl] at h; cases h
theorem lex_snoc : ∀ {a b : List Int} (x y : Int), a.length = b.length → HT.lexLt a b = true → HT.lexLt (a ++ [x]) (b ++ [y]) = true
  | [], [], _, _, _, h => nomatch h
  | [], _ :: _, _, _, h, _ => nomatch h
  | _ :: _, [], _, _, h, _ => nomatch h
  | p :: a, q :: b, x, y, hl, h => by
    show (if p = q then HT.lexLt (a ++ [x]) (b ++ [y]) else decide (p < q)) = true
    unfold HT.lexLt at h
    by_cases e : p = q
    · rw [if_pos e] at h ⊢; exact lex_snoc x y (by simpa using hl) h
    · rw [if_neg e] at h ⊢; exact h
theorem lex_snoc2 (x y : Int) (h : x < y) : ∀ a : List Int, HT.lexLt (a ++ [x]) (a ++ [y]) = true
  | [] => by
    show (if x = y then HT.lexLt [] [] else decide (x < y)) = true
    rw [if_neg (by omega), decide_eq_true_eq]; exact h
  | p :: a => by
    show (if p = p then HT.lexLt (a ++ [x]) (a ++ [y]) else decide (p < p)) = true
    rw [if_pos rfl]; exact lex_snoc2 x y h a
theorem slt_snoc {a b : List Int} (x y : Int) (h : slt a b) : slt (a ++ [x]) (b ++ [y]) := by
  rw [slt_iff] at *
  simp only [List.length_append, List.length_singleton]
  rcases h with h | ⟨h, h'⟩
  · exact .inl (by omega)
  · exact .inr ⟨by omega, lex_snoc x y h h'⟩
theorem slt_snoc2 {a : List Int} {x y : Int} (h : x < y) : slt (a ++ [x]) (a ++ [y]) := slt_iff.mpr (.inr ⟨by simp, lex_snoc2 x y h a⟩)
theorem slt_nil (a : List Int) (x : Int) : slt [] (a ++ [x]) := slt_iff.mpr (.inl (by simp))
/-- at most -/
def sle (a b : List Int) : Prop := a = b ∨ slt a b
theorem sle_trans {a b c : List Int} (h1 : sle a b) (h2 : sle b c) : sle a c := by
  rcases h1 with rfl | h1
  · exact h2
  · rcases h2 with rfl | h2
    · exact .inr h1
    · exact .inr (slt_trans h1 h2)
theorem sle_snoc {a b : List Int} (x : Int) (h : sle a b) : sle (a ++ [x]) (b ++ [x]) := h.imp (fun e => by rw [e]) (slt_snoc x x)

def runS (f : PI2 → Option ME) (mk : List Int) : PI2 → List Int → Option PI2
  | t, [] => some t
  | t, s :: u => match stp f mk t s with
    | none => none
    | some t' => runS f mk t' u
section
variable {f : PI2 → Option ME} {mk : List Int} {Q : List Int} {F : Fd} {k : Nat} {here t : PI2} {w : List Int}
theorem runS_snoc (s : Int) : ∀ (u : List Int) (t : PI2), runS f mk t (u ++ [s]) = (runS f mk t u).bind fun t' => stp f mk t' s
  | [], t => by
    show (match stp f mk t s with | none => none | some t' => some t') = stp f mk t s
    cases stp f mk t s <;> rfl
  | a :: u, t => by
    show (match stp f mk t a with | none => none | some t' => runS f mk t' (u ++ [s])) = (match stp f mk t a with | none => none | some t' => runS f mk t' u).bind _
    cases stp f mk t a with
    | none => rfl
    | some t' => exact runS_snoc s u t'
def cnt (F : Fd) : Nat := (F.filter fun e => decide (e.1.1 ≠ -1)).length
theorem cnt_app (F G : Fd) : cnt (F ++ G) = cnt F + cnt G := by unfold cnt; rw [List.filter_append, List.length_append]
/-- done before k, and at k the sorts below s -/
structure BI (f : PI2 → Option ME) (mk : List Int) (F : Fd) (k : Nat) (s : Int) : Prop where
  srt : F.Pairwise fun a b => slt a.2 b.2
  run : ∀ e ∈ F, runS f mk (0, 0) e.2 = some e.1
  z : ((0, 0), []) ∈ F
  par : ∀ e ∈ F, e.2 = [] ∨ ∃ i p s', F[i]? = some p ∧ e.2 = p.2 ++ [s'] ∧ (i < k ∨ (i = k ∧ s' < s))
  cl : ∀ i p s' t, F[i]? = some p → (s' = 0 ∨ s' = 1 ∨ s' = 2) → (i < k ∨ (i = k ∧ s' < s)) → stp f mk p.1 s' = some t → ∃ e ∈ F, e.1 = t ∧ sle e.2 (p.2 ++ [s'])
  ln : ∀ j e, F[j]? = some e → e.2.length ≤ cnt (F.take j)
  sr : ∀ e ∈ F, ∀ x ∈ e.2, 0 ≤ x ∧ x ≤ 2
theorem pw_at {F : Fd} (h : F.Pairwise fun a b => slt a.2 b.2) {i j : Nat} {a b : PI2 × List Int} (hi : F[i]? = some a) (hj : F[j]? = some b) (hij : i < j) : slt a.2 b.2 := by
  obtain ⟨h1, rfl⟩ := List.getElem?_eq_some_iff.mp hi
  obtain ⟨h2, rfl⟩ := List.getElem?_eq_some_iff.mp hj
  exact List.pairwise_iff_getElem.mp h i j h1 h2 hij
theorem BI.below {s : Int} (h : BI f mk F k s) (hk : F[k]? = some (here, w)) : ∀ e ∈ F, slt e.2 (w ++ [s]) := fun e he => by
  rcases h.par e he with h1 | ⟨i, p, s', h1, h2, h3 | ⟨rfl, h3⟩⟩
  · rw [h1]; exact slt_nil _ _
  · rw [h2]; exact slt_snoc _ _ (pw_at h.srt h1 hk h3)
  · rw [hk] at h1; cases h1
    rw [h2]; exact slt_snoc2 h3
theorem BI.skip {s : Int} (h : BI f mk F k s) (hk : F[k]? = some (here, w)) (c : ∀ t, stp f mk here s = some t → ∃ e ∈ F, e.1 = t ∧ sle e.2 (w ++ [s])) : BI f mk F k (s + 1) :=
  ⟨h.srt, h.run, h.z, fun e he => (h.par e he).imp id fun ⟨i, p, s', h1, h2, h3⟩ => ⟨i, p, s', h1, h2, h3.imp id fun h4 => ⟨h4.1, by omega⟩⟩, fun i p s' t h1 h2 h3 h4 => by
    by_cases c2 : i < k ∨ (i = k ∧ s' < s)
    · exact h.cl i p s' t h1 h2 c2 h4
    · obtain ⟨rfl, h5⟩ : i = k ∧ s' = s := by omega
      rw [hk] at h1; cases h1; cases h5
      exact c t h4, h.ln, h.sr⟩
theorem BI.push {s : Int} (h : BI f mk F k s) (hk : F[k]? = some (here, w)) (hs : s = 0 ∨ s = 1 ∨ s = 2) (hq : TmOk f Q) (ht : stp f mk here s = some t) : BI f mk (push1 w F (s, t)) k (s + 1) := by
  have hkm := List.mem_of_getElem? hk
  have hkl := (List.getElem?_eq_some_iff.mp hk).1
  unfold push1
  cases hl : lookA F (s, t).2 with
  | some y =>
    refine h.skip hk fun t' ht' => ?_
    rw [ht] at ht'; cases ht'
    exact ⟨_, lookA_inm hl, rfl, .inr (h.below hk _ (lookA_inm hl))⟩
  | none =>
    have old : ∀ {i : Nat} {p}, i < F.length → (F ++ [(t, w ++ [s])])[i]? = some p → F[i]? = some p := fun hi e => by
      rw [List.getElem?_append_left hi] at e; exact e
    have new : ∀ {i : Nat} {p}, F[i]? = some p → (F ++ [(t, w ++ [s])])[i]? = some p := fun e => by
      rw [List.getElem?_append_left (List.getElem?_eq_some_iff.mp e).1]; exact e
    refine ⟨?_, fun e he => ?_, List.mem_append_left _ h.z, fun e he => ?_, fun i p s' t' h1 h2 h3 h4 => ?_, fun j e hj => ?_, fun e he => ?_⟩
    · refine List.pairwise_append.mpr ⟨h.srt, List.pairwise_singleton _ _, fun a ha b hb => ?_⟩
      rw [List.mem_singleton.mp hb]; exact h.below hk a ha
    · rcases List.mem_append.mp he with h1 | h1
      · exact h.run e h1
      · rw [List.mem_singleton.mp h1]
        show runS f mk (0, 0) (w ++ [s]) = some t
        rw [runS_snoc, h.run _ hkm]; exact ht
    · rcases List.mem_append.mp he with h1 | h1
      · exact (h.par e h1).imp id fun ⟨i, p, s', h1, h2, h3⟩ => ⟨i, p, s', new h1, h2, h3.imp id fun h4 => ⟨h4.1, by omega⟩⟩
      · rw [List.mem_singleton.mp h1]
        exact .inr ⟨k, _, s, new hk, rfl, .inr ⟨rfl, by omega⟩⟩
    · have hi : i < F.length := by omega
      have h1 := old hi h1
      by_cases c2 : i < k ∨ (i = k ∧ s' < s)
      · obtain ⟨e, he, h5⟩ := h.cl i p s' t' h1 h2 c2 h4
        exact ⟨e, List.mem_append_left _ he, h5⟩
      · obtain ⟨rfl, h5⟩ : i = k ∧ s' = s := by omega
        rw [hk] at h1; cases h1; cases h5
        rw [ht] at h4; cases h4
        exact ⟨_, List.mem_append_right _ (List.mem_singleton.mpr rfl), rfl, .inl rfl⟩
    · by_cases c : j < F.length
      · rw [List.take_append_of_le_length (by omega)]
        exact h.ln j e (old c hj)
      · have hj' : j = F.length := by
          have := (List.getElem?_eq_some_iff.mp hj).1
          rw [List.length_append, List.length_singleton] at this; omega
        subst hj'
        rw [List.getElem?_concat_length] at hj
        cases hj
        rw [List.take_append_of_le_length (Nat.le_refl _), List.take_length, List.length_append, List.length_singleton]
        have h1 := h.ln k _ hk
        dsimp only at h1
        have hnr : here.1 ≠ -1 := fun e => by
          have e2 := hq.rest s (by omega) (by omega)
          unfold stp at ht
          rw [e, e2] at ht
          dsimp only at ht
          rw [if_pos (by simp)] at ht
          cases ht
          have h6 : here = (-1, here.2 + (([] : List Int).length : Int)) := Prod.ext e (by simp)
          rw [← h6] at hl
          exact lookA_none.mp hl (List.mem_map.mpr ⟨_, hkm, rfl⟩)
        have h2 : F = F.take k ++ (here, w) :: F.drop (k + 1) := by
          rw [← drop_step hk, List.take_append_drop]
        have h3 := congrArg cnt h2
        rw [cnt_app] at h3
        have h4 : cnt ((here, w) :: F.drop (k + 1)) = 1 + cnt (F.drop (k + 1)) := by
          unfold cnt
          rw [List.filter_cons_of_pos (by simpa using hnr), List.length_cons]; omega
        omega
    · rcases List.mem_append.mp he with h1 | h1
      · exact h.sr e h1
      · rw [List.mem_singleton.mp h1]
        intro x hx
        rcases List.mem_append.mp hx with h2 | h2
        · exact h.sr _ hkm x h2
        · rw [List.mem_singleton.mp h2]; omega
theorem BI.next (h : BI f mk F k 3) : BI f mk F (k + 1) 0 :=
  ⟨h.srt, h.run, h.z, fun e he => (h.par e he).imp id fun ⟨i, p, s', h1, h2, h3⟩ => ⟨i, p, s', h1, h2, .inl (by omega)⟩, fun i p s' t h1 h2 h3 h4 => h.cl i p s' t h1 h2 (by omega) h4, h.ln, h.sr⟩
def step1 (f : PI2 → Option ME) (mk : List Int) (here : PI2) (w : List Int) (F : Fd) (s : Int) : Fd := match stp f mk here s with
  | none => F
  | some t => push1 w F (s, t)
theorem nexts_fold (F : Fd) : (nexts f mk here).foldl (push1 w) F = step1 f mk here w (step1 f mk here w (step1 f mk here w F 0) 1) 2 := by
  unfold nexts step1
  simp only [List.filterMap_cons, List.filterMap_nil]
  cases stp f mk here 0 <;> cases stp f mk here 1 <;> cases stp f mk here 2 <;> rfl
theorem step1_get {s : Int} {x : PI2 × List Int} (hk : F[k]? = some x) : (step1 f mk here w F s)[k]? = some x := by
  unfold step1
  cases stp f mk here s with
  | none => exact hk
  | some t =>
    dsimp only
    unfold push1
    cases lookA F (s, t).2 with
    | some _ => exact hk
    | none => rw [List.getElem?_append_left (List.getElem?_eq_some_iff.mp hk).1]; exact hk
theorem BI.step {s : Int} (h : BI f mk F k s) (hk : F[k]? = some (here, w)) (hs : s = 0 ∨ s = 1 ∨ s = 2) (hq : TmOk f Q) : BI f mk (step1 f mk here w F s) k (s + 1) := by
  unfold step1
  cases e : stp f mk here s with
  | none => exact h.skip hk fun t ht => by rw [e] at ht; cases ht
  | some t => exact h.push hk hs hq e
theorem bfs_bi (hq : TmOk f Q) (hm : mk.length ≤ 9) : ∀ (n : Nat) (F : Fd) (k : Nat), FdOk Q mk F → BI f mk F k 0 → n + k = 71 → ∃ k', BI f mk (bfsN f mk n F k) k' 0 ∧ (bfsN f mk n F k)[k']? = none
  | 0, F, k, hF, h, hn => ⟨k, h, List.getElem?_eq_none_iff.mpr (by have := hF.len hq hm; show F.length ≤ k; omega)⟩
  | n + 1, F, k, hF, h, hn => by
    unfold bfsN
    cases e : F[k]? with
    | none => exact ⟨k, h, e⟩
    | some x =>
      obtain ⟨here, w⟩ := x
      have hx := List.mem_of_getElem? e
      refine bfs_bi hq hm n _ _ (hF.pushes _ (fun y hy => stp_in hq (hF.inq _ hx) (nexts_mem.mp hy).2 (by have := (nexts_mem.mp hy).1; omega) (by have := (nexts_mem.mp hy).1; omega)) (hF.ln _ hx)) ?_ (by omega)
      dsimp only
      rw [nexts_fold]
      have e1 := step1_get (f := f) (mk := mk) (here := here) (w := w) (s := 0) e
      have e2 := step1_get (f := f) (mk := mk) (here := here) (w := w) (s := 1) e1
      exact BI.next (((h.step e (.inl rfl) hq).step e1 (.inr (.inl rfl)) hq).step e2 (.inr (.inr rfl)) hq)
theorem BI.start : BI f mk [((0, 0), [])] 0 0 := by
  refine ⟨List.pairwise_singleton _ _, fun e he => by rw [List.mem_singleton.mp he]; rfl, List.mem_singleton.mpr rfl, fun e he => .inl (by rw [List.mem_singleton.mp he]), fun i p s' t h1 h2 h3 => by omega, fun j e hj => ?_, fun e he x hx => by rw [List.mem_singleton.mp he] at hx; cases hx⟩
  rw [List.mem_singleton.mp (List.mem_of_getElem? hj)]; exact Nat.zero_le _
/-- all that is reached, each by its least stack -/
structure Least (f : PI2 → Option ME) (mk : List Int) (F : Fd) : Prop where
  srt : F.Pairwise fun a b => slt a.2 b.2
  run : ∀ e ∈ F, runS f mk (0, 0) e.2 = some e.1
  all : ∀ u t, (∀ x ∈ u, 0 ≤ x ∧ x ≤ 2) → runS f mk (0, 0) u = some t → ∃ e ∈ F, e.1 = t ∧ sle e.2 u
  ln : ∀ e ∈ F, e.2.length ≤ 60
  sr : ∀ e ∈ F, ∀ x ∈ e.2, 0 ≤ x ∧ x ≤ 2
theorem bfs_least (hq : TmOk f Q) (hm : mk.length ≤ 9) : Least f mk (bfs f mk) := by
  obtain ⟨k, h, hk⟩ := bfs_bi hq hm 71 [((0, 0), [])] 0 (FdOk.start hq) BI.start rfl
  have hF : FdOk Q mk (bfs f mk) := bfs_ok hq 71 _ 0 (FdOk.start hq)
  rw [show bfsN f mk 71 [((0, 0), [])] 0 = bfs f mk from rfl] at h hk
  have hk := List.getElem?_eq_none_iff.mp hk
  refine ⟨h.srt, h.run, ?_, fun e he => ?_, h.sr⟩
  · intro u
    generalize hn : u.length = n
    induction n generalizing u with
    | zero =>
      intro t _ hr
      cases u with
      | nil => cases hr; exact ⟨_, h.z, rfl, .inl rfl⟩
      | cons a u => cases hn
    | succ n ih =>
      intro t hu hr
      obtain ⟨v, s, rfl⟩ : ∃ v s, u = v ++ [s] := ⟨u.dropLast, u.getLast (by intro z; rw [z] at hn; cases hn), (List.dropLast_concat_getLast _).symm⟩
      rw [List.length_append, List.length_singleton] at hn
      rw [runS_snoc] at hr
      cases hv : runS f mk (0, 0) v with
      | none => rw [hv] at hr; cases hr
      | some t1 =>
        rw [hv] at hr
        obtain ⟨p, hp, rfl, hle⟩ := ih v (by omega) t1 (fun x hx => hu x (List.mem_append_left _ hx)) hv
        obtain ⟨i, hi⟩ := List.mem_iff_getElem?.mp hp
        have hil := (List.getElem?_eq_some_iff.mp hi).1
        have hs := hu s (by simp)
        obtain ⟨e, he, h1, h2⟩ := h.cl i p s t hi (by omega) (.inl (by omega)) hr
        exact ⟨e, he, h1, sle_trans h2 (sle_snoc s hle)⟩
  · obtain ⟨j, hj⟩ := List.mem_iff_getElem?.mp he
    refine Nat.le_trans (h.ln j e hj) ?_
    have h1 : cnt ((bfs f mk).take j) ≤ cnt (bfs f mk) := by
      have := cnt_app ((bfs f mk).take j) ((bfs f mk).drop j)
      rw [List.take_append_drop] at this; omega
    refine Nat.le_trans h1 ?_
    have h2 := nd_len (((bfs f mk).filter fun e => decide (e.1.1 ≠ -1)).map Prod.fst) ((List.range 6).flatMap fun (a : Nat) => (List.range 10).map fun (b : Nat) => ((a : Int), (b : Int))) (hF.nd.sublist (List.Sublist.map _ List.filter_sublist)) fun p hp => by
      obtain ⟨e, he, rfl⟩ := List.mem_map.mp hp
      obtain ⟨he, hne⟩ := List.mem_filter.mp he
      obtain ⟨q1, q2, q3⟩ := hF.inq e he
      have q4 := hq.rng _ q1
      have hne : e.1.1 ≠ -1 := by simpa using hne
      exact List.mem_flatMap.mpr ⟨e.1.1.toNat, List.mem_range.mpr (by omega), List.mem_map.mpr ⟨e.1.2.toNat, List.mem_range.mpr (by omega), Prod.ext (by dsimp only; omega) (by dsimp only; omega)⟩⟩
    rw [List.length_map] at h2
    exact Nat.le_trans h2 (by decide +kernel)
/-- the stack that is handed: the least of all -/
theorem hand_some (h : Least f mk (bfs f mk)) {st : List Int} (e : hand f mk = some st) : (∃ t, runS f mk (0, 0) st = some t ∧ hit f mk t = true) ∧ st.length ≤ 60 ∧ (∀ x ∈ st, 0 ≤ x ∧ x ≤ 2) ∧ ∀ u t, (∀ x ∈ u, 0 ≤ x ∧ x ≤ 2) → runS f mk (0, 0) u = some t → hit f mk t = true → sle st u := by
  unfold hand at e
  cases h1 : (bfs f mk).find? fun e => hit f mk e.1 with
  | none => rw [h1] at e; cases e
  | some x =>
    rw [h1] at e; cases e
    obtain ⟨h2, as, bs, h3, h4⟩ := List.find?_eq_some_iff_append.mp h1
    have hx : x ∈ bfs f mk := by rw [h3]; simp
    refine ⟨⟨_, h.run x hx, h2⟩, h.ln x hx, h.sr x hx, fun u t hu hr ht => ?_⟩
    obtain ⟨e, he, rfl, hle⟩ := h.all u t hu hr
    refine sle_trans ?_ hle
    rw [h3] at he
    rcases List.mem_append.mp he with h5 | h5
    · have := h4 e h5
      rw [ht] at this; cases this
    · rcases List.mem_cons.mp h5 with rfl | h5
      · exact .inl rfl
      · have := h.srt
        rw [h3] at this
        exact .inr ((List.pairwise_cons.mp (List.pairwise_append.mp this).2.1).1 e h5)
theorem hand_none (h : Least f mk (bfs f mk)) (e : hand f mk = none) : ∀ u t, (∀ x ∈ u, 0 ≤ x ∧ x ≤ 2) → runS f mk (0, 0) u = some t → hit f mk t = false := fun u t hu hr => by
  unfold hand at e
  have h1 := List.find?_eq_none.mp (Option.map_eq_none_iff.mp e)
  obtain ⟨x, hx, rfl, _⟩ := h.all u t hu hr
  have := h1 x hx
  simpa using this
end
end K48
set_option maxHeartbeats 1000000
namespace K48
open PySem PySem.Spec PyProof.Rows L2
theorem wt_look {r : Rt} {T : Tb} {L ms : List Int} (hR : OkRt r) (hT : TabOk r T) (hs : Srt T L ms) {p s : Int} {x : Row} (hp : p ∈ ms) (h0 : 0 ≤ s) (h1 : s < 4) (e : lookA T (p, s) = some x) : lookA (wt T ms) (p, s) = some (x.2.2.1, x.1) := by
  refine lookA_mem (wt_nodup hs.nd fun h => by have := (led_in hR hT hs.led h).1; omega) ?_
  unfold wt
  refine List.mem_append_left _ (List.mem_map.mpr ⟨((p, s), x), ?_, rfl⟩)
  unfold wrows
  exact List.mem_flatMap.mpr ⟨p, hp, List.mem_map.mpr ⟨(p, s), four_mem.mpr ⟨rfl, h0, h1⟩, wr_some e⟩⟩
theorem wt_rest {r : Rt} {T : Tb} {L ms : List Int} (hR : OkRt r) (hT : TabOk r T) (hs : Srt T L ms) {s : Int} (h0 : 0 ≤ s) (h1 : s < 4) : lookA (wt T ms) (-1, s) = some ([], -1) := by
  refine lookA_mem (wt_nodup hs.nd fun h => by have := (led_in hR hT hs.led h).1; omega) ?_
  unfold wt
  exact List.mem_append_right _ (List.mem_map.mpr ⟨(-1, s), four_mem.mpr ⟨rfl, h0, h1⟩, rfl⟩)
theorem wt_ok {r : Rt} {T : Tb} {L ms : List Int} (hR : OkRt r) (hT : TabOk r T) (hF : Few T) (hs : Srt T L ms) : TmOk (lookA (wt T ms)) (-1 :: ms) := by
  refine ⟨List.mem_cons_of_mem _ hs.led.zero, fun p hp => ?_, fun p hp s h0 h1 => ?_, fun s h0 h1 => wt_rest hR hT hs h0 h1⟩
  · rcases List.mem_cons.mp hp with rfl | hp
    · decide
    · have := led_in hR hT hs.led hp; omega
  · rcases List.mem_cons.mp hp with rfl | hp
    · exact ⟨_, wt_rest hR hT hs h0 h1, List.mem_cons_self, Nat.zero_le _⟩
    · obtain ⟨x, e, h2⟩ := hs.led.all p hp s h0 h1
      exact ⟨_, wt_look hR hT hs hp h0 h1 e, List.mem_cons.mpr h2, hF _ _ e⟩
section
variable {P : Program} {w : World} {K : PySem.W.Frag} {mg : Str → Option Value} {base : Heap}
theorem sc39 : FnScope ["table", "marks", "found", "hits", "here"] ["table", "marks"] (defScope (topS 39)) := ⟨rfl, rfl, rfl, by decide +kernel, rfl, by decide +kernel, by decide +kernel⟩
def handD : Option (List Int) → D
  | some st => intsD st
  | none => .non
def cLeastHanding : List D → (D → Prop) → Prop := fun ds R => ∃ (G : Tm) (mk : List Int) (Q : List Int), ds = [.oT (kvs meD G), intsD mk] ∧ TmOk (lookA G) Q ∧ mk.length ≤ 9 ∧ R (handD (hand (lookA G) mk))
def lst2 (e : PI2 × List Int) : PT2 := ((e.2.length : Int), e.2)
theorem pl_ptD (n : Nat) (p : PT2) : Pl (n + 2) (ptD p) := fun d hd => by
  simp only [List.mem_cons, List.not_mem_nil, or_false] at hd
  rcases hd with rfl | rfl
  · trivial
  · exact pl_ints n _
theorem tu_ptD (n : Nat) (p : PT2) : Tu (n + 2) (ptD p) := fun d hd => by
  simp only [List.mem_cons, List.not_mem_nil, or_false] at hd
  rcases hd with rfl | rfl
  · trivial
  · exact tu_ints n _
theorem ok_least_handing (T : Txt mg) (a : At K mg "least_handing" (topS 39) ["table", "marks"]) (f37 : DefOk P w K mg base "is_hit" 1 (spD cIsHit)) (f38 : DefOk P w K mg base "reached_with" 2 (spD cReached)) : DefOk P w K mg base "least_handing" 3 (spD cLeastHanding) := by
  refine a.ok sc39 (fun ds R h => by obtain ⟨_, _, _, rfl, _⟩ := h; rfl) fun f cdv A outer s H E m ds R hr hX h => ?_
  obtain ⟨G, mk, Q, rfl, hG, hm, h⟩ := h
  refine SW_cons <| S1_set 2 hX.nd <| W_call f38 (by exact hr) <| WA_cons <| W_var 0 rfl <| WA_cons <| W_var 1 rfl <| WA_nil ⟨G, mk, Q, rfl, hG, hm, ?_⟩
  have hL := bfs_least hG hm
  have hFd : FdOk Q mk (bfs (lookA G) mk) := bfs_ok hG 71 _ 0 (FdOk.start hG)
  have hh : hand (lookA G) mk = (((bfs (lookA G) mk).filter fun e => hit (lookA G) mk e.1).head?).map (·.2) := by unfold hand; rw [List.head?_filter]
  generalize hFF : bfs (lookA G) mk = F at hL hFd hh ⊢
  have hlen := hFd.len hG hm
  refine SW_cons <| S1_set 3 hX.nd <| W_sortedPT hX T.sorted <| W_lcKIf (own := [("here", 4)]) (g := gName 4) (fun d δ => δ.set 4 (some d)) hX rfl (blkOk_by (by rfl)) (fun s H C cl fp => pg_name (i := 4) (by exact hX.nd) rfl (.inl rfl) (.inr rfl)) 2 (kvs := kvs intsD F) rfl fun H0 => ?_
  refine ⟨fun n acc => acc = ((F.take n).filter fun e => hit (lookA G) mk e.1).map fun e => ptD (lst2 e), rfl, fun n k v acc e pv => ?_, fun acc pv _ => ?_⟩
  · subst pv
    obtain ⟨y, ey, e2⟩ := map_get e
    cases e2
    have hmem := List.mem_of_getElem? ey
    refine ⟨?_, tgt_name, fun s H1 C cl fp => ?_⟩
    · have := List.length_filter_le (fun (e : PI2 × List Int) => hit (lookA G) mk e.1) (F.take n)
      rw [List.length_take] at this
      rw [List.length_map]; omega
    refine WT_val <| W_call f37 (hr.mono (by decide)) <| WA_cons <| W_var 0 rfl <| WA_cons <| W_var 1 rfl <| WA_cons <| W_var 4 rfl <| WA_nil ⟨G, mk, y.1, Q, rfl, hG, hFd.inq _ hmem, _, rfl, fun z => ?_, fun z => ?_⟩
    · intro s H1 C cl fp
      have hl : lookA F y.1 = some y.2 := lookA_mem hFd.nd hmem
      refine W_tup <| WA_cons <| W_len T.len <| W_getT hX.blk <| W_var 2 rfl <| W_var 4 rfl ⟨_, _, pk y.1, intsD y.2, rfl, trivial, rfl, by rw [valD_kvs, hl]; rfl, ?_⟩
      refine WA_cons <| W_getT hX.blk <| W_var 2 rfl <| W_var 4 rfl ⟨_, _, pk y.1, intsD y.2, rfl, trivial, rfl, by rw [valD_kvs, hl]; rfl, WA_nil ⟨sm, ?_, ?_⟩⟩
      · rw [List.length_map]; exact tu_ptD 3 (lst2 y)
      · show _ = _
        rw [take_snoc ey, List.filter_append, show [y].filter (fun e => hit (lookA G) mk e.1) = [y] from List.filter_cons_of_pos z, List.map_append, List.length_map]; rfl
    · show _ = _
      rw [take_snoc ey, List.filter_append, show [y].filter (fun e => hit (lookA G) mk e.1) = [] from List.filter_cons_of_neg (by rw [z]; decide), List.append_nil]
  · subst pv
    rw [show (kvs intsD F).length = F.length by unfold kvs; rw [List.length_map], List.take_length]
    refine ⟨((F.filter fun e => hit (lookA G) mk e.1).map lst2), by rw [List.map_map]; rfl, fun qs hp hs => ?_⟩
    have hsrt := hL.srt.sublist (List.filter_sublist (p := fun e => hit (lookA G) mk e.1))
    cases hFl : F.filter fun e => hit (lookA G) mk e.1 with
    | nil =>
      rw [hFl] at hp hh
      rw [hp.eq_nil]
      refine SW_cons <| S1_ret <| W_ifexp <| WT_cmp <| C_ne hX <| W_var 3 rfl <| W_lst <| WA_nil ⟨sm, fun _ h => (by cases h), fun _ h => (by cases h), fun z => ?_, fun _ => W_non ?_⟩
      · rw [decide_eq_true (show D.lst (List.map ptD []) = .lst [] from rfl)] at z; exact nomatch z
      · rw [hh] at h; exact h
    | cons x rest =>
      rw [hFl] at hp hh hsrt
      cases qs with
      | nil => have := hp.length_eq; cases this
      | cons q qs =>
        have hq : q = lst2 x := by
          have h1 : q ∈ (x :: rest).map lst2 := hp.mem_iff.mp List.mem_cons_self
          obtain ⟨y, hy, rfl⟩ := List.mem_map.mp h1
          have h2 : lst2 x ∈ lst2 y :: qs := hp.mem_iff.mpr (by simp)
          rcases List.mem_cons.mp hy with rfl | hy
          · rfl
          · have h3 : lexP (lst2 x) (lst2 y) = true := (List.pairwise_cons.mp hsrt).1 y hy
            rcases List.mem_cons.mp h2 with h4 | h4
            · exact h4.symm
            · have h5 := (List.pairwise_cons.mp hs).1 _ h4
              rw [h3] at h5; cases h5
        subst hq
        refine SW_cons <| S1_ret <| W_ifexp <| WT_cmp <| C_ne hX <| W_var 3 rfl <| W_lst <| WA_nil ⟨sm, fun d hd => ?_, fun _ h => (by cases h), fun _ => ?_, fun z => ?_⟩
        · obtain ⟨p, _, rfl⟩ := List.mem_map.mp hd
          exact pl_ptD 3 p
        · refine W_itT <| W_itL <| W_var 3 rfl <| W_int ⟨_, 0, ptD (lst2 x), rfl, rfl, atD_nat (j := 0) rfl, W_int ⟨_, 1, intsD x.2, rfl, rfl, atD_nat (j := 1) rfl, ?_⟩⟩
          rw [hh] at h; exact h
        · rw [decide_eq_false (by intro e; injection e with e; cases e)] at z; exact nomatch z
theorem sc41 : FnScope ["routine", "marks"] ["routine", "marks"] (defScope (topS 41)) := ⟨rfl, rfl, rfl, by decide +kernel, rfl, by decide +kernel, by decide +kernel⟩
def cHandingStack : List D → (D → Prop) → Prop := fun ds R => ∃ (r : Rt) (T : Tb) (L mk : List Int), ds = [rtD r, intsD mk] ∧ OkRt r ∧ TabOk r T ∧ LedOk T L ∧ Few T ∧ mk.length ≤ 9 ∧ (∀ x ∈ mk, 0 ≤ x ∧ x ≤ 2) ∧ ∀ ms, Srt T L ms → R (handD (hand (lookA (wt T ms)) mk))
theorem ok_handing_stack (T : Txt mg) (a : At K mg "handing_stack" (topS 41) ["routine", "marks"]) (f21 : DefOk P w K mg base "need_routine" 5 (spD cNeedRt)) (f29 : DefOk P w K mg base "need_rest" 5 (spD cLeastEndless)) (f33 : DefOk P w K mg base "need_marks" 3 (spD cNeedMk)) (f35 : DefOk P w K mg base "walk_table" 5 (spD cWalkTable)) (f39 : DefOk P w K mg base "least_handing" 3 (spD cLeastHanding)) : DefOk P w K mg base "handing_stack" 6 (spD cHandingStack) := by
  refine a.ok sc41 (fun ds R h => by obtain ⟨_, _, _, _, rfl, _⟩ := h; rfl) fun f cdv A outer s H E m ds R hr hX h => ?_
  obtain ⟨r, TT, L, mk, rfl, hR, hT, hL, hF, hm, hmi, h⟩ := h
  refine SW_cons <| S1_expr <| W_call f21 (by exact hr) <| WA_cons <| W_var 0 rfl <| WA_nil ⟨r, rfl, hR, ?_⟩
  refine SW_cons <| S1_expr <| W_call f33 (hr.mono (by decide)) <| WA_cons <| W_var 1 rfl <| WA_nil ⟨mk, rfl, hm, hmi, ?_⟩
  refine SW_cons <| S1_expr <| W_call f29 (by exact hr) <| WA_cons <| W_var 0 rfl <| WA_nil ⟨r, TT, L, rfl, hR, hT, hL, ?_⟩
  refine SW_cons <| S1_ret <| W_call f39 (hr.mono (by decide)) <| WA_cons <| W_call f35 (by exact hr) <| WA_cons <| W_var 0 rfl <| WA_nil ⟨r, TT, L, rfl, hR, hT, hL, hF, fun ms hs => WA_cons <| W_var 1 rfl <| WA_nil ⟨_, mk, _, rfl, wt_ok hR hT hF hs, hm, h ms hs⟩⟩
end
end K48
set_option maxHeartbeats 1000000
/-! Numbers, and the cup that is rolled -/
namespace K48
open PySem PySem.Spec PyProof.Rows L2
section
variable {X : Cx} {I : HI} {μ : D} {δ : De} {a b e : Expr} {es : List Expr} {Q : D → Prop} {pos : Pos} {c : Addr}
theorem W_mod (h : W X I μ δ a fun d1 => W X I μ δ b fun d2 => IntD d1 d2 fun i j => 0 < j ∧ Q (.int (i % j))) : W X I μ δ (.BinOp a .Mod b pos) Q := W_opI op_mod h
theorem W_div (h : W X I μ δ a fun d1 => W X I μ δ b fun d2 => IntD d1 d2 fun i j => (0 < j ∧ j < 1073741824) ∧ Q (.int (i / j))) : W X I μ δ (.BinOp a .FloorDiv b pos) Q := W_opI op_fdiv h
theorem W_pow (h : W X I μ δ a fun d1 => W X I μ δ b fun d2 => IntD d1 d2 fun i j => CPow i j ∧ Q (.int (i ^ j.toNat))) : W X I μ δ (.BinOp a .Pow b pos) Q := W_opI op_pow h
theorem W_intOf {p : Pos} (hm : X.mg "int" = none) (h : W X I μ δ a fun d => ∃ i, d = .int i ∧ Q (.int i)) (hg : Gl X "int" := by rfl) (he : starEach [a] X.env = (false, eval a X.env) :: starEach [] X.env := by rfl) : W X I μ δ (.Call (.Name "int" p) [a] [] pos) Q :=
  W_callTy (P := fun ds => ∃ d, ds = [d] ∧ ∃ i, d = .int i ∧ Q (.int i)) call_int1 hm (by decide +kernel) (WA1 (h.mono fun d q => ⟨d, rfl, q⟩) he) (fun ds vs σ H K q r rl k => by
    obtain ⟨d, rfl, i, rfl, q⟩ := q
    obtain ⟨v, rfl, rep⟩ := repl1 rl
    cases rep
    exact .inl ⟨i, rfl, k.int r q⟩) hg (by decide) (by decide) he
theorem W_abs {p : Pos} (hm : X.mg "abs" = none) (h : W X I μ δ a fun d => ∃ i, d = .int i ∧ Q (.int (if i < 0 then -i else i))) (hg : Gl X "abs" := by rfl) (he : starEach [a] X.env = (false, eval a X.env) :: starEach [] X.env := by rfl) : W X I μ δ (.Call (.Name "abs" p) [a] [] pos) Q :=
  W_callB (P := fun ds => ∃ d, ds = [d] ∧ ∃ i, d = .int i ∧ Q (.int (if i < 0 then -i else i))) call_abs hm (by decide +kernel) (WA1 (h.mono fun d q => ⟨d, rfl, q⟩) he) (fun ds vs σ H K q r rl k => by
    obtain ⟨d, rfl, i, rfl, q⟩ := q
    obtain ⟨v, rfl, rep⟩ := repl1 rl
    cases rep
    exact ⟨i, rfl, k.int r q⟩) hg (by decide) (by decide) he
/-- list(the script) -/
theorem W_listS {p : Pos} {s : Addr} {ns : List Int} (hm : X.mg "list" = none) (hcup : I.cup = none) (hs : SqL X.K I.H0 s (ns.map V.int)) (h : W X I μ δ a fun d => d = .adr s ∧ Q (.lst (ns.map D.int))) (hg : Gl X "list" := by rfl) (he : starEach [a] X.env = (false, eval a X.env) :: starEach [] X.env := by rfl) : W X I μ δ (.Call (.Name "list" p) [a] [] pos) Q :=
  W_callTy (P := fun ds => ∃ d, ds = [d] ∧ d = .adr s ∧ Q (.lst (ns.map D.int))) call_list_of hm PyProof.Rows.boot_list (WA1 (h.mono fun d q => ⟨d, rfl, q⟩) he) (fun ds vs σ H K q r rl k => by
    obtain ⟨d, rfl, rfl, q⟩ := q
    obtain ⟨v, rfl, rep⟩ := repl1 rl
    cases rep
    have keep : ∀ o, I.H0 s = some o → H s = some o := fun o e => r.bs.base s o (by rw [hcup]; exact fun z => nomatch z) e
    have hs' : SqL X.K H s (ns.map V.int) := by
      rcases hs with hs | hs
      · refine .inl ?_
        rcases hs with hs | ⟨o, hs⟩
        · exact .inl (keep _ hs)
        · exact .inr ⟨o, keep _ hs⟩
      · exact .inr hs
    have all : ∀ ms : List Int, RepL I.m H (ms.map D.int) (ms.map V.int) := by
      intro ms
      induction ms with
      | nil => trivial
      | cons m ms ih => exact ⟨rfl, ih⟩
    exact ⟨s, ns.map V.int, rfl, .inl hs', fun l hl => k.lst r (all ns) q hl⟩) hg (by decide) (by decide) he
theorem W_cup (hc : I.cup = some c) (h : W X I μ δ a fun d1 => W X I μ δ b fun d2 => d1 = .adr c ∧ ((d2 = .int 0 ∧ ∀ x, 0 ≤ x → Q (.int x)) ∨ (d2 = .int 1 ∧ ∀ y, 0 ≤ y → y < 4294967296 → Q (.int y)))) (hs : PlainIx b := by exact fun _ _ => rfl) : W X I μ δ (.Subscript a b pos) Q := by
  refine W_op (pe_ix ix_list pe_W pe_W hs) h fun d1 d2 v1 v2 σ H K q r rep1 rep2 k => ?_
  obtain ⟨rfl, q⟩ := q
  cases rep1
  obtain ⟨x, y, e, hx, hy, hy2⟩ := r.bs.cupOk c hc
  rcases q with ⟨rfl, q⟩ | ⟨rfl, q⟩
  · cases rep2
    exact ⟨c, _, 0, .int x, rfl, rfl, .inl (.inl e), rfl, k.int r (q x hx)⟩
  · cases rep2
    exact ⟨c, _, 1, .int y, rfl, rfl, .inl (.inl e), rfl, k.int r (q y hy hy2)⟩
theorem WG_cup {n i : Int} {j : Nat} {x : Str} {p1 p2 : Pos} {Q : De → Prop} (hc : I.cup = some c) (h : W X I μ δ (.Name x p1) fun d1 => W X I μ δ (.Constant (.int i) j p2) fun d2 => d1 = .adr c ∧ ((d2 = .int 0 ∧ 0 ≤ n) ∨ (d2 = .int 1 ∧ 0 ≤ n ∧ n < 4294967296)) ∧ Q δ) : WG X I μ δ (.Subscript (.Name x p1) (.Constant (.int i) j p2) pos) (.int n) Q := fun σ H v r rep K k => by
  refine tg_of (pg_sub pe_W pe_W set_list) ?_
  refine h σ H r _ fun d1 v1 H1 r1 x1 rep1 q1 => ?_
  refine q1 σ H1 r1 _ fun d2 v2 H2 r2 x2 rep2 q2 => ?_
  obtain ⟨rfl, q2, q⟩ := q2
  cases rep1
  cases rep
  obtain ⟨x, y, e, hx, hy, hy2⟩ := r2.bs.cupOk c hc
  have fin : ∀ xs : List V, CupAt c (upd H2 c (.lst xs)) → K σ (upd H2 c (.lst xs)) := fun xs hk => by
    obtain ⟨r3, x3⟩ := r2.cup hc (fun a o n e => by rw [upd_ne n]; exact e) hk
    exact k δ σ _ r3 ((x1.trans x2).trans x3) q
  rcases q2 with ⟨rfl, h1⟩ | ⟨rfl, h1, h2⟩
  · cases rep2
    exact ⟨c, _, 0, 0, rfl, rfl, e, rfl, fin _ ⟨n, y, upd_same, h1, hy, hy2⟩⟩
  · cases rep2
    exact ⟨c, _, 1, 1, rfl, rfl, e, rfl, fin _ ⟨x, n, upd_same, hx, h1, h2⟩⟩
end
section
variable {P : Program} {w : World} {K : PySem.W.Frag} {mg : Str → Option Value} {base : Heap}
theorem sc44 : FnScope ["_law_cup_here", "_law_many", "_law_found", "_law_deep"] ["_law_cup_here", "_law_many"] (defScope (topS 44)) := ⟨rfl, rfl, rfl, by decide +kernel, rfl, by decide +kernel, by decide +kernel⟩
def cRoll : List D → (D → Prop) → Prop := fun ds R => ∃ n : Int, ds = [.int n] ∧ 0 < n ∧ n < 1000 ∧ ∀ v : Int, 0 ≤ v → v < n → R (.int v)
theorem ok_roll (T : Txt mg) (a : At K mg "_law_roll" (topS 44) ["_law_cup_here", "_law_many"]) : DefOk P w K mg base "_law_roll" 1 (spC cRoll) := by
  refine a.okC sc44 (fun ds R h => by obtain ⟨_, rfl, _⟩ := h; rfl) fun f cdv A outer s H E m c ds R hr hX h => ?_
  obtain ⟨n, rfl, h0, h1, h⟩ := h
  refine SW_cons <| S1_if <| WT_cmp <| C_gt <| W_cup rfl <| W_var 0 rfl <| W_int ⟨rfl, .inl ⟨rfl, fun x hx => W_int ⟨fun _ => ?_, fun _ => SW_nil ?_⟩⟩⟩
  · refine SW_cons <| S1_set 2 hX.nd <| W_mod <| W_intOf T.int <| W_cup rfl <| W_var 0 rfl <| W_int ⟨rfl, .inl ⟨rfl, fun x hx => ⟨x, rfl, W_var 1 rfl ⟨h0, ?_⟩⟩⟩⟩
    refine SW_cons <| S1_asg <| W_div <| W_cup rfl <| W_var 0 rfl <| W_int ⟨rfl, .inl ⟨rfl, fun z hz => W_var 1 rfl ⟨⟨h0, by omega⟩, WG_cup rfl <| W_var 0 rfl <| W_int ⟨rfl, .inl ⟨rfl, Int.ediv_nonneg hz (by omega)⟩, ?_⟩⟩⟩⟩
    exact SW_cons <| S1_ret <| W_var 2 rfl (h _ (Int.emod_nonneg _ (by omega)) (Int.emod_lt_of_pos _ h0))
  · refine SW_cons <| S1_asg <| W_mod <| W_intOf T.int <| W_add <| W_mul <| W_cup rfl <| W_var 0 rfl <| W_int ⟨rfl, .inr ⟨rfl, fun y hy hy2 => W_int ⟨.inr (by decide), W_int ⟨_, rfl, W_int ⟨by decide, ?_⟩⟩⟩⟩⟩
    have b1 := Int.emod_nonneg (y * 30671 + 7919) (show (2147483549 : Int) ≠ 0 by decide)
    have b2 := Int.emod_lt_of_pos (y * 30671 + 7919) (show (0 : Int) < 2147483549 by decide)
    refine WG_cup rfl <| W_var 0 rfl <| W_int ⟨rfl, .inr ⟨rfl, b1, by omega⟩, ?_⟩
    refine SW_cons <| S1_set 3 hX.nd <| W_mod <| W_intOf T.int <| W_mul <| W_cup rfl <| W_var 0 rfl <| W_int ⟨rfl, .inr ⟨rfl, fun y hy hy2 => W_add <| W_cup rfl <| W_var 0 rfl <| W_int ⟨rfl, .inr ⟨rfl, fun z hz hz2 => W_int ⟨.inl ⟨by omega, by omega⟩, _, rfl, W_int ⟨by decide, ?_⟩⟩⟩⟩⟩⟩
    exact SW_cons <| S1_ret <| W_mod <| W_intOf T.int <| W_div <| W_var 3 rfl <| W_int ⟨by decide, _, rfl, W_var 1 rfl ⟨h0, h _ (Int.emod_nonneg _ (by omega)) (Int.emod_lt_of_pos _ h0)⟩⟩
theorem sc43 : FnScope ["_law_script", "_law_cell"] ["_law_script"] (defScope (topS 43)) := ⟨rfl, rfl, rfl, by decide +kernel, rfl, by decide +kernel, by decide +kernel⟩
def spCup (K : PySem.W.Frag) : Sp := fun vs H Q _ => ∃ (s : Addr) (ns : List Int), vs = [.ref s] ∧ SqL K H s (ns.map V.int) ∧ ns.length ≤ 1000 ∧ ∀ d v H', Rep (fun _ => False) H' d v → (∃ x y : Int, d = .lst [.int x, .int y] ∧ 0 ≤ x ∧ 0 ≤ y ∧ y < 4294967296) → Q v H'
theorem ok_cup (T : Txt mg) (a : At K mg "_law_cup" (topS 43) ["_law_script"]) : DefOk P w K mg base "_law_cup" 1 (spCup K) := by
  obtain ⟨f, fd, F, hm, hb⟩ := a.ex
  refine ⟨f, fd, _, F.ok sc43 (fun vs H Q E h => ?_) (fun cdv A outer s H vs Q E hr h => ?_), hm, F.kp, hb⟩
  · obtain ⟨_, _, rfl, _⟩ := h; rfl
  · obtain ⟨sc, ns, rfl, hs, hl, q⟩ := h
    refine ⟨_, pss_W, ?_⟩
    have hX : XOk (cxB P w K mg base ["_law_script", "_law_cell"] "_law_cup" (defScope (topS 43)) f cdv A outer s H E) := xok sc43.nd hr
    have main : SW (cxB P w K mg base ["_law_script", "_law_cell"] "_law_cup" (defScope (topS 43)) f cdv A outer s H E) ⟨fun _ => False, fun _ => False, H, none, none⟩ .non [some (.adr sc), none] (defBody (topS 43)) { rt := fun d => ∃ x y : Int, d = .lst [.int x, .int y] ∧ 0 ≤ x ∧ 0 ≤ y ∧ y < 4294967296 } := by
      refine SW_cons <| S1_set 1 hX.nd <| W_abs T.abs <| W_itL <| W_add <| W_listS (ns := ns) T.list rfl hs <| W_var 0 rfl ⟨rfl, W_lst <| WA_cons <| W_int <| WA_nil ⟨sm, ?_⟩⟩
      refine ⟨by rw [List.length_map]; show _ + 1 ≤ _; omega, W_int ?_⟩
      obtain ⟨z, hz⟩ : ∃ z : Int, (ns.map D.int ++ [D.int 0])[0]? = some (.int z) := by
        cases ns with
        | nil => exact ⟨0, rfl⟩
        | cons n ns => exact ⟨n, rfl⟩
      refine ⟨_, 0, .int z, rfl, rfl, atD_nat (j := 0) hz, z, rfl, ?_⟩
      have hz0 : 0 ≤ (if z < 0 then -z else z) := by split <;> omega
      generalize (if z < 0 then -z else z) = cell at hz0 ⊢
      refine SW_cons <| S1_ret <| W_lst <| WA_cons <| W_ifexp <| WT_cmp <| C_ge <| W_var 1 rfl <| W_pow <| W_int <| W_int ⟨⟨by decide, by decide, by decide⟩, fun _ => W_div <| W_var 1 rfl <| W_int ⟨by decide, ?_⟩, fun _ => W_int ?_⟩
      all_goals
        refine WA_cons <| W_add <| W_mod <| W_intOf T.int <| W_add <| W_mul <| W_var 1 rfl <| W_int ⟨.inr (by decide), W_int ⟨_, rfl, W_int ⟨by decide, W_int <| WA_nil ⟨sm, _, _, rfl, ?_, ?_, ?_⟩⟩⟩⟩
      · exact Int.ediv_nonneg hz0 (by decide)
      · have := Int.emod_nonneg (cell * 193 + 1201) (show (2077504273 : Int) ≠ 0 by decide); omega
      · have := Int.emod_lt_of_pos (cell * 193 + 1201) (show (0 : Int) < 2077504273 by decide); omega
      · exact Int.le_refl _
      · have := Int.emod_nonneg (cell * 193 + 1201) (show (2077504273 : Int) ≠ 0 by decide); omega
      · have := Int.emod_lt_of_pos (cell * 193 + 1201) (show (0 : Int) < 2077504273 by decide); omega
    refine main _ H ⟨⟨fun _ _ _ e => e, fun _ z => nomatch z⟩, fun _ z => z.elim, fun _ z => (nomatch z), fun _ z => (nomatch z), fun _ z => z, show RepE _ H [some (.adr sc), none] [some (.ref sc), none] from ⟨rfl, trivial⟩⟩ _ ?_
    exact ⟨fun _ _ _ _ _ _ z => False.elim z, fun d v H' bs rep hq => q d v H' rep hq, fun _ _ _ _ _ _ z => False.elim z, fun _ _ _ _ _ _ z => False.elim z⟩
end
end K48
set_option maxHeartbeats 1000000
/-! The law's routines -/
namespace K48
open PySem PySem.Spec PyProof.Rows L2
section
variable {P : Program} {w : World} {K : PySem.W.Frag} {mg : Str → Option Value} {base : Heap}
theorem sc45 : FnScope ["_law_cup_here", "_law_things"] ["_law_cup_here", "_law_things"] (defScope (topS 45)) := ⟨rfl, rfl, rfl, by decide +kernel, rfl, by decide +kernel, by decide +kernel⟩
def cSome : List D → (D → Prop) → Prop := fun ds R => ∃ ns : List Int, ds = [.lst (ns.map D.int)] ∧ ns ≠ [] ∧ ns.length < 1000 ∧ ∀ v ∈ ns, R (.int v)
theorem ok_some (T : Txt mg) (a : At K mg "_law_some" (topS 45) ["_law_cup_here", "_law_things"]) (f44 : DefOk P w K mg base "_law_roll" 1 (spC cRoll)) : DefOk P w K mg base "_law_some" 2 (spC cSome) := by
  refine a.okC sc45 (fun ds R h => by obtain ⟨_, rfl, _⟩ := h; rfl) fun f cdv A outer s H E m c ds R hr hX h => ?_
  obtain ⟨ns, rfl, h0, h1, h⟩ := h
  have := List.length_pos_iff.mpr h0
  refine SW_cons <| S1_ret <| W_itL <| W_var 1 rfl <| W_callC f44 (by exact hr) rfl <| WA_cons <| W_var 0 rfl <| WA_cons <| W_len T.len <| W_var 1 rfl <| WA_nil ⟨_, rfl, ns.length, by rw [List.length_map], by omega, by omega, fun v hv0 hv1 => ?_⟩
  have hl : v.toNat < ns.length := by omega
  refine ⟨_, v, .int ns[v.toNat], rfl, rfl, ?_, h _ (List.getElem_mem hl)⟩
  have := atD_nat (xs := ns.map D.int) (j := v.toNat) (d := .int ns[v.toNat]) (by rw [List.getElem?_map]; simp [hl])
  rwa [show ((v.toNat : Nat) : Int) = v by omega] at this
theorem sc46 : FnScope ["_law_cup_here", "_law_many", "_law_below", "_law_turn"] ["_law_cup_here", "_law_many", "_law_below"] (defScope (topS 46)) := ⟨rfl, rfl, rfl, by decide +kernel, rfl, by decide +kernel, by decide +kernel⟩
def cSorts : List D → (D → Prop) → Prop := fun ds R => ∃ n b : Int, ds = [.int n, .int b] ∧ 0 ≤ n ∧ n ≤ 10 ∧ b ≤ 10 ∧ ∀ xs : List Int, (xs.length : Int) ≤ n → (∀ x ∈ xs, 0 ≤ x ∧ x < b) → R (intsD xs)
theorem ok_sorts (T : Txt mg) (a : At K mg "_law_sorts" (topS 46) ["_law_cup_here", "_law_many", "_law_below"]) (f44 : DefOk P w K mg base "_law_roll" 1 (spC cRoll)) : DefOk P w K mg base "_law_sorts" 2 (spC cSorts) := by
  refine a.okC sc46 (fun ds R h => by obtain ⟨_, _, rfl, _⟩ := h; rfl) fun f cdv A outer s H E m c ds R hr hX h => ?_
  obtain ⟨n, b, rfl, h0, h1, h2, h⟩ := h
  refine SW_cons <| S1_ret <| W_ifexp <| WT_cmp <| C_gt <| W_var 2 rfl <| W_int ⟨fun z => ?_, fun _ => W_tup <| WA_nil ⟨sm, h [] (by simpa using h0) fun x hx => by cases hx⟩⟩
  rw [decide_eq_true_eq] at z
  refine W_tupleOf T.tuple <| W_lc (own := [("_law_turn", 3)]) (g := gName 3) (fun d δ => δ.set 3 (some d)) hX (.inl rfl) (blkOk_by (by rfl)) (fun s H C cl fp => pg_name (i := 3) (by exact hX.nd) rfl (.inl rfl) (.inr rfl)) <| WI_range T.range <| W_callC f44 (by exact hr) rfl <| WA_cons <| W_var 0 rfl <| WA_cons <| W_add <| W_var 1 rfl <| W_int <| WA_nil ⟨_, rfl, n + 1, rfl, by omega, by omega, fun k hk0 hk1 => ⟨k, rfl, by omega, by omega, ?_⟩⟩
  refine ⟨fun i acc => ∃ xs : List Int, acc = xs.map D.int ∧ xs.length = i ∧ ∀ x ∈ xs, 0 ≤ x ∧ x < b, ⟨[], rfl, rfl, fun x hx => by cases hx⟩, fun i d acc e pv => ?_, fun acc pv => ?_⟩
  · obtain ⟨xs, rfl, hl, hx⟩ := pv
    obtain ⟨hi, rfl⟩ := rangeD_get e
    refine ⟨by rw [List.length_map]; omega, tgt_name, fun s H0 C cl fp => ?_⟩
    refine W_callC f44 (by exact hr) rfl <| WA_cons <| W_var 0 rfl <| WA_cons <| W_var 2 rfl <| WA_nil ⟨_, rfl, b, rfl, z, by omega, fun v hv0 hv1 => ⟨trivial, xs ++ [v], by rw [List.map_append]; rfl, by rw [List.length_append, hl]; rfl, fun x hx' => ?_⟩⟩
    rcases List.mem_append.mp hx' with h3 | h3
    · exact hx x h3
    · rw [List.mem_singleton.mp h3]; exact ⟨hv0, hv1⟩
  · obtain ⟨xs, rfl, hl, hx⟩ := pv
    rw [rangeD_len] at hl
    exact ⟨_, rfl, trivial, h xs (by omega) hx⟩
/-- the moves of a post so far -/
structure OkVs (n : Nat) (q : List Mv) : Prop where
  ok : ∀ v ∈ q, OkMv n v
  dn : ∀ (s : Nat) (v : Mv), q[s]? = some v → s < 3 → ∀ x ∈ v.2.1, x < (s : Int)
theorem OkVs.snoc {n : Nat} {q : List Mv} {v : Mv} (h : OkVs n q) (hv : OkMv n v) (hd : q.length < 3 → ∀ x ∈ v.2.1, x < (q.length : Int)) : OkVs n (q ++ [v]) := by
  refine ⟨fun x hx => ?_, fun s x e hs => ?_⟩
  · rcases List.mem_append.mp hx with h1 | h1
    · exact h.ok x h1
    · rw [List.mem_singleton.mp h1]; exact hv
  · by_cases c : s < q.length
    · rw [List.getElem?_append_left c] at e; exact h.dn s x e hs
    · have : s = q.length := by
        have := (List.getElem?_eq_some_iff.mp e).1
        rw [List.length_append, List.length_singleton] at this; omega
      subst this
      rw [List.getElem?_concat_length] at e
      cases e
      exact hd hs
structure Calm (r : Rt) : Prop where
  ok : OkRt r
  dn : ∀ q ∈ r, ∀ (s : Nat) (v : Mv), q[s]? = some v → s < 3 → ∀ x ∈ v.2.1, x < (s : Int)
theorem sc47 : FnScope ["_law_cup_here", "_law_posts", "_law_found", "_law_post", "_law_moves", "_law_sort", "_law_back", "_law_later", "_law_foot"] ["_law_cup_here"] (defScope (topS 47)) := ⟨rfl, rfl, rfl, by decide +kernel, rfl, by decide +kernel, by decide +kernel⟩
def cCalm : List D → (D → Prop) → Prop := fun ds R => ds = [] ∧ ∀ r, Calm r → R (rtD r)
theorem ok_calm (T : Txt mg) (a : At K mg "_law_calm" (topS 47) ["_law_cup_here"]) (f44 : DefOk P w K mg base "_law_roll" 1 (spC cRoll)) (f45 : DefOk P w K mg base "_law_some" 2 (spC cSome)) (f46 : DefOk P w K mg base "_law_sorts" 2 (spC cSorts)) : DefOk P w K mg base "_law_calm" 3 (spC cCalm) := by
  refine a.okC sc47 (fun ds R h => by obtain ⟨rfl, _⟩ := h; rfl) fun f cdv A outer s H E m c ds R hr hX h => ?_
  obtain ⟨rfl, h⟩ := h
  refine SW_cons <| S1_par 1 2 hX.calm hX.nd <| WA_cons <| W_add <| W_int <| W_callC f45 (by exact hr) rfl <| WA_cons <| W_var 0 rfl <| WA_cons <| W_lst <| WA_cons <| W_int <| WA_cons <| W_int <| WA_cons <| W_int <| WA_cons <| W_int <| WA_cons <| W_int <| WA_cons <| W_int <| WA_cons <| W_int <| WA_nil ⟨sm, WA_nil ⟨_, rfl, [0, 1, 1, 2, 2, 3, 5], rfl, by decide, by decide, fun v hv => ?_⟩⟩
  obtain ⟨n, hn, hn1, hn6⟩ : ∃ n : Nat, 1 + v = (n : Int) ∧ 1 ≤ n ∧ n ≤ 6 := by
    simp only [List.mem_cons, List.not_mem_nil, or_false] at hv
    exact ⟨(1 + v).toNat, by omega, by omega, by omega⟩
  refine WA_cons <| W_tup <| WA_nil ⟨sm, WA_nil ⟨_, _, rfl, ?_⟩⟩
  rw [hn]
  refine SW_cons <| S1_for hX <| WI_range T.range <| W_var 1 rfl ⟨n, rfl, by omega, by omega, fun i μ δ => μ = .non ∧ ∃ (A : List D) (r : Rt) (o3 o4 o5 o6 o7 o8 : Option D), δ = [some (.adr c), some (.int n), some (.tup A), o3, o4, o5, o6, o7, o8] ∧ A = r.map postD ∧ r.length = i ∧ (∀ q ∈ r, q.length = 4 ∧ OkVs n q), ⟨rfl, _, [], _, _, _, _, _, _, rfl, rfl, rfl, fun q hq => by cases hq⟩, ?_, ?_⟩
  · intro i d μ δ e hp
    obtain ⟨rfl, A, r, o3, o4, o5, o6, o7, o8, rfl, hA, hl, hok⟩ := hp
    obtain ⟨hi, rfl⟩ := rangeD_get e
    have hi : i < n := by omega
    refine WG_name 3 hX.nd ?_
    refine SW_cons <| S1_set 4 hX.nd <| W_tup <| WA_nil ⟨sm, ?_⟩
    refine SW_cons <| S1_for hX <| WI_range T.range <| W_int ⟨3, rfl, by decide, by decide, fun j μ δ => μ = .non ∧ ∃ (B : List D) (q : List Mv) (o5 o6 o7 o8 : Option D), δ = [some (.adr c), some (.int n), some (.tup A), some (.int i), some (.tup B), o5, o6, o7, o8] ∧ B = q.map mvD ∧ q.length = j ∧ OkVs n q, ⟨rfl, _, [], _, _, _, _, rfl, rfl, rfl, ⟨fun v hv => (by cases hv), fun s v hv => (by cases hv)⟩⟩, ?_, ?_⟩
    · intro j d μ δ e hp
      obtain ⟨rfl, B, q, o5, o6, o7, o8, rfl, hB, hql, hq⟩ := hp
      obtain ⟨hj, rfl⟩ := rangeD_get e
      have hj : j < 3 := hj
      refine WG_name 5 hX.nd ?_
      refine SW_cons <| S1_set 6 hX.nd <| W_callC f46 (by exact hr) rfl <| WA_cons <| W_var 0 rfl <| WA_cons <| W_int <| WA_cons <| W_var 5 rfl <| WA_nil ⟨_, rfl, 3, j, rfl, by decide, by decide, by omega, fun bk hbl hb => ?_⟩
      refine SW_cons <| S1_set 7 hX.nd <| W.mono (Q := fun d => ∃ lt : Int, d = .int lt ∧ -1 ≤ lt ∧ lt ≤ (n : Int) - 1) (W_ifexp <| WT_cmp <| C_eqI <| W_callC f44 (hr.mono (by decide)) rfl <| WA_cons <| W_var 0 rfl <| WA_cons <| W_int <| WA_nil ⟨_, rfl, 12, rfl, by decide, by decide, fun v _ _ => W_int ⟨fun _ => W_neg <| W_int ⟨_, rfl, -1, rfl, by decide, by omega⟩, fun _ => W_callC f44 (hr.mono (by decide)) rfl <| WA_cons <| W_var 0 rfl <| WA_cons <| W_var 1 rfl <| WA_nil ⟨_, rfl, n, rfl, by omega, by omega, fun v hv0 hv1 => ⟨v, rfl, by omega, by omega⟩⟩⟩⟩) fun d hd => ?_
      obtain ⟨lt, rfl, hl0, hl1⟩ := hd
      refine SW_cons <| S1_set 4 hX.nd <| W_add <| W_var 4 rfl <| W_tup <| WA_cons <| W_tup <| WA_cons <| W_callC f46 (by exact hr) rfl <| WA_cons <| W_var 0 rfl <| WA_cons <| W_int <| WA_cons <| W_int <| WA_nil ⟨_, rfl, 2, 3, rfl, by decide, by decide, by decide, fun mk hml hm => WA_cons <| W_var 6 rfl <| WA_cons <| W_var 7 rfl <| WA_nil ⟨sm, WA_nil ⟨sm, ?_, ?_⟩⟩⟩
      · rw [hB, List.length_map]; show _ + 1 ≤ _; omega
      · refine SW_nil ⟨rfl, _, q ++ [(mk, bk, lt)], _, _, _, _, rfl, ?_, ?_, ?_⟩
        · rw [hB, List.map_append]; rfl
        · rw [List.length_append, hql]; rfl
        · refine hq.snoc ⟨by dsimp only; omega, fun x hx => by have := hm x hx; omega, by dsimp only; omega, fun x hx => by have := hb x hx; omega, hl0, hl1⟩ fun _ x hx => ?_
          have := (hb x hx).2
          rw [hql]; exact this
    · intro μ δ hp
      obtain ⟨rfl, B, q, o5, o6, o7, o8, rfl, hB, hql, hq⟩ := hp
      rw [rangeD_len] at hql
      have hql : q.length = 3 := hql
      refine SW_cons <| S1_set 8 hX.nd <| W.mono (Q := fun d => ∃ lt : Int, d = .int lt ∧ -1 ≤ lt ∧ lt ≤ (n : Int) - 1) (W_ifexp <| WT_ww <| WW_or <| WT_cmp <| C_eqI <| W_add <| W_var 3 rfl <| W_int <| W_var 1 rfl ⟨fun _ => ⟨fun _ => W_neg <| W_int ⟨_, rfl, -1, rfl, by decide, by omega⟩, fun z => nm' z⟩, fun z => WW_or1 <| WT_cmp <| C_eqI <| W_callC f44 (hr.mono (by decide)) rfl <| WA_cons <| W_var 0 rfl <| WA_cons <| W_int <| WA_nil ⟨_, rfl, 2, rfl, by decide, by decide, fun v _ _ => W_int ⟨fun _ => W_neg <| W_int ⟨_, rfl, -1, rfl, by decide, by omega⟩, fun _ => ?_⟩⟩⟩) fun d hd => ?_
      · rw [decide_eq_false_iff_not] at z
        refine W_add <| W_add <| W_var 3 rfl <| W_int <| W_callC f44 (hr.mono (by decide)) rfl <| WA_cons <| W_var 0 rfl <| WA_cons <| W_sub <| W_sub <| W_var 1 rfl <| W_var 3 rfl <| W_int <| WA_nil ⟨_, rfl, (n : Int) - i - 1, rfl, by omega, by omega, fun v hv0 hv1 => ⟨_, rfl, by omega, by omega⟩⟩
      obtain ⟨lt, rfl, hl0, hl1⟩ := hd
      refine SW_cons <| S1_set 2 hX.nd <| W_add <| W_var 2 rfl <| W_tup <| WA_cons <| W_add <| W_var 4 rfl <| W_tup <| WA_cons <| W_tup <| WA_cons <| W_callC f46 (by exact hr) rfl <| WA_cons <| W_var 0 rfl <| WA_cons <| W_int <| WA_cons <| W_int <| WA_nil ⟨_, rfl, 2, 3, rfl, by decide, by decide, by decide, fun mk hml hm => WA_cons <| W_callC f46 (by exact hr) rfl <| WA_cons <| W_var 0 rfl <| WA_cons <| W_int <| WA_cons <| W_int <| WA_nil ⟨_, rfl, 2, 3, rfl, by decide, by decide, by decide, fun bk hbl hb => WA_cons <| W_var 8 rfl <| WA_nil ⟨sm, WA_nil ⟨sm, ?_, WA_nil ⟨sm, ?_, ?_⟩⟩⟩⟩⟩
      · rw [hB, List.length_map]; show _ + 1 ≤ _; omega
      · rw [hA, List.length_map]; show _ + 1 ≤ _; omega
      · refine SW_nil ?_
        refine ⟨rfl, _, r ++ [q ++ [(mk, bk, lt)]], _, _, _, _, _, _, rfl, ?_, ?_, fun q' hq' => ?_⟩
        · rw [hA, hB, List.map_append (l₂ := [q ++ [(mk, bk, lt)]])]
          unfold postD
          rw [List.map_cons, List.map_append (l₁ := q)]; rfl
        · rw [List.length_append, hl]; rfl
        · rcases List.mem_append.mp hq' with h1 | h1
          · exact hok q' h1
          · rw [List.mem_singleton.mp h1]
            refine ⟨by rw [List.length_append, hql]; rfl, hq.snoc ⟨by dsimp only; omega, fun x hx => by have := hm x hx; omega, by dsimp only; omega, fun x hx => by have := hb x hx; omega, hl0, hl1⟩ fun h3 => by omega⟩
  · intro μ δ hp
    obtain ⟨rfl, A, r, o3, o4, o5, o6, o7, o8, rfl, hA, hl, hok⟩ := hp
    rw [rangeD_len] at hl
    refine SW_cons <| S1_ret <| W_var 2 rfl ?_
    rw [hA]
    have : r.length = n := by omega
    exact h r ⟨⟨by omega, by omega, fun q hq => ⟨(hok q hq).1, by rw [this]; exact (hok q hq).2.ok⟩⟩, fun q hq => (hok q hq).2.dn⟩
end
end K48
/-! The law's table -/
namespace K48
structure PT (r : Rt) (T : Tb) : Prop where
  nd : (T.map Prod.fst).Nodup
  okp : ∀ p x, lookA T p = some x → OkP r p
  at' : ∀ i p x, T[i]? = some (p, x) → pairN (lookA (T.take i)) r p = .ok x
theorem pairs_mem {r : Rt} {p : PI2} : p ∈ pairs r ↔ OkP r p := by
  unfold pairs OkP
  rw [List.mem_flatMap]
  constructor
  · rintro ⟨i, hi, h⟩
    obtain ⟨h1, h2, h3⟩ := four_mem.mp h
    have := List.mem_range.mp hi
    exact ⟨by omega, by omega, h2, h3⟩
  · rintro ⟨h1, h2, h3, h4⟩
    exact ⟨p.1.toNat, List.mem_range.mpr (by omega), four_mem.mpr ⟨by omega, h3, h4⟩⟩
theorem pairs_len (r : Rt) : (pairs r).length = 4 * r.length := by
  unfold pairs
  induction r.length with
  | zero => rfl
  | succ n ih => rw [List.range_succ, List.flatMap_append, List.length_append, ih]; rfl
theorem PT.len {r : Rt} {T : Tb} (hr : OkRt r) (h : PT r T) : T.length ≤ 24 := by
  have := nd_len (T.map Prod.fst) (pairs r) h.nd fun p hp => by
    obtain ⟨x, hx⟩ := lookA_some.mp hp
    exact pairs_mem.mpr (h.okp _ _ hx)
  rw [List.length_map, pairs_len] at this
  have := hr.2.1
  omega
theorem PT.snoc {r : Rt} {T : Tb} {p : PI2} {x : Row} (h : PT r T) (hp : OkP r p) (hn : lookA T p = none) (hx : pairN (lookA T) r p = .ok x) : PT r (T ++ [(p, x)]) := by
  refine ⟨?_, fun q y hq => ?_, fun i q y hi => ?_⟩
  · rw [List.map_append]
    refine List.nodup_append.mpr ⟨h.nd, by simp, fun a ha b hb z => ?_⟩
    simp only [List.map_cons, List.map_nil, List.mem_singleton] at hb
    exact lookA_none.mp hn (hb ▸ z ▸ ha)
  · rw [← putA_new hn, lookA_put] at hq
    by_cases c : p = q
    · exact c ▸ hp
    · rw [if_neg c] at hq; exact h.okp _ _ hq
  · by_cases c : i < T.length
    · rw [List.getElem?_append_left c] at hi
      rw [List.take_append_of_le_length (by omega)]
      exact h.at' i q y hi
    · have : i = T.length := by
        have := (List.getElem?_eq_some_iff.mp hi).1
        rw [List.length_append, List.length_singleton] at this; omega
      subst this
      rw [List.getElem?_concat_length] at hi
      cases hi
      rw [List.take_append_of_le_length (Nat.le_refl _), List.take_length]; exact hx
theorem PT.step {r : Rt} {T : Tb} {p : PI2} (h : PT r T) (hp : OkP r p) : PT r (stepT r T p) := by
  unfold stepT
  cases e : lookA T p with
  | some _ => exact h
  | none =>
    dsimp only
    cases e2 : pairN (lookA T) r p with
    | ok x => exact h.snoc hp e e2
    | error _ => exact h
theorem PT.steps {r : Rt} : ∀ (l : List PI2) {T : Tb}, PT r T → (∀ p ∈ l, OkP r p) → PT r (l.foldl (stepT r) T)
  | [], T, h, _ => h
  | p :: l, T, h, hl => PT.steps l (h.step (hl p List.mem_cons_self)) fun q hq => hl q (List.mem_cons_of_mem _ hq)
theorem PT.nil (r : Rt) : PT r [] := ⟨List.nodup_nil, fun p x h => (nomatch h), fun i p x h => by simp at h⟩
theorem PT.rounds {r : Rt} : ∀ n, PT r (rounds r n)
  | 0 => PT.nil r
  | n + 1 => PT.steps _ (PT.rounds n) fun p hp => pairs_mem.mp hp
/-- lengths -/
theorem walk_bd {f : PI2 → Option Row} {B : Nat} (hf : ∀ p x, f p = some x → x.2.2.2.length ≤ B) : ∀ (ns : List Int) (h t : Int) (m bk : List Int) (x : Row), m.length ≤ 1001 → bk.length ≤ 3 → walkN f h t m ns bk = .ok x → x.2.2.1.length ≤ 1001 ∧ x.2.2.2.length ≤ B + 3
  | [], h, t, m, bk, x, hm, hb, e => by
    unfold walkN at e
    cases e; exact ⟨hm, Nat.zero_le _⟩
  | n :: ns, h, t, m, bk, x, hm, hb, e => by
    unfold walkN at e
    cases ef : f (h, n) with
    | none => rw [ef] at e; cases e
    | some y =>
      rw [ef] at e
      dsimp only at e
      have h1 : ((m ++ y.2.2.1).take 1001).length ≤ 1001 := by rw [List.length_take]; omega
      have h2 : bk.tail.length ≤ 3 := by rw [List.length_tail]; omega
      by_cases c : y.1 = -1
      · rw [if_pos c] at e
        cases e
        refine ⟨h1, ?_⟩
        have := hf _ _ ef
        rw [List.length_append]; omega
      · rw [if_neg c] at e
        exact walk_bd hf ns _ _ _ _ x h1 h2 e
theorem pair_bd {f : PI2 → Option Row} {B : Nat} {r : Rt} (hr : OkRt r) {p : PI2} (hp : OkP r p) (hf : ∀ p x, f p = some x → x.2.2.2.length ≤ B) {x : Row} (e : pairN f r p = .ok x) : x.2.2.1.length ≤ 1001 ∧ x.2.2.2.length ≤ B + 3 := by
  obtain ⟨q, _, _, h1, h2, h3, h4, h5, h6⟩ := mvAt_ok hr hp
  unfold pairN at e
  by_cases c : (mvAt r p).2.2 = -1
  · rw [if_pos c] at e
    cases e
    exact ⟨by dsimp only; omega, by dsimp only; omega⟩
  · rw [if_neg c] at e
    exact walk_bd hf _ _ _ _ _ x (by omega) h3 e
theorem PT.bd {r : Rt} {T : Tb} (hr : OkRt r) (h : PT r T) : ∀ (i : Nat) (p : PI2) (x : Row), T[i]? = some (p, x) → x.2.2.1.length ≤ 1001 ∧ x.2.2.2.length ≤ 3 * (i + 1) := by
  intro i
  induction i using Nat.strongRecOn with
  | ind i ih =>
    intro p x hi
    have hp := h.okp p x (lookA_mem h.nd (List.mem_of_getElem? hi))
    have := pair_bd (B := 3 * i) hr hp (fun q y hq => by
      obtain ⟨h1, h2⟩ := lookA_take hq
      have := (ih _ h2 q y (lookA_get h1)).2
      omega) (h.at' i p x hi)
    exact ⟨this.1, by omega⟩
theorem PT.tab {r : Rt} {T : Tb} (hr : OkRt r) (h : PT r T) : TabOk r T := ⟨h.nd, h.len hr, h.okp, h.at', fun p x e => by
  have h1 := lookA_get e
  have h2 := (List.getElem?_eq_some_iff.mp h1).1
  have := h.bd hr _ p x h1
  have := h.len hr
  exact ⟨by omega, by omega⟩⟩
theorem PT.okS {r : Rt} {T : Tb} (hr : OkRt r) (h : PT r T) : OkS T := EndsOk.ok hr (h.tab hr) ⟨fun _ _ e => e, h.nd⟩
theorem table_pt (r : Rt) : PT r (table r) := PT.rounds _
end K48
set_option maxHeartbeats 1000000
/-! The law's table, walked -/
namespace K48
open PySem PySem.Spec PyProof.Rows L2
theorem pl_rowL (n : Nat) (x : Row) : Pl (n + 2) (rowL x) := fun d hd => by
  simp only [List.mem_cons, List.not_mem_nil, or_false] at hd
  rcases hd with rfl | rfl | rfl | rfl
  · trivial
  · trivial
  · exact pl_ints n _
  · exact pl_ints n _
section
variable {P : Program} {w : World} {K : PySem.W.Frag} {mg : Str → Option Value} {base : Heap}
theorem sc49 : FnScope ["_law_routine", "_law_pair_here", "_law_told_here", "_law_marks", "_law_back", "_law_here", "_law_turns", "_law_needs", "_law_at", "_law_need", "_law_more", "_law_handed_here", "_law_left"] ["_law_routine", "_law_pair_here", "_law_told_here"] (defScope (topS 49)) := ⟨rfl, rfl, rfl, by decide +kernel, rfl, by decide +kernel, by decide +kernel⟩
def rowOr : Except PI2 Row → D
  | .error _ => .non
  | .ok x => rowL x
def cPair : List D → (D → Prop) → Prop := fun ds R => ∃ (r : Rt) (p : PI2) (S : Tb), ds = [rtD r, pD p, tabD S] ∧ OkRt r ∧ OkP r p ∧ OkS S ∧ R (rowOr (pairN (lookA S) r p))
theorem ok_pair (T : Txt mg) (a : At K mg "_law_pair" (topS 49) ["_law_routine", "_law_pair_here", "_law_told_here"]) : DefOk P w K mg base "_law_pair" 1 (spD cPair) := by
  refine a.ok sc49 (fun ds R h => by obtain ⟨_, _, _, rfl, _⟩ := h; rfl) fun f cdv A outer s H E m ds R hr hX h => ?_
  obtain ⟨r, p, S, rfl, hR, hP, ⟨hS0, hS1, hS⟩, h⟩ := h
  obtain ⟨q, e1, e2, h1, h2, h3, h4, h5, h6⟩ := mvAt_ok hR hP
  have hnl : (needsOf r p).length ≤ 4 := by
    unfold needsOf
    rw [List.length_append]
    split <;> simp <;> omega
  refine SW_cons <| S1_asg <| W_itT <| W_itT <| W_var 0 rfl <| W_itT <| W_var 1 rfl <| W_int ⟨_, 0, .int p.1, rfl, rfl, atD_nat (j := 0) rfl, _, p.1, postD q, rfl, rfl, ?_, W_itT <| W_var 1 rfl <| W_int ⟨_, 1, .int p.2, rfl, rfl, atD_nat (j := 1) rfl, _, p.2, mvD (mvAt r p), rfl, rfl, ?_, WG_tup hX.calm <| WGs_cons <| WG_name 3 hX.nd <| WGs_cons <| WG_name 4 hX.nd <| WGs_cons <| WG_name 5 hX.nd <| WGs_nil ?_⟩⟩
  · rw [show p.1 = ((p.1.toNat : Nat) : Int) by have := hP.1; omega]
    exact atD_nat (by rw [List.getElem?_map, e1]; rfl)
  · rw [show p.2 = ((p.2.toNat : Nat) : Int) by have := hP.2.2.1; omega]
    exact atD_nat (by rw [List.getElem?_map, e2]; rfl)
  refine SW_cons <| S1_if <| WT_cmp <| C_eqI <| W_var 5 rfl <| W_neg <| W_int ⟨_, rfl, fun z => ?_, fun z => ?_⟩
  · simp only [decide_eq_true_eq] at z
    refine SW_cons <| S1_ret <| W_lst <| WA_cons <| W_neg <| W_int ⟨_, rfl, WA_cons <| W_int <| WA_cons <| W_var 3 rfl <| WA_cons <| W_var 4 rfl <| WA_nil ⟨sm, ?_⟩⟩
    unfold pairN at h
    rw [if_pos z] at h; exact h
  simp only [decide_eq_false_iff_not] at z
  unfold pairN at h
  rw [if_neg z] at h
  refine SW_nil <| SW_cons <| S1_par 6 7 hX.calm hX.nd <| WA_cons <| W_int <| WA_cons <| W.mono (Q := fun d => d = intsD (needsOf r p)) (W_ifexp <| WT_cmp <| C_lt <| W_itT <| W_var 1 rfl <| W_int ⟨_, 1, .int p.2, rfl, rfl, atD_nat (j := 1) rfl, W_int ⟨fun z2 => W_var 4 rfl ?_, fun z2 => W_add <| W_var 4 rfl <| W_tup <| WA_cons <| W_int <| WA_nil ⟨sm, ?_, ?_⟩⟩⟩) fun d hd => WA_nil ⟨_, _, rfl, ?_⟩
  · simp only [decide_eq_true_eq] at z2
    unfold needsOf
    rw [if_pos z2, List.append_nil]
  · rw [List.length_map]; show _ + 1 ≤ _; omega
  · simp only [decide_eq_false_iff_not] at z2
    unfold needsOf intsD
    rw [if_neg z2, List.map_append]; rfl
  subst hd
  refine SW_cons <| S1_for hX <| WI_enumT T.enumerate <| W_var 7 rfl ⟨_, rfl, ?_⟩
  refine ⟨fun i μ δ => μ = .non ∧ ∃ (h t : Int) (mm : List Int) (o8 o9 o10 o11 o12 : Option D), δ = [some (rtD r), some (pD p), some (tabD S), some (intsD mm), some (intsD (mvAt r p).2.1), some (.int h), some (.int t), some (intsD (needsOf r p)), o8, o9, o10, o11, o12] ∧ mm.length ≤ 1001 ∧
    R (rowOr (walkN (lookA S) h t mm ((needsOf r p).drop i) ((mvAt r p).2.1.drop i))), ⟨rfl, _, _, _, _, _, _, _, _, rfl, by omega, h⟩, ?_, ?_⟩
  · intro i d μ δ e hp
    obtain ⟨rfl, hh, t, mm, o8, o9, o10, o11, o12, rfl, hm, h⟩ := hp
    obtain ⟨x, e3, rfl⟩ := enumD_get e
    obtain ⟨y, e4, rfl⟩ := map_get e3
    refine WG_tup hX.calm <| WGs_cons <| WG_name 8 hX.nd <| WGs_cons <| WG_name 9 hX.nd <| WGs_nil ?_
    rw [drop_step e4] at h
    unfold walkN at h
    refine SW_cons <| S1_if <| WT_cmp <| C_notInDT hX <| W_tup <| WA_cons <| W_var 5 rfl <| WA_cons <| W_var 9 rfl <| WA_nil ⟨sm, W_var 2 rfl ⟨_, _, pk (hh, y), rfl, trivial, rfl, ?_⟩⟩
    rw [valD_kvs]
    cases ev : lookA S (hh, y) with
    | none =>
      rw [ev] at h
      exact ⟨fun _ => SW_cons <| S1_ret <| W_non h, fun z => nomatch z⟩
    | some x =>
      rw [ev] at h
      obtain ⟨hx1, hx2⟩ := hS _ _ ev
      obtain ⟨xe, xt, xm, xl⟩ := x
      dsimp only at hx1 hx2
      refine ⟨fun z => (nomatch z), fun _ => SW_nil ?_⟩
      refine SW_cons <| S1_asg <| W_getT hX <| W_var 2 rfl <| W_tup <| WA_cons <| W_var 5 rfl <| WA_cons <| W_var 9 rfl <| WA_nil ⟨sm, _, _, pk (hh, y), rowL (xe, xt, xm, xl), rfl, trivial, rfl, by rw [valD_kvs, ev]; rfl,
        WG_lst hX.calm <| WGs_cons <| WG_name 5 hX.nd <| WGs_cons <| WG_name 10 hX.nd <| WGs_cons <| WG_name 11 hX.nd <| WGs_cons <| WG_name 12 hX.nd <| WGs_nil ?_⟩
      refine SW_cons <| S1_par 6 3 hX.calm hX.nd <| WA_cons <| W_add <| W_var 6 rfl <| W_var 10 rfl <| WA_cons <| W_slT <| W_add <| W_var 3 rfl <| W_var 11 rfl ⟨?_, W_int ⟨(1001 : Nat), rfl, _, rfl, WA_nil ⟨_, _, rfl, ?_⟩⟩⟩
      · rw [List.length_map, List.length_map]; dsimp only; omega
      rw [cut_hi, ← List.map_append, int_take]
      have hm' : ((mm ++ xm).take 1001).length ≤ 1001 := by rw [List.length_take]; omega
      refine SW_cons <| S1_if <| WT_cmp <| C_eqI <| W_var 5 rfl <| W_neg <| W_int ⟨_, rfl, fun z => ?_, fun z => ?_⟩
      · simp only [decide_eq_true_eq] at z
        dsimp only at h
        rw [if_pos z] at h
        refine SW_cons <| S1_ret <| W_lst <| WA_cons <| W_neg <| W_int ⟨_, rfl, WA_cons <| W_var 6 rfl <| WA_cons <| W_var 3 rfl <| WA_cons <| W_add <| W_var 12 rfl <| W_slT <| W_var 4 rfl <| W_add <| W_var 8 rfl <| W_int ⟨((i + 1 : Nat) : Int), rfl, _, rfl, ?_, WA_nil ⟨sm, ?_⟩⟩⟩
        · rw [cut_lo, List.length_map, List.length_drop, List.length_map]; dsimp only; omega
        · rw [cut_lo, int_drop, ← List.map_append]
          rw [List.tail_drop] at h; exact h
      · simp only [decide_eq_false_iff_not] at z
        dsimp only at h
        rw [if_neg z, List.tail_drop] at h
        exact SW_nil (SW_nil ⟨rfl, _, _, _, _, _, _, _, _, rfl, hm', h⟩)
  · intro μ δ hp
    obtain ⟨rfl, hh, t, mm, o8, o9, o10, o11, o12, rfl, hm, h⟩ := hp
    unfold enumD at h
    rw [List.length_mapIdx, List.length_map, List.drop_length] at h
    exact SW_cons <| S1_ret <| W_lst <| WA_cons <| W_var 5 rfl <| WA_cons <| W_var 6 rfl <| WA_cons <| W_var 3 rfl <| WA_cons <| W_tup <| WA_nil ⟨sm, WA_nil ⟨sm, h⟩⟩
theorem sc50 : FnScope ["_law_routine", "_law_told_here", "_law_pairs", "_law_post", "_law_turn", "_law_pair_here", "_law_found", "_law_sort"] ["_law_routine"] (defScope (topS 50)) := ⟨rfl, rfl, rfl, by decide +kernel, rfl, by decide +kernel, by decide +kernel⟩
def cTable : List D → (D → Prop) → Prop := fun ds R => ∃ (r : Rt), ds = [rtD r] ∧ OkRt r ∧ R (tabD (table r))
def pairsTo (i : Nat) : List PI2 := (List.range i).flatMap fun (i : Nat) => four (i : Int)
theorem pairsTo_len (i : Nat) : (pairsTo i).length = 4 * i := by
  unfold pairsTo
  induction i with
  | zero => rfl
  | succ n ih => rw [List.range_succ, List.flatMap_append, List.length_append, ih]; rfl
theorem pairsTo_succ (i : Nat) : pairsTo (i + 1) = pairsTo i ++ four (i : Int) := by
  unfold pairsTo
  rw [List.range_succ, List.flatMap_append]; simp
theorem ok_table (T : Txt mg) (a : At K mg "_law_table" (topS 50) ["_law_routine"]) (f49 : DefOk P w K mg base "_law_pair" 1 (spD cPair)) : DefOk P w K mg base "_law_table" 2 (spD cTable) := by
  refine a.ok sc50 (fun ds R h => by obtain ⟨_, rfl, _⟩ := h; rfl) fun f cdv A outer s H E m ds R hr hX h => ?_
  obtain ⟨r, rfl, hR, h⟩ := h
  refine SW_newT 1 2 hX rfl fun q hq => ?_
  refine SW_cons <| S1_for hX <| WI_range T.range <| W_len T.len <| W_var 0 rfl ⟨r.length, by rw [List.length_map], by omega, by have := hR.2.1; omega, fun i μ δ => μ = .oT [] ∧ ∃ (A : List D) (o3 : Option D), δ = [some (rtD r), some (.adr q), some (.lst A), o3, none, none, none, none] ∧ A = (pairsTo i).map pD, ⟨rfl, _, _, rfl, rfl⟩, ?_, ?_⟩
  · intro i d μ δ e hp
    obtain ⟨rfl, A, o3, rfl, hA⟩ := hp
    obtain ⟨hi, rfl⟩ := rangeD_get e
    have hi : i < r.length := by omega
    refine WG_name 3 hX.nd ?_
    refine SW_cons <| S1_set 2 hX.nd <| W_add <| W_var 2 rfl <| W_lc (own := [("_law_sort", 7)]) (g := gName 7) (fun d δ => δ.set 7 (some d)) hX (.inr rfl) (blkOk_by (by rfl)) (fun s H C cl fp => pg_name (i := 7) (by exact hX.nd) rfl (.inl rfl) (.inr rfl)) <| WI_tup <| W_tup <| WA_cons <| W_int <| WA_cons <| W_int <| WA_cons <| W_int <| WA_cons <| W_int <| WA_nil ⟨sm, _, rfl, ?_⟩
    refine ⟨fun j acc => acc = ((four i).take j).map pD, rfl, fun j d acc e pv => ?_, fun acc pv => ?_⟩
    · subst pv
      have hj : j < 4 := (List.getElem?_eq_some_iff.mp e).1
      have hd : d = .int j := by
        match j, hj with
        | 0, _ => cases e; rfl
        | 1, _ => cases e; rfl
        | 2, _ => cases e; rfl
        | 3, _ => cases e; rfl
      subst hd
      refine ⟨by rw [List.length_map, List.length_take]; omega, tgt_name, fun s H0 C cl fp => ?_⟩
      refine W_tup <| WA_cons <| W_var 3 rfl <| WA_cons <| W_var 7 rfl <| WA_nil ⟨sm, fun x hx => ?_, ?_⟩
      · simp only [List.mem_cons, List.not_mem_nil, or_false] at hx
        rcases hx with rfl | rfl <;> trivial
      · show _ = _
        rw [take_snoc (four_get hj), List.map_append]; rfl
    · subst pv
      refine ⟨?_, SW_nil ⟨rfl, _, _, rfl, ?_⟩⟩
      · rw [hA, List.length_map, pairsTo_len, List.length_map]
        have := hR.2.1
        show _ + 4 ≤ _
        omega
      · rw [hA, pairsTo_succ, List.map_append]; rfl
  · intro μ δ hp
    obtain ⟨rfl, A, o3, rfl, hA⟩ := hp
    rw [rangeD_len, show ((r.length : Int)).toNat = r.length by omega, show pairsTo r.length = pairs r from rfl] at hA
    subst hA
    have hpl := pairs_len r
    have h6 := hR.2.1
    refine SW_cons <| S1_for hX <| WI_range T.range <| W_add <| W_len T.len <| W_var 2 rfl <| W_int ⟨((pairs r).length + 1 : Nat), by rw [List.length_map]; rfl, by omega, by omega, fun n μ δ => ∃ (S : Tb) (o3 o4 o5 o6 : Option D), μ = tabD S ∧ δ = [some (rtD r), some (.adr q), some (.lst ((pairs r).map pD)), o3, o4, o5, o6, none] ∧ S = rounds r n, ⟨[], _, _, _, _, rfl, rfl, rfl⟩, ?_, ?_⟩
    · intro n d μ δ e hp
      obtain ⟨S, o3, o4, o5, o6, rfl, rfl, hS⟩ := hp
      refine WG_name 4 hX.nd ?_
      refine SW_cons <| S1_for hX <| WI_list <| W_var 2 rfl ⟨_, rfl, ?_⟩
      refine ⟨fun i μ δ => ∃ (S : Tb) (o3 o4 o5 o6 : Option D), μ = tabD S ∧ δ = [some (rtD r), some (.adr q), some (.lst ((pairs r).map pD)), o3, o4, o5, o6, none] ∧ S = ((pairs r).take i).foldl (stepT r) (rounds r n), ⟨S, _, _, _, _, rfl, rfl, hS⟩, ?_, ?_⟩
      · clear hS
        intro i d μ δ e hp
        obtain ⟨S, o3, o4, o5, o6, rfl, rfl, hS⟩ := hp
        obtain ⟨p, ep, rfl⟩ := map_get e
        have hp : OkP r p := pairs_mem.mp (List.mem_of_getElem? ep)
        have hPT : PT r S := hS ▸ PT.steps _ (PT.rounds n) fun p' hp' => pairs_mem.mp (List.mem_of_mem_take hp')
        have hok := hPT.okS hR
        have hnext : stepT r S p = ((pairs r).take (i + 1)).foldl (stepT r) (rounds r n) := by rw [take_snoc ep, List.foldl_append, ← hS]; rfl
        refine WG_name 5 hX.nd ?_
        refine SW_cons <| S1_set 6 hX.nd <| W.mono (Q := fun d => (d = .non ∧ stepT r S p = S) ∨ ∃ x, d = rowL x ∧ lookA S p = none ∧ stepT r S p = S ++ [(p, x)]) (W_ifexp <| WT_cmp <| C_notInDT hX <| W_var 5 rfl <| W_var 1 rfl ⟨_, _, pk p, rfl, rfl, rfl, fun z => ?_, fun z => W_non (.inl ⟨rfl, ?_⟩)⟩) fun d hd => ?_
        · rw [valD_kvs] at z
          have hn : lookA S p = none := by
            cases hh : lookA S p with
            | none => rfl
            | some y => rw [hh] at z; exact nomatch z
          refine W_callF f49 (by exact hr) ⟨_, rfl⟩ <| WA_cons <| W_var 0 rfl <| WA_cons <| W_var 5 rfl <| WA_cons <| W_var 1 rfl <| WA_nil ⟨r, p, S, ?_, hR, hp, hok, ?_⟩
          · simp [thaw, HI.ext, rtD, pD]
          · unfold stepT
            rw [hn]
            cases hx : pairN (lookA S) r p with
            | ok x => exact ⟨pl_rowL 3 x, .inr ⟨x, rfl, rfl, rfl⟩⟩
            | error _ => exact ⟨trivial, .inl ⟨rfl, rfl⟩⟩
        · rw [valD_kvs] at z
          unfold stepT
          cases hh : lookA S p with
          | none => rw [hh] at z; exact nomatch z
          | some y => rfl
        · rcases hd with ⟨rfl, h1⟩ | ⟨x, rfl, hn, h1⟩
          · refine SW_cons <| S1_if <| WT_cmp <| C_notN <| W_var 6 rfl <| W_non ⟨rfl, fun z => ?_, fun _ => SW_nil (SW_nil ⟨S, _, _, _, _, rfl, rfl, h1 ▸ hnext⟩)⟩
            rw [decide_eq_true rfl] at z; exact nomatch z
          · refine SW_cons <| S1_if <| WT_cmp <| C_notN <| W_var 6 rfl <| W_non ⟨rfl, fun _ => ?_, fun z => ?_⟩
            · have := hok.1
              refine SW_cons <| S1_putT hX <| W_var 6 rfl <| W_var 1 rfl <| W_var 5 rfl ⟨q, kvs rowL S, pk p, rfl, rfl, rfl, by unfold kvs; rw [List.length_map]; omega, rfl, SW_nil (SW_nil ⟨S ++ [(p, x)], _, _, _, _, ?_, rfl, h1 ▸ hnext⟩)⟩
              rw [putA_kvs, putA_new hn]; rfl
            · rw [decide_eq_false (by intro z; cases z)] at z; exact nomatch z
      · clear hS
        intro μ δ hp
        obtain ⟨S, o3, o4, o5, o6, rfl, rfl, hS⟩ := hp
        rw [List.length_map, List.take_length] at hS
        exact SW_nil ⟨S, _, _, _, _, rfl, rfl, hS⟩
    · intro μ δ hp
      obtain ⟨S, o3, o4, o5, o6, rfl, rfl, hS⟩ := hp
      rw [rangeD_len] at hS
      refine SW_freeze 1 hq rfl ?_ rfl (fun c z => nomatch z) (fun a z => z)
      refine SW_cons <| S1_ret <| W_var 1 rfl ?_
      rw [hS]; exact h
end
end K48
set_option maxHeartbeats 1000000
/-! The law's walks of a stack, its led posts, its stacks -/
namespace K48
open PySem PySem.Spec PyProof.Rows L2
def endOf (T : Tb) (q : PI2) : Int := match lookA T q with
  | some x => x.1
  | none => -1
def ledS (T : Tb) (F : List Int) (q : PI2) : List Int := if endOf T q ≠ -1 ∧ endOf T q ∉ F then F ++ [endOf T q] else F
def ledP (T : Tb) (F : List Int) (p : Int) : List Int := if p ∈ F then [(p, 0), (p, 1), (p, 2)].foldl (ledS T) F else F
def sixes : List Int := (List.replicate 6 [0, 1, 2, 3, 4, 5]).flatten
def led (T : Tb) : List Int := sixes.foldl (ledP T) [0]
def rests (T : Tb) : Bool := (led T).all fun p => (four p).all fun q => (lookA T q).isSome
def lev : Nat → List (List Int)
  | 0 => [[]]
  | n + 1 => (lev n).flatMap fun u => [u ++ [0], u ++ [1], u ++ [2]]
def stacks : Nat → List (List Int)
  | 0 => [[]]
  | n + 1 => stacks n ++ lev (n + 1)
def chg (q : List Mv) : List Mv := q.take 3 ++ [(((q[3]?).getD ([], [], -1)).1, [], -1)]
theorem ledS_len (T : Tb) (F : List Int) (q : PI2) : (ledS T F q).length ≤ F.length + 1 := by
  unfold ledS
  split
  · rw [List.length_append]; exact Nat.le_refl _
  · omega
theorem lev_len (n : Nat) : (lev n).length = 3 ^ n := by
  induction n with
  | zero => rfl
  | succ n ih =>
    have : ∀ l : List (List Int), (l.flatMap fun u => [u ++ [0], u ++ [1], u ++ [2]]).length = 3 * l.length := by
      intro l
      induction l with
      | nil => rfl
      | cons u l ih => rw [List.flatMap_cons, List.length_append, ih, List.length_cons]; simp only [List.length_cons, List.length_nil]; omega
    unfold lev
    rw [this, ih, Nat.pow_succ]; omega
theorem lev_mem {n : Nat} : ∀ {u : List Int}, u ∈ lev n → u.length = n ∧ ∀ x ∈ u, 0 ≤ x ∧ x ≤ 2 := by
  induction n with
  | zero => intro u hu; rw [List.mem_singleton.mp hu]; exact ⟨rfl, fun x hx => by cases hx⟩
  | succ n ih =>
    intro u hu
    obtain ⟨v, hv, hu⟩ := List.mem_flatMap.mp hu
    obtain ⟨h1, h2⟩ := ih hv
    obtain ⟨s, hs, rfl⟩ : ∃ s : Int, (0 ≤ s ∧ s ≤ 2) ∧ u = v ++ [s] := by
      simp only [List.mem_cons, List.not_mem_nil, or_false] at hu
      rcases hu with rfl | rfl | rfl
      · exact ⟨0, by decide, rfl⟩
      · exact ⟨1, by decide, rfl⟩
      · exact ⟨2, by decide, rfl⟩
    refine ⟨by rw [List.length_append, h1]; rfl, fun x hx => ?_⟩
    rcases List.mem_append.mp hx with h | h
    · exact h2 x h
    · rw [List.mem_singleton.mp h]; exact hs
theorem stacks_len (n : Nat) (h : n ≤ 4) : (stacks n).length ≤ 1000 := by
  match n, h with
  | 0, _ => decide
  | 1, _ => decide
  | 2, _ => decide
  | 3, _ => decide +kernel
  | 4, _ => decide +kernel
section
variable {P : Program} {w : World} {K : PySem.W.Frag} {mg : Str → Option Value} {base : Heap}
theorem sc51 : FnScope ["_law_told_here", "_law_stack", "_law_here", "_law_turns", "_law_marks", "_law_at", "_law_sort", "_law_more", "_law_handed_here", "_law_left"] ["_law_told_here", "_law_stack"] (defScope (topS 51)) := ⟨rfl, rfl, rfl, by decide +kernel, rfl, by decide +kernel, by decide +kernel⟩
def cTold : List D → (D → Prop) → Prop := fun ds R => ∃ (T : Tb) (st : List Int) (y : List Int × List Int × Int), ds = [tabD T, intsD st] ∧ OkS T ∧ st.length ≤ 1000 ∧ told T st = some y ∧ R (restD y)
theorem ok_told (T : Txt mg) (a : At K mg "_law_told" (topS 51) ["_law_told_here", "_law_stack"]) : DefOk P w K mg base "_law_told" 1 (spD cTold) := by
  refine a.ok sc51 (fun ds R h => by obtain ⟨_, _, _, rfl, _⟩ := h; rfl) fun f cdv A outer s H E m ds R hr hX h => ?_
  obtain ⟨TT, st, y, rfl, ⟨_, _, hS⟩, hst, hy, h⟩ := h
  refine SW_cons <| S1_asg <| W_tup <| WA_cons <| W_int <| WA_cons <| W_int <| WA_cons <| W_tup <| WA_nil ⟨sm, WA_nil ⟨sm, ?_⟩⟩
  refine WG_tup hX.calm <| WGs_cons <| WG_name 2 hX.nd <| WGs_cons <| WG_name 3 hX.nd <| WGs_cons <| WG_name 4 hX.nd <| WGs_nil ?_
  refine SW_cons <| S1_for hX <| WI_enumT T.enumerate <| W_add <| W_var 1 rfl <| W_tup <| WA_cons <| W_int <| WA_nil ⟨sm, ?_, _, rfl, ?_⟩
  · rw [List.length_map]; show _ + 1 ≤ _; omega
  rw [show st.map D.int ++ [D.int 3] = (st ++ [3]).map D.int by rw [List.map_append]; rfl]
  refine ⟨fun i μ δ => μ = .non ∧ ∃ (h t : Int) (mm : List Int) (o5 o6 o7 o8 o9 : Option D), δ = [some (tabD TT), some (intsD st), some (.int h), some (.int t), some (intsD mm), o5, o6, o7, o8, o9] ∧ mm.length ≤ 1001 ∧
    toldN (lookA TT) h t mm ((st ++ [3] : List Int).drop i) (st.drop i) = some y, ⟨rfl, 0, 0, [], none, none, none, none, none, rfl, by decide, hy⟩, ?_, ?_⟩
  · intro i d μ δ e hp
    obtain ⟨rfl, hh, t, mm, o5, o6, o7, o8, o9, rfl, hm, hy⟩ := hp
    obtain ⟨x, e3, rfl⟩ := enumD_get e
    obtain ⟨v, e4, rfl⟩ := map_get e3
    refine WG_tup hX.calm <| WGs_cons <| WG_name 5 hX.nd <| WGs_cons <| WG_name 6 hX.nd <| WGs_nil ?_
    rw [drop_step e4] at hy
    unfold toldN at hy
    cases ev : lookA TT (hh, v) with
    | none => rw [ev] at hy; cases hy
    | some x =>
      rw [ev] at hy
      obtain ⟨hx1, hx2⟩ := hS _ _ ev
      obtain ⟨xe, xt, xm, xl⟩ := x
      dsimp only at hx1 hx2
      refine SW_cons <| S1_if <| WT_cmp <| C_notInDT hX <| W_tup <| WA_cons <| W_var 2 rfl <| WA_cons <| W_var 6 rfl <| WA_nil ⟨sm, W_var 0 rfl ⟨_, _, pk (hh, v), rfl, trivial, rfl, ?_⟩⟩
      rw [valD_kvs, ev]
      refine ⟨fun z => nm z, fun _ => SW_nil ?_⟩
      refine SW_cons <| S1_asg <| W_getT hX <| W_var 0 rfl <| W_tup <| WA_cons <| W_var 2 rfl <| WA_cons <| W_var 6 rfl <| WA_nil ⟨sm, _, _, pk (hh, v), rowL (xe, xt, xm, xl), rfl, trivial, rfl, by rw [valD_kvs, ev]; rfl, ?_⟩
      refine WG_lst hX.calm <| WGs_cons <| WG_name 2 hX.nd <| WGs_cons <| WG_name 7 hX.nd <| WGs_cons <| WG_name 8 hX.nd <| WGs_cons <| WG_name 9 hX.nd <| WGs_nil ?_
      refine SW_cons <| S1_par 3 4 hX.calm hX.nd <| WA_cons <| W_add <| W_var 3 rfl <| W_var 7 rfl <| WA_cons <| W_slT <| W_add <| W_var 4 rfl <| W_var 8 rfl ⟨?_, W_int ⟨(1001 : Nat), rfl, _, rfl, WA_nil ⟨_, _, rfl, ?_⟩⟩⟩
      · rw [List.length_map, List.length_map]; dsimp only; omega
      rw [cut_hi, ← List.map_append, int_take]
      have hm' : ((mm ++ xm).take 1001).length ≤ 1001 := by rw [List.length_take]; omega
      refine SW_cons <| S1_if <| WT_cmp <| C_eqI <| W_var 2 rfl <| W_neg <| W_int ⟨_, rfl, fun z => ?_, fun z => ?_⟩
      · simp only [decide_eq_true_eq] at z
        dsimp only at hy
        rw [if_pos z, List.tail_drop] at hy
        refine SW_cons <| S1_ret <| W_tup <| WA_cons <| W_str <| WA_cons <| W_var 4 rfl <| WA_cons <| W_add <| W_var 9 rfl <| W_slT <| W_var 1 rfl <| W_add <| W_var 5 rfl <| W_int ⟨((i + 1 : Nat) : Int), rfl, _, rfl, ?_, WA_cons <| W_var 3 rfl <| WA_nil ⟨sm, ?_⟩⟩
        · rw [cut_lo, List.length_map, List.length_drop, List.length_map]; dsimp only; omega
        · rw [cut_lo, int_drop, ← List.map_append]
          cases hy
          exact h
      · simp only [decide_eq_false_iff_not] at z
        dsimp only at hy
        rw [if_neg z, List.tail_drop] at hy
        exact SW_nil (SW_nil ⟨rfl, _, _, _, _, _, _, _, _, rfl, hm', hy⟩)
  · intro μ δ hp
    obtain ⟨rfl, hh, t, mm, o5, o6, o7, o8, o9, rfl, hm, hy⟩ := hp
    unfold enumD at hy
    rw [List.length_mapIdx, List.length_map, List.drop_length] at hy
    exact nomatch hy
theorem sc61 : FnScope ["_law_table_here", "_law_stack"] ["_law_table_here", "_law_stack"] (defScope (topS 61)) := ⟨rfl, rfl, rfl, by decide +kernel, rfl, by decide +kernel, by decide +kernel⟩
def cHanded : List D → (D → Prop) → Prop := fun ds R => ∃ (T : Tb) (st : List Int) (y : List Int × List Int × Int), ds = [tabD T, intsD st] ∧ OkS T ∧ st.length ≤ 1000 ∧ told T st = some y ∧ R (intsD y.1)
theorem ok_handed (T : Txt mg) (a : At K mg "_law_handed" (topS 61) ["_law_table_here", "_law_stack"]) (f51 : DefOk P w K mg base "_law_told" 1 (spD cTold)) : DefOk P w K mg base "_law_handed" 2 (spD cHanded) := by
  refine a.ok sc61 (fun ds R h => by obtain ⟨_, _, _, rfl, _⟩ := h; rfl) fun f cdv A outer s H E m ds R hr hX h => ?_
  obtain ⟨TT, st, y, rfl, hS, hst, hy, h⟩ := h
  exact SW_cons <| S1_ret <| W_itT <| W_call f51 (by exact hr) <| WA_cons <| W_var 0 rfl <| WA_cons <| W_var 1 rfl <| WA_nil ⟨TT, st, y, rfl, hS, hst, hy, W_int ⟨_, 1, intsD y.1, rfl, rfl, atD_nat (j := 1) rfl, h⟩⟩
theorem sc52 : FnScope ["_law_told_here", "_law_found", "_law_post", "_law_sort", "_law_end"] ["_law_told_here"] (defScope (topS 52)) := ⟨rfl, rfl, rfl, by decide +kernel, rfl, by decide +kernel, by decide +kernel⟩
def cLed : List D → (D → Prop) → Prop := fun ds R => ∃ (T : Tb), ds = [tabD T] ∧ R (.lst ((led T).map D.int))
theorem plI (F : List Int) (n : Nat) : ∀ x ∈ F.map D.int, Pl n x := fun x hx => by
  obtain ⟨i, _, rfl⟩ := List.mem_map.mp hx
  cases n <;> trivial
theorem mem_ints {i : Int} {F : List Int} : D.int i ∈ F.map D.int ↔ i ∈ F := ⟨fun h => by
  obtain ⟨j, hj, e⟩ := List.mem_map.mp h
  injection e with e
  exact e ▸ hj, fun h => List.mem_map_of_mem h⟩
theorem ok_led (T : Txt mg) (a : At K mg "_law_led" (topS 52) ["_law_told_here"]) : DefOk P w K mg base "_law_led" 1 (spD cLed) := by
  refine a.ok sc52 (fun ds R h => by obtain ⟨_, rfl, _⟩ := h; rfl) fun f cdv A outer s H E m ds R hr hX h => ?_
  obtain ⟨TT, rfl, h⟩ := h
  refine SW_newL 1 hX.nd rfl <| WA_cons <| W_int <| WA_nil ⟨sm, fun q hq => ?_⟩
  refine SW_cons <| S1_for hX <| WI_tup <| W_rep <| W_tup <| WA_cons <| W_int <| WA_cons <| W_int <| WA_cons <| W_int <| WA_cons <| W_int <| WA_cons <| W_int <| WA_cons <| W_int <| WA_nil ⟨sm, W_int ⟨_, 6, rfl, rfl, by simp, by decide, by decide, by simp, _, rfl, ?_⟩⟩
  rw [show (List.replicate (6 : Int).toNat [D.int 0, D.int 1, D.int 2, D.int 3, D.int 4, D.int 5]).flatten = sixes.map D.int from rfl]
  refine ⟨fun i μ δ => ∃ (F : List Int) (o2 o3 o4 : Option D), μ = .lst (F.map D.int) ∧ δ = [some (tabD TT), some (.adr q), o2, o3, o4] ∧ F = (sixes.take i).foldl (ledP TT) [0] ∧ F.length ≤ 1 + 3 * i, ⟨[0], _, _, _, rfl, rfl, rfl, Nat.le_refl _⟩, ?_, ?_⟩
  · intro i d μ δ e hp
    obtain ⟨F, o2, o3, o4, rfl, rfl, hF, hl⟩ := hp
    obtain ⟨p, ep, rfl⟩ := map_get e
    have hi : i < 36 := (List.getElem?_eq_some_iff.mp ep).1
    have hnext : ledP TT F p = (sixes.take (i + 1)).foldl (ledP TT) [0] := by rw [take_snoc ep, List.foldl_append, ← hF]; rfl
    refine WG_name 2 hX.nd ?_
    refine SW_cons <| S1_for hX <| WI_tup <| W.mono (Q := fun d => (p ∈ F ∧ d = .tup [.int 0, .int 1, .int 2]) ∨ (p ∉ F ∧ d = .tup [])) (W_ifexp <| WT_cmp <| C_inL hX <| W_var 2 rfl <| W_var 1 rfl ⟨F.map D.int, rfl, rfl, trivial, plI F 5, fun z => W_tup <| WA_cons <| W_int <| WA_cons <| W_int <| WA_cons <| W_int <| WA_nil ⟨sm, .inl ⟨?_, rfl⟩⟩, fun z => W_tup <| WA_nil ⟨sm, .inr ⟨?_, rfl⟩⟩⟩) fun d hd => ?_
    · rw [decide_eq_true_eq, mem_ints] at z; exact z
    · rw [decide_eq_false_iff_not, mem_ints] at z; exact z
    unfold ledP at hnext
    rcases hd with ⟨hpF, rfl⟩ | ⟨hpF, rfl⟩
    · rw [if_pos hpF] at hnext
      refine ⟨_, rfl, fun j μ δ => ∃ (G : List Int) (o3 o4 : Option D), μ = .lst (G.map D.int) ∧ δ = [some (tabD TT), some (.adr q), some (.int p), o3, o4] ∧ G = (([(p, 0), (p, 1), (p, 2)] : List PI2).take j).foldl (ledS TT) F ∧ G.length ≤ F.length + j, ⟨F, _, _, rfl, rfl, rfl, Nat.le_refl _⟩, ?_, ?_⟩
      · intro j d μ δ e hp
        obtain ⟨G, o3, o4, rfl, rfl, hG, hgl⟩ := hp
        obtain ⟨sj, es, rfl⟩ : ∃ s : Int, ([(p, 0), (p, 1), (p, 2)] : List PI2)[j]? = some (p, s) ∧ d = .int s := by
          have hj : j < 3 := (List.getElem?_eq_some_iff.mp e).1
          match j, hj with
          | 0, _ => cases e; exact ⟨0, rfl, rfl⟩
          | 1, _ => cases e; exact ⟨1, rfl, rfl⟩
          | 2, _ => cases e; exact ⟨2, rfl, rfl⟩
        have hj : j < 3 := (List.getElem?_eq_some_iff.mp e).1
        have hnx : ledS TT G (p, sj) = (([(p, 0), (p, 1), (p, 2)] : List PI2).take (j + 1)).foldl (ledS TT) F := by rw [take_snoc es, List.foldl_append, ← hG]; rfl
        have hnl : (ledS TT G (p, sj)).length ≤ F.length + (j + 1) := by have := ledS_len TT G (p, sj); omega
        refine WG_name 3 hX.nd ?_
        refine SW_cons <| S1_set 4 hX.nd <| W_itL <| W_get2 hX <| W_var 0 rfl ⟨kvs rowL TT, rfl, W_tup <| WA_cons <| W_var 2 rfl <| WA_cons <| W_var 3 rfl <| WA_nil ⟨sm, pk (p, sj), rfl, W_lst <| WA_cons <| W_neg <| W_int ⟨_, rfl, WA_nil ⟨sm, W_int ?_⟩⟩⟩⟩
        rw [lookA_kvs]
        have hend : ∃ xs, ((lookA TT (p, sj)).map rowL).getD (.lst [.int (-1)]) = .lst xs ∧ xs[0]? = some (.int (endOf TT (p, sj))) := by
          unfold endOf
          cases lookA TT (p, sj) with
          | none => exact ⟨_, rfl, rfl⟩
          | some x => exact ⟨_, rfl, rfl⟩
        obtain ⟨xs, hxs, hx0⟩ := hend
        refine ⟨xs, 0, .int (endOf TT (p, sj)), hxs, rfl, atD_nat (j := 0) hx0, ?_⟩
        unfold ledS at hnx hnl
        refine SW_cons <| S1_if <| WT_ww <| WW_and <| WT_cmp <| C_ne hX <| W_var 4 rfl <| W_neg <| W_int ⟨_, rfl, trivial, trivial, fun z => ?_, fun z => ?_⟩
        · have z1 : endOf TT (p, sj) ≠ -1 := fun c => by rw [c, decide_eq_true rfl] at z; exact nomatch z
          refine WW_and1 <| WT_cmp <| C_notInL hX <| W_var 4 rfl <| W_var 1 rfl ⟨G.map D.int, rfl, rfl, trivial, plI G 5, fun z2 => ?_, fun z2 => ?_⟩
          · have z3 : endOf TT (p, sj) ∉ G := fun c => by rw [decide_eq_true (mem_ints.mpr c)] at z2; exact nomatch z2
            rw [if_pos ⟨z1, z3⟩] at hnx hnl
            refine SW_cons <| S1_append <| W_var 1 rfl ⟨q, G.map D.int, rfl, rfl, rfl, by rw [List.length_map]; omega, W_var 4 rfl <| SW_nil (SW_nil ⟨G ++ [endOf TT (p, sj)], _, _, by rw [List.map_append]; rfl, rfl, hnx, hnl⟩)⟩
          · have z3 : endOf TT (p, sj) ∈ G := Classical.byContradiction fun c => by rw [decide_eq_false (fun h => c (mem_ints.mp h))] at z2; exact nomatch z2
            rw [if_neg fun c => c.2 z3] at hnx hnl
            exact SW_nil (SW_nil ⟨G, _, _, rfl, rfl, hnx, hnl⟩)
        · have z1 : endOf TT (p, sj) = -1 := Classical.byContradiction fun c => by rw [decide_eq_false (by intro e; injection e with e; exact c e)] at z; exact nomatch z
          rw [if_neg fun c => c.1 z1] at hnx hnl
          exact ⟨fun z => nm z, fun _ => SW_nil (SW_nil ⟨G, _, _, rfl, rfl, hnx, hnl⟩)⟩
      · intro μ δ hp
        obtain ⟨G, o3, o4, rfl, rfl, hG, hgl⟩ := hp
        refine SW_nil ?_
        have hgl : G.length ≤ F.length + 3 := hgl
        exact ⟨G, _, _, _, rfl, rfl, (hG.trans (by rfl)).trans hnext, by omega⟩
    · rw [if_neg hpF] at hnext
      refine ⟨_, rfl, fun j μ δ => μ = .lst (F.map D.int) ∧ δ = [some (tabD TT), some (.adr q), some (.int p), o3, o4], ⟨rfl, rfl⟩, fun j d μ δ e hp => by simp at e, ?_⟩
      intro μ δ hp
      obtain ⟨rfl, rfl⟩ := hp
      exact SW_nil ⟨F, _, _, _, rfl, rfl, hnext, by omega⟩
  · intro μ δ hp
    obtain ⟨F, o2, o3, o4, rfl, rfl, hF, hl⟩ := hp
    rw [List.length_map, List.take_length] at hF
    refine SW_freeze 1 hq rfl ?_ rfl (fun c z => nomatch z) (fun a z => z)
    refine SW_cons <| S1_ret <| W_var 1 rfl ?_
    rw [hF]; exact h
end
end K48
set_option maxHeartbeats 1000000
namespace K48
open PySem PySem.Spec PyProof.Rows L2
theorem tu_ints' (n : Nat) (ns : List Int) : Tu (n + 1) (intsD ns) := fun x hx => by
  obtain ⟨i, _, rfl⟩ := List.mem_map.mp hx
  cases n <;> trivial
theorem tu_mv (n : Nat) (v : Mv) : Tu (n + 2) (mvD v) := fun d hd => by
  simp only [List.mem_cons, List.not_mem_nil, or_false] at hd
  rcases hd with rfl | rfl | rfl
  · exact tu_ints' n _
  · exact tu_ints' n _
  · trivial
theorem tu_post (q : List Mv) : Tu 5 (postD q) := fun d hd => by
  obtain ⟨v, _, rfl⟩ := List.mem_map.mp hd
  exact tu_mv 2 v
section
variable {P : Program} {w : World} {K : PySem.W.Frag} {mg : Str → Option Value} {base : Heap}
theorem sc53 : FnScope ["_law_told_here", "_law_post", "_law_sort"] ["_law_told_here"] (defScope (topS 53)) := ⟨rfl, rfl, rfl, by decide +kernel, rfl, by decide +kernel, by decide +kernel⟩
def cRests : List D → (D → Prop) → Prop := fun ds R => ∃ (T : Tb), ds = [tabD T] ∧ R (.bl (rests T))
def missing (T : Tb) (p : Int) (j : Nat) : List Int := (((four p).take j).filter fun q => !(lookA T q).isSome).map Prod.snd
theorem lst_inj {a b : List D} (h : D.lst a = D.lst b) : a = b := by injection h
theorem nd_false {p : Prop} {h : Decidable p} (z : (!@decide p h) = false) : p := by simpa using z
theorem nd_true {p : Prop} {h : Decidable p} (z : (!@decide p h) = true) : ¬ p := by simpa using z
theorem missing_len (T : Tb) (p : Int) (j : Nat) : (missing T p j).length ≤ j := by
  unfold missing
  rw [List.length_map]
  refine Nat.le_trans (List.length_filter_le _ _) ?_
  rw [List.length_take]; exact Nat.min_le_left _ _
theorem missing_all (T : Tb) (p : Int) : (four p).all (fun q => (lookA T q).isSome) = true ↔ missing T p 4 = [] := by
  unfold missing
  rw [List.map_eq_nil_iff, List.filter_eq_nil_iff, List.all_eq_true, show (four p).take 4 = four p from rfl]
  constructor
  · intro h1 q hq; rw [h1 q hq]; decide
  · intro h1 q hq
    have := h1 q hq
    cases hh : (lookA T q).isSome with
    | true => rfl
    | false => rw [hh] at this; exact absurd rfl this
theorem missing_snoc (T : Tb) (p : Int) {j : Nat} (hj : j < 4) : missing T p (j + 1) = missing T p j ++ if (lookA T (p, (j : Int))).isSome then [] else [(j : Int)] := by
  unfold missing
  rw [take_snoc (four_get hj), List.filter_append, List.map_append]
  congr 1
  simp only [List.filter_cons, List.filter_nil]
  cases (lookA T (p, (j : Int))).isSome <;> rfl
theorem ok_rests (T : Txt mg) (a : At K mg "_law_rests" (topS 53) ["_law_told_here"]) (f52 : DefOk P w K mg base "_law_led" 1 (spD cLed)) : DefOk P w K mg base "_law_rests" 2 (spD cRests) := by
  refine a.ok sc53 (fun ds R h => by obtain ⟨_, rfl, _⟩ := h; rfl) fun f cdv A outer s H E m ds R hr hX h => ?_
  obtain ⟨TT, rfl, h⟩ := h
  refine SW_cons <| S1_for hX <| WI_list <| W_call f52 (by exact hr) <| WA_cons <| W_var 0 rfl <| WA_nil ⟨TT, rfl, _, rfl, ?_⟩
  refine ⟨fun i μ δ => μ = .non ∧ ∃ (o1 : Option D), δ = [some (tabD TT), o1, none] ∧ ∀ p ∈ (led TT).take i, (four p).all (fun q => (lookA TT q).isSome) = true, ⟨rfl, _, rfl, fun p hp => by cases hp⟩, ?_, ?_⟩
  · intro i d μ δ e hp
    obtain ⟨rfl, o1, rfl, hall⟩ := hp
    obtain ⟨p, ep, rfl⟩ := map_get e
    refine WG_name 1 hX.nd ?_
    refine SW_cons <| S1_if <| WT_cmp <| C_ne hX <| W_lcIf (own := [("_law_sort", 2)]) (g := gName 2) (fun d δ => δ.set 2 (some d)) hX (.inl rfl) (blkOk_by (by rfl)) (fun s H C cl fp => pg_name (i := 2) (by exact hX.nd) rfl (.inl rfl) (.inr rfl)) <| WI_tup <| W_tup <| WA_cons <| W_int <| WA_cons <| W_int <| WA_cons <| W_int <| WA_cons <| W_int <| WA_nil ⟨sm, _, rfl, ?_⟩
    refine ⟨fun j acc => acc = (missing TT p j).map D.int, rfl, fun j d acc e pv => ?_, fun acc pv => ?_⟩
    · subst pv
      have hj : j < 4 := (List.getElem?_eq_some_iff.mp e).1
      have hd : d = .int j := by
        match j, hj with
        | 0, _ => cases e; rfl
        | 1, _ => cases e; rfl
        | 2, _ => cases e; rfl
        | 3, _ => cases e; rfl
      subst hd
      have hms := missing_snoc TT p hj
      refine ⟨?_, tgt_name, fun s H0 C cl fp => ?_⟩
      · have := missing_len TT p j
        rw [List.length_map]; omega
      refine WT_cmp <| C_notInDT hX.blk <| W_tup <| WA_cons <| W_var 1 rfl <| WA_cons <| W_var 2 rfl <| WA_nil ⟨sm, W_var 0 rfl ⟨_, _, pk (p, j), rfl, trivial, rfl, ?_⟩⟩
      rw [valD_kvs]
      refine ⟨fun z s H0 C cl fp => W_var 2 rfl ⟨trivial, ?_⟩, fun z => ?_⟩
      · show _ = _
        rw [hms]
        cases hh : lookA TT (p, (j : Int)) with
        | some x => rw [hh] at z; exact nomatch z
        | none => rw [List.map_append]; rfl
      · show _ = _
        rw [hms]
        cases hh : lookA TT (p, (j : Int)) with
        | some x => rw [if_pos (show (some x).isSome = true from rfl), List.append_nil]
        | none => rw [hh] at z; exact nomatch z
    · subst pv
      have h4 := missing_all TT p
      refine W_lst <| WA_nil ⟨sm, plI _ 5, fun _ h => (by cases h), fun z => ?_, fun z => SW_nil (SW_nil ?_)⟩
      · refine SW_cons <| S1_ret <| W_bl ?_
        have : rests TT = false := by
          cases hh : rests TT with
          | false => rfl
          | true =>
            have h5 := List.all_eq_true.mp hh p (List.mem_of_getElem? ep)
            have h6 := h4.mp h5
            exact absurd (congrArg (fun l : List Int => D.lst (l.map D.int)) h6) (nd_true z)
        rw [this] at h; exact h
      · refine ⟨rfl, _, rfl, fun p' hp' => ?_⟩
        rw [take_snoc ep] at hp'
        rcases List.mem_append.mp hp' with h5 | h5
        · exact hall p' h5
        · rw [List.mem_singleton.mp h5]
          refine h4.mpr ?_
          have z' : D.lst ((missing TT p 4).map D.int) = .lst [] := nd_false z
          exact List.map_eq_nil_iff.mp (lst_inj z')
  · intro μ δ hp
    obtain ⟨rfl, o1, rfl, hall⟩ := hp
    rw [List.length_map, List.take_length] at hall
    refine SW_cons <| S1_ret <| W_bl ?_
    have : rests TT = true := List.all_eq_true.mpr hall
    rw [this] at h; exact h
theorem sc54 : FnScope ["_law_longest", "_law_found", "_law_now", "_law_turn", "_law_later", "_law_stack", "_law_sort"] ["_law_longest"] (defScope (topS 54)) := ⟨rfl, rfl, rfl, by decide +kernel, rfl, by decide +kernel, by decide +kernel⟩
def cStacks : List D → (D → Prop) → Prop := fun ds R => ∃ n : Nat, ds = [.int n] ∧ n ≤ 4 ∧ R (.lst ((stacks n).map intsD))
def longer (l : List (List Int)) : List (List Int) := l.flatMap fun u => [u ++ [0], u ++ [1], u ++ [2]]
theorem longer_len (l : List (List Int)) : (longer l).length = 3 * l.length := by
  unfold longer
  induction l with
  | nil => rfl
  | cons u l ih => rw [List.flatMap_cons, List.length_append, ih, List.length_cons]; simp only [List.length_cons, List.length_nil]; omega
theorem ok_stacks (T : Txt mg) (a : At K mg "_law_stacks" (topS 54) ["_law_longest"]) : DefOk P w K mg base "_law_stacks" 1 (spD cStacks) := by
  refine a.ok sc54 (fun ds R h => by obtain ⟨_, rfl, _⟩ := h; rfl) fun f cdv A outer s H E m ds R hr hX h => ?_
  obtain ⟨n, rfl, hn, h⟩ := h
  refine SW_cons <| S1_par 1 2 hX.calm hX.nd <| WA_cons <| W_lst <| WA_cons <| W_tup <| WA_nil ⟨sm, WA_nil ⟨sm, WA_cons <| W_lst <| WA_cons <| W_tup <| WA_nil ⟨sm, WA_nil ⟨sm, WA_nil ⟨_, _, rfl, ?_⟩⟩⟩⟩⟩
  refine SW_cons <| S1_for hX <| WI_range T.range <| W_var 0 rfl ⟨n, rfl, by omega, by omega, fun i μ δ => μ = .non ∧ ∃ (o3 o4 o5 : Option D), δ = [some (.int n), some (.lst ((stacks i).map intsD)), some (.lst ((lev i).map intsD)), o3, o4, o5, none], ⟨rfl, _, _, _, rfl⟩, ?_, ?_⟩
  · intro i d μ δ e hp
    obtain ⟨rfl, o3, o4, o5, rfl⟩ := hp
    obtain ⟨hi, rfl⟩ := rangeD_get e
    have hi4 : i < 4 := by omega
    refine WG_name 3 hX.nd ?_
    refine SW_cons <| S1_set 4 hX.nd <| W_lst <| WA_nil ⟨sm, ?_⟩
    refine SW_cons <| S1_for hX <| WI_list <| W_var 2 rfl ⟨_, rfl, fun j μ δ => μ = .non ∧ ∃ (A : List D) (o5 : Option D), δ = [some (.int n), some (.lst ((stacks i).map intsD)), some (.lst ((lev i).map intsD)), some (.int i), some (.lst A), o5, none] ∧ A = (longer ((lev i).take j)).map intsD, ⟨rfl, _, _, rfl, rfl⟩, ?_, ?_⟩
    · intro j d μ δ e hp
      obtain ⟨rfl, A, o5, rfl, hA⟩ := hp
      obtain ⟨u, eu, rfl⟩ := map_get e
      have hul := (lev_mem (List.mem_of_getElem? eu)).1
      refine WG_name 5 hX.nd ?_
      refine SW_cons <| S1_set 4 hX.nd <| W_add <| W_var 4 rfl <| W_lc (own := [("_law_sort", 6)]) (g := gName 6) (fun d δ => δ.set 6 (some d)) hX (.inl rfl) (blkOk_by (by rfl)) (fun s H C cl fp => pg_name (i := 6) (by exact hX.nd) rfl (.inl rfl) (.inr rfl)) <| WI_tup <| W_tup <| WA_cons <| W_int <| WA_cons <| W_int <| WA_cons <| W_int <| WA_nil ⟨sm, _, rfl, ?_⟩
      refine ⟨fun k acc => acc = (([u ++ [0], u ++ [1], u ++ [2]] : List (List Int)).take k).map intsD, rfl, fun k d acc e pv => ?_, fun acc pv => ?_⟩
      · subst pv
        obtain ⟨sk, es, rfl⟩ : ∃ s : Int, ([u ++ [0], u ++ [1], u ++ [2]] : List (List Int))[k]? = some (u ++ [s]) ∧ d = .int s := by
          have hk : k < 3 := (List.getElem?_eq_some_iff.mp e).1
          match k, hk with
          | 0, _ => cases e; exact ⟨0, rfl, rfl⟩
          | 1, _ => cases e; exact ⟨1, rfl, rfl⟩
          | 2, _ => cases e; exact ⟨2, rfl, rfl⟩
        have hk : k < 3 := (List.getElem?_eq_some_iff.mp e).1
        refine ⟨by rw [List.length_map, List.length_take]; omega, tgt_name, fun s H0 C cl fp => ?_⟩
        refine W_add <| W_var 5 rfl <| W_tup <| WA_cons <| W_var 6 rfl <| WA_nil ⟨sm, ?_, ?_⟩
        · rw [List.length_map]; show _ + 1 ≤ _; omega
        · rw [show D.tup (u.map D.int ++ [D.int sk]) = intsD (u ++ [sk]) by unfold intsD; rw [List.map_append]; rfl]
          refine ⟨tu_ints' 4 _, ?_⟩
          show _ = _
          rw [take_snoc es, List.map_append]; rfl
      · subst pv
        have h3 : (3 : Nat) ^ i ≤ 3 ^ 4 := Nat.pow_le_pow_right (by decide) (by omega)
        have h4 := lev_len i
        refine ⟨?_, SW_nil ⟨rfl, _, _, rfl, ?_⟩⟩
        · rw [hA, List.length_map, longer_len, List.length_take, List.length_map]
          show _ + 3 ≤ _
          have : (3 : Nat) ^ 4 = 81 := by decide
          omega
        · rw [hA, take_snoc eu]
          unfold longer
          rw [List.flatMap_append, List.map_append]; simp
    · intro μ δ hp
      obtain ⟨rfl, A, o5, rfl, hA⟩ := hp
      rw [List.length_map, List.take_length, show longer (lev i) = lev (i + 1) from rfl] at hA
      subst hA
      have h3 : (3 : Nat) ^ (i + 1) ≤ 3 ^ 4 := Nat.pow_le_pow_right (by decide) (by omega)
      have : (3 : Nat) ^ 4 = 81 := by decide
      have h4 := lev_len (i + 1)
      have h5 := stacks_len i (by omega)
      refine SW_cons <| S1_par 1 2 hX.calm hX.nd <| WA_cons <| W_add <| W_var 1 rfl <| W_var 4 rfl ⟨?_, WA_cons <| W_var 4 rfl <| WA_nil ⟨_, _, rfl, ?_⟩⟩
      · rw [List.length_map, List.length_map]; omega
      · rw [← List.map_append]
        exact SW_nil ⟨rfl, _, _, _, rfl⟩
  · intro μ δ hp
    obtain ⟨rfl, o3, o4, o5, rfl⟩ := hp
    rw [rangeD_len, show ((n : Int)).toNat = n by omega]
    exact SW_cons <| S1_ret <| W_var 1 rfl h
theorem sc59 : FnScope ["_law_table_here", "_law_found", "_law_post", "_law_sort", "_law_end", "_law_turns", "_law_marks", "_law_left"] ["_law_table_here"] (defScope (topS 59)) := ⟨rfl, rfl, rfl, by decide +kernel, rfl, by decide +kernel, by decide +kernel⟩
def cLawWalk : List D → (D → Prop) → Prop := fun ds R => ∃ (T : Tb), ds = [tabD T] ∧ LedOk T (led T) ∧ (led T).length ≤ 1000 ∧ ∀ ms : List Int, ms.Perm (led T) → ms.Pairwise (· ≤ ·) → R (.tup ((wrows T ms).map wD))
theorem ok_law_walk (T : Txt mg) (a : At K mg "_law_walk" (topS 59) ["_law_table_here"]) (f52 : DefOk P w K mg base "_law_led" 1 (spD cLed)) : DefOk P w K mg base "_law_walk" 2 (spD cLawWalk) := by
  refine a.ok sc59 (fun ds R h => by obtain ⟨_, rfl, _⟩ := h; rfl) fun f cdv A outer s H E m ds R hr hX h => ?_
  obtain ⟨TT, rfl, hL, hlen, h⟩ := h
  refine SW_newL 1 hX.nd rfl <| WA_nil ⟨sm, fun q hq => ?_⟩
  refine SW_cons <| S1_for hX <| WI_list <| W_sortedI T.sorted <| W_call f52 (by exact hr) <| WA_cons <| W_var 0 rfl <| WA_nil ⟨TT, rfl, led TT, rfl, fun ms hp hle => ⟨_, rfl, ?_⟩⟩
  have hml : ms.length ≤ 1000 := by rw [hp.length_eq]; exact hlen
  refine ⟨fun k μ δ => ∃ (A : List D) (o2 o3 o4 o5 o6 o7 : Option D), μ = .lst A ∧ δ = [some (tabD TT), some (.adr q), o2, o3, o4, o5, o6, o7] ∧ A = (wrows TT (ms.take k)).map wD, ⟨_, _, _, _, _, _, _, rfl, rfl, rfl⟩, ?_, ?_⟩
  · intro k d μ δ e hp'
    obtain ⟨A, o2, o3, o4, o5, o6, o7, rfl, rfl, hA⟩ := hp'
    obtain ⟨p, ep, rfl⟩ := map_get e
    have hpm : p ∈ led TT := hp.mem_iff.mp (List.mem_of_getElem? ep)
    refine WG_name 2 hX.nd ?_
    refine SW_cons <| S1_for hX <| WI_tup <| W_tup <| WA_cons <| W_int <| WA_cons <| W_int <| WA_cons <| W_int <| WA_cons <| W_int <| WA_nil ⟨sm, _, rfl, ?_⟩
    refine ⟨fun i μ δ => ∃ (B : List D) (o3 o4 o5 o6 o7 : Option D), μ = .lst B ∧ δ = [some (tabD TT), some (.adr q), some (.int p), o3, o4, o5, o6, o7] ∧ B = A ++ (((four p).take i).map (wr TT)).map wD, ⟨A, _, _, _, _, _, rfl, rfl, by simp⟩, ?_, ?_⟩
    · intro i d μ δ e hp'
      obtain ⟨B, o3, o4, o5, o6, o7, rfl, rfl, hB⟩ := hp'
      have hi : i < 4 := (List.getElem?_eq_some_iff.mp e).1
      have hd : d = .int i := by
        match i, hi with
        | 0, _ => cases e; rfl
        | 1, _ => cases e; rfl
        | 2, _ => cases e; rfl
        | 3, _ => cases e; rfl
      subst hd
      obtain ⟨x, hx, _⟩ := hL.all p hpm i (by omega) (by omega)
      refine WG_name 3 hX.nd ?_
      refine SW_cons <| S1_asg <| W_getT hX <| W_var 0 rfl <| W_tup <| WA_cons <| W_var 2 rfl <| WA_cons <| W_var 3 rfl <| WA_nil ⟨sm, _, _, pk (p, i), rowL x, rfl, trivial, rfl, by rw [valD_kvs, hx]; rfl, ?_⟩
      refine WG_lst hX.calm <| WGs_cons <| WG_name 4 hX.nd <| WGs_cons <| WG_name 5 hX.nd <| WGs_cons <| WG_name 6 hX.nd <| WGs_cons <| WG_name 7 hX.nd <| WGs_nil ?_
      refine SW_cons <| S1_append <| W_var 1 rfl ⟨q, B, rfl, rfl, rfl, ?_, W_tup <| WA_cons <| W_var 2 rfl <| WA_cons <| W_var 3 rfl <| WA_cons <| W_var 6 rfl <| WA_cons <| W_var 4 rfl <| WA_nil ⟨sm, SW_nil ⟨_, _, _, _, _, _, rfl, rfl, ?_⟩⟩⟩
      · rw [hB, hA, List.length_append, List.length_map, wrows_len, List.length_map, List.length_map, List.length_take, List.length_take]
        have : (four p).length = 4 := rfl
        omega
      · rw [hB, take_snoc (four_get hi), List.map_append (l₁ := (four p).take i), List.map_append (l₂ := [(p, (i : Int))].map (wr TT)), List.append_assoc, List.map_cons, wr_some hx]; rfl
    · intro μ δ hp'
      obtain ⟨B, o3, o4, o5, o6, o7, rfl, rfl, hB⟩ := hp'
      refine SW_nil ?_
      refine ⟨_, _, _, _, _, _, _, rfl, rfl, ?_⟩
      rw [hB, hA, take_snoc ep, wrows_snoc, List.map_append (l₁ := wrows TT (ms.take k))]; rfl
  · intro μ δ hp'
    obtain ⟨A, o2, o3, o4, o5, o6, o7, rfl, rfl, hA⟩ := hp'
    rw [List.length_map, List.take_length] at hA
    refine SW_cons <| S1_ret <| W_tupleOf T.tuple <| W_var 1 rfl ⟨A, rfl, rfl, ?_⟩
    rw [hA]; exact h ms hp hle
theorem sc55 : FnScope ["_law_cup_here", "_law_found", "_law_post"] ["_law_cup_here"] (defScope (topS 55)) := ⟨rfl, rfl, rfl, by decide +kernel, rfl, by decide +kernel, by decide +kernel⟩
def cResting : List D → (D → Prop) → Prop := fun ds R => ds = [] ∧ ∀ r, (Calm r ∧ rests (table r) = true) ∨ (∃ r0, Calm r0 ∧ r = r0.map chg) → R (rtD r)
theorem ok_resting (T : Txt mg) (a : At K mg "_law_resting" (topS 55) ["_law_cup_here"]) (f47 : DefOk P w K mg base "_law_calm" 3 (spC cCalm)) (f50 : DefOk P w K mg base "_law_table" 2 (spD cTable)) (f53 : DefOk P w K mg base "_law_rests" 2 (spD cRests)) : DefOk P w K mg base "_law_resting" 4 (spC cResting) := by
  refine a.okC sc55 (fun ds R h => by obtain ⟨rfl, _⟩ := h; rfl) fun f cdv A outer s H E m c ds R hr hX h => ?_
  obtain ⟨rfl, h⟩ := h
  refine SW_cons <| S1_set 1 hX.nd <| W_callC f47 (by exact hr) rfl <| WA_cons <| W_var 0 rfl <| WA_nil ⟨_, rfl, rfl, fun r hC => ?_⟩
  refine SW_cons <| S1_if <| WT_val <| W_call f53 (hr.mono (by decide)) <| WA_cons <| W_call f50 (hr.mono (by decide)) <| WA_cons <| W_var 1 rfl <| WA_nil ⟨r, rfl, hC.ok, WA_nil ⟨table r, rfl, _, rfl, fun z => ?_, fun z => SW_nil ?_⟩⟩
  · exact SW_cons <| S1_ret <| W_var 1 rfl (h r (.inl ⟨hC, z⟩))
  refine SW_cons <| S1_ret <| W_tupleOf T.tuple <| W_lc (own := [("_law_post", 2)]) (g := gName 2) (fun d δ => δ.set 2 (some d)) hX (.inl rfl) (blkOk_by (by rfl)) (fun s H C cl fp => pg_name (i := 2) (by exact hX.nd) rfl (.inl rfl) (.inr rfl)) <| WI_tup <| W_var 1 rfl ⟨_, rfl, ?_⟩
  refine ⟨fun i acc => acc = (r.take i).map fun q => postD (chg q), rfl, fun i d acc e pv => ?_, fun acc pv => ?_⟩
  · subst pv
    obtain ⟨q, eq, rfl⟩ := map_get e
    obtain ⟨q4, hq⟩ := hC.ok.2.2 q (List.mem_of_getElem? eq)
    have h3 : 3 < q.length := by omega
    have e3 : q[3]? = some q[3] := List.getElem?_eq_getElem h3
    refine ⟨by rw [List.length_map, List.length_take]; have := hC.ok.2.1; omega, tgt_name, fun s H0 C cl fp => ?_⟩
    refine W_add <| W_slT <| W_var 2 rfl <| W_int ⟨((3 : Nat) : Int), rfl, _, rfl, W_tup <| WA_cons <| W_tup <| WA_cons <| W_itT <| W_itT <| W_var 2 rfl <| W_int ⟨_, 3, mvD q[3], rfl, rfl, atD_nat (j := 3) (by rw [List.getElem?_map, e3]; rfl), W_int ⟨_, 0, intsD q[3].1, rfl, rfl, atD_nat (j := 0) rfl, WA_cons <| W_tup <| WA_nil ⟨sm, WA_cons <| W_neg <| W_int ⟨_, rfl, WA_nil ⟨sm, WA_nil ⟨sm, ?_, ?_⟩⟩⟩⟩⟩⟩⟩
    · rw [cut_hi, List.length_take, List.length_map]; show _ + 1 ≤ _; omega
    · have hc : D.tup (cutD (q.map mvD) none (some ((3 : Nat) : Int)) ++ [D.tup [intsD q[3].1, D.tup [], D.int (-1)]]) = postD (chg q) := by
        rw [cut_hi]
        unfold postD chg
        rw [e3, List.map_append, List.map_take]; rfl
      rw [hc]
      refine ⟨tu_post _, ?_⟩
      show _ = _
      rw [take_snoc eq, List.map_append]; rfl
  · subst pv
    rw [List.length_map, List.take_length]
    refine ⟨_, rfl, trivial, ?_⟩
    have := h (r.map chg) (.inr ⟨r, hC, rfl⟩)
    unfold rtD at this
    rw [List.map_map] at this
    exact this
end
end K48
set_option maxHeartbeats 1000000
namespace K48
open PySem PySem.Spec PyProof.Rows L2
theorem cut_mid' (mk : List Int) {c : Int} (h : 0 ≤ c) (l : Nat) : cutD (mk.map D.int) (some c) (some (c + l)) = ((mk.drop c.toNat).take l).map D.int := by
  obtain ⟨n, rfl⟩ := Int.eq_ofNat_of_zero_le h
  rw [show (n : Int) + (l : Int) = ((n + l : Nat) : Int) by omega, cut_mid, int_drop, int_take, Nat.add_sub_cancel_left]; rfl
theorem cut_lo' (mk : List Int) {c : Int} (h : 0 ≤ c) : cutD (mk.map D.int) (some c) none = (mk.drop c.toNat).map D.int := by
  obtain ⟨n, rfl⟩ := Int.eq_ofNat_of_zero_le h
  rw [cut_lo, int_drop]; rfl
/-- what is reached hands out nothing of it -/
structure RchOk (T : Tb) (mk : List Int) (Rc : PI2 → Prop) : Prop where
  z : Rc (0, 0)
  rng : ∀ t, Rc t → -1 ≤ t.1 ∧ t.1 ≤ 5 ∧ 0 ≤ t.2 ∧ t.2 ≤ 9
  row : ∀ t, Rc t → t.1 ≠ -1 → ∀ s, 0 ≤ s → s < 4 → ∃ x, lookA T (t.1, s) = some x ∧ (s < 3 → (mk.drop t.2.toNat).take x.2.2.1.length = x.2.2.1 → Rc (x.1, t.2 + x.2.2.1.length)) ∧ (s = 3 → x.2.2.1 ≠ mk.drop t.2.toNat)
  rest : ∀ t, Rc t → t.1 = -1 → mk.drop t.2.toNat ≠ []
theorem rch_len {T : Tb} {mk : List Int} {Rc : PI2 → Prop} (h : RchOk T mk Rc) {G : List PI2} (nd : G.Nodup) (hG : ∀ g ∈ G, Rc g) : G.length ≤ 70 := by
  have := nd_len G grid nd fun g hg => by
    obtain ⟨h1, h2, h3, h4⟩ := h.rng g (hG g hg)
    exact grid_mem h1 h2 h3 h4
  rwa [grid_len] at this
theorem plP (F : List PI2) : ∀ x ∈ F.map pD, Pl 5 x := fun x hx => by
  obtain ⟨i, _, rfl⟩ := List.mem_map.mp hx
  exact pl_pD 4 i
theorem mem_pairs' {t : PI2} {F : List PI2} : pD t ∈ F.map pD ↔ t ∈ F := ⟨fun h => by
  obtain ⟨j, hj, e⟩ := List.mem_map.mp h
  have : j = t := by
    unfold pD at e
    injection e with e
    injection e with e1 e2
    injection e2 with e2 _
    injection e1 with e1
    injection e2 with e2
    exact Prod.ext e1 e2
  exact this ▸ hj, fun h => List.mem_map_of_mem h⟩
section
variable {P : Program} {w : World} {K : PySem.W.Frag} {mg : Str → Option Value} {base : Heap}
theorem sc60 : FnScope ["_law_table_here", "_law_marks", "_law_found", "_law_turn", "_law_post", "_law_count", "_law_sort", "_law_end", "_law_turns", "_law_more", "_law_left"] ["_law_table_here", "_law_marks"] (defScope (topS 60)) := ⟨rfl, rfl, rfl, by decide +kernel, rfl, by decide +kernel, by decide +kernel⟩
def cLawReached : List D → (D → Prop) → Prop := fun ds R => ∃ (T : Tb) (mk : List Int) (Rc : PI2 → Prop), ds = [tabD T, intsD mk] ∧ mk.length ≤ 9 ∧ RchOk T mk Rc ∧ R (.bl false)
theorem ok_law_reached (T : Txt mg) (a : At K mg "_law_reached" (topS 60) ["_law_table_here", "_law_marks"]) : DefOk P w K mg base "_law_reached" 1 (spD cLawReached) := by
  refine a.ok sc60 (fun ds R h => by obtain ⟨_, _, _, rfl, _⟩ := h; rfl) fun f cdv A outer s H E m ds R hr hX h => ?_
  obtain ⟨TT, mk, Rc, rfl, hmk, hRc, h⟩ := h
  refine SW_newL 2 hX.nd rfl <| WA_cons <| W_tup <| WA_cons <| W_int <| WA_cons <| W_int <| WA_nil ⟨sm, WA_nil ⟨sm, fun q hq => ?_⟩⟩
  refine SW_cons <| S1_for hX <| WI_range T.range <| W_add <| W_mul <| W_len T.len <| W_var 1 rfl <| W_int ⟨.inr (by decide), W_int ⟨((mk.length * 7 + 7 : Nat) : Int), by rw [List.length_map]; rfl, by omega, by omega, ?_⟩⟩
  refine ⟨fun i μ δ => ∃ (A : List D) (G : List PI2) (o3 o4 o5 o6 o7 o8 o9 o10 : Option D), μ = .lst A ∧ δ = [some (tabD TT), some (intsD mk), some (.adr q), o3, o4, o5, o6, o7, o8, o9, o10] ∧ A = G.map pD ∧ G.Nodup ∧ ∀ g ∈ G, Rc g, ⟨_, [(0, 0)], _, _, _, _, _, _, _, _, rfl, rfl, rfl, by simp, fun g hg => by rw [List.mem_singleton.mp hg]; exact hRc.z⟩, ?_, ?_⟩
  · intro i d μ δ e hp
    obtain ⟨_, G0, o3, o4, o5, o6, o7, o8, o9, o10, rfl, rfl, rfl, hnd, hG⟩ := hp
    refine WG_name 3 hX.nd ?_
    refine SW_cons <| S1_for hX <| WI_list <| W_listOf T.list <| W_var 2 rfl ?_
    refine ⟨rfl, _, rfl, ?_⟩
    refine ⟨fun j μ δ => ∃ (A : List D) (G : List PI2) (o4 o5 o6 o7 o8 o9 o10 : Option D), μ = .lst A ∧ δ = [some (tabD TT), some (intsD mk), some (.adr q), some d, o4, o5, o6, o7, o8, o9, o10] ∧ A = G.map pD ∧ G.Nodup ∧ ∀ g ∈ G, Rc g, ⟨_, G0, _, _, _, _, _, _, _, rfl, rfl, rfl, hnd, hG⟩, ?_, ?_⟩
    · intro j d' μ δ e hp
      obtain ⟨t, et, rfl⟩ := map_get e
      have ht := hG t (List.mem_of_getElem? et)
      clear hnd
      obtain ⟨_, G, o4, o5, o6, o7, o8, o9, o10, rfl, rfl, rfl, hnd, hG⟩ := hp
      obtain ⟨r1, r2, r3, r4⟩ := hRc.rng t ht
      refine WG_tup hX.calm <| WGs_cons <| WG_name 4 hX.nd <| WGs_cons <| WG_name 5 hX.nd <| WGs_nil ?_
      refine SW_cons <| S1_for hX <| WI_tup <| W.mono (Q := fun d => (t.1 ≠ -1 ∧ d = .tup [.int 0, .int 1, .int 2]) ∨ d = .tup []) (W_ifexp <| WT_cmp <| C_ne hX <| W_var 4 rfl <| W_neg <| W_int ⟨_, rfl, trivial, trivial, fun z => W_tup <| WA_cons <| W_int <| WA_cons <| W_int <| WA_cons <| W_int <| WA_nil ⟨sm, .inl ⟨fun c => nd_true z (by rw [c]), rfl⟩⟩, fun z => W_tup <| WA_nil ⟨sm, .inr rfl⟩⟩) fun d2 hd2 => ?_
      rcases hd2 with ⟨hne, rfl⟩ | rfl
      · refine ⟨_, rfl, fun k μ δ => ∃ (A : List D) (G : List PI2) (o6 o7 o8 o9 o10 : Option D), μ = .lst A ∧ δ = [some (tabD TT), some (intsD mk), some (.adr q), some d, some (.int t.1), some (.int t.2), o6, o7, o8, o9, o10] ∧ A = G.map pD ∧ G.Nodup ∧ ∀ g ∈ G, Rc g, ⟨_, G, _, _, _, _, _, rfl, rfl, rfl, hnd, hG⟩, ?_, ?_⟩
        · clear hnd hG
          intro k d3 μ δ e hp
          obtain ⟨_, G, o6, o7, o8, o9, o10, rfl, rfl, rfl, hnd, hG⟩ := hp
          have hk : k < 3 := (List.getElem?_eq_some_iff.mp e).1
          have hd : d3 = .int k := by
            match k, hk with
            | 0, _ => cases e; rfl
            | 1, _ => cases e; rfl
            | 2, _ => cases e; rfl
          subst hd
          obtain ⟨x, hx, hstep, _⟩ := hRc.row t ht hne k (by omega) (by omega)
          have hc : ((t.2.toNat : Nat) : Int) = t.2 := by omega
          refine WG_name 6 hX.nd ?_
          refine SW_cons <| S1_asg <| W_getT hX <| W_var 0 rfl <| W_tup <| WA_cons <| W_var 4 rfl <| WA_cons <| W_var 6 rfl <| WA_nil ⟨sm, _, _, pk (t.1, k), rowL x, rfl, trivial, rfl, by rw [valD_kvs, hx]; rfl, ?_⟩
          refine WG_lst hX.calm <| WGs_cons <| WG_name 7 hX.nd <| WGs_cons <| WG_name 8 hX.nd <| WGs_cons <| WG_name 9 hX.nd <| WGs_cons <| WG_name 10 hX.nd <| WGs_nil ?_
          refine SW_cons <| S1_if <| WT_ww <| WW_and <| WT_cmp <| C_eq hX <| W_slT <| W_var 1 rfl <| W_var 5 rfl ⟨t.2, rfl, W_add <| W_var 5 rfl <| W_len T.len <| W_var 9 rfl ⟨t.2 + x.2.2.1.length, by rw [List.length_map], _, rfl, W_var 9 rfl ?_⟩⟩
          rw [cut_mid' mk r3]
          refine ⟨pl_ints 5 _, pl_ints 5 _, fun z => ?_, fun z => ?_⟩
          · rw [show D.tup (((mk.drop t.2.toNat).take x.2.2.1.length).map D.int) = intsD ((mk.drop t.2.toNat).take x.2.2.1.length) from rfl, intsD_eq, decide_eq_true_eq] at z
            have hnew := hstep (by omega) z
            refine WW_and1 <| WT_cmp <| C_notInL hX <| W_tup <| WA_cons <| W_var 7 rfl <| WA_cons <| W_add <| W_var 5 rfl <| W_len T.len <| W_var 9 rfl <| WA_nil ⟨sm, W_var 2 rfl ⟨G.map pD, rfl, rfl, ?_, plP G, fun z2 => ?_, fun z2 => ?_⟩⟩
            · exact pl_ints 4 [x.1, _]
            · rw [List.length_map] at z2
              have hni : (x.1, t.2 + (x.2.2.1.length : Int)) ∉ G := fun c => nd_true z2 (mem_pairs'.mpr c)
              have hgl := rch_len hRc hnd hG
              refine SW_cons <| S1_append <| W_var 2 rfl ⟨q, G.map pD, rfl, rfl, rfl, by rw [List.length_map]; omega, W_tup <| WA_cons <| W_var 7 rfl <| WA_cons <| W_add <| W_var 5 rfl <| W_len T.len <| W_var 9 rfl <| WA_nil ⟨sm, SW_nil (SW_nil ⟨_, G ++ [(x.1, t.2 + (x.2.2.1.length : Int))], _, _, _, _, _, rfl, rfl, ?_, ?_, ?_⟩)⟩⟩
              · rw [List.map_append, List.length_map]; rfl
              · refine List.nodup_append.mpr ⟨hnd, by simp, fun a ha b hb c => ?_⟩
                rw [List.mem_singleton.mp hb] at c
                exact hni (c ▸ ha)
              · intro g hg
                rcases List.mem_append.mp hg with h1 | h1
                · exact hG g h1
                · rw [List.mem_singleton.mp h1]; exact hnew
            · refine SW_nil (SW_nil ⟨_, G, _, _, _, _, _, rfl, rfl, rfl, hnd, hG⟩)
          · refine ⟨fun z => nm z, fun _ => SW_nil (SW_nil ⟨_, G, _, _, _, _, _, rfl, rfl, rfl, hnd, hG⟩)⟩
        · clear hnd hG
          intro μ δ hp
          obtain ⟨_, G, o6, o7, o8, o9, o10, rfl, rfl, rfl, hnd, hG⟩ := hp
          exact SW_nil ⟨_, G, _, _, _, _, _, _, _, rfl, rfl, rfl, hnd, hG⟩
      · refine ⟨_, rfl, fun k μ δ => μ = .lst (G.map pD) ∧ δ = [some (tabD TT), some (intsD mk), some (.adr q), some d, some (.int t.1), some (.int t.2), o6, o7, o8, o9, o10], ⟨rfl, rfl⟩, fun j d μ δ e hp => by simp at e, ?_⟩
        intro μ δ hp
        obtain ⟨rfl, rfl⟩ := hp
        exact SW_nil ⟨_, G, _, _, _, _, _, _, _, rfl, rfl, rfl, hnd, hG⟩
    · clear hnd hG
      intro μ δ hp
      obtain ⟨_, G, o4, o5, o6, o7, o8, o9, o10, rfl, rfl, rfl, hnd, hG⟩ := hp
      exact SW_nil ⟨_, G, _, _, _, _, _, _, _, _, rfl, rfl, rfl, hnd, hG⟩
  · intro μ δ hp
    obtain ⟨_, G, o3, o4, o5, o6, o7, o8, o9, o10, rfl, rfl, rfl, hnd, hG⟩ := hp
    refine SW_freeze 2 hq rfl ?_ rfl (fun c z => nomatch z) (fun a z => z)
    refine SW_cons <| S1_for hX <| WI_list <| W_var 2 rfl ⟨_, rfl, fun j μ δ => μ = .non ∧ ∃ (o4 o5 : Option D), δ = [some (tabD TT), some (intsD mk), some (.lst (G.map pD)), o3, o4, o5, o6, o7, o8, o9, o10], ⟨rfl, _, _, rfl⟩, ?_, ?_⟩
    · intro j d μ δ e hp
      obtain ⟨rfl, o4, o5, rfl⟩ := hp
      obtain ⟨t, et, rfl⟩ := map_get e
      have ht := hG t (List.mem_of_getElem? et)
      obtain ⟨r1, r2, r3, r4⟩ := hRc.rng t ht
      have hc : ((t.2.toNat : Nat) : Int) = t.2 := by omega
      refine WG_tup hX.calm <| WGs_cons <| WG_name 4 hX.nd <| WGs_cons <| WG_name 5 hX.nd <| WGs_nil ?_
      refine SW_cons <| S1_if <| WT_cmp <| C_eq hX <| W.mono (Q := fun d => ∃ xs, d = intsD xs ∧ xs ≠ mk.drop t.2.toNat) (W_ifexp <| WT_cmp <| C_eqI <| W_var 4 rfl <| W_neg <| W_int ⟨_, rfl, fun z => W_tup <| WA_nil ⟨sm, [], rfl, ?_⟩, fun z => ?_⟩) fun d hd => ?_
      · rw [decide_eq_true_eq] at z
        exact fun c => hRc.rest t ht z c.symm
      · rw [decide_eq_false_iff_not] at z
        obtain ⟨x, hx, _, h3⟩ := hRc.row t ht z 3 (by decide) (by decide)
        exact W_itL <| W_getT hX <| W_var 0 rfl <| W_tup <| WA_cons <| W_var 4 rfl <| WA_cons <| W_int <| WA_nil ⟨sm, _, _, pk (t.1, 3), rowL x, rfl, trivial, rfl, by rw [valD_kvs, hx]; rfl, W_int ⟨_, 2, intsD x.2.2.1, rfl, rfl, atD_nat (j := 2) rfl, _, rfl, h3 rfl⟩⟩
      · obtain ⟨xs, rfl, hne⟩ := hd
        refine W_slT <| W_var 1 rfl <| W_var 5 rfl ⟨t.2, rfl, _, rfl, ?_⟩
        rw [cut_lo' mk r3]
        refine ⟨pl_ints 5 _, pl_ints 5 _, fun z => ?_, fun z => ?_⟩
        · rw [show D.tup ((mk.drop t.2.toNat).map D.int) = intsD (mk.drop t.2.toNat) from rfl, intsD_eq, decide_eq_true_eq] at z
          exact absurd z hne
        · exact SW_nil (SW_nil ⟨rfl, _, _, rfl⟩)
    · intro μ δ hp
      obtain ⟨rfl, o4, o5, rfl⟩ := hp
      exact SW_cons <| S1_ret <| W_bl h
end
end K48
set_option maxHeartbeats 1000000
namespace K48
open PySem PySem.Spec PyProof.Rows L2
theorem lev_all : ∀ (n : Nat) (u : List Int), u.length = n → (∀ x ∈ u, 0 ≤ x ∧ x ≤ 2) → u ∈ lev n
  | 0, u, h, _ => by rw [List.length_eq_zero_iff.mp h]; exact List.mem_singleton.mpr rfl
  | n + 1, u, h, hs => by
    obtain ⟨v, s, rfl⟩ : ∃ v s, u = v ++ [s] := ⟨u.dropLast, u.getLast (by intro z; rw [z] at h; cases h), (List.dropLast_concat_getLast _).symm⟩
    rw [List.length_append, List.length_singleton] at h
    have h1 := lev_all n v (by omega) fun x hx => hs x (List.mem_append_left _ hx)
    have h2 := hs s (by simp)
    refine List.mem_flatMap.mpr ⟨v, h1, ?_⟩
    have : s = 0 ∨ s = 1 ∨ s = 2 := by omega
    rcases this with rfl | rfl | rfl <;> simp
theorem stacks_all : ∀ (n : Nat) (u : List Int), u.length ≤ n → (∀ x ∈ u, 0 ≤ x ∧ x ≤ 2) → u ∈ stacks n
  | 0, u, h, _ => by rw [List.length_eq_zero_iff.mp (Nat.le_zero.mp h)]; exact List.mem_singleton.mpr rfl
  | n + 1, u, h, hs => by
    unfold stacks
    by_cases c : u.length = n + 1
    · exact List.mem_append_right _ (lev_all _ _ c hs)
    · exact List.mem_append_left _ (stacks_all n u (by omega) hs)
theorem stacks_mem : ∀ {n : Nat} {u : List Int}, u ∈ stacks n → u.length ≤ n ∧ ∀ x ∈ u, 0 ≤ x ∧ x ≤ 2
  | 0, u, h => by rw [List.mem_singleton.mp h]; exact ⟨Nat.le_refl _, fun x hx => by cases hx⟩
  | n + 1, u, h => by
    unfold stacks at h
    rcases List.mem_append.mp h with h | h
    · have := stacks_mem h; exact ⟨by omega, this.2⟩
    · have := lev_mem h; exact ⟨by omega, this.2⟩
instance (a b : List Int) : Decidable (slt a b) := by unfold slt; infer_instance
theorem stacks_srt : ∀ n : Nat, n ≤ 4 → (stacks n).Pairwise slt
  | 0, _ => by decide +kernel
  | 1, _ => by decide +kernel
  | 2, _ => by decide +kernel
  | 3, _ => by decide +kernel
  | 4, _ => by decide +kernel
/-- what the law asks of a stack that is handed -/
structure HandOk (T : Tb) (ms mk : List Int) : Prop where
  none : hand (lookA (wt T ms)) mk = none → ∃ Rc, RchOk T mk Rc
  some : ∀ st, hand (lookA (wt T ms)) mk = some st → st.length ≤ 60 ∧ (∀ x ∈ st, 0 ≤ x ∧ x ≤ 2) ∧ (∃ y, told T st = some y ∧ y.1 = mk) ∧ ∀ u : List Int, (∀ x ∈ u, 0 ≤ x ∧ x ≤ 2) → u.length ≤ 4 → ∃ y, told T u = some y ∧ (y.1 = mk → sle st u)
/-- a routine that rests, its led posts in order -/
structure Good (r : Rt) (ms : List Int) : Prop where
  ok : OkRt r
  led : LedOk (table r) (led (table r))
  few : Few (table r)
  uniq : ∀ ns, Srt (table r) (K48.led (table r)) ns → ns = ms
  perm : ∀ ns : List Int, ns.Perm (K48.led (table r)) → ns.Pairwise (· ≤ ·) → ns = ms
  len : (K48.led (table r)).length ≤ 1000
section
variable {P : Program} {w : World} {K : PySem.W.Frag} {mg : Str → Option Value} {base : Heap}
theorem sc62 : FnScope ["_law_routine", "_law_table_here", "_law_marks", "_law_told_here", "_law_stack", "_law_line"] ["_law_routine", "_law_table_here", "_law_marks"] (defScope (topS 62)) := ⟨rfl, rfl, rfl, by decide +kernel, rfl, by decide +kernel, by decide +kernel⟩
def cStackRight : List D → (D → Prop) → Prop := fun ds R => ∃ (r : Rt) (ms mk : List Int), ds = [rtD r, tabD (table r), intsD mk] ∧ Good r ms ∧ HandOk (table r) ms mk ∧ mk.length ≤ 9 ∧ (∀ x ∈ mk, 0 ≤ x ∧ x ≤ 2) ∧ R (.bl true)
theorem ok_stack_right (T : Txt mg) (a : At K mg "_law_stack_right" (topS 62) ["_law_routine", "_law_table_here", "_law_marks"]) (f30 : DefOk P w K mg base "told_on" 6 (spD cToldOn)) (f41 : DefOk P w K mg base "handing_stack" 6 (spD cHandingStack)) (f54 : DefOk P w K mg base "_law_stacks" 1 (spD cStacks)) (f60 : DefOk P w K mg base "_law_reached" 1 (spD cLawReached)) (f61 : DefOk P w K mg base "_law_handed" 2 (spD cHanded)) : DefOk P w K mg base "_law_stack_right" 7 (spD cStackRight) := by
  refine a.ok sc62 (fun ds R h => by obtain ⟨_, _, _, rfl, _⟩ := h; rfl) fun f cdv A outer s H E m ds R hr hX h => ?_
  obtain ⟨r, ms, mk, rfl, hG, hH, hmk, hmi, h⟩ := h
  have hPT := table_pt r
  have hT := hPT.tab hG.ok
  have hS := hPT.okS hG.ok
  refine SW_cons <| S1_set 3 hX.nd <| W_call f41 (by exact hr) <| WA_cons <| W_var 0 rfl <| WA_cons <| W_var 2 rfl <| WA_nil ⟨r, table r, led (table r), mk, rfl, hG.ok, hT, hG.led, hG.few, hmk, hmi, fun ms' hs => ?_⟩
  rw [hG.uniq ms' hs]
  cases hh : hand (lookA (wt (table r) ms)) mk with
  | none =>
    obtain ⟨Rc, hRc⟩ := hH.none hh
    exact SW_cons <| S1_if <| WT_cmp <| C_isN <| W_var 3 rfl <| W_non ⟨rfl, fun _ => SW_cons <| S1_ret <| W_not <| W_call f60 (hr.mono (by decide)) <| WA_cons <| W_var 1 rfl <| WA_cons <| W_var 2 rfl <| WA_nil ⟨table r, mk, Rc, rfl, hmk, hRc, false, rfl, h⟩, fun z => by rw [decide_eq_true (show handD none = .non from rfl)] at z; exact nomatch z⟩
  | some st =>
    obtain ⟨h60, hsi, ⟨y, hy, hy1⟩, hall⟩ := hH.some st hh
    refine SW_cons <| S1_if <| WT_cmp <| C_isN <| W_var 3 rfl <| W_non ⟨rfl, fun z => ?_, fun _ => SW_nil ?_⟩
    · rw [decide_eq_false (by intro z; cases z)] at z; exact nomatch z
    refine SW_cons <| S1_if <| WT_ww <| WW_or <| WT_not <| WT_val <| W_isi (n := "tuple") T.isinstance T.tuple (by decide +kernel) <| W_var 3 rfl ⟨_, true, rfl, by decide +kernel, true, rfl, ?_⟩
    refine ⟨fun z => (nomatch z), fun _ => WW_or <| WT_cmp <| C_gt <| W_len T.len <| W_var 3 rfl <| W_int ⟨fun z => ?_, fun _ => WW_or1 <| WT_cmp <| C_ne hX <| W_lcIf (own := [("_law_line", 5)]) (g := gName 5) (fun d δ => δ.set 5 (some d)) hX (.inl rfl) (blkOk_by (by rfl)) (fun s H C cl fp => pg_name (i := 5) (by exact hX.nd) rfl (.inl rfl) (.inr rfl)) <| WI_tup <| W_var 3 rfl ⟨_, rfl, ?_⟩⟩⟩
    · rw [decide_eq_true_eq, List.length_map] at z; omega
    refine ⟨fun i acc => acc = [], rfl, fun i d acc e pv => ?_, fun acc pv => ?_⟩
    · subst pv
      obtain ⟨x, ex, rfl⟩ := map_get e
      have hx := hsi x (List.mem_of_getElem? ex)
      refine ⟨by decide, tgt_name, fun s H0 C cl fp => ?_⟩
      refine WT_cmp <| C_notInT <| W_var 5 rfl <| W_tup <| WA_cons <| W_int <| WA_cons <| W_int <| WA_cons <| W_int <| WA_nil ⟨sm, x, [0, 1, 2], rfl, rfl, fun z => ?_, fun _ => rfl⟩
      have : x ∈ [(0 : Int), 1, 2] := by simp only [List.mem_cons, List.not_mem_nil, or_false]; omega
      rw [decide_eq_true this] at z; exact nomatch z
    · subst pv
      refine W_lst <| WA_nil ⟨sm, fun _ h => (by cases h), fun _ h => (by cases h), fun z => ?_, fun _ => SW_nil ?_⟩
      · rw [decide_eq_true rfl] at z; exact nomatch z
      have hmk1 : mk.length ≤ 1000 := by omega
      refine SW_cons <| S1_if <| WT_ww <| WW_or <| WT_cmp <| C_ne hX <| W_call f61 (hr.mono (by decide)) <| WA_cons <| W_var 1 rfl <| WA_cons <| W_var 3 rfl <| WA_nil ⟨table r, st, y, rfl, hS, by omega, hy, W_var 2 rfl ⟨pl_ints 5 _, pl_ints 5 _, fun z => ?_, fun _ => ?_⟩⟩
      · exact absurd (by rw [hy1]) (nd_true z)
      refine WW_or1 <| WT_cmp <| C_ne hX <| W_itT <| W_call f30 (by exact hr) <| WA_cons <| W_var 0 rfl <| WA_cons <| W_var 3 rfl <| WA_nil ⟨r, st, table r, y, rfl, hG.ok, hT, h60, hsi, hy, by rw [hy1]; exact hmk1, W_int ⟨_, 1, intsD y.1, rfl, rfl, atD_nat (j := 1) rfl, W_var 2 rfl ⟨pl_ints 5 _, pl_ints 5 _, fun z => ?_, fun _ => SW_nil ?_⟩⟩⟩
      · exact absurd (by rw [hy1]) (nd_true z)
      obtain ⟨n, hn, hn4, hn5⟩ : ∃ n : Nat, (if ((st.length : Int)) < 4 then (st.length : Int) else 4) = (n : Int) ∧ n ≤ 4 ∧ (st.length ≤ 4 → n = st.length) := by
        by_cases c : (st.length : Int) < 4
        · exact ⟨st.length, if_pos c, by omega, fun _ => rfl⟩
        · exact ⟨4, if_neg c, by omega, fun _ => by omega⟩
      refine SW_cons <| S1_for hX <| WI_list <| W_call f54 (hr.mono (by decide)) <| WA_cons <| W_min hX T.min <| WA_cons <| W_int <| WA_cons <| W_len T.len <| W_var 3 rfl <| WA_nil ⟨4, st.length, by rw [List.length_map], WA_nil ⟨n, by rw [hn], hn4, _, rfl, ?_⟩⟩
      have hsrt := stacks_srt n hn4
      refine ⟨fun i μ δ => μ = .non ∧ ∃ (o4 : Option D), δ = [some (rtD r), some (tabD (table r)), some (intsD mk), some (intsD st), o4, none] ∧ ∀ j, j < i → (stacks n)[j]? ≠ some st, ⟨rfl, _, rfl, fun j hj => by omega⟩, ?_, ?_⟩
      · intro i d μ δ e hp
        obtain ⟨rfl, o4, rfl, hne⟩ := hp
        obtain ⟨u, eu, rfl⟩ := map_get e
        obtain ⟨hul, hui⟩ := stacks_mem (List.mem_of_getElem? eu)
        obtain ⟨yu, hyu, hle⟩ := hall u hui (by omega)
        refine WG_name 4 hX.nd ?_
        refine SW_cons <| S1_if <| WT_cmp <| C_eq hX <| W_var 4 rfl <| W_var 3 rfl ⟨pl_ints 5 _, pl_ints 5 _, fun _ => SW_cons <| S1_ret <| W_bl h, fun z => SW_nil ?_⟩
        rw [intsD_eq, decide_eq_false_iff_not] at z
        refine SW_cons <| S1_if <| WT_cmp <| C_eq hX <| W_call f61 (hr.mono (by decide)) <| WA_cons <| W_var 1 rfl <| WA_cons <| W_var 4 rfl <| WA_nil ⟨table r, u, yu, rfl, hS, by omega, hyu, W_var 2 rfl ⟨pl_ints 5 _, pl_ints 5 _, fun z2 => ?_, fun _ => SW_nil (SW_nil ⟨rfl, _, rfl, fun j hj => ?_⟩)⟩⟩
        · rw [intsD_eq, decide_eq_true_eq] at z2
          exfalso
          have h1 : slt st u := (hle z2).resolve_left fun c => z c.symm
          have h2 : st.length ≤ u.length := by
            rcases slt_iff.mp h1 with h | h <;> omega
          obtain ⟨j, hj⟩ := List.mem_iff_getElem?.mp (stacks_all n st (by omega) hsi)
          by_cases c : j < i
          · exact hne j c hj
          · by_cases c2 : j = i
            · rw [c2, eu] at hj; exact z (Option.some.inj hj)
            · obtain ⟨b1, e1⟩ := List.getElem?_eq_some_iff.mp eu
              obtain ⟨b2, e2⟩ := List.getElem?_eq_some_iff.mp hj
              have := List.pairwise_iff_getElem.mp hsrt i j b1 b2 (by omega)
              rw [e1, e2] at this
              exact slt_irrefl _ (slt_trans this h1)
        · by_cases c : j < i
          · exact hne j c
          · have : j = i := by omega
            rw [this, eu]
            exact fun c => z (Option.some.inj c)
      · intro μ δ hp
        obtain ⟨rfl, o4, rfl, hne⟩ := hp
        refine SW_cons <| S1_ret <| W_cmp <| C_gt <| W_len T.len <| W_var 3 rfl <| W_int ?_
        rw [List.length_map]
        have : 4 < st.length := Classical.byContradiction fun c => by
          obtain ⟨j, hj⟩ := List.mem_iff_getElem?.mp (stacks_all n st (by rw [hn5 (by omega)]; exact Nat.le_refl _) hsi)
          refine hne j ?_ hj
          rw [List.length_map]
          exact (List.getElem?_eq_some_iff.mp hj).1
        show R (.bl (decide ((4 : Int) < (st.length : Int))))
        rw [decide_eq_true (show (4 : Int) < (st.length : Int) by omega)]; exact h
end
end K48
set_option maxHeartbeats 1000000
namespace K48
open PySem PySem.Spec PyProof.Rows L2
/-- all that the law asks of a routine -/
structure Fine (r : Rt) (ms : List Int) : Prop where
  good : Good r ms
  hand : ∀ mk : List Int, mk.length ≤ 9 → (∀ x ∈ mk, 0 ≤ x ∧ x ≤ 2) → HandOk (table r) ms mk
  tot : ∀ u : List Int, (∀ x ∈ u, 0 ≤ x ∧ x ≤ 2) → ∃ y, told (table r) u = some y ∧ (∀ x ∈ y.1, 0 ≤ x ∧ x ≤ 2) ∧ y.1.length ≤ 1001
theorem pl_wD (n : Nat) (e : PI2 × Row) : Pl (n + 2) (wD e) := fun d hd => by
  simp only [List.mem_cons, List.not_mem_nil, or_false] at hd
  rcases hd with rfl | rfl | rfl | rfl
  · trivial
  · trivial
  · exact pl_ints n _
  · trivial
theorem pl_walk (l : List (PI2 × Row)) : Pl 6 (.tup (l.map wD)) := fun d hd => by
  obtain ⟨e, _, rfl⟩ := List.mem_map.mp hd
  exact pl_wD 3 e
section
variable {P : Program} {w : World} {K : PySem.W.Frag} {mg : Str → Option Value} {base : Heap}
theorem sc63 : FnScope ["_law_cup_here", "_law_routine", "_law_table_here", "_law_turn", "_law_stack", "_law_marks", "_law_way", "_law_line", "_law_mark"] ["_law_cup_here", "_law_routine"] (defScope (topS 63)) := ⟨rfl, rfl, rfl, by decide +kernel, rfl, by decide +kernel, by decide +kernel⟩
def cRight : List D → (D → Prop) → Prop := fun ds R => ∃ (r : Rt) (ms : List Int), ds = [rtD r] ∧ Fine r ms ∧ R (.bl true)
theorem ok_right (T : Txt mg) (a : At K mg "_law_right" (topS 63) ["_law_cup_here", "_law_routine"]) (f40 : DefOk P w K mg base "walk_of" 6 (spD cWalkOf)) (f44 : DefOk P w K mg base "_law_roll" 1 (spC cRoll)) (f50 : DefOk P w K mg base "_law_table" 2 (spD cTable)) (f59 : DefOk P w K mg base "_law_walk" 2 (spD cLawWalk)) (f61 : DefOk P w K mg base "_law_handed" 2 (spD cHanded)) (f62 : DefOk P w K mg base "_law_stack_right" 7 (spD cStackRight)) : DefOk P w K mg base "_law_right" 8 (spC cRight) := by
  refine a.okC sc63 (fun ds R h => by obtain ⟨_, _, rfl, _⟩ := h; rfl) fun f cdv A outer s H E m c ds R hr hX h => ?_
  obtain ⟨r, ms, rfl, hF, h⟩ := h
  have hG := hF.good
  have hPT := table_pt r
  have hT := hPT.tab hG.ok
  have hS := hPT.okS hG.ok
  refine SW_cons <| S1_set 2 hX.nd <| W_call f50 (hr.mono (by decide)) <| WA_cons <| W_var 1 rfl <| WA_nil ⟨r, rfl, hG.ok, ?_⟩
  refine SW_cons <| S1_if <| WT_cmp <| C_ne hX <| W_call f40 (hr.mono (by decide)) <| WA_cons <| W_var 1 rfl <| WA_nil ⟨r, table r, led (table r), rfl, hG.ok, hT, hG.led, hG.few, fun ms1 h1 => W_call f59 (hr.mono (by decide)) <| WA_cons <| W_var 2 rfl <| WA_nil ⟨table r, rfl, hG.led, hG.len, fun ms2 h2 h3 => ⟨pl_walk _, pl_walk _, fun z => ?_, fun _ => SW_nil ?_⟩⟩⟩
  · exact absurd (by rw [hG.uniq ms1 h1, hG.perm ms2 h2 h3]) (nd_true z)
  -- a list that is rolled
  refine SW_cons <| S1_for hX <| WI_range T.range <| W_int ⟨3, rfl, by decide, by decide, fun i μ δ => μ = .non ∧ ∃ (o3 o4 o5 o6 : Option D), δ = [some (.adr c), some (rtD r), some (tabD (table r)), o3, o4, o5, o6, none, none], ⟨rfl, _, _, _, _, rfl⟩, ?_, ?_⟩
  · intro i d μ δ e hp
    obtain ⟨rfl, o3, o4, o5, o6, rfl⟩ := hp
    refine WG_name 3 hX.nd ?_
    refine SW_cons <| S1_set 4 hX.nd <| W.mono (Q := fun d => ∃ u : List Int, d = intsD u ∧ u.length ≤ 6 ∧ ∀ x ∈ u, 0 ≤ x ∧ x ≤ 2) (W_tupleOf T.tuple <| W_lc (own := [("_law_line", 7)]) (g := gName 7) (fun d δ => δ.set 7 (some d)) hX (.inl rfl) (blkOk_by (by rfl)) (fun s H C cl fp => pg_name (i := 7) (by exact hX.nd) rfl (.inl rfl) (.inr rfl)) <| WI_range T.range <| W_callC f44 (hr.mono (by decide)) rfl <| WA_cons <| W_var 0 rfl <| WA_cons <| W_int <| WA_nil ⟨_, rfl, 7, rfl, by decide, by decide, fun k hk0 hk1 => ⟨k, rfl, by omega, by omega, ?_⟩⟩) fun d hd => ?_
    · refine ⟨fun i acc => ∃ xs : List Int, acc = xs.map D.int ∧ xs.length = i ∧ ∀ x ∈ xs, 0 ≤ x ∧ x ≤ 2, ⟨[], rfl, rfl, fun x hx => by cases hx⟩, fun i d acc e pv => ?_, fun acc pv => ?_⟩
      · obtain ⟨xs, rfl, hl, hx⟩ := pv
        obtain ⟨hi, rfl⟩ := rangeD_get e
        refine ⟨by rw [List.length_map]; omega, tgt_name, fun s H0 C cl fp => ?_⟩
        refine W_callC f44 (hr.mono (by decide)) rfl <| WA_cons <| W_var 0 rfl <| WA_cons <| W_int <| WA_nil ⟨_, rfl, 3, rfl, by decide, by decide, fun v hv0 hv1 => ⟨trivial, xs ++ [v], by rw [List.map_append]; rfl, by rw [List.length_append, hl]; rfl, fun x hx' => ?_⟩⟩
        rcases List.mem_append.mp hx' with h3 | h3
        · exact hx x h3
        · rw [List.mem_singleton.mp h3]; omega
      · obtain ⟨xs, rfl, hl, hx⟩ := pv
        rw [rangeD_len] at hl
        exact ⟨_, rfl, trivial, xs, rfl, by omega, hx⟩
    obtain ⟨u, rfl, hul, hui⟩ := hd
    obtain ⟨y, hy, hyi, hyl⟩ := hF.tot u hui
    refine SW_cons <| S1_set 5 hX.nd <| W_call f61 (hr.mono (by decide)) <| WA_cons <| W_var 2 rfl <| WA_cons <| W_var 4 rfl <| WA_nil ⟨table r, u, y, rfl, hS, by omega, hy, ?_⟩
    refine SW_cons <| S1_set 6 hX.nd <| W_callC f44 (hr.mono (by decide)) rfl <| WA_cons <| W_var 0 rfl <| WA_cons <| W_int <| WA_nil ⟨_, rfl, 4, rfl, by decide, by decide, fun way _ _ => ?_⟩
    refine SW_cons <| S1_set 5 hX.nd <| W.mono (Q := fun d => ∃ mk : List Int, d = intsD mk ∧ ∀ x ∈ mk, 0 ≤ x ∧ x ≤ 2) (W_ifexp <| WT_cmp <| C_eqI <| W_var 6 rfl <| W_int ⟨fun _ => W_slT <| W_var 5 rfl <| W_int ⟨((1 : Nat) : Int), rfl, _, rfl, y.1.drop 1, by rw [cut_lo, int_drop]; rfl, fun x hx => hyi x (List.mem_of_mem_drop hx)⟩, fun _ => W_ifexp <| WT_cmp <| C_eqI <| W_var 6 rfl <| W_int ⟨fun _ => W_add <| W_var 5 rfl <| W_tup <| WA_cons <| W_callC f44 (hr.mono (by decide)) rfl <| WA_cons <| W_var 0 rfl <| WA_cons <| W_int <| WA_nil ⟨_, rfl, 3, rfl, by decide, by decide, fun v hv0 hv1 => WA_nil ⟨sm, ?_, y.1 ++ [v], ?_, fun x hx => ?_⟩⟩, fun _ => W_var 5 rfl ⟨y.1, rfl, hyi⟩⟩⟩) fun d hd => ?_
    · rw [List.length_map]; show _ + 1 ≤ _; omega
    · unfold intsD; rw [List.map_append]; rfl
    · rcases List.mem_append.mp hx with h3 | h3
      · exact hyi x h3
      · rw [List.mem_singleton.mp h3]; omega
    obtain ⟨mk, rfl, hmi⟩ := hd
    have hm9 : (mk.take 9).length ≤ 9 := by rw [List.length_take]; omega
    have hmi9 : ∀ x ∈ mk.take 9, 0 ≤ x ∧ x ≤ 2 := fun x hx => hmi x (List.mem_of_mem_take hx)
    refine SW_cons <| S1_if <| WT_not <| WT_val <| W_call f62 (by exact hr) <| WA_cons <| W_var 1 rfl <| WA_cons <| W_var 2 rfl <| WA_cons <| W_slT <| W_var 5 rfl <| W_int ⟨((9 : Nat) : Int), rfl, _, rfl, WA_nil ⟨r, ms, mk.take 9, by rw [cut_hi, int_take]; rfl, hG, hF.hand _ hm9 hmi9, hm9, hmi9, true, rfl, fun z => (nomatch z), fun _ => SW_nil (SW_nil ⟨rfl, _, _, _, _, rfl⟩)⟩⟩
  · intro μ δ hp
    obtain ⟨rfl, o3, o4, o5, o6, rfl⟩ := hp
    refine SW_cons <| S1_ret <| W_call f62 (by exact hr) <| WA_cons <| W_var 1 rfl <| WA_cons <| W_var 2 rfl <| WA_cons <| W.mono (Q := fun d => ∃ u : List Int, d = intsD u ∧ u.length ≤ 4 ∧ ∀ x ∈ u, 0 ≤ x ∧ x ≤ 2) (W_tupleOf T.tuple <| W_lc (own := [("_law_mark", 8)]) (g := gName 8) (fun d δ => δ.set 8 (some d)) hX (.inl rfl) (blkOk_by (by rfl)) (fun s H C cl fp => pg_name (i := 8) (by exact hX.nd) rfl (.inl rfl) (.inr rfl)) <| WI_range T.range <| W_callC f44 (hr.mono (by decide)) rfl <| WA_cons <| W_var 0 rfl <| WA_cons <| W_int <| WA_nil ⟨_, rfl, 5, rfl, by decide, by decide, fun k hk0 hk1 => ⟨k, rfl, by omega, by omega, ?_⟩⟩) fun d hd => ?_
    · refine ⟨fun i acc => ∃ xs : List Int, acc = xs.map D.int ∧ xs.length = i ∧ ∀ x ∈ xs, 0 ≤ x ∧ x ≤ 2, ⟨[], rfl, rfl, fun x hx => by cases hx⟩, fun i d acc e pv => ?_, fun acc pv => ?_⟩
      · obtain ⟨xs, rfl, hl, hx⟩ := pv
        obtain ⟨hi, rfl⟩ := rangeD_get e
        refine ⟨by rw [List.length_map]; omega, tgt_name, fun s H0 C cl fp => ?_⟩
        refine W_callC f44 (hr.mono (by decide)) rfl <| WA_cons <| W_var 0 rfl <| WA_cons <| W_int <| WA_nil ⟨_, rfl, 3, rfl, by decide, by decide, fun v hv0 hv1 => ⟨trivial, xs ++ [v], by rw [List.map_append]; rfl, by rw [List.length_append, hl]; rfl, fun x hx' => ?_⟩⟩
        rcases List.mem_append.mp hx' with h3 | h3
        · exact hx x h3
        · rw [List.mem_singleton.mp h3]; omega
      · obtain ⟨xs, rfl, hl, hx⟩ := pv
        rw [rangeD_len] at hl
        exact ⟨_, rfl, trivial, xs, rfl, by omega, hx⟩
    obtain ⟨u, rfl, hul, hui⟩ := hd
    exact WA_nil ⟨r, ms, u, rfl, hG, hF.hand u (by omega) hui, by omega, hui, h⟩
end
end K48
/-! The law's tables, plainly -/
namespace K48
section
variable {r : Rt} {T : Tb}
/-- induction along a table -/
theorem PT.ind (h : PT r T) {Pr : PI2 → Row → Prop} (st : ∀ i p x, T[i]? = some (p, x) → OkP r p → pairN (lookA (T.take i)) r p = .ok x → (∀ q y, lookA (T.take i) q = some y → Pr q y) → Pr p x) : ∀ p x, lookA T p = some x → Pr p x := by
  have key : ∀ (i : Nat) (p : PI2) (x : Row), T[i]? = some (p, x) → Pr p x := by
    intro i
    induction i using Nat.strongRecOn with
    | ind i ih =>
      intro p x hi
      refine st i p x hi (h.okp p x (lookA_mem h.nd (List.mem_of_getElem? hi))) (h.at' i p x hi) fun q y hq => ?_
      obtain ⟨h1, h2⟩ := lookA_take hq
      exact ih _ h2 q y (lookA_get h1)
  intro p x e
  exact key _ p x (lookA_get e)
/-- what every row of a walk keeps -/
theorem walk_keep {f : PI2 → Option Row} {Ph : Int → Prop} {Pm : List Int → Prop} (hf : ∀ h n y, Ph h → f (h, n) = some y → (y.1 = -1 ∨ Ph y.1) ∧ ∀ m, Pm m → Pm ((m ++ y.2.2.1).take 1001)) : ∀ (ns : List Int) (h t : Int) (m bk : List Int) (x : Row), Ph h → Pm m → walkN f h t m ns bk = .ok x → (x.1 = -1 ∨ Ph x.1) ∧ Pm x.2.2.1
  | [], h, t, m, bk, x, hh, hm, e => by
    unfold walkN at e
    cases e; exact ⟨.inr hh, hm⟩
  | n :: ns, h, t, m, bk, x, hh, hm, e => by
    unfold walkN at e
    cases ef : f (h, n) with
    | none => rw [ef] at e; cases e
    | some y =>
      rw [ef] at e
      dsimp only at e
      obtain ⟨h1, h2⟩ := hf h n y hh ef
      by_cases c : y.1 = -1
      · rw [if_pos c] at e
        cases e; exact ⟨.inl rfl, h2 m hm⟩
      · rw [if_neg c] at e
        exact walk_keep hf ns _ _ _ _ x (h1.resolve_left c) (h2 m hm) e
theorem row_ok (hr : OkRt r) (h : PT r T) : ∀ p x, lookA T p = some x → (x.1 = -1 ∨ (0 ≤ x.1 ∧ x.1 < r.length)) ∧ ∀ z ∈ x.2.2.1, 0 ≤ z ∧ z ≤ 2 := by
  refine h.ind fun i p x hi hp e ih => ?_
  obtain ⟨q, _, _, h1, h2, h3, h4, h5, h6⟩ := mvAt_ok hr hp
  unfold pairN at e
  by_cases c : (mvAt r p).2.2 = -1
  · rw [if_pos c] at e
    cases e
    exact ⟨.inl rfl, h2⟩
  · rw [if_neg c] at e
    refine walk_keep (Ph := fun h => 0 ≤ h ∧ h < (r.length : Int)) (Pm := fun m => ∀ z ∈ m, 0 ≤ z ∧ z ≤ 2) (fun h n y hh ef => ⟨(ih _ y ef).1, fun m hm z hz => ?_⟩) _ _ _ _ _ x ⟨by omega, by omega⟩ h2 e
    rcases List.mem_append.mp (List.mem_of_mem_take hz) with h7 | h7
    · exact hm z h7
    · exact (ih _ y ef).2 z h7
theorem walk_foot {f : PI2 → Option Row} (hf : ∀ h y, f (h, 3) = some y → y.1 = -1) : ∀ (ns : List Int) (h t : Int) (m bk : List Int) (x : Row), walkN f h t m (ns ++ [3]) bk = .ok x → x.1 = -1
  | [], h, t, m, bk, x, e => by
    rw [List.nil_append] at e
    unfold walkN at e
    cases ef : f (h, 3) with
    | none => rw [ef] at e; cases e
    | some y =>
      rw [ef] at e
      dsimp only at e
      rw [if_pos (hf h y ef)] at e
      cases e; rfl
  | n :: ns, h, t, m, bk, x, e => by
    rw [List.cons_append] at e
    unfold walkN at e
    cases ef : f (h, n) with
    | none => rw [ef] at e; cases e
    | some y =>
      rw [ef] at e
      dsimp only at e
      by_cases c : y.1 = -1
      · rw [if_pos c] at e; cases e; rfl
      · rw [if_neg c] at e; exact walk_foot hf ns _ _ _ _ x e
/-- a foot's row ends at rest -/
theorem foot_row (h : PT r T) : ∀ p x, lookA T p = some x → p.2 = 3 → x.1 = -1 := by
  refine h.ind fun i p x hi hp e ih h3 => ?_
  unfold pairN at e
  by_cases c : (mvAt r p).2.2 = -1
  · rw [if_pos c] at e; cases e; rfl
  · rw [if_neg c] at e
    unfold needsOf at e
    rw [if_neg (by omega)] at e
    exact walk_foot (fun h y ef => ih _ y ef rfl) _ _ _ _ _ x e
/-- marks of a walk, counted -/
theorem walk_len {f : PI2 → Option Row} {c : Nat} : ∀ (ns : List Int) (h t : Int) (m bk : List Int) (x : Row), (∀ h n y, n ∈ ns → f (h, n) = some y → y.2.2.1.length ≤ c) → walkN f h t m ns bk = .ok x → x.2.2.1.length ≤ m.length + ns.length * c
  | [], h, t, m, bk, x, _, e => by
    unfold walkN at e
    cases e; exact Nat.le_add_right _ _
  | n :: ns, h, t, m, bk, x, hf, e => by
    unfold walkN at e
    cases ef : f (h, n) with
    | none => rw [ef] at e; cases e
    | some y =>
      rw [ef] at e
      dsimp only at e
      have h1 := hf h n y List.mem_cons_self ef
      have h2 : ((m ++ y.2.2.1).take 1001).length ≤ m.length + c := by rw [List.length_take, List.length_append]; omega
      have h3 : (n :: ns).length * c = ns.length * c + c := by rw [List.length_cons, Nat.succ_mul]
      by_cases d : y.1 = -1
      · rw [if_pos d] at e
        cases e
        dsimp only
        omega
      · rw [if_neg d] at e
        have := walk_len ns _ _ _ _ x (fun h n' y hn => hf h n' y (List.mem_cons_of_mem _ hn)) e
        omega
theorem calm_dn (hC : Calm r) {p : PI2} (hp : OkP r p) (h3 : p.2 < 3) : ∀ x ∈ (mvAt r p).2.1, 0 ≤ x ∧ x < p.2 := by
  obtain ⟨q, e1, e2, h⟩ := mvAt_ok hC.ok hp
  intro x hx
  have h0 := hp.2.2.1
  have := hC.dn q (List.mem_of_getElem? e1) _ _ e2 (by omega) x hx
  exact ⟨(h.2.2.2.1 x hx).1, by omega⟩
theorem row_len (hC : Calm r) (h : PT r T) : ∀ p x, lookA T p = some x → (p.2 = 0 → x.2.2.1.length ≤ 2) ∧ (p.2 = 1 → x.2.2.1.length ≤ 8) ∧ (p.2 = 2 → x.2.2.1.length ≤ 26) := by
  refine h.ind fun i p x hi hp e ih => ?_
  obtain ⟨q, _, _, h1, h2, h3, h4, h5, h6⟩ := mvAt_ok hC.ok hp
  unfold pairN at e
  by_cases c : (mvAt r p).2.2 = -1
  · rw [if_pos c] at e
    cases e
    dsimp only
    omega
  · rw [if_neg c] at e
    have key : ∀ cc : Nat, p.2 < 3 → (∀ h n y, n < p.2 → 0 ≤ n → lookA (T.take i) (h, n) = some y → y.2.2.1.length ≤ cc) → x.2.2.1.length ≤ 2 + 3 * cc := fun cc hlt hf => by
      unfold needsOf at e
      rw [if_pos hlt, List.append_nil] at e
      have hd := calm_dn hC hp hlt
      have := walk_len (c := cc) _ _ _ _ _ x (fun h n y hn ef => hf h n y (hd n hn).2 (hd n hn).1 ef) e
      have h7 : (mvAt r p).2.1.length * cc ≤ 3 * cc := Nat.mul_le_mul_right _ h3
      omega
    refine ⟨fun h0 => ?_, fun h0 => ?_, fun h0 => ?_⟩
    · have := key 0 (by omega) fun h n y h8 h9 => by omega
      omega
    · have := key 2 (by omega) fun h n y h8 h9 ef => (ih _ y ef).1 (by dsimp only; omega)
      omega
    · have := key 8 (by omega) fun h n y h8 h9 ef => by
        have h10 : n = 0 ∨ n = 1 := by omega
        rcases h10 with h10 | h10
        · have := (ih _ y ef).1 h10; omega
        · exact (ih _ y ef).2.1 h10
      omega
end
end K48
/-! Few marks; led posts -/
namespace K48
section
variable {r : Rt} {T : Tb}
def feet (T : Tb) : Nat := (T.filter fun e => decide (e.1.2 = 3)).length
theorem feet_app (A B : Tb) : feet (A ++ B) = feet A + feet B := by unfold feet; rw [List.filter_append, List.length_append]
theorem feet_take {T : Tb} {i j : Nat} {q : PI2} {y : Row} (hj : T[j]? = some (q, y)) (h3 : q.2 = 3) (hij : j < i) : feet (T.take j) + 1 ≤ feet (T.take i) := by
  have h1 : T.take i = T.take j ++ (q, y) :: (T.take i).drop (j + 1) := by
    have h2 : (T.take i)[j]? = some (q, y) := by rw [List.getElem?_take, if_pos hij]; exact hj
    have h4 := (List.take_append_drop j (T.take i)).symm
    rw [drop_step h2, List.take_take, Nat.min_eq_left (by omega)] at h4
    exact h4
  have h5 := congrArg feet h1
  rw [feet_app] at h5
  have : feet ((q, y) :: (T.take i).drop (j + 1)) = 1 + feet ((T.take i).drop (j + 1)) := by
    unfold feet
    rw [List.filter_cons_of_pos (by simpa using h3), List.length_cons]; omega
  omega
theorem walk_len3 {f : PI2 → Option Row} {c b : Nat} (h3 : ∀ h y, f (h, 3) = some y → y.2.2.1.length ≤ b) : ∀ (ns : List Int) (h t : Int) (m bk : List Int) (x : Row), (∀ h n y, n ∈ ns → f (h, n) = some y → y.2.2.1.length ≤ c) → walkN f h t m (ns ++ [3]) bk = .ok x → x.2.2.1.length ≤ m.length + ns.length * c + b
  | [], h, t, m, bk, x, _, e => by
    rw [List.nil_append] at e
    have := walk_len (c := b) [3] h t m bk x (fun h n y hn ef => h3 h y (by rw [List.mem_singleton.mp hn] at ef; exact ef)) e
    simpa using this
  | n :: ns, h, t, m, bk, x, hf, e => by
    rw [List.cons_append] at e
    unfold walkN at e
    cases ef : f (h, n) with
    | none => rw [ef] at e; cases e
    | some y =>
      rw [ef] at e
      dsimp only at e
      have h1 := hf h n y List.mem_cons_self ef
      have h2 : ((m ++ y.2.2.1).take 1001).length ≤ m.length + c := by rw [List.length_take, List.length_append]; omega
      have h4 : (n :: ns).length * c = ns.length * c + c := by rw [List.length_cons, Nat.succ_mul]
      by_cases d : y.1 = -1
      · rw [if_pos d] at e
        cases e
        dsimp only
        omega
      · rw [if_neg d] at e
        have := walk_len3 h3 ns _ _ _ _ x (fun h n' y hn => hf h n' y (List.mem_cons_of_mem _ hn)) e
        omega
theorem foot_len (hC : Calm r) (h : PT r T) : ∀ (i : Nat) (p : PI2) (x : Row), T[i]? = some (p, x) → p.2 = 3 → x.2.2.1.length ≤ 80 * (feet (T.take i) + 1) := by
  intro i
  induction i using Nat.strongRecOn with
  | ind i ih =>
    intro p x hi h3
    have hp := h.okp p x (lookA_mem h.nd (List.mem_of_getElem? hi))
    have e := h.at' i p x hi
    obtain ⟨q, _, _, g1, g2, g3, g4, g5, g6⟩ := mvAt_ok hC.ok hp
    unfold pairN at e
    by_cases c : (mvAt r p).2.2 = -1
    · rw [if_pos c] at e
      cases e
      dsimp only
      omega
    · rw [if_neg c] at e
      unfold needsOf at e
      rw [if_neg (by omega)] at e
      have := walk_len3 (c := 26) (b := 80 * feet (T.take i)) (fun h' y ef => by
        obtain ⟨a1, a2⟩ := lookA_take ef
        have a3 := ih _ a2 (h', 3) y (lookA_get a1) rfl
        have a4 := feet_take (lookA_get a1) rfl a2
        omega) _ _ _ _ _ x (fun h' n y hn ef => by
        have a1 := (lookA_take ef).1
        have a2 := row_len hC h _ y a1
        have a3 := g4 n hn
        have a4 : n = 0 ∨ n = 1 ∨ n = 2 := by omega
        rcases a4 with rfl | rfl | rfl
        · have := a2.1 rfl; omega
        · have := a2.2.1 rfl; omega
        · exact a2.2.2 rfl) e
      have h7 : (mvAt r p).2.1.length * 26 ≤ 3 * 26 := Nat.mul_le_mul_right _ g3
      omega
theorem few_of (hC : Calm r) (h : PT r T) : Few T := fun p x e => by
  have hi := lookA_get e
  have hp := h.okp p x e
  by_cases h3 : p.2 = 3
  · have h1 := foot_len hC h _ p x hi h3
    have h2 : feet (T.take (rk T p)) + 1 ≤ feet T := by
      have := feet_take hi h3 (Nat.lt_succ_self _) (i := rk T p + 1)
      have h5 := feet_app (T.take (rk T p + 1)) (T.drop (rk T p + 1))
      rw [List.take_append_drop] at h5
      omega
    have h4 : feet T ≤ 6 := by
      have := nd_len ((T.filter fun e => decide (e.1.2 = 3)).map Prod.fst) [((0 : Int), (3 : Int)), (1, 3), (2, 3), (3, 3), (4, 3), (5, 3)] (h.nd.sublist (List.Sublist.map _ List.filter_sublist)) fun q hq => by
        obtain ⟨e, he, rfl⟩ := List.mem_map.mp hq
        obtain ⟨he, h6⟩ := List.mem_filter.mp he
        have h6 : e.1.2 = 3 := by simpa using h6
        obtain ⟨h7, h8, _⟩ := h.okp e.1 e.2 (lookA_mem h.nd he)
        have h9 := hC.ok.2.1
        have h10 : e.1.1 = 0 ∨ e.1.1 = 1 ∨ e.1.1 = 2 ∨ e.1.1 = 3 ∨ e.1.1 = 4 ∨ e.1.1 = 5 := by omega
        have h11 : e.1 = (e.1.1, 3) := Prod.ext rfl h6
        rw [h11]
        rcases h10 with h | h | h | h | h | h <;> rw [h] <;> simp
      rw [List.length_map] at this
      exact this
    omega
  · have h1 := row_len hC h p x e
    obtain ⟨_, _, h4, h5⟩ := hp
    have h6 : p.2 = 0 ∨ p.2 = 1 ∨ p.2 = 2 := by omega
    rcases h6 with h6 | h6 | h6
    · have := h1.1 h6; omega
    · have := h1.2.1 h6; omega
    · have := h1.2.2 h6; omega
/-! ### the led posts -/
theorem ledS_mem {F : List Int} {q : PI2} {z : Int} (h : z ∈ F) : z ∈ ledS T F q := by
  unfold ledS
  split
  · exact List.mem_append_left _ h
  · exact h
theorem ledP_mem {F : List Int} {p z : Int} (h : z ∈ F) : z ∈ ledP T F p := by
  unfold ledP
  split
  · exact ledS_mem (ledS_mem (ledS_mem h))
  · exact h
theorem foldP_mem {z : Int} : ∀ (l : List Int) {F : List Int}, z ∈ F → z ∈ l.foldl (ledP T) F
  | [], F, h => h
  | p :: l, F, h => foldP_mem l (ledP_mem h)
/-- a property of the ends holds for the led posts -/
theorem ledS_all {F : List Int} {q : PI2} {Ph : Int → Prop} (h : ∀ z ∈ F, Ph z) (hq : endOf T q ≠ -1 → Ph (endOf T q)) : ∀ z ∈ ledS T F q, Ph z := fun z hz => by
  unfold ledS at hz
  split at hz
  · rename_i c
    rcases List.mem_append.mp hz with h1 | h1
    · exact h z h1
    · rw [List.mem_singleton.mp h1]; exact hq c.1
  · exact h z hz
theorem ledP_all {F : List Int} {p : Int} {Ph : Int → Prop} (h : ∀ z ∈ F, Ph z) (hq : ∀ p, Ph p → ∀ s, 0 ≤ s → s < 3 → endOf T (p, s) ≠ -1 → Ph (endOf T (p, s))) : ∀ z ∈ ledP T F p, Ph z := by
  unfold ledP
  split
  · rename_i c
    have hp := h p c
    exact ledS_all (ledS_all (ledS_all h (hq p hp 0 (by decide) (by decide))) (hq p hp 1 (by decide) (by decide))) (hq p hp 2 (by decide) (by decide))
  · exact h
theorem foldP_all {Ph : Int → Prop} (hq : ∀ p, Ph p → ∀ s, 0 ≤ s → s < 3 → endOf T (p, s) ≠ -1 → Ph (endOf T (p, s))) : ∀ (l : List Int) {F : List Int}, (∀ z ∈ F, Ph z) → ∀ z ∈ l.foldl (ledP T) F, Ph z
  | [], F, h => h
  | p :: l, F, h => foldP_all hq l (ledP_all h hq)
theorem led_zero : 0 ∈ led T := foldP_mem _ (List.mem_singleton.mpr rfl)
theorem led_all {Ph : Int → Prop} (h0 : Ph 0) (hq : ∀ p, Ph p → ∀ s, 0 ≤ s → s < 3 → endOf T (p, s) ≠ -1 → Ph (endOf T (p, s))) : ∀ z ∈ led T, Ph z := foldP_all hq _ fun z hz => by rw [List.mem_singleton.mp hz]; exact h0
theorem ledS_nd {F : List Int} {q : PI2} (h : F.Nodup) : (ledS T F q).Nodup := by
  unfold ledS
  split
  · rename_i c
    refine List.nodup_append.mpr ⟨h, by simp, fun a ha b hb z => ?_⟩
    rw [List.mem_singleton.mp hb] at z
    exact c.2 (z ▸ ha)
  · exact h
theorem ledP_nd {F : List Int} {p : Int} (h : F.Nodup) : (ledP T F p).Nodup := by
  unfold ledP
  split
  · exact ledS_nd (ledS_nd (ledS_nd h))
  · exact h
theorem foldP_nd : ∀ (l : List Int) {F : List Int}, F.Nodup → (l.foldl (ledP T) F).Nodup
  | [], F, h => h
  | p :: l, F, h => foldP_nd l (ledP_nd h)
theorem led_nd : (led T).Nodup := foldP_nd _ (by simp)
end
end K48
/-! Six passes are enough -/
namespace K48
section
variable {r : Rt} {T : Tb}
def posts6 : List Int := [0, 1, 2, 3, 4, 5]
def it (T : Tb) : Nat → List Int
  | 0 => [0]
  | n + 1 => posts6.foldl (ledP T) (it T n)
theorem led_it : led T = it T 6 := by
  unfold led
  rw [show sixes = posts6 ++ (posts6 ++ (posts6 ++ (posts6 ++ (posts6 ++ posts6)))) from rfl]
  simp only [List.foldl_append]
  rfl
theorem ledS_le (F : List Int) (q : PI2) : F.length ≤ (ledS T F q).length := by
  unfold ledS
  split
  · rw [List.length_append]; omega
  · exact Nat.le_refl _
theorem ledS_eq {F : List Int} {q : PI2} (h : (ledS T F q).length = F.length) : ledS T F q = F ∧ (endOf T q = -1 ∨ endOf T q ∈ F) := by
  unfold ledS at h ⊢
  by_cases c : endOf T q ≠ -1 ∧ endOf T q ∉ F
  · rw [if_pos c, List.length_append, List.length_singleton] at h; omega
  · rw [if_neg c]
    refine ⟨rfl, ?_⟩
    by_cases c1 : endOf T q = -1
    · exact .inl c1
    · exact .inr (Classical.byContradiction fun c2 => c ⟨c1, c2⟩)
theorem ledP_le (F : List Int) (p : Int) : F.length ≤ (ledP T F p).length := by
  unfold ledP
  split
  · exact Nat.le_trans (ledS_le F (p, 0)) (Nat.le_trans (ledS_le _ (p, 1)) (ledS_le _ (p, 2)))
  · exact Nat.le_refl _
theorem ledP_eq {F : List Int} {p : Int} (h : (ledP T F p).length = F.length) : ledP T F p = F ∧ (p ∈ F → ∀ s, 0 ≤ s → s < 3 → endOf T (p, s) = -1 ∨ endOf T (p, s) ∈ F) := by
  unfold ledP at h ⊢
  by_cases c : p ∈ F
  · rw [if_pos c] at h ⊢
    have h : (ledS T (ledS T (ledS T F (p, 0)) (p, 1)) (p, 2)).length = F.length := h
    have l0 := ledS_le (T := T) F (p, 0)
    have l1 := ledS_le (T := T) (ledS T F (p, 0)) (p, 1)
    have l2 := ledS_le (T := T) (ledS T (ledS T F (p, 0)) (p, 1)) (p, 2)
    obtain ⟨e0, c0⟩ := ledS_eq (T := T) (F := F) (q := (p, 0)) (by omega)
    rw [e0] at h l1 l2
    obtain ⟨e1, c1⟩ := ledS_eq (T := T) (F := F) (q := (p, 1)) (by omega)
    rw [e1] at h l2
    obtain ⟨e2, c2⟩ := ledS_eq (T := T) (F := F) (q := (p, 2)) (by omega)
    refine ⟨?_, fun _ s s0 s3 => ?_⟩
    · show ledS T (ledS T (ledS T F (p, 0)) (p, 1)) (p, 2) = F
      rw [e0, e1, e2]
    · have : s = 0 ∨ s = 1 ∨ s = 2 := by omega
      rcases this with rfl | rfl | rfl
      · exact c0
      · exact c1
      · exact c2
  · rw [if_neg c]
    exact ⟨rfl, fun h => absurd h c⟩
theorem foldP_le : ∀ (l : List Int) (F : List Int), F.length ≤ (l.foldl (ledP T) F).length
  | [], F => Nat.le_refl _
  | p :: l, F => Nat.le_trans (ledP_le F p) (foldP_le l _)
theorem foldP_eq : ∀ (l : List Int) {F : List Int}, (l.foldl (ledP T) F).length = F.length → l.foldl (ledP T) F = F ∧ ∀ p ∈ l, p ∈ F → ∀ s, 0 ≤ s → s < 3 → endOf T (p, s) = -1 ∨ endOf T (p, s) ∈ F
  | [], F, _ => ⟨rfl, fun p hp => by cases hp⟩
  | p :: l, F, h => by
    rw [List.foldl_cons] at h ⊢
    have l0 := ledP_le (T := T) F p
    have l1 := foldP_le (T := T) l (ledP T F p)
    obtain ⟨e0, c0⟩ := ledP_eq (T := T) (F := F) (p := p) (by omega)
    rw [e0] at h ⊢
    obtain ⟨e1, c1⟩ := foldP_eq l h
    refine ⟨e1, fun p' hp' => ?_⟩
    rcases List.mem_cons.mp hp' with rfl | hp'
    · exact c0
    · exact c1 p' hp'
theorem end_rng (hr : OkRt r) (h : PT r T) {q : PI2} (hne : endOf T q ≠ -1) : 0 ≤ endOf T q ∧ endOf T q < r.length := by
  unfold endOf at hne ⊢
  cases e : lookA T q with
  | none => rw [e] at hne; exact absurd rfl hne
  | some x =>
    rw [e] at hne
    exact (row_ok hr h q x e).1.resolve_left hne
theorem it_rng (hr : OkRt r) (h : PT r T) : ∀ n, ∀ z ∈ it T n, 0 ≤ z ∧ z < r.length
  | 0, z, hz => by rw [List.mem_singleton.mp hz]; have := hr.1; omega
  | n + 1, z, hz => foldP_all (Ph := fun z => 0 ≤ z ∧ z < (r.length : Int)) (fun p _ s _ _ hne => end_rng hr h hne) _ (it_rng hr h n) z hz
theorem it_nd : ∀ n, (it T n).Nodup
  | 0 => by simp [it]
  | n + 1 => foldP_nd _ (it_nd n)
theorem it_len (hr : OkRt r) (h : PT r T) (n : Nat) : (it T n).length ≤ 6 := by
  refine nd_len (it T n) posts6 (it_nd n) fun z hz => ?_
  obtain ⟨h1, h2⟩ := it_rng hr h n z hz
  have := hr.2.1
  unfold posts6
  simp only [List.mem_cons, List.not_mem_nil, or_false]
  omega
theorem it_or (n : Nat) : n + 1 ≤ (it T n).length ∨ (posts6.foldl (ledP T) (it T n)).length = (it T n).length := by
  induction n with
  | zero => exact .inl (Nat.le_refl _)
  | succ n ih =>
    have l := foldP_le (T := T) posts6 (it T n)
    by_cases c : (posts6.foldl (ledP T) (it T n)).length = (it T n).length
    · refine .inr ?_
      have e : it T (n + 1) = it T n := (foldP_eq _ c).1
      rw [e]; exact c
    · refine .inl ?_
      have := ih.resolve_right c
      show _ ≤ (posts6.foldl (ledP T) (it T n)).length
      omega
/-- the led posts are closed -/
theorem led_closed (hr : OkRt r) (h : PT r T) {p : Int} (hp : p ∈ led T) {s : Int} (h0 : 0 ≤ s) (h3 : s < 3) : endOf T (p, s) = -1 ∨ endOf T (p, s) ∈ led T := by
  rw [led_it] at hp ⊢
  have h1 := (it_or (T := T) 6).resolve_left (by have := it_len hr h 6; omega)
  obtain ⟨h4, h5⟩ := it_rng hr h 6 p hp
  have := hr.2.1
  refine (foldP_eq _ h1).2 p ?_ hp s h0 h3
  unfold posts6
  simp only [List.mem_cons, List.not_mem_nil, or_false]
  omega
theorem led_ok (hr : OkRt r) (h : PT r T) (hrest : rests T = true) : LedOk T (led T) := by
  refine ⟨led_zero, fun p hp s h0 h4 => ?_⟩
  have h1 := List.all_eq_true.mp (List.all_eq_true.mp hrest p hp) (p, s) (four_mem.mpr ⟨rfl, h0, h4⟩)
  obtain ⟨x, hx⟩ := Option.isSome_iff_exists.mp h1
  refine ⟨x, hx, ?_⟩
  by_cases c : s = 3
  · exact .inl (foot_row h _ x hx c)
  · have := led_closed hr h hp h0 (show s < 3 by omega)
    unfold endOf at this
    rw [hx] at this
    exact this
/-- .. and least -/
theorem led_least {L : List Int} (hL : LedOk T L) : ∀ z ∈ led T, z ∈ L := led_all hL.zero fun p hp s h0 h3 hne => by
  obtain ⟨x, hx, h1⟩ := hL.all p hp s h0 (by omega)
  unfold endOf at hne ⊢
  rw [hx] at hne ⊢
  exact h1.resolve_left hne
theorem led_len (hr : OkRt r) (h : PT r T) : (led T).length ≤ 1000 := by
  rw [led_it]
  have := it_len hr h 6
  omega
end
/-! ### sorted lists -/
theorem strict_unique : ∀ {a b : List Int}, a.Pairwise (· < ·) → b.Pairwise (· < ·) → (∀ x, x ∈ a ↔ x ∈ b) → a = b
  | [], [], _, _, _ => rfl
  | [], y :: b, _, _, h => absurd ((h y).mpr List.mem_cons_self) (by simp)
  | x :: a, [], _, _, h => absurd ((h x).mp List.mem_cons_self) (by simp)
  | x :: a, y :: b, ha, hb, h => by
    have ha' := List.pairwise_cons.mp ha
    have hb' := List.pairwise_cons.mp hb
    have e : x = y := by
      rcases List.mem_cons.mp ((h x).mp List.mem_cons_self) with h1 | h1
      · exact h1
      · rcases List.mem_cons.mp ((h y).mpr List.mem_cons_self) with h2 | h2
        · exact h2.symm
        · have := ha'.1 y h2
          have := hb'.1 x h1
          omega
    subst e
    rw [strict_unique ha'.2 hb'.2 fun z => ?_]
    constructor
    · intro hz
      rcases List.mem_cons.mp ((h z).mp (List.mem_cons_of_mem _ hz)) with h1 | h1
      · have := ha'.1 z hz; omega
      · exact h1
    · intro hz
      rcases List.mem_cons.mp ((h z).mpr (List.mem_cons_of_mem _ hz)) with h1 | h1
      · have := hb'.1 z hz; omega
      · exact h1
theorem strict_of {a : List Int} (h : a.Pairwise (· ≤ ·)) (nd : a.Nodup) : a.Pairwise (· < ·) := h.imp₂ (fun _ _ h1 h2 => by omega) nd
end K48
/-! The routine whose feet are changed rests -/
namespace K48
section
variable {r : Rt} {T : Tb}
theorem chg_get {q : List Mv} (h : q.length = 4) : ∃ a b c d, q = [a, b, c, d] ∧ chg q = [a, b, c, (d.1, [], -1)] := by
  match q, h with
  | [a, b, c, d], _ => exact ⟨a, b, c, d, rfl, rfl⟩
theorem chg_calm {r0 : Rt} (h : Calm r0) : Calm (r0.map chg) := by
  have hl : (r0.map chg).length = r0.length := List.length_map ..
  refine ⟨⟨by rw [hl]; exact h.ok.1, by rw [hl]; exact h.ok.2.1, fun q hq => ?_⟩, fun q hq s v e hs => ?_⟩
  · obtain ⟨q0, hq0, rfl⟩ := List.mem_map.mp hq
    obtain ⟨h4, hv⟩ := h.ok.2.2 q0 hq0
    obtain ⟨a, b, c, d, rfl, e⟩ := chg_get h4
    rw [e, hl]
    refine ⟨rfl, fun v hv' => ?_⟩
    simp only [List.mem_cons, List.not_mem_nil, or_false] at hv'
    rcases hv' with rfl | rfl | rfl | rfl
    · exact hv _ (by simp)
    · exact hv _ (by simp)
    · exact hv _ (by simp)
    · have hd := hv d (by simp)
      exact ⟨hd.1, hd.2.1, Nat.zero_le _, fun x hx => (by cases hx), Int.le_refl _, by have := h.ok.1; show (-1 : Int) ≤ _; omega⟩
  · obtain ⟨q0, hq0, rfl⟩ := List.mem_map.mp hq
    obtain ⟨h4, hv⟩ := h.ok.2.2 q0 hq0
    obtain ⟨a, b, c, d, rfl, e2⟩ := chg_get h4
    rw [e2] at e
    refine h.dn _ hq0 s v ?_ hs
    match s, hs with
    | 0, _ => exact e
    | 1, _ => exact e
    | 2, _ => exact e
theorem chg_foot {r0 : Rt} (h : Calm r0) {p : PI2} (hp : OkP (r0.map chg) p) (h3 : p.2 = 3) : (mvAt (r0.map chg) p).2.2 = -1 := by
  obtain ⟨q, e1, e2, _⟩ := mvAt_ok (chg_calm h).ok hp
  rw [List.getElem?_map] at e1
  cases eq : r0[p.1.toNat]? with
  | none => rw [eq] at e1; cases e1
  | some q0 =>
    rw [eq] at e1
    cases e1
    obtain ⟨h4, _⟩ := h.ok.2.2 q0 (List.mem_of_getElem? eq)
    obtain ⟨a, b, c, d, rfl, e⟩ := chg_get h4
    rw [e, show p.2.toNat = 3 by omega] at e2
    have : mvAt (r0.map chg) p = (d.1, [], -1) := (Option.some.inj e2).symm
    rw [this]
theorem stepT_look {S : Tb} {p q : PI2} {y : Row} (h : lookA S q = some y) : lookA (stepT r S p) q = some y := by
  unfold stepT
  cases e : lookA S p with
  | some _ => exact h
  | none =>
    dsimp only
    cases pairN (lookA S) r p with
    | error _ => exact h
    | ok x =>
      dsimp only
      rw [← putA_new e, lookA_put, if_neg]
      · exact h
      · rintro rfl
        rw [e] at h; cases h
theorem steps_look {q : PI2} {y : Row} : ∀ (l : List PI2) {S : Tb}, lookA S q = some y → lookA (l.foldl (stepT r) S) q = some y
  | [], S, h => h
  | p :: l, S, h => steps_look l (stepT_look h)
theorem walk_tot {f : PI2 → Option Row} {Ph : Int → Prop} : ∀ (ns : List Int) (h t : Int) (m bk : List Int), Ph h → (∀ h n, Ph h → n ∈ ns → ∃ y, f (h, n) = some y ∧ (y.1 = -1 ∨ Ph y.1)) → ∃ x, walkN f h t m ns bk = .ok x
  | [], h, t, m, bk, _, _ => ⟨_, rfl⟩
  | n :: ns, h, t, m, bk, hh, hf => by
    obtain ⟨y, ey, hy⟩ := hf h n hh List.mem_cons_self
    unfold walkN
    rw [ey]
    dsimp only
    by_cases c : y.1 = -1
    · rw [if_pos c]; exact ⟨_, rfl⟩
    · rw [if_neg c]
      exact walk_tot ns _ _ _ _ (hy.resolve_left c) fun h n' hh hn => hf h n' hh (List.mem_cons_of_mem _ hn)
/-- a pair is told in a pass, if all that it needs was told before -/
theorem pass_tot {S : Tb} {p : PI2} : ∀ (l : List PI2) {S : Tb}, p ∈ l → (∀ S', (∀ q y, lookA S q = some y → lookA S' q = some y) → PT r S' → ∃ x, pairN (lookA S') r p = .ok x) → PT r S → (∀ q ∈ l, OkP r q) → (lookA (l.foldl (stepT r) S) p).isSome
  | [], S, hp, _, _, _ => by cases hp
  | q :: l, S, hp, hx, hS, hl => by
    rw [List.foldl_cons]
    rcases List.mem_cons.mp hp with rfl | hp
    · have : ∃ y, lookA (stepT r S p) p = some y := by
        unfold stepT
        cases e : lookA S p with
        | some y => exact ⟨y, e⟩
        | none =>
          obtain ⟨x, ex⟩ := hx S (fun _ _ h => h) hS
          dsimp only
          rw [ex]
          dsimp only
          rw [← putA_new e, lookA_put, if_pos rfl]; exact ⟨x, rfl⟩
      obtain ⟨y, hy⟩ := this
      rw [steps_look l hy]; rfl
    · exact pass_tot (S := S) l hp (fun S' h hS' => hx S' (fun q' y hq => h q' y (stepT_look hq)) hS') (hS.step (hl q List.mem_cons_self)) fun q' hq' => hl q' (List.mem_cons_of_mem _ hq')
theorem rounds_tot (hC : Calm r) (hf : ∀ p, OkP r p → p.2 = 3 → (mvAt r p).2.2 = -1) : ∀ n : Nat, ∀ p, OkP r p → (p.2 = 3 ∨ p.2 ≤ n) → (lookA (rounds r (n + 1)) p).isSome := by
  intro n
  induction n with
  | zero =>
    intro p hp h
    refine pass_tot (S := []) (pairs r) (pairs_mem.mpr hp) (fun S' _ hS' => ?_) (PT.nil r) fun q hq => pairs_mem.mp hq
    unfold pairN
    by_cases c : (mvAt r p).2.2 = -1
    · rw [if_pos c]; exact ⟨_, rfl⟩
    · rw [if_neg c]
      have h0 : p.2 = 0 := by have := hp.2.2.1; exact (h.resolve_left fun z => c (hf p hp z)) |> fun h => by omega
      have hb : (mvAt r p).2.1 = [] := by
        cases e : (mvAt r p).2.1 with
        | nil => rfl
        | cons x l =>
          have := calm_dn hC hp (by omega) x (by rw [e]; simp)
          omega
      unfold needsOf
      rw [hb, if_pos (by omega)]
      exact ⟨_, rfl⟩
  | succ n ih =>
    intro p hp h
    refine pass_tot (S := []) (pairs r) (pairs_mem.mpr hp) (fun S' hsub hS' => ?_) (PT.rounds (n + 1)) fun q hq => pairs_mem.mp hq
    unfold pairN
    by_cases c : (mvAt r p).2.2 = -1
    · rw [if_pos c]; exact ⟨_, rfl⟩
    · rw [if_neg c]
      have h3 : p.2 ≠ 3 := fun z => c (hf p hp z)
      have hlt : p.2 < 3 := by have := hp.2.2.2; omega
      obtain ⟨q, _, _, g1, g2, g3, g4, g5, g6⟩ := mvAt_ok hC.ok hp
      refine walk_tot (Ph := fun h => 0 ≤ h ∧ h < (r.length : Int)) _ _ _ _ _ ⟨by omega, by omega⟩ fun h' k hh hk => ?_
      unfold needsOf at hk
      rw [if_pos hlt, List.append_nil] at hk
      have hd := calm_dn hC hp hlt k hk
      have hok : OkP r (h', k) := ⟨hh.1, hh.2, hd.1, by dsimp only; omega⟩
      obtain ⟨y, hy⟩ := Option.isSome_iff_exists.mp (ih (h', k) hok (.inr (by dsimp only; have := h.resolve_left h3; omega)))
      have hy' := hsub _ _ hy
      exact ⟨y, hy', (row_ok hC.ok hS' _ y hy').1⟩
theorem rounds_more {n : Nat} {q : PI2} {y : Row} (h : lookA (rounds r n) q = some y) : ∀ k, lookA (rounds r (n + k)) q = some y
  | 0 => h
  | k + 1 => steps_look (pairs r) (rounds_more h k)
theorem chg_rests {r0 : Rt} (h : Calm r0) : rests (table (r0.map chg)) = true := by
  have hC := chg_calm h
  have hPT := table_pt (r0.map chg)
  refine List.all_eq_true.mpr fun p hp => List.all_eq_true.mpr fun q hq => ?_
  have hr : 0 ≤ p ∧ p < (r0.map chg).length := by
    rw [led_it] at hp
    exact it_rng hC.ok hPT 6 p hp
  obtain ⟨h1, h2, h3⟩ := four_mem.mp hq
  have hok : OkP (r0.map chg) q := ⟨by omega, by omega, h2, h3⟩
  have h4 := rounds_tot hC (fun p hp h3 => chg_foot h hp h3) 2 q hok (by omega)
  obtain ⟨y, hy⟩ := Option.isSome_iff_exists.mp h4
  have h5 := rounds_more hy ((pairs (r0.map chg)).length - 2)
  have h6 := pairs_len (r0.map chg)
  have h7 := hC.ok.1
  unfold table
  rw [show (pairs (r0.map chg)).length + 1 = 2 + 1 + ((pairs (r0.map chg)).length - 2) by omega, h5]; rfl
end
end K48
/-! A resting routine is fine -/
namespace K48
theorem take_app (a b : List Int) (n : Nat) : ((a.take n) ++ b).take n = (a ++ b).take n := by
  rw [List.take_append, List.take_append, List.take_take, Nat.min_self]
  by_cases h : n ≤ a.length
  · rw [List.length_take, Nat.min_eq_left h, Nat.sub_self, Nat.sub_eq_zero_of_le h]
  · rw [List.length_take, Nat.min_eq_right (by omega)]
theorem split_iff (l a b : List Int) : l = a ++ b ↔ l.take a.length = a ∧ l.drop a.length = b := by
  constructor
  · rintro rfl
    exact ⟨List.take_left' rfl, List.drop_left' rfl⟩
  · rintro ⟨h1, h2⟩
    have h3 := (List.take_append_drop a.length l).symm
    rwa [h1, h2] at h3
/-- the marks of a stack's whole walk -/
def outs (f : PI2 → Option ME) : Int → List Int → List Int
  | h, [] => match f (h, 3) with
    | some me => me.1
    | none => []
  | h, s :: u => match f (h, s) with
    | some me => me.1 ++ outs f me.2 u
    | none => []
section
variable {f : PI2 → Option ME} {Q mk : List Int}
theorem run_outs (hq : TmOk f Q) : ∀ (u : List Int) (t : PI2), InQ Q mk t → (∀ x ∈ u, 0 ≤ x ∧ x ≤ 2) → ((∃ t', runS f mk t u = some t' ∧ hit f mk t' = true) ↔ mk.drop t.2.toNat = outs f t.1 u)
  | [], t, ht, _ => by
    obtain ⟨me, e, _⟩ := hq.all t.1 ht.1 3 (by decide) (by decide)
    unfold outs
    rw [e]
    constructor
    · rintro ⟨t', h1, h2⟩
      cases h1
      unfold hit at h2
      rw [e, decide_eq_true_eq] at h2
      exact h2.symm
    · intro h
      refine ⟨t, rfl, ?_⟩
      unfold hit
      rw [e, decide_eq_true_eq]; exact h.symm
  | s :: u, t, ht, hu => by
    have hs := hu s List.mem_cons_self
    obtain ⟨me, e, e2, _⟩ := hq.all t.1 ht.1 s hs.1 (by omega)
    have ht2 := ht.2
    unfold outs runS
    rw [e]
    dsimp only
    rw [split_iff]
    have hst : stp f mk t s = if (mk.drop t.2.toNat).take me.1.length = me.1 then some (me.2, t.2 + me.1.length) else none := by unfold stp; rw [e]
    by_cases c : (mk.drop t.2.toNat).take me.1.length = me.1
    · rw [if_pos c] at hst
      rw [hst]
      have hin := stp_in hq ht hst hs.1 (by omega)
      have := run_outs hq u _ hin fun x hx => hu x (List.mem_cons_of_mem _ hx)
      rw [this]
      dsimp only
      rw [List.drop_drop, show (t.2 + (me.1.length : Int)).toNat = t.2.toNat + me.1.length by omega]
      exact ⟨fun h => ⟨c, h⟩, fun h => h.2⟩
    · rw [if_neg c] at hst
      rw [hst]
      exact ⟨fun ⟨t', h, _⟩ => (by cases h), fun h => absurd h.1 c⟩
theorem runS_in (hq : TmOk f Q) : ∀ (u : List Int) (t t' : PI2), InQ Q mk t → (∀ x ∈ u, 0 ≤ x ∧ x ≤ 2) → runS f mk t u = some t' → InQ Q mk t'
  | [], t, t', ht, _, h => by cases h; exact ht
  | s :: u, t, t', ht, hu, h => by
    unfold runS at h
    have hs := hu s List.mem_cons_self
    cases e : stp f mk t s with
    | none => rw [e] at h; cases h
    | some t1 =>
      rw [e] at h
      exact runS_in hq u t1 t' (stp_in hq ht e hs.1 (by omega)) (fun x hx => hu x (List.mem_cons_of_mem _ hx)) h
theorem outs_rest (hq : TmOk f Q) : ∀ u : List Int, (∀ x ∈ u, 0 ≤ x ∧ x ≤ 2) → outs f (-1) u = []
  | [], _ => by unfold outs; rw [hq.rest 3 (by decide) (by decide)]
  | s :: u, hu => by
    have hs := hu s List.mem_cons_self
    unfold outs
    rw [hq.rest s hs.1 (by omega)]
    exact outs_rest hq u fun x hx => hu x (List.mem_cons_of_mem _ hx)
end
theorem told_outs {r : Rt} {T : Tb} {L ms : List Int} (hR : OkRt r) (hP : PT r T) (hF : Few T) (hs : Srt T L ms) : ∀ (u : List Int) (h t : Int) (m st : List Int), h ∈ ms → (∀ x ∈ u, 0 ≤ x ∧ x ≤ 2) → ∃ y, toldN (lookA T) h t m (u ++ [3]) st = some y ∧ y.1 = (m ++ outs (lookA (wt T ms)) h u).take 1001
  | [], h, t, m, st, hh, _ => by
    obtain ⟨x, hx, _⟩ := hs.led.all h hh 3 (by decide) (by decide)
    have hw := wt_look hR (hP.tab hR) hs hh (s := 3) (by decide) (by decide) hx
    unfold outs
    rw [hw, List.nil_append]
    unfold toldN
    rw [hx]
    dsimp only
    rw [if_pos (foot_row hP _ x hx rfl)]
    exact ⟨_, rfl, rfl⟩
  | s :: u, h, t, m, st, hh, hu => by
    have h1 := hu s List.mem_cons_self
    obtain ⟨x, hx, hx2⟩ := hs.led.all h hh s h1.1 (by omega)
    have hw := wt_look hR (hP.tab hR) hs hh h1.1 (show s < 4 by omega) hx
    unfold outs
    rw [hw, List.cons_append]
    unfold toldN
    rw [hx]
    dsimp only
    have hu' : ∀ x ∈ u, 0 ≤ x ∧ x ≤ 2 := fun x hx => hu x (List.mem_cons_of_mem _ hx)
    by_cases c : x.1 = -1
    · rw [if_pos c, c, outs_rest (wt_ok hR (hP.tab hR) hF hs) u hu', List.append_nil]
      exact ⟨_, rfl, rfl⟩
    · rw [if_neg c]
      obtain ⟨y, e1, e2⟩ := told_outs hR hP hF hs u x.1 (t + x.2.1) ((m ++ x.2.2.1).take 1001) st.tail (hx2.resolve_left c) hu'
      exact ⟨y, e1, by rw [e2, take_app, List.append_assoc]⟩
end K48
namespace K48
theorem drop0 (l : List Int) : l.drop ((0 : Int).toNat) = l := rfl
theorem outs_in {r : Rt} {T : Tb} {L ms : List Int} (hR : OkRt r) (hP : PT r T) (hF : Few T) (hs : Srt T L ms) : ∀ (u : List Int) (h : Int), h ∈ ms → (∀ x ∈ u, 0 ≤ x ∧ x ≤ 2) → ∀ z ∈ outs (lookA (wt T ms)) h u, 0 ≤ z ∧ z ≤ 2
  | [], h, hh, _ => by
    obtain ⟨x, hx, _⟩ := hs.led.all h hh 3 (by decide) (by decide)
    unfold outs
    rw [wt_look hR (hP.tab hR) hs hh (s := 3) (by decide) (by decide) hx]
    exact (row_ok hR hP _ x hx).2
  | s :: u, h, hh, hu => by
    have h1 := hu s List.mem_cons_self
    obtain ⟨x, hx, hx2⟩ := hs.led.all h hh s h1.1 (by omega)
    have hu' : ∀ x ∈ u, 0 ≤ x ∧ x ≤ 2 := fun x hx => hu x (List.mem_cons_of_mem _ hx)
    unfold outs
    rw [wt_look hR (hP.tab hR) hs hh h1.1 (show s < 4 by omega) hx]
    dsimp only
    intro z hz
    rcases List.mem_append.mp hz with h2 | h2
    · exact (row_ok hR hP _ x hx).2 z h2
    · by_cases c : x.1 = -1
      · rw [c, outs_rest (wt_ok hR (hP.tab hR) hF hs) u hu'] at h2; cases h2
      · exact outs_in hR hP hF hs u x.1 (hx2.resolve_left c) hu' z h2
theorem fine_of {r : Rt} (hC : Calm r) (hrest : rests (table r) = true) {ms : List Int} (hp : ms.Perm (led (table r))) (hle : ms.Pairwise (· ≤ ·)) : Fine r ms := by
  have hR := hC.ok
  have hP := table_pt r
  have hL := led_ok hR hP hrest
  have hF := few_of hC hP
  have hs : Srt (table r) (led (table r)) ms := ⟨⟨hp.mem_iff.mpr hL.zero, fun p hp' s h0 h4 => by
    obtain ⟨x, h1, h2⟩ := hL.all p (hp.mem_iff.mp hp') s h0 h4
    exact ⟨x, h1, h2.imp id hp.mem_iff.mpr⟩⟩, fun p hp' => hp.mem_iff.mp hp', hp.nodup_iff.mpr led_nd, hle⟩
  have hms := strict_of hs.le hs.nd
  have hq := wt_ok hR (hP.tab hR) hF hs
  have good : Good r ms := ⟨hR, hL, hF, fun ns hn => strict_unique (strict_of hn.le hn.nd) hms fun x => ⟨fun hx => hp.mem_iff.mpr (hn.sub x hx), fun hx => led_least hn.led x (hp.mem_iff.mp hx)⟩, fun ns h1 h2 => strict_unique (strict_of h2 (h1.nodup_iff.mpr led_nd)) hms fun x => by rw [h1.mem_iff, hp.mem_iff], led_len hR hP⟩
  have h0 : 0 ∈ ms := hs.led.zero
  have tl : ∀ u : List Int, (∀ x ∈ u, 0 ≤ x ∧ x ≤ 2) → ∃ y, told (table r) u = some y ∧ y.1 = (outs (lookA (wt (table r) ms)) 0 u).take 1001 := fun u hu => by
    obtain ⟨y, e1, e2⟩ := told_outs hR hP hF hs u 0 0 [] u h0 hu
    exact ⟨y, e1, by rw [e2, List.nil_append]⟩
  refine ⟨good, fun mk hm hmi => ?_, fun u hu => ?_⟩
  · have hle := bfs_least hq hm
    have hin : InQ (-1 :: ms) mk (0, 0) := ⟨hq.zero, Int.le_refl _, by dsimp only; omega⟩
    have hro : ∀ u : List Int, (∀ x ∈ u, 0 ≤ x ∧ x ≤ 2) → ((∃ t', runS (lookA (wt (table r) ms)) mk (0, 0) u = some t' ∧ hit (lookA (wt (table r) ms)) mk t' = true) ↔ mk = outs (lookA (wt (table r) ms)) 0 u) := fun u hu => run_outs hq u (0, 0) hin hu
    have tk : ∀ u : List Int, (outs (lookA (wt (table r) ms)) 0 u).take 1001 = mk ↔ mk = outs (lookA (wt (table r) ms)) 0 u := fun u => by
      constructor
      · intro h
        have h1 := congrArg List.length h
        rw [List.length_take] at h1
        rw [List.take_of_length_le (by omega)] at h
        exact h.symm
      · intro h
        rw [← h, List.take_of_length_le (by omega)]
    refine ⟨fun hn => ?_, fun st hst => ?_⟩
    · have hno := hand_none hle hn
      refine ⟨fun t => ∃ u : List Int, (∀ x ∈ u, 0 ≤ x ∧ x ≤ 2) ∧ runS (lookA (wt (table r) ms)) mk (0, 0) u = some t, ⟨[], fun x hx => (by cases hx), rfl⟩, ?_, ?_, ?_⟩
      · rintro t ⟨u, hu, hr⟩
        obtain ⟨h1, h2, h3⟩ := runS_in hq u _ t hin hu hr
        have := hq.rng _ h1
        omega
      · rintro t ⟨u, hu, hr⟩ hne s hs0 hs4
        obtain ⟨h1, h2, h3⟩ := runS_in hq u _ t hin hu hr
        have hm1 : t.1 ∈ ms := (List.mem_cons.mp h1).resolve_left hne
        obtain ⟨x, hx, hx2⟩ := hs.led.all t.1 hm1 s hs0 hs4
        have hw := wt_look hR (hP.tab hR) hs hm1 hs0 hs4 hx
        refine ⟨x, hx, fun hs3 hc => ⟨u ++ [s], fun z hz => ?_, ?_⟩, fun h3 => ?_⟩
        · rcases List.mem_append.mp hz with h4 | h4
          · exact hu z h4
          · rw [List.mem_singleton.mp h4]; omega
        · rw [runS_snoc, hr]
          show stp _ mk t s = _
          unfold stp
          rw [hw]
          dsimp only
          rw [if_pos hc]
        · subst h3
          have := hno u t hu hr
          unfold hit at this
          rw [hw] at this
          exact fun c => absurd c (of_decide_eq_false this)
      · rintro t ⟨u, hu, hr⟩ he
        have := hno u t hu hr
        unfold hit at this
        rw [he, hq.rest 3 (by decide) (by decide)] at this
        exact fun c => absurd c.symm (of_decide_eq_false this)
    · obtain ⟨⟨t, h1, h2⟩, h60, hsi, hall⟩ := hand_some hle hst
      refine ⟨h60, hsi, ?_, fun u hu _ => ?_⟩
      · obtain ⟨y, e1, e2⟩ := tl st hsi
        exact ⟨y, e1, by rw [e2]; exact (tk st).mpr ((hro st hsi).mp ⟨t, h1, h2⟩)⟩
      · obtain ⟨y, e1, e2⟩ := tl u hu
        refine ⟨y, e1, fun h => ?_⟩
        rw [e2] at h
        obtain ⟨t', h3, h4⟩ := (hro u hu).mpr ((tk u).mp h)
        exact hall u t' hu h3 h4
  · obtain ⟨y, e1, e2⟩ := tl u hu
    refine ⟨y, e1, fun x hx => ?_, by rw [e2, List.length_take]; omega⟩
    rw [e2] at hx
    exact outs_in hR hP hF hs u 0 h0 hu x (List.mem_of_mem_take hx)
end K48
/-! The drawn-out routines of the law -/
namespace K48
theorem good_of {r : Rt} (hR : OkRt r) (hrest : rests (table r) = true) (hF : ∀ e ∈ table r, e.2.2.2.1.length ≤ 1000) {ms : List Int} (hp : ms.Perm (led (table r))) (hle : ms.Pairwise (· ≤ ·)) : Good r ms := by
  have hP := table_pt r
  have hL := led_ok hR hP hrest
  have hms := strict_of hle (hp.nodup_iff.mpr led_nd)
  exact ⟨hR, hL, fun p x e => hF (p, x) (lookA_inm e), fun ns hn => strict_unique (strict_of hn.le hn.nd) hms fun x => ⟨fun hx => hp.mem_iff.mpr (hn.sub x hx), fun hx => led_least hn.led x (hp.mem_iff.mp hx)⟩, fun ns h1 h2 => strict_unique (strict_of h2 (h1.nodup_iff.mpr led_nd)) hms fun x => by rw [h1.mem_iff, hp.mem_iff], led_len hR hP⟩
def rR : Rt := [[([0], [], 0), ([1], [0], 1), ([], [1, 1], 0), ([2], [], -1)], [([], [], 0), ([], [], -1), ([2], [2], 0), ([], [0], 0)]]
def rV : Rt := [[([], [], 0), ([0, 0], [], 0), ([], [2], 1), ([1], [], -1)], [([], [], 1), ([], [], 1), ([], [], -1), ([], [], -1)]]
def rF : Rt := [[([], [], 1), ([], [], 0), ([], [], 0), ([], [], -1)], [([], [], 0), ([], [], 2), ([], [], 0), ([], [], -1)], [([], [], 0), ([], [], 0), ([2], [], 0), ([], [], -1)]]
theorem gR : Good rR [0] := good_of (by decide +kernel) (by decide +kernel) (by decide +kernel) (by decide +kernel) (by decide +kernel)
theorem gV : Good rV [0] := good_of (by decide +kernel) (by decide +kernel) (by decide +kernel) (by decide +kernel) (by decide +kernel)
theorem gF : Good rF [0, 1, 2] := good_of (by decide +kernel) (by decide +kernel) (by decide +kernel) (by decide +kernel) (by decide +kernel)
end K48
namespace K48
def hd (r : Rt) (ms mk : List Int) : Option (List Int) := hand (lookA (wt (table r) ms)) mk
theorem hR1 : hd rR [0] [1, 1, 2] = some [2] := by decide +kernel
theorem hR2 : hd rR [0] [1] = none := by decide +kernel
theorem hR3 : hd rR [0] [2] = some [] := by decide +kernel
theorem hR4 : hd rR [0] [0, 2] = some [0] := by decide +kernel
theorem hR5 : hd rR [0] [1, 0, 1, 1, 2] = some [1, 0, 2] := by decide +kernel
theorem hV1 : hd rV [0] [] = some [2] := by decide +kernel
theorem hV2 : hd rV [0] [1] = some [] := by decide +kernel
theorem hV3 : hd rV [0] [0, 0] = some [1, 2] := by decide +kernel
theorem hV4 : hd rV [0] [0, 0, 1] = some [1] := by decide +kernel
theorem hV5 : hd rV [0] [0] = none := by decide +kernel
theorem hF1 : hd rF [0, 1, 2] [2, 2, 2, 2, 2, 2, 2, 2, 2] = some [0, 1, 2, 0, 1, 2, 0, 1, 2, 0, 1, 2, 0, 1, 2, 0, 1, 2, 0, 1, 2, 0, 1, 2, 0, 1, 2] := by decide +kernel
theorem hF2 : hd rF [0, 1, 2] [2, 1] = none := by decide +kernel
def wsee (r : Rt) (ms : List Int) : List (PI2 × List Int × Int) := (wrows (table r) ms).map fun e => (e.1, e.2.2.2.1, e.2.1)
theorem wR : wsee rR [0] = [((0, 0), [0], 0), ((0, 1), [1], 0), ((0, 2), [1, 1], 0), ((0, 3), [2], -1)] := by decide +kernel
theorem wV : wsee rV [0] = [((0, 0), [], 0), ((0, 1), [0, 0], 0), ((0, 2), [], -1), ((0, 3), [1], -1)] := by decide +kernel
end K48
set_option maxHeartbeats 1000000
/-! Displays of constants; the law -/
namespace K48
open PySem PySem.Spec PyProof.Rows L2
mutual
def cD : Nat → Expr → Option D
  | _, .Constant (.int i) _ _ => some (.int i)
  | _, .Constant .none _ _ => some .non
  | _, .UnaryOp .USub (.Constant (.int i) _ _) _ => some (.int (-i))
  | n + 1, .Tuple es _ _ => (cDs n es).map D.tup
  | n + 1, .List es _ => (cDs n es).map D.lst
  | _, _ => none
def cDs : Nat → List Expr → Option (List D)
  | _, [] => some []
  | n + 1, e :: es => match cD n e, cDs n es with
    | some d, some ds => some (d :: ds)
    | _, _ => none
  | 0, _ :: _ => none
end
section
variable {X : Cx} {I : HI} {μ : D} {δ : De} {e : Expr} {es : List Expr} {Q : D → Prop} {pos : Pos}
theorem W_call0 {x : Str} {k : Nat} {P : List D → (D → Prop) → Prop} {p : Pos} (F : DefOk X.prog X.w X.K X.mg X.base x k (spD P)) (hr : Room k X.A) (h : P [] Q) (hg : Gl X x := by rfl) (hdb : (x == ("__debug__" : Str)) = false := by decide) :
    W X I μ δ (.Call (.Name x p) [] [] pos) Q := fun σ H rs K kk => by
  obtain ⟨f, fd, ps, F, hm, hk, hb⟩ := F.ex
  refine te_of (pe_call0 F hr hg hm hk hb .nil pass0 hdb) ?_
  exact ⟨I.m, [], Q, rs.dom, trivial, h, fun d v H'' s rep q => kk d v H'' (rs.same s) (Ext.of s) rep q⟩
theorem cDs_len : ∀ (n : Nat) (es : List Expr) (ds : List D), cDs n es = some ds → ds.length ≤ n
  | n, [], ds, h => by
    unfold cDs at h
    cases h; exact Nat.zero_le _
  | 0, e :: es, ds, h => by
    unfold cDs at h
    cases h
  | n + 1, e :: es, ds, h => by
    unfold cDs at h
    cases h1 : cD n e with
    | none => rw [h1] at h; cases h
    | some d =>
      cases h2 : cDs n es with
      | none => rw [h1, h2] at h; cases h
      | some ds' =>
        rw [h1, h2] at h
        cases h
        have := cDs_len n es ds' h2
        rw [List.length_cons]; omega
theorem cD_star {n : Nat} {d : D} (h : cD n e = some d) : starEach (e :: es) X.env = (false, eval e X.env) :: starEach es X.env := by
  unfold cD at h
  split at h <;> first | rfl | cases h
theorem W_cDs : ∀ n : Nat, n ≤ 1000 → (∀ (e : Expr) (d : D), cD n e = some d → ∀ Q : D → Prop, Q d → W X I μ δ e Q) ∧ ∀ (es : List Expr) (ds : List D), cDs n es = some ds → ∀ Q : List D → Prop, Q ds → WA X I μ δ es Q
  | 0, _ => by
    refine ⟨fun e d h Q q => ?_, fun es ds h Q q => ?_⟩
    · unfold cD at h
      split at h
      · cases h; exact W_int q
      · cases h; exact W_non q
      · cases h; exact W_neg (W_int ⟨_, rfl, q⟩)
      · contradiction
      · contradiction
      · cases h
    · cases es with
      | nil => unfold cDs at h; cases h; exact WA_nil q
      | cons e es => unfold cDs at h; cases h
  | n + 1, hn => by
    obtain ⟨h1, h2⟩ := W_cDs n (by omega)
    refine ⟨fun e d h Q q => ?_, fun es ds h Q q => ?_⟩
    · unfold cD at h
      split at h
      · cases h; exact W_int q
      · cases h; exact W_non q
      · cases h; exact W_neg (W_int ⟨_, rfl, q⟩)
      · rename_i es _ _ e1
        cases e1
        cases h3 : cDs n es with
        | none => rw [h3] at h; cases h
        | some ds =>
          rw [h3] at h
          cases h
          have := cDs_len n es ds h3
          exact W_tup (h2 es ds h3 _ ⟨by omega, q⟩)
      · rename_i es _ e1
        cases e1
        cases h3 : cDs n es with
        | none => rw [h3] at h; cases h
        | some ds =>
          rw [h3] at h
          cases h
          have := cDs_len n es ds h3
          exact W_lst (h2 es ds h3 _ ⟨by omega, q⟩)
      · cases h
    · cases es with
      | nil => unfold cDs at h; cases h; exact WA_nil q
      | cons e es =>
        unfold cDs at h
        cases h3 : cD n e with
        | none => rw [h3] at h; cases h
        | some d =>
          cases h4 : cDs n es with
          | none => rw [h3, h4] at h; cases h
          | some ds' =>
            rw [h3, h4] at h
            cases h
            exact WA_cons (h1 e d h3 _ (h2 es ds' h4 _ q)) (cD_star h3)
/-- a display of constants -/
theorem W_const (n : Nat) {d : D} (h : cD n e = some d) (q : Q d) (hn : n ≤ 1000 := by decide) : W X I μ δ e Q := (W_cDs n hn).1 e d h Q q
end
end K48
set_option maxHeartbeats 1000000
/-! The law itself -/
namespace K48
open PySem PySem.Spec PyProof.Rows L2
theorem fine_ex {r : Rt} (h : (Calm r ∧ rests (table r) = true) ∨ ∃ r0, Calm r0 ∧ r = r0.map chg) : ∃ ms, Fine r ms := by
  obtain ⟨hC, hr⟩ : Calm r ∧ rests (table r) = true := by
    rcases h with h | ⟨r0, h0, rfl⟩
    · exact h
    · exact ⟨chg_calm h0, chg_rests h0⟩
  refine ⟨(led (table r)).mergeSort (fun a b => decide (a ≤ b)), fine_of hC hr (List.mergeSort_perm _ _) ?_⟩
  have := List.pairwise_mergeSort (le := fun a b : Int => decide (a ≤ b)) (fun a b c h1 h2 => by simp at h1 h2 ⊢; omega) (fun a b => by simp; omega) (led (table r))
  exact this.imp fun h => by simpa using h
def wE (x : PI2 × List Int × Int) : D := .tup [.int x.1.1, .int x.1.2, intsD x.2.1, .int x.2.2]
theorem w_see (r : Rt) (ms : List Int) : (wrows (table r) ms).map wD = (wsee r ms).map wE := by
  unfold wsee
  rw [List.map_map]; rfl
theorem pl_hands {α : Type} (f : α → Option (List Int)) (l : List α) : Pl 6 (.lst (l.map fun p => handD (f p))) := fun d hd => by
  obtain ⟨p, _, rfl⟩ := List.mem_map.mp hd
  cases f p with
  | none => trivial
  | some u => exact pl_ints 4 u
theorem tu_hand (u : Option (List Int)) : Tu 5 (handD u) := by
  cases u with
  | none => trivial
  | some u => exact tu_ints' 4 u
theorem pl_hand (u : Option (List Int)) : Pl 6 (handD u) := by
  cases u with
  | none => trivial
  | some u => exact pl_ints 5 u
abbrev PH := List Int × Option (List Int)
def askR : List PH := [([1, 1, 2], some [2]), ([1], none), ([2], some []), ([0, 2], some [0]), ([1, 0, 1, 1, 2], some [1, 0, 2])]
def askV : List PH := [([], some [2]), ([1], some []), ([0, 0], some [1, 2]), ([0, 0, 1], some [1]), ([0], none)]
structure Asks (r : Rt) (ms : List Int) (l : List PH) : Prop where
  ok : ∀ p ∈ l, hd r ms p.1 = p.2
  few : ∀ p ∈ l, p.1.length ≤ 9
  rng : ∀ p ∈ l, ∀ x ∈ p.1, 0 ≤ x ∧ x ≤ 2
  len : l.length ≤ 100
theorem asR : Asks rR [0] askR := by
  refine ⟨fun p hp => ?_, by decide, by decide, by decide⟩
  simp only [askR, List.mem_cons, List.not_mem_nil, or_false] at hp
  rcases hp with rfl | rfl | rfl | rfl | rfl
  · exact hR1
  · exact hR2
  · exact hR3
  · exact hR4
  · exact hR5
theorem asV : Asks rV [0] askV := by
  refine ⟨fun p hp => ?_, by decide, by decide, by decide⟩
  simp only [askV, List.mem_cons, List.not_mem_nil, or_false] at hp
  rcases hp with rfl | rfl | rfl | rfl | rfl
  · exact hV1
  · exact hV2
  · exact hV3
  · exact hV4
  · exact hV5
section
variable {P : Program} {w : World} {K : PySem.W.Frag} {mg : Str → Option Value} {base : Heap}
def cConst (r : Rt) : List D → (D → Prop) → Prop := fun ds R => ds = [] ∧ R (rtD r)
theorem sc56 : FnScope ["_law_first"] [] (defScope (topS 56)) := ⟨rfl, rfl, rfl, by decide +kernel, rfl, by decide +kernel, by decide +kernel⟩
theorem ok_law_r (a : At K mg "_law_r" (topS 56) []) : DefOk P w K mg base "_law_r" 1 (spD (cConst rR)) := by
  refine a.ok sc56 (fun ds R h => by obtain ⟨rfl, _⟩ := h; rfl) fun f cdv A outer s H E m ds R hr hX h => ?_
  obtain ⟨rfl, h⟩ := h
  refine SW_cons <| S1_set 0 hX.nd <| W_const (d := postD [([0], [], 0), ([1], [0], 1), ([], [1, 1], 0), ([2], [], -1)]) 60 (by rfl) ?_
  exact SW_cons <| S1_ret <| W_tup <| WA_cons <| W_var 0 rfl <| WA_cons <| W_const (d := postD [([], [], 0), ([], [], -1), ([2], [2], 0), ([], [0], 0)]) 60 (by rfl) <| WA_nil ⟨sm, h⟩
theorem sc58 : FnScope ["_law_first"] [] (defScope (topS 58)) := ⟨rfl, rfl, rfl, by decide +kernel, rfl, by decide +kernel, by decide +kernel⟩
theorem ok_law_v (a : At K mg "_law_v" (topS 58) []) : DefOk P w K mg base "_law_v" 1 (spD (cConst rV)) := by
  refine a.ok sc58 (fun ds R h => by obtain ⟨rfl, _⟩ := h; rfl) fun f cdv A outer s H E m ds R hr hX h => ?_
  obtain ⟨rfl, h⟩ := h
  refine SW_cons <| S1_set 0 hX.nd <| W_const (d := postD [([], [], 0), ([0, 0], [], 0), ([], [2], 1), ([1], [], -1)]) 60 (by rfl) ?_
  exact SW_cons <| S1_ret <| W_tup <| WA_cons <| W_var 0 rfl <| WA_cons <| W_const (d := postD [([], [], 1), ([], [], 1), ([], [], -1), ([], [], -1)]) 60 (by rfl) <| WA_nil ⟨sm, h⟩
theorem sc64 : FnScope ["_law_script", "_law_cup_here", "_law_turn", "_law_r_here", "_law_v_here", "_law_first", "_law_far", "_law_marks"] ["_law_script"] (defScope (topS 64)) := ⟨rfl, rfl, rfl, by decide +kernel, rfl, by decide +kernel, by decide +kernel⟩
def spLaw (K : PySem.W.Frag) : Sp := fun vs H Q _ => ∃ (s : Addr) (ns : List Int), vs = [.ref s] ∧ SqL K H s (ns.map V.int) ∧ ns.length ≤ 1000 ∧ ∀ H', Q (.bl true) H'
theorem sq_keep {K : PySem.W.Frag} {H H' : Hp} {s : Addr} {xs : List V} (k : ∀ o, H s = some o → H' s = some o) (h : SqL K H s xs) : SqL K H' s xs := by
  rcases h with hs | hs
  · refine .inl ?_
    rcases hs with hs | ⟨o, hs⟩
    · exact .inl (k _ hs)
    · exact .inr ⟨o, k _ hs⟩
  · exact .inr hs
theorem ok_law {f : Addr} {fd : FuncData} (T : Txt mg) (F : Fun K "law" "law" (topS 64) f fd) (f40 : DefOk P w K mg base "walk_of" 6 (spD cWalkOf)) (f41 : DefOk P w K mg base "handing_stack" 6 (spD cHandingStack)) (f43 : DefOk P w K mg base "_law_cup" 1 (spCup K)) (f55 : DefOk P w K mg base "_law_resting" 4 (spC cResting)) (f56 : DefOk P w K mg base "_law_r" 1 (spD (cConst rR))) (f58 : DefOk P w K mg base "_law_v" 1 (spD (cConst rV))) (f63 : DefOk P w K mg base "_law_right" 8 (spC cRight)) : FnOk P w K mg base CX0 9 f fd ["_law_script"] (spLaw K) := by
  refine F.ok sc64 (fun vs H Q E h => ?_) (fun cdv A outer s H vs Q E hr h => ?_)
  · obtain ⟨_, _, rfl, _⟩ := h; rfl
  obtain ⟨sc, ns, rfl, hs, hl, q⟩ := h
  have hX : XOk (cxB P w K mg base ["_law_script", "_law_cup_here", "_law_turn", "_law_r_here", "_law_v_here", "_law_first", "_law_far", "_law_marks"] "law" (defScope (topS 64)) f cdv A outer s H E) := xok sc64.nd hr
  refine ⟨_, pss_W, ?_⟩
  obtain ⟨f1, fd1, ps1, F1, hm1, hk1, hb1⟩ := f43.ex
  refine tss_of (pss_cons (ps_set (i := 1) hX.nd rfl (.inl rfl) (pe_call F1 (hr.mono (by decide)) (by rfl) hm1 hk1 hb1 .nil pass0 pa_W (by decide) (by rfl) (by rfl)) (by rfl) (.inl rfl)) pss_W) ?_
  have r0 : RS ⟨fun _ => False, fun _ => False, H, none, none⟩ .non [some (.adr sc), none, none, none, none, none, none, none] (L2.start ["_law_script", "_law_cup_here", "_law_turn", "_law_r_here", "_law_v_here", "_law_first", "_law_far", "_law_marks"] [.ref sc]) H := ⟨⟨fun _ _ _ e => e, fun _ z => nomatch z⟩, fun _ z => z.elim, fun _ z => (nomatch z), fun _ z => (nomatch z), fun _ z => z, ⟨rfl, trivial⟩⟩
  refine (WA_cons (Q := fun ds => ds = [.adr sc]) (W_var 0 rfl (WA_nil rfl))) _ H r0 _ fun ds vs H1 r1 x1 rl e => ?_
  subst e
  obtain ⟨v, rfl, rep⟩ := repl1 rl
  cases rep
  refine ⟨sc, ns, rfl, sq_keep (fun o e => r1.bs.base sc o (fun z => nomatch z) e) hs, hl, fun d v H2 rep hd => ?_⟩
  obtain ⟨x, y, rfl, hx, hy, hy2⟩ := hd
  obtain ⟨c, xs, rfl, _, hc, rl2⟩ := rep
  obtain ⟨v1, v2, rfl, hv1, hv2⟩ := repl2 rl2
  cases hv1
  cases hv2
  have main : SW (cxB P w K mg base ["_law_script", "_law_cup_here", "_law_turn", "_law_r_here", "_law_v_here", "_law_first", "_law_far", "_law_marks"] "law" (defScope (topS 64)) f cdv A outer s H E) ⟨fun a => a = c, fun _ => False, fun _ => none, some c, none⟩ .non [none, some (.adr c), none, none, none, none, none, none] ((defBody (topS 64)).drop 1) { rt := fun d => d = .bl true } := by
    refine SW_cons <| S1_for hX <| WI_range T.range <| W_int ⟨3, rfl, by decide, by decide, fun i μ δ => μ = .non ∧ ∃ o2, δ = [none, some (.adr c), o2, none, none, none, none, none], ⟨rfl, _, rfl⟩, ?_, ?_⟩
    · intro i d μ δ e hp
      obtain ⟨rfl, o2, rfl⟩ := hp
      refine WG_name 2 hX.nd ?_
      refine SW_cons <| S1_if <| WT_not <| WT_val <| W_callC f63 (by exact hr) rfl <| WA_cons <| W_var 1 rfl <| WA_cons <| W_callC f55 (hr.mono (by decide)) rfl <| WA_cons <| W_var 1 rfl <| WA_nil ⟨_, rfl, rfl, fun r hrr => ?_⟩
      obtain ⟨ms, hF⟩ := fine_ex hrr
      exact WA_nil ⟨_, rfl, r, ms, rfl, hF, true, rfl, fun z => (nomatch z), fun _ => SW_nil (SW_nil ⟨rfl, _, rfl⟩)⟩
    intro μ δ hp
    obtain ⟨rfl, o2, rfl⟩ := hp
    have CN := fun (δ : De) (a b : Expr) (Q : Bool → Prop) h => @C_ne _ ⟨fun a => a = c, fun _ => False, fun _ => none, some c, none⟩ .non δ a b Q hX h
    have tR := (table_pt rR).tab gR.ok
    have tV := (table_pt rV).tab gV.ok
    have tF := (table_pt rF).tab gF.ok
    refine SW_cons <| S1_asg <| W_tup <| WA_cons <| W_call0 f56 (hr.mono (by decide)) ⟨rfl, WA_cons <| W_call0 f58 (hr.mono (by decide)) ⟨rfl, WA_nil ⟨sm, WG_tup hX.calm <| WGs_cons <| WG_name 3 hX.nd <| WGs_cons <| WG_name 4 hX.nd <| WGs_nil ?_⟩⟩⟩
    refine SW_cons <| S1_if <| WT_cmp <| CN _ _ _ _ <| W_call f40 (hr.mono (by decide)) <| WA_cons <| W_var 3 rfl <| WA_nil ⟨rR, table rR, led (table rR), rfl, gR.ok, tR, gR.led, gR.few, fun ms1 h1 => W_const (d := .tup ((wsee rR [0]).map wE)) 60 (by rw [wR]; rfl) ⟨pl_walk _, by rw [← w_see]; exact pl_walk _, fun z => ?_, fun _ => SW_nil ?_⟩⟩
    · exact absurd (by rw [gR.uniq ms1 h1, w_see]) (nd_true z)
    refine SW_cons ?_
    refine S1_if ?_
    refine WT_cmp ?_
    refine CN _ _ _ _ ?_
    refine W_lc (own := [("_law_marks", 7)]) (g := gName 7) (fun d δ => δ.set 7 (some d)) hX (.inl rfl) (blkOk_by (by rfl)) (fun s H C cl fp => pg_name (i := 7) (by exact hX.nd) rfl (.inl rfl) (.inr rfl)) ?_
    refine WI_tup ?_
    refine W_const (d := .tup (askR.map fun p => intsD p.1)) 60 (by rfl) ?_
    refine ⟨_, rfl, fun i acc => acc = (askR.take i).map fun p => handD p.2, rfl, fun i d acc e pv => ?_, fun acc pv => ?_⟩
    · subst pv
      obtain ⟨p, ep, rfl⟩ := map_get e
      have hp := List.mem_of_getElem? ep
      refine ⟨by rw [List.length_map, List.length_take]; have := asR.len; omega, tgt_name, fun s H0 C cl fp => ?_⟩
      refine W_call f41 (hr.mono (by decide)) <| WA_cons <| W_var 3 rfl <| WA_cons <| W_var 7 rfl <| WA_nil ⟨rR, table rR, led (table rR), p.1, rfl, gR.ok, tR, gR.led, gR.few, asR.few p hp, asR.rng p hp, fun ms hs => ?_⟩
      rw [gR.uniq ms hs]
      have e2 : hand (lookA (wt (table rR) [0])) p.1 = p.2 := asR.ok p hp
      rw [e2]
      exact ⟨tu_hand _, by show _ = _; rw [take_snoc ep, List.map_append]; rfl⟩
    have hacc : acc = askR.map fun p => handD p.2 := Eq.trans pv (by rw [List.length_map, List.take_length])
    subst hacc
    refine W_const (d := .lst (askR.map fun p => handD p.2)) 60 (by rfl) ⟨pl_hands (fun p : PH => p.2) askR, pl_hands (fun p : PH => p.2) askR, fun z => absurd rfl (nd_true z), fun _ => SW_nil ?_⟩
    refine SW_cons <| S1_if <| WT_cmp <| CN _ _ _ _ <| W_call f40 (hr.mono (by decide)) <| WA_cons <| W_var 4 rfl <| WA_nil ⟨rV, table rV, led (table rV), rfl, gV.ok, tV, gV.led, gV.few, fun ms1 h1 => W_const (d := .tup ((wsee rV [0]).map wE)) 60 (by rw [wV]; rfl) ⟨pl_walk _, by rw [← w_see]; exact pl_walk _, fun z => ?_, fun _ => SW_nil ?_⟩⟩
    · exact absurd (by rw [gV.uniq ms1 h1, w_see]) (nd_true z)
    refine SW_cons ?_
    refine S1_if ?_
    refine WT_cmp ?_
    refine CN _ _ _ _ ?_
    refine W_lc (own := [("_law_marks", 7)]) (g := gName 7) (fun d δ => δ.set 7 (some d)) hX (.inl rfl) (blkOk_by (by rfl)) (fun s H C cl fp => pg_name (i := 7) (by exact hX.nd) rfl (.inl rfl) (.inr rfl)) ?_
    refine WI_tup ?_
    refine W_const (d := .tup (askV.map fun p => intsD p.1)) 60 (by rfl) ?_
    refine ⟨_, rfl, fun i acc => acc = (askV.take i).map fun p => handD p.2, rfl, fun i d acc e pv => ?_, fun acc pv => ?_⟩
    · subst pv
      obtain ⟨p, ep, rfl⟩ := map_get e
      have hp := List.mem_of_getElem? ep
      refine ⟨by rw [List.length_map, List.length_take]; have := asV.len; omega, tgt_name, fun s H0 C cl fp => ?_⟩
      refine W_call f41 (hr.mono (by decide)) <| WA_cons <| W_var 4 rfl <| WA_cons <| W_var 7 rfl <| WA_nil ⟨rV, table rV, led (table rV), p.1, rfl, gV.ok, tV, gV.led, gV.few, asV.few p hp, asV.rng p hp, fun ms hs => ?_⟩
      rw [gV.uniq ms hs]
      have e2 : hand (lookA (wt (table rV) [0])) p.1 = p.2 := asV.ok p hp
      rw [e2]
      exact ⟨tu_hand _, by show _ = _; rw [take_snoc ep, List.map_append]; rfl⟩
    have hacc : acc = askV.map fun p => handD p.2 := Eq.trans pv (by rw [List.length_map, List.take_length])
    subst hacc
    refine W_const (d := .lst (askV.map fun p => handD p.2)) 60 (by rfl) ⟨pl_hands (fun p : PH => p.2) askV, pl_hands (fun p : PH => p.2) askV, fun z => absurd rfl (nd_true z), fun _ => SW_nil ?_⟩
    refine SW_cons <| S1_set 5 hX.nd <| W_const (d := postD [([], [], 1), ([], [], 0), ([], [], 0), ([], [], -1)]) 60 (by rfl) ?_
    refine SW_cons <| S1_set 6 hX.nd <| W_tup <| WA_cons <| W_var 5 rfl <| WA_cons <| W_const (d := postD [([], [], 0), ([], [], 2), ([], [], 0), ([], [], -1)]) 60 (by rfl) <| WA_cons <| W_const (d := postD [([], [], 0), ([], [], 0), ([2], [], 0), ([], [], -1)]) 60 (by rfl) <| WA_nil ⟨sm, ?_⟩
    refine SW_cons <| S1_ret <| W_and <| W_cmp <| C_eq hX <| W_call f41 (hr.mono (by decide)) <| WA_cons <| W_var 6 rfl <| WA_cons <| W_rep <| W_tup <| WA_cons <| W_int <| WA_nil ⟨sm, W_int ⟨_, 9, rfl, rfl, by simp, by decide, by decide, by simp, WA_nil ⟨rF, table rF, led (table rF), [2, 2, 2, 2, 2, 2, 2, 2, 2], rfl, gF.ok, tF, gF.led, gF.few, by decide, by decide, fun ms hs => ?_⟩⟩⟩
    rw [gF.uniq ms hs, show hand (lookA (wt (table rF) [0, 1, 2])) [2, 2, 2, 2, 2, 2, 2, 2, 2] = _ from hF1]
    refine W_rep <| W_tup <| WA_cons <| W_int <| WA_cons <| W_int <| WA_cons <| W_int <| WA_nil ⟨sm, W_int ⟨_, 9, rfl, rfl, by simp, by decide, by decide, by simp, pl_hand _, ?_, _, rfl, fun _ => ?_, fun z => ?_⟩⟩
    · exact pl_ints 5 [0, 1, 2, 0, 1, 2, 0, 1, 2, 0, 1, 2, 0, 1, 2, 0, 1, 2, 0, 1, 2, 0, 1, 2, 0, 1, 2]
    · refine W_one <| W_cmp <| C_isN <| W_call f41 (hr.mono (by decide)) <| WA_cons <| W_var 6 rfl <| WA_cons <| W_const (d := intsD [2, 1]) 60 (by rfl) <| WA_nil ⟨rF, table rF, led (table rF), [2, 1], rfl, gF.ok, tF, gF.led, gF.few, by decide, by decide, fun ms hs => ?_⟩
      rw [gF.uniq ms hs, show hand (lookA (wt (table rF) [0, 1, 2])) [2, 1] = _ from hF2]
      exact W_non ⟨rfl, rfl⟩
    · exact absurd rfl (of_decide_eq_false z)
  refine main _ H2 ⟨⟨fun _ _ _ z => (nomatch z), fun c' z => by cases z; exact ⟨x, y, hc, hx, hy, hy2⟩⟩, fun b hb => ?_, fun c' z => ⟨by cases z; rfl, fun z => nomatch z⟩, fun _ z => (nomatch z), fun _ z => z.elim, show RepE _ H2 [none, some (.adr c), none, none, none, none, none, none] [some (.ref sc), some (.ref c), none, none, none, none, none, none] from ⟨rfl, trivial⟩⟩ _ ?_
  · cases hb
    rw [hc]
    exact ⟨fun z => (nomatch z), fun xs z => nomatch z⟩
  exact ⟨fun _ _ _ _ _ _ z => False.elim z, fun d v H' bs rep hq => by subst hq; cases rep; exact q H', fun _ _ _ _ _ _ z => False.elim z, fun _ _ _ _ _ _ z => False.elim z⟩
end
end K48
set_option maxHeartbeats 0
/-! The head by facts; all defs in a chain (printed by tools/hd.py) -/
namespace K48
open PySem PySem.Spec PyProof.Rows L2
def dD (x : Str) (i : Nat) : He.DefD := ⟨(x, none), x, x, defArgs (topS i), defBody (topS i), defScope (topS i), [], []⟩
def hFn1 : List He.DefD := [dD "is_whole" 17, dD "fits_sorts" 18, dD "fits_move" 19, dD "fits_routine" 20, dD "need_routine" 21, dD "need_stack" 22, dD "need_few" 26, dD "need_marks" 33, dD "next_need" 23, dD "with_ends" 24, dD "told_run" 25, dD "told_on" 30, dD "led_posts" 27, dD "least_endless" 28, dD "need_rest" 29, dD "walk_rows" 34, dD "walk_of" 40, dD "walk_table" 35, dD "nexts_of" 36, dD "is_hit" 37, dD "reached_with" 38]
def hFn2 : List He.DefD := [dD "least_handing" 39, dD "handing_stack" 41, dD "_law_roll" 44, dD "_law_cup" 43, dD "_law_some" 45, dD "_law_sorts" 46, dD "_law_calm" 47, dD "_law_pair" 49, dD "_law_table" 50, dD "_law_told" 51, dD "_law_handed" 61, dD "_law_led" 52, dD "_law_rests" 53, dD "_law_stacks" 54, dD "_law_walk" 59, dD "_law_resting" 55, dD "_law_reached" 60, dD "_law_stack_right" 62, dD "_law_right" 63, dD "_law_r" 56, dD "_law_v" 58, dD "law" 64]
def hFn : List He.DefD := hFn1 ++ hFn2
def hFa1 : List He.Fa := [.glo "is_whole", .glo "fits_sorts", .glo "fits_move", .glo "fits_routine", .glo "need_routine", .glo "need_stack", .glo "need_few", .glo "need_marks", .glo "next_need", .glo "with_ends", .glo "told_run", .glo "told_on", .glo "led_posts", .glo "least_endless", .glo "need_rest", .glo "walk_rows", .glo "walk_of", .glo "walk_table", .glo "nexts_of", .glo "is_hit", .glo "reached_with"]
def hFa2 : List He.Fa := [.glo "least_handing", .glo "handing_stack", .glo "_law_roll", .glo "_law_cup", .glo "_law_some", .glo "_law_sorts", .glo "_law_calm", .glo "_law_pair", .glo "_law_table", .glo "_law_told", .glo "_law_handed", .glo "_law_led", .glo "_law_rests", .glo "_law_stacks", .glo "_law_walk", .glo "_law_resting", .glo "_law_reached", .glo "_law_stack_right", .glo "_law_right", .glo "_law_r", .glo "_law_v", .glo "law"]
def hFa3 : List He.Fa := [.free "isinstance", .free "int", .free "bool", .free "tuple", .free "len", .free "all", .free "enumerate", .free "range", .free "dict", .free "sorted", .free "abs", .free "list", .free "min", .int "POSTS" (6), .int "SORTS" (3), .int "MARKS" (2), .int "BACK" (3), .int "STACK" (60), .int "GREATEST" (1000), .int "REST" (-1), .int "MANY" (9), .str "NEVER" "never"]
def hFa : List He.Fa := hFa1 ++ hFa2 ++ hFa3
section
variable {P : Program} {w : World} {K : PySem.W.Frag} {h : Heap} {mg : Str → Option Value}
theorem at_of (X : K.In h) (G : h.Ns mainGlobals mg) (c : He.SaysD hFa hFn K) (i : Nat) {x : Str} {n : Nat} {ps : List Str} (hd : hFn[i]? = some (dD x n)) (hf : hFa[i]? = some (.glo x))
    (hb : ∀ (kV doc pm : Value) (an : Option Addr) (cdv ct : Value) (us : List Value), us.length = ps.length → bindArgs (PySem.W.fnOf x x (defArgs (topS n)) (defBody (topS n)) (defScope (topS n)) .none kV doc pm an cdv ct) ⟨us, []⟩ = pure (ps.zip us)) : At K mg x (topS n) ps := by
  obtain ⟨fd, F⟩ := c.def_ i hd
  refine ⟨_, fd, ?_, He.glo_ok X G (c.fact i hf), FunD.bindsN F hb⟩
  obtain ⟨oc, od, dV, kV, doc, pm, an, cdv, ct, osl, e, lk, hcd, hD, hK⟩ := F.ex
  rcases hD with ⟨_, rfl⟩ | ⟨e, _⟩
  · exact ⟨⟨oc, od, kV, doc, pm, an, cdv, ct, osl, e, lk, hcd⟩, F.kp⟩
  · exact absurd rfl e
theorem txt_of (X : K.In h) (G : h.Ns mainGlobals mg) (c : He.SaysD hFa hFn K) : Txt mg where
  isinstance := He.free_ok X G (c.fact 43 (f := .free "isinstance") rfl)
  int := He.free_ok X G (c.fact 44 (f := .free "int") rfl)
  bool := He.free_ok X G (c.fact 45 (f := .free "bool") rfl)
  tuple := He.free_ok X G (c.fact 46 (f := .free "tuple") rfl)
  len := He.free_ok X G (c.fact 47 (f := .free "len") rfl)
  all := He.free_ok X G (c.fact 48 (f := .free "all") rfl)
  enumerate := He.free_ok X G (c.fact 49 (f := .free "enumerate") rfl)
  range := He.free_ok X G (c.fact 50 (f := .free "range") rfl)
  dict := He.free_ok X G (c.fact 51 (f := .free "dict") rfl)
  sorted := He.free_ok X G (c.fact 52 (f := .free "sorted") rfl)
  abs := He.free_ok X G (c.fact 53 (f := .free "abs") rfl)
  list := He.free_ok X G (c.fact 54 (f := .free "list") rfl)
  min := He.free_ok X G (c.fact 55 (f := .free "min") rfl)
  POSTS := He.int_ok X G (c.fact 56 (f := .int "POSTS" (6)) rfl)
  SORTS := He.int_ok X G (c.fact 57 (f := .int "SORTS" (3)) rfl)
  MARKS := He.int_ok X G (c.fact 58 (f := .int "MARKS" (2)) rfl)
  BACK := He.int_ok X G (c.fact 59 (f := .int "BACK" (3)) rfl)
  STACK := He.int_ok X G (c.fact 60 (f := .int "STACK" (60)) rfl)
  GREATEST := He.int_ok X G (c.fact 61 (f := .int "GREATEST" (1000)) rfl)
  REST := He.int_ok X G (c.fact 62 (f := .int "REST" (-1)) rfl)
  MANY := He.int_ok X G (c.fact 63 (f := .int "MANY" (9)) rfl)
  NEVER := He.str_ok X G (c.fact 64 (f := .str "NEVER" "never") rfl)
theorem facts {fa : Addr} (X : K.In h) (G : h.Ns mainGlobals mg) (hfa : mg ("law" : Str) = some (.ref fa)) (c : He.SaysD hFa hFn K) :
    ∃ fd : FuncData, (∀ (s : Shared) (v : Value), BindsTo s fd ⟨[v], []⟩ [("_law_script", v)]) ∧ ∀ base : Heap, K.In base → base.Ns mainGlobals mg → FnOk P w K mg base CX0 9 fa fd ["_law_script"] (spLaw K) := by
  obtain ⟨fd, F⟩ := c.def_ 42 (d := dD "law" 64) rfl
  have e := hfa.symm.trans (He.glo_ok X G (c.fact 42 (f := .glo "law") rfl))
  cases e
  have b := FunD.bindsA (ps := ["_law_script"]) F fun _ _ _ _ _ _ us hl => match us, hl with | [_], _ => rfl
  refine ⟨fd, fun s v => b s [v] rfl, fun base _ _ => ?_⟩
  have FL : Fun K "law" "law" (topS 64) (He.ga K "law") fd := by
    obtain ⟨oc, od, dV, kV, doc, pm, an, cdv, ct, osl, e, lk, hcd, hD, hK⟩ := F.ex
    rcases hD with ⟨_, rfl⟩ | ⟨e, _⟩
    · exact ⟨⟨oc, od, kV, doc, pm, an, cdv, ct, osl, e, lk, hcd⟩, F.kp⟩
    · exact absurd rfl e
  have T := txt_of X G c
  have a17 : At K mg "is_whole" (topS 17) ["value", "low", "high"] := at_of X G c 0 rfl rfl fun _ _ _ _ _ _ us hl => match us, hl with | [_, _, _], _ => rfl
  have f17 := ok_is_whole (P := P) (w := w) (base := base) T a17
  have a18 : At K mg "fits_sorts" (topS 18) ["value", "most"] := at_of X G c 1 rfl rfl fun _ _ _ _ _ _ us hl => match us, hl with | [_, _], _ => rfl
  have f18 := ok_fits_sorts (P := P) (w := w) (base := base) T a18 f17
  have a19 : At K mg "fits_move" (topS 19) ["value", "posts"] := at_of X G c 2 rfl rfl fun _ _ _ _ _ _ us hl => match us, hl with | [_, _], _ => rfl
  have f19 := ok_fits_move (P := P) (w := w) (base := base) T a19 f17 f18
  have a20 : At K mg "fits_routine" (topS 20) ["value"] := at_of X G c 3 rfl rfl fun _ _ _ _ _ _ us hl => match us, hl with | [_], _ => rfl
  have f20 := ok_fits_routine (P := P) (w := w) (base := base) T a20 f19
  have a21 : At K mg "need_routine" (topS 21) ["value"] := at_of X G c 4 rfl rfl fun _ _ _ _ _ _ us hl => match us, hl with | [_], _ => rfl
  have f21 := ok_need_routine (P := P) (w := w) (base := base) T a21 f20
  have a22 : At K mg "need_stack" (topS 22) ["value"] := at_of X G c 5 rfl rfl fun _ _ _ _ _ _ us hl => match us, hl with | [_], _ => rfl
  have f22 := ok_need_stack (P := P) (w := w) (base := base) T a22 f18
  have a26 : At K mg "need_few" (topS 26) ["marks"] := at_of X G c 6 rfl rfl fun _ _ _ _ _ _ us hl => match us, hl with | [_], _ => rfl
  have f26 := ok_need_few (P := P) (w := w) (base := base) T a26
  have a33 : At K mg "need_marks" (topS 33) ["value"] := at_of X G c 7 rfl rfl fun _ _ _ _ _ _ us hl => match us, hl with | [_], _ => rfl
  have f33 := ok_need_marks (P := P) (w := w) (base := base) T a33 f18
  have a23 : At K mg "next_need" (topS 23) ["routine", "pair", "ends"] := at_of X G c 8 rfl rfl fun _ _ _ _ _ _ us hl => match us, hl with | [_, _, _], _ => rfl
  have f23 := ok_next_need (P := P) (w := w) (base := base) T a23
  have a24 : At K mg "with_ends" (topS 24) ["routine", "pair", "ends"] := at_of X G c 9 rfl rfl fun _ _ _ _ _ _ us hl => match us, hl with | [_, _, _], _ => rfl
  have f24 := ok_with_ends (P := P) (w := w) (base := base) T a24 f23
  have a25 : At K mg "told_run" (topS 25) ["routine", "stack"] := at_of X G c 10 rfl rfl fun _ _ _ _ _ _ us hl => match us, hl with | [_, _], _ => rfl
  have f25 := ok_told_run (P := P) (w := w) (base := base) T a25 f24
  have a30 : At K mg "told_on" (topS 30) ["routine", "stack"] := at_of X G c 11 rfl rfl fun _ _ _ _ _ _ us hl => match us, hl with | [_, _], _ => rfl
  have f30 := ok_told_on (P := P) (w := w) (base := base) T a30 f21 f22 f25 f26
  have a27 : At K mg "led_posts" (topS 27) ["routine"] := at_of X G c 12 rfl rfl fun _ _ _ _ _ _ us hl => match us, hl with | [_], _ => rfl
  have f27 := ok_led_posts (P := P) (w := w) (base := base) T a27 f24
  have a28 : At K mg "least_endless" (topS 28) ["routine"] := at_of X G c 13 rfl rfl fun _ _ _ _ _ _ us hl => match us, hl with | [_], _ => rfl
  have f28 := ok_least_endless (P := P) (w := w) (base := base) T a28 f27
  have a29 : At K mg "need_rest" (topS 29) ["routine"] := at_of X G c 14 rfl rfl fun _ _ _ _ _ _ us hl => match us, hl with | [_], _ => rfl
  have f29 := ok_need_rest (P := P) (w := w) (base := base) T a29 f28
  have a34 : At K mg "walk_rows" (topS 34) ["routine"] := at_of X G c 15 rfl rfl fun _ _ _ _ _ _ us hl => match us, hl with | [_], _ => rfl
  have f34 := ok_walk_rows (P := P) (w := w) (base := base) T a34 f26 f27
  have a40 : At K mg "walk_of" (topS 40) ["routine"] := at_of X G c 16 rfl rfl fun _ _ _ _ _ _ us hl => match us, hl with | [_], _ => rfl
  have f40 := ok_walk_of (P := P) (w := w) (base := base) T a40 f21 f29 f34
  have a35 : At K mg "walk_table" (topS 35) ["routine"] := at_of X G c 17 rfl rfl fun _ _ _ _ _ _ us hl => match us, hl with | [_], _ => rfl
  have f35 := ok_walk_table (P := P) (w := w) (base := base) T a35 f34
  have a36 : At K mg "nexts_of" (topS 36) ["table", "marks", "here"] := at_of X G c 18 rfl rfl fun _ _ _ _ _ _ us hl => match us, hl with | [_, _, _], _ => rfl
  have f36 := ok_nexts_of (P := P) (w := w) (base := base) T a36
  have a37 : At K mg "is_hit" (topS 37) ["table", "marks", "here"] := at_of X G c 19 rfl rfl fun _ _ _ _ _ _ us hl => match us, hl with | [_, _, _], _ => rfl
  have f37 := ok_is_hit (P := P) (w := w) (base := base) T a37
  have a38 : At K mg "reached_with" (topS 38) ["table", "marks"] := at_of X G c 20 rfl rfl fun _ _ _ _ _ _ us hl => match us, hl with | [_, _], _ => rfl
  have f38 := ok_reached_with (P := P) (w := w) (base := base) T a38 f36
  have a39 : At K mg "least_handing" (topS 39) ["table", "marks"] := at_of X G c 21 rfl rfl fun _ _ _ _ _ _ us hl => match us, hl with | [_, _], _ => rfl
  have f39 := ok_least_handing (P := P) (w := w) (base := base) T a39 f37 f38
  have a41 : At K mg "handing_stack" (topS 41) ["routine", "marks"] := at_of X G c 22 rfl rfl fun _ _ _ _ _ _ us hl => match us, hl with | [_, _], _ => rfl
  have f41 := ok_handing_stack (P := P) (w := w) (base := base) T a41 f21 f29 f33 f35 f39
  have a44 : At K mg "_law_roll" (topS 44) ["_law_cup_here", "_law_many"] := at_of X G c 23 rfl rfl fun _ _ _ _ _ _ us hl => match us, hl with | [_, _], _ => rfl
  have f44 := ok_roll (P := P) (w := w) (base := base) T a44
  have a43 : At K mg "_law_cup" (topS 43) ["_law_script"] := at_of X G c 24 rfl rfl fun _ _ _ _ _ _ us hl => match us, hl with | [_], _ => rfl
  have f43 := ok_cup (P := P) (w := w) (base := base) T a43
  have a45 : At K mg "_law_some" (topS 45) ["_law_cup_here", "_law_things"] := at_of X G c 25 rfl rfl fun _ _ _ _ _ _ us hl => match us, hl with | [_, _], _ => rfl
  have f45 := ok_some (P := P) (w := w) (base := base) T a45 f44
  have a46 : At K mg "_law_sorts" (topS 46) ["_law_cup_here", "_law_many", "_law_below"] := at_of X G c 26 rfl rfl fun _ _ _ _ _ _ us hl => match us, hl with | [_, _, _], _ => rfl
  have f46 := ok_sorts (P := P) (w := w) (base := base) T a46 f44
  have a47 : At K mg "_law_calm" (topS 47) ["_law_cup_here"] := at_of X G c 27 rfl rfl fun _ _ _ _ _ _ us hl => match us, hl with | [_], _ => rfl
  have f47 := ok_calm (P := P) (w := w) (base := base) T a47 f44 f45 f46
  have a49 : At K mg "_law_pair" (topS 49) ["_law_routine", "_law_pair_here", "_law_told_here"] := at_of X G c 28 rfl rfl fun _ _ _ _ _ _ us hl => match us, hl with | [_, _, _], _ => rfl
  have f49 := ok_pair (P := P) (w := w) (base := base) T a49
  have a50 : At K mg "_law_table" (topS 50) ["_law_routine"] := at_of X G c 29 rfl rfl fun _ _ _ _ _ _ us hl => match us, hl with | [_], _ => rfl
  have f50 := ok_table (P := P) (w := w) (base := base) T a50 f49
  have a51 : At K mg "_law_told" (topS 51) ["_law_told_here", "_law_stack"] := at_of X G c 30 rfl rfl fun _ _ _ _ _ _ us hl => match us, hl with | [_, _], _ => rfl
  have f51 := ok_told (P := P) (w := w) (base := base) T a51
  have a61 : At K mg "_law_handed" (topS 61) ["_law_table_here", "_law_stack"] := at_of X G c 31 rfl rfl fun _ _ _ _ _ _ us hl => match us, hl with | [_, _], _ => rfl
  have f61 := ok_handed (P := P) (w := w) (base := base) T a61 f51
  have a52 : At K mg "_law_led" (topS 52) ["_law_told_here"] := at_of X G c 32 rfl rfl fun _ _ _ _ _ _ us hl => match us, hl with | [_], _ => rfl
  have f52 := ok_led (P := P) (w := w) (base := base) T a52
  have a53 : At K mg "_law_rests" (topS 53) ["_law_told_here"] := at_of X G c 33 rfl rfl fun _ _ _ _ _ _ us hl => match us, hl with | [_], _ => rfl
  have f53 := ok_rests (P := P) (w := w) (base := base) T a53 f52
  have a54 : At K mg "_law_stacks" (topS 54) ["_law_longest"] := at_of X G c 34 rfl rfl fun _ _ _ _ _ _ us hl => match us, hl with | [_], _ => rfl
  have f54 := ok_stacks (P := P) (w := w) (base := base) T a54
  have a59 : At K mg "_law_walk" (topS 59) ["_law_table_here"] := at_of X G c 35 rfl rfl fun _ _ _ _ _ _ us hl => match us, hl with | [_], _ => rfl
  have f59 := ok_law_walk (P := P) (w := w) (base := base) T a59 f52
  have a55 : At K mg "_law_resting" (topS 55) ["_law_cup_here"] := at_of X G c 36 rfl rfl fun _ _ _ _ _ _ us hl => match us, hl with | [_], _ => rfl
  have f55 := ok_resting (P := P) (w := w) (base := base) T a55 f47 f50 f53
  have a60 : At K mg "_law_reached" (topS 60) ["_law_table_here", "_law_marks"] := at_of X G c 37 rfl rfl fun _ _ _ _ _ _ us hl => match us, hl with | [_, _], _ => rfl
  have f60 := ok_law_reached (P := P) (w := w) (base := base) T a60
  have a62 : At K mg "_law_stack_right" (topS 62) ["_law_routine", "_law_table_here", "_law_marks"] := at_of X G c 38 rfl rfl fun _ _ _ _ _ _ us hl => match us, hl with | [_, _, _], _ => rfl
  have f62 := ok_stack_right (P := P) (w := w) (base := base) T a62 f30 f41 f54 f60 f61
  have a63 : At K mg "_law_right" (topS 63) ["_law_cup_here", "_law_routine"] := at_of X G c 39 rfl rfl fun _ _ _ _ _ _ us hl => match us, hl with | [_, _], _ => rfl
  have f63 := ok_right (P := P) (w := w) (base := base) T a63 f40 f44 f50 f59 f61 f62
  have a56 : At K mg "_law_r" (topS 56) [] := at_of X G c 40 rfl rfl fun _ _ _ _ _ _ us hl => match us, hl with | [], _ => rfl
  have f56 := ok_law_r (P := P) (w := w) (base := base) a56
  have a58 : At K mg "_law_v" (topS 58) [] := at_of X G c 41 rfl rfl fun _ _ _ _ _ _ us hl => match us, hl with | [], _ => rfl
  have f58 := ok_law_v (P := P) (w := w) (base := base) a58
  exact ok_law T FL f40 f41 f43 f55 f56 f58 f63
end
end K48
set_option maxHeartbeats 0
/-! The run of the top, read by the hook; the law's end -/
namespace K48
open PySem PySem.Spec PyProof.Rows L2
abbrev RW : PySem.W.OpenRow := PySem.W.OpenLaw.row PySem.Challenge.rw_settlepages_k48_whole_walks_and_stacks_f
abbrev hK : PySem.W.Hook := He.hookD 4 hFa hFn
def hOb (s : PySem.W.SharedT) : He.AlD := He.obsDG 4 hFa hFn (HandSHeadRun.getT s)
theorem hOb_eq (s : PySem.W.SharedT) : hOb s = hK.obs s.abs := He.obsDG_eq (HandSHeadRun.getT_eq s)
def loose1 : List PySem.Str := ["SettleError", "TooMany", "InvalidRoutine", "InvalidStack", "InvalidMarks", "NeverRests", "POSTS", "SORTS", "MARKS", "BACK", "STACK", "GREATEST", "REST", "NEVER", "FOREVER", "is_whole", "fits_sorts", "fits_move", "fits_routine", "need_routine", "need_stack", "next_need", "with_ends", "told_run", "need_few", "led_posts", "least_endless", "need_rest", "told_on"]
def loose2 : List PySem.Str := ["MANY", "need_marks", "walk_rows", "walk_table", "nexts_of", "is_hit", "reached_with", "least_handing", "walk_of", "handing_stack", "_law_cup", "_law_roll", "_law_some", "_law_sorts", "_law_calm", "_law_wild", "_law_pair", "_law_table", "_law_told", "_law_led", "_law_rests", "_law_stacks", "_law_resting", "_law_r", "_law_u", "_law_v", "_law_walk", "_law_reached", "_law_handed", "_law_stack_right", "_law_right"]
def looseN : List PySem.Str := loose1 ++ loose2
theorem top_run (w : World) : HandSHeadRun.RunEq RW (PySem.W.view RW.prog [64]) hK hOb 4000 looseN w := by
  intro os
  kernel_rfl
end K48
open PySem PySem.W PySem.Calls PyProof.Rows
theorem PySem.Challenge.cw_settlepages_k48_whole_walks_and_stacks_f_holds : PySem.Challenge.rw_settlepages_k48_whole_walks_and_stacks_f.Holds := by
  w_on; o_law
  refine HandSHeadRun.head_any (r := OpenLaw.row PySem.Challenge.rw_settlepages_k48_whole_walks_and_stacks_f) (q := view (OpenLaw.row PySem.Challenge.rw_settlepages_k48_whole_walks_and_stacks_f).prog [64]) (H := K48.hK) (ob := K48.hOb) (M := 4000) (loose := K48.looseN) (d := HandSHeadRun.topDef (OpenLaw.row PySem.Challenge.rw_settlepages_k48_whole_walks_and_stacks_f).prog 64) (kwd := []) K48.hOb_eq
    (by kernel_rfl) (fun s => by kernel_rfl) K48.top_run (by kernel_rfl) (by kernel_rfl) (by kernel_rfl) (by rfl) (by first | assumption | decide +kernel) (by decide +kernel) ⟨rfl, rfl, rfl, rfl, rfl, by decide +kernel⟩ ?hw ?hc
  case hw => w_witness2
  case hc =>
    refine L2.walk_ofE (l := PySem.Challenge.rw_settlepages_k48_whole_walks_and_stacks_f) (n := 63) (k := 9) (x := "_law_script") (CX := L2.CX0) rfl (by decide) (by kernel_rfl) ⟨rfl, by decide, by decide⟩ ?F (fun _ _ _ _ z => z)
    intro w mg fa h Y G hmg0
    obtain ⟨K, KX, c⟩ := Y
    have hmg : mg ("law" : PySem.Str) = some (.ref fa) := by
      have e : (HandSHeadRun.topDef (OpenLaw.row PySem.Challenge.rw_settlepages_k48_whole_walks_and_stacks_f).prog 64).name = ("law" : PySem.Str) := by kernel_rfl
      rw [← e]
      exact hmg0
    obtain ⟨fd, hb, hF⟩ := K48.facts (P := PySem.Challenge.rw_settlepages_k48_whole_walks_and_stacks_f.prog) (w := w) KX G hmg c
    exact ⟨K, fd, K48.spLaw K, KX, hb, fun H a ns hl _ hS => ⟨a, ns, rfl, hS, Nat.le_trans hl (by decide), fun _ => rfl⟩, hF⟩
