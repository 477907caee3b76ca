/- Plain facts of what the functions of this seat compute, part 2. -/
import Derived.Test.YtilaklhajonenaaPureHuff13
import Derived.KernelRfl
import Derived.Lib.SlicesCompact
namespace Go.Proofs.Ytilaklhajonenaa
open Go SX
theorem law_htells {F : Nat} {often l signs : List Int} {many m n : Int} {b : List Int} (hF : 20003 + signs.length ≤ F) (hs : signs.length ≤ 9223372036854775807) (hb : U8s b) (hm : I64 m) (lb : b.length ≤ 9223372036854775807) : M_L_HuffTells F often l signs many m b n = some true := by
  unfold M_L_HuffTells
  rw [lengths_eq (by omega), cost_eq (by omega), pack_eq (by omega) hs, unpack_eq (by omega) hb hm lb, rlengths_eq (by omega), rcost_eq (by omega), rpack_eq (by omega) hs, runpack_eq (by omega) hb, hbegun_eq (by omega)]
  simp only [Option.bind_some, if_true]
  have h1 := hlenM_len often
  have h2 := unpackM_len l m b n
  rw [hsame_ints (by omega) (by omega)]
  simp only [Option.bind_some, decide_true]
  unfold M_L_HuffTells_j1
  have h3 : (packM signs many).1.length ≤ 64 ∧ (packM signs many).2.2.1.length ≤ 2000 := by
    by_cases h : (packM signs many).2.2.2 = 0
    · obtain ⟨m', _, hp, _, hX, hpk⟩ := packM_ok h
      rw [hpk]
      refine ⟨by rw [oL_len]; exact hp.max, ?_⟩
      simp only
      rw [pk_len]
      omega
    · obtain ⟨e1, _, e3⟩ := packM_bad h
      rw [e1, e3]; simp
  rw [if_pos (by simp), hsame_ints (by omega) (by omega)]
  simp only [Option.bind_some, decide_true]
  unfold M_L_HuffTells_j2
  rw [if_pos (by trivial), same_self (by omega) (by omega)]
  simp only [Option.bind_some]
  unfold M_L_HuffTells_j3
  rw [if_pos (by simp), hsame_ints (by omega) (by omega)]
  simp only [Option.bind_some, decide_true]
  unfold M_L_HuffTells_j4
  simp
end Go.Proofs.Ytilaklhajonenaa
