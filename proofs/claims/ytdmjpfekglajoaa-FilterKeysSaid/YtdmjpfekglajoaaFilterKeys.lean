/- FilterKeys at this program's numbers. No condition. -/
import Derived.Test.YtdmjpfekglajoaaK8
import Derived.Test.YtdmjpfekglajoaaEnv17
import Derived.KernelRfl
namespace Go.Proofs.Ytdmjpfekglajoaa.Walk
open Go.Kc
theorem erN : ∀ s : List UInt8, s.length ≤ 1000000 → Pure Try.prog 60 [.s s] (.tup [.i .u32 (errnoM s).1, .i .i64 (errnoM s).2]) := errnoN (by kernel_rfl) (errnos_pure (f := 83) (by kernel_rfl)) (find_u32 (f := 84) (by kernel_rfl))
theorem er10 : ∀ s : List UInt8, s.length ≤ 1000000 → Pure Try.prog 61 [.s s] (.tup [.i .u32 (errnoM s).1, .i .i64 (errnoM s).2]) := errno10 (by kernel_rfl) (errnos10 (f := 86) (by kernel_rfl)) (find10 (f := 85) (by kernel_rfl))
theorem erF : cErrF Try.prog 21 := errF_filter (by kernel_rfl) erN
theorem er17 : cErrF Try.prog 22 := errF_vestibuleref17 (by kernel_rfl) er10
theorem keysO : Own Try.prog 62 [] (.map 0) [.map (keysF 114 88 89 90)] := keysF_own (by kernel_rfl) (list_pure (f := 87) (by kernel_rfl))
theorem keysP (k v : List UInt8) : Pure Try.prog 6 [.s k, .s v] (.b true) :=
  filterKeys (by kernel_rfl) erF er17 (keyF_pure (f := 23) (by kernel_rfl) keysO) (key17 (f := 24) (by kernel_rfl)) Env17.awake k v
end Go.Proofs.Ytdmjpfekglajoaa.Walk
namespace Go.Proofs.Ytdmjpfekglajoaa.filterKeys
open Go.Kc
theorem walk (s0 : ByteArray) (w0 : s0.size ≤ maxLen) (s1 : ByteArray) (w1 : s1.size ≤ maxLen) (w : World) : Calls Try.prog 6 #[.string s0, .string s1] w fun e w' => e = .returned (.bool true) ∧ ∀ may, w.keptBut w' may := by
  obtain ⟨⟨l⟩⟩ := s0
  obtain ⟨⟨m⟩⟩ := s1
  exact (Walk.keysP l m).law ⟨_, Try.func6, by first | kernel_rfl | decide, rfl⟩ w (.cons _ _ _ _ (.s _) (.cons _ _ _ _ (.s _) .nil))
end Go.Proofs.Ytdmjpfekglajoaa.filterKeys
