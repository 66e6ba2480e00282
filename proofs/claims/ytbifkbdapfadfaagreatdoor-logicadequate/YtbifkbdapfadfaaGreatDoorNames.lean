/-
  Names of functions. No conditions: definitions.
-/
import Derived.Test.YtbifkbdapfadfaaGreatDoorBase
namespace Go.Lyc.T
open Go.Lyc
abbrev n_LogicAdequate : Nat := 3
abbrev n_metas : Nat := 8
abbrev n_adequate : Nat := 9
noncomputable abbrev c_adequate : AFunc := c9
abbrev n_places : Nat := 29
noncomputable abbrev c_places : AFunc := c29
abbrev n_all : Nat := 30
noncomputable abbrev c_all : AFunc := c30
abbrev n_later : Nat := 31
noncomputable abbrev c_later : AFunc := c31
abbrev n_sound : Nat := 32
noncomputable abbrev c_sound : AFunc := c32
abbrev n_places1 : Nat := 55
noncomputable abbrev c_places1 : AFunc := c55
abbrev n_hold : Nat := 56
noncomputable abbrev c_hold : AFunc := c56
abbrev n_hold1 : Nat := 80
noncomputable abbrev c_hold1 : AFunc := c80
end Go.Lyc.T
