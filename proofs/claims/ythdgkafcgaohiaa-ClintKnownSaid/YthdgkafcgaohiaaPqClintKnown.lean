/- The chapter's examples, of a clint; a nil one. A closed statement. -/
import Derived.Test.YthdgkafcgaohiaaQx5
namespace Go.Proofs.Ythdgkafcgaohiaa.Pure
open Go.RowKit Go.Proofs.Ythdgkafcgaohiaa.Q
theorem ClintKnown : mezzaninelaw04_ClintKnown.Pure := trivial
end Go.Proofs.Ythdgkafcgaohiaa.Pure
