/- The names of the parts' namespaces. -/
import Derived.Test.YtplbjaandkdhjaaDoorProg
namespace Go.Proofs.YtplbjaandkdhjaaDoor.H1
end Go.Proofs.YtplbjaandkdhjaaDoor.H1
namespace Go.Proofs.YtplbjaandkdhjaaDoor.PA
end Go.Proofs.YtplbjaandkdhjaaDoor.PA
namespace Go.Proofs.YtplbjaandkdhjaaDoor.PB
end Go.Proofs.YtplbjaandkdhjaaDoor.PB
namespace Go.Proofs.YtplbjaandkdhjaaDoor.PC
end Go.Proofs.YtplbjaandkdhjaaDoor.PC
